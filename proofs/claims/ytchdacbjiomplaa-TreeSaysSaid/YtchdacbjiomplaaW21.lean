/- Part of this claim. No condition. -/
import Derived.Test.YtchdacbjiomplaaW20b
import Derived.Test.YtchdacbjiomplaaLSays
set_option linter.unusedVariables false
set_option linter.unusedSimpArgs false
namespace Go.Proofs.Ytchdacbjiomplaa
open Go Go.Proofs.Ytchdacbjiomplaa.Fw Go.Proofs
attribute [local irreducible] RdL RdN VarP
def orangeryref_KidsOf_L1 (node1 : Int) (n1 : Nat) : List Place → (List Place) → (List Place)
  | [], out3 => out3
  | pn2 :: rn2, out3 => (bif (((pn2.parent) == node1) && ((pn2.name) == (n1 : Int))) then (orangeryref_KidsOf_L1 node1 n1 rn2 (out3 ++ [pn2])) else (orangeryref_KidsOf_L1 node1 n1 rn2 out3))
def orangeryref_KidsOf_L0 (t1 : List Place) (node1 : Int) : Nat → Nat → (List Place) → (List Place)
  | 0, n1, out1 => out1
  | fn1 + 1, n1, out1 => (orangeryref_KidsOf_L0 t1 node1 fn1 (n1 + 1) ((orangeryref_KidsOf_L1 node1 n1 t1 out1)))
def orangeryref_KidsOf (t1 : List Place) (node1 : Int) : List Place :=
  (orangeryref_KidsOf_L0 t1 node1 (100 - 0) 0 [])
theorem orangeryref_KidsOf_spec (y1 : SlV) (t1 : List Place) (node1 : Int) (hl : t1.length ≤ 15) : Does Try.prog 56 [.agg ⟨[y1.val t1.length]⟩, .int .i64 node1] [RdL EPlace y1 t1] (fun (X : SlV) => X.val (orangeryref_KidsOf t1 node1).length) (fun (X : SlV) => [RdL EPlace X (orangeryref_KidsOf t1 node1)]) := by
  refine does_of tab_ok Try.func56 rfl Try.ntmps56 Try.results56 rfl inferInstance (fun _ => inferInstance) fun C => ?_
  refine cw_pure (φ := t1.length * 24 ≤ 140737488355328) [RdL EPlace y1 t1] Sm (fun M w h => (allF1 h).len) fun hlen1 => ?_
  (repeat refine cw_seq ?_); refine cw_region ?_
  refine rw_box_agg .sq (guard_none rfl) rfl rfl rfl rfl rfl fun g1 => ?_
  refine Rp rfl rfl rfl rfl ?_
  refine rw_nil ?_
  (repeat refine cw_seq ?_); refine cw_region ?_
  refine Rp rfl rfl rfl rfl ?_
  refine rw_nil ?_
  (repeat refine cw_seq ?_); refine cw_region ?_
  refine Rp rfl rfl rfl rfl ?_
  refine rw_nil ?_
  (repeat refine cw_seq ?_); refine cw_block ?_
  (repeat refine cw_seq ?_); refine cw_loopS [1, 2, 4] [true] (fun (i_ : List Place × SlV × Option Nat × Nat) => match i_ with | ⟨out1, x1, x1b, n1⟩ => [(5, .v (x1.val out1.length)), (9, .v (.int .i64 (n1 : Int)))]) (fun (i_ : List Place × SlV × Option Nat × Nat) => match i_ with | ⟨out1, x1, x1b, n1⟩ => []) (fun (i_ : List Place × SlV × Option Nat × Nat) => match i_ with | ⟨out1, x1, x1b, n1⟩ => [ownL EPlace 35 x1 x1b out1]) (fun (i_ : List Place × SlV × Option Nat × Nat) => match i_ with | ⟨out1, x1, x1b, n1⟩ => []) (fun (i_ : List Place × SlV × Option Nat × Nat) => match i_ with | ⟨out1, x1, x1b, n1⟩ => (n1 ≤ 100) ∧ (out1.length ≤ 15 * n1) ∧ (orangeryref_KidsOf_L0 t1 node1 (100 - n1) n1 out1) = (orangeryref_KidsOf t1 node1)) (fun (i_ : List Place × SlV × Option Nat × Nat) => match i_ with | ⟨out1, x1, x1b, n1⟩ => 100 - n1) ⟨[], ⟨none, 0⟩, none, 0⟩ (.cons rfl (.cons rfl (.cons rfl (.nil _)))) (.keep (.nil)) ⟨(Nat.zero_le _), (by first | exact Nat.le_refl _ | exact Nat.zero_le _ | omega), (by simp only [orangeryref_KidsOf, cond_true, cond_false] : (orangeryref_KidsOf t1 node1) = (orangeryref_KidsOf_L0 t1 node1 (100 - 0) 0 [])).symm⟩ (Le.trans (le_nilL EPlace 35) Le4) ?_
  rintro ⟨out1, x1, x1b, n1⟩ ⟨hkn1, ho, hf1⟩
  simp only [List.cons_append, List.nil_append]
  (repeat refine cw_seq ?_); refine cw_region ?_
  refine Rp rfl rfl rfl rfl ?_
  refine rw_nil ?_
  (repeat refine cw_seq ?_); refine cw_cond (b := decide ((n1 : Int) < 100)) rfl rfl (fun hc1 => ?_) (fun hc1 => ?_)
  · skip
    have hlt0 : n1 < 100 := by have := of_decide_eq_true hc1; omega
    have hlt0_ : 100 - n1 = (100 - (n1 + 1)) + 1 := by omega
    (repeat refine cw_seq ?_); refine cw_skip ?_
    (repeat refine cw_seq ?_); refine cw_block ?_
    (repeat refine cw_seq ?_); refine cw_region ?_
    refine Rp rfl rfl rfl rfl ?_
    refine Rp rfl rfl rfl rfl ?_
    refine rw_nil ?_
    (repeat refine cw_seq ?_); refine cw_region ?_
    refine Rp rfl rfl rfl rfl ?_
    refine rw_q rfl rfl rfl (q_ld1 rfl rfl (fun _ => rfl) rfl Mm rfl) ?_
    refine Rp rfl rfl rfl rfl ?_
    refine Rp rfl rfl rfl rfl ?_
    refine rw_nil ?_
    (repeat refine cw_seq ?_)
    refine cw_joinB [1, 2, 4, 6, 9, 10, 11, 12, 13, 14] [true] (fun (i_ : List Place × SlV × Option Nat) => match i_ with | ⟨out2, x2, x2b⟩ => [(5, .v (x2.val out2.length))]) (fun (i_ : List Place × SlV × Option Nat) => match i_ with | ⟨out2, x2, x2b⟩ => []) (fun (i_ : List Place × SlV × Option Nat) => match i_ with | ⟨out2, x2, x2b⟩ => [ownL EPlace 35 x2 x2b out2]) (fun (i_ : List Place × SlV × Option Nat) => match i_ with | ⟨out2, x2, x2b⟩ => []) (fun (i_ : List Place × SlV × Option Nat) => match i_ with | ⟨out2, x2, x2b⟩ => (out2.length ≤ out1.length + t1.length) ∧ out2 = (orangeryref_KidsOf_L1 node1 n1 t1 out1)) (.cons rfl (.cons rfl (.cons rfl (.cons rfl (.cons rfl (.cons rfl (.cons rfl (.cons rfl (.cons rfl (.cons rfl (.nil _))))))))))) (.keep (.nil)) ?_ ?_
    · skip
      (repeat refine cw_seq ?_); refine cw_block ?_
      (repeat refine cw_seq ?_); refine cw_loopS [1, 2, 4, 6, 9, 10, 11, 12, 13, 14] [true] (fun (i_ : List Place × SlV × Option Nat × Nat) => match i_ with | ⟨out3, x3, x3b, n2⟩ => [(5, .v (x3.val out3.length)), (15, .v (.int .i64 (n2 : Int)))]) (fun (i_ : List Place × SlV × Option Nat × Nat) => match i_ with | ⟨out3, x3, x3b, n2⟩ => []) (fun (i_ : List Place × SlV × Option Nat × Nat) => match i_ with | ⟨out3, x3, x3b, n2⟩ => [ownL EPlace 35 x3 x3b out3]) (fun (i_ : List Place × SlV × Option Nat × Nat) => match i_ with | ⟨out3, x3, x3b, n2⟩ => []) (fun (i_ : List Place × SlV × Option Nat × Nat) => match i_ with | ⟨out3, x3, x3b, n2⟩ => (n2 ≤ t1.length) ∧ (out3.length ≤ n2 + out1.length) ∧ (orangeryref_KidsOf_L1 node1 n1 (t1.drop n2) out3) = (orangeryref_KidsOf_L1 node1 n1 t1 out1)) (fun (i_ : List Place × SlV × Option Nat × Nat) => match i_ with | ⟨out3, x3, x3b, n2⟩ => t1.length - n2) ⟨out1, x1, x1b, 0⟩ (.cons rfl (.cons rfl (.cons rfl (.cons rfl (.cons rfl (.cons rfl (.cons rfl (.cons rfl (.cons rfl (.cons rfl (.nil _))))))))))) (.keep (.nil)) ⟨Nat.zero_le _, (by first | exact Nat.le_refl _ | exact Nat.zero_le _ | omega), (rfl : (orangeryref_KidsOf_L1 node1 n1 t1 out1) = (orangeryref_KidsOf_L1 node1 n1 t1 out1)).symm⟩ Le4 ?_
      rintro ⟨out3, x3, x3b, n2⟩ ⟨hkn2, hout3, hf2⟩
      simp only [List.cons_append, List.nil_append]
      (repeat refine cw_seq ?_); refine cw_region ?_
      refine Rp rfl rfl rfl rfl ?_
      refine rw_nil ?_
      (repeat refine cw_seq ?_); refine cw_cond (b := decide ((n2 : Int) < (t1.length : Int))) rfl rfl (fun hc2 => ?_) (fun hc2 => ?_)
      · skip
        have hlt1 : n2 < t1.length := Int.ofNat_lt.1 (of_decide_eq_true hc2)
        (repeat refine cw_seq ?_); refine cw_skip ?_
        (repeat refine cw_seq ?_); refine cw_block ?_
        (repeat refine cw_seq ?_); refine cw_region ?_
        refine rw_q rfl rfl rfl (q_idx EPlace n2 rfl rfl (fun _ => rfl) rfl (fun _ => rfl) rfl rfl rfl Mm rfl (fun _ => rfl) (fun _ => by first | assumption | omega)) ?_
        refine rw_q rfl rfl rfl (q_leA EPlace rfl rfl (fun _ => rfl) rfl rfl Mm (fun _ => by first | assumption | omega)) ?_
        refine rw_alloc .sq (guard_none rfl) rfl rfl rfl rfl fun g2 => ?_
        refine rw_stA .sq (.inl ⟨_, rfl⟩) (guard_none rfl) rfl rfl rfl rfl rfl rfl rfl rfl rfl Ub rfl ?_
        refine rw_nil ?_
        (repeat refine cw_seq ?_); refine cw_region ?_
        refine Rp rfl rfl rfl rfl ?_
        refine rw_q rfl rfl rfl (q_ld1 rfl rfl (fun _ => rfl) rfl Mm rfl) ?_
        refine Rp rfl rfl rfl rfl ?_
        refine Rp rfl rfl rfl rfl ?_
        refine Rp rfl rfl rfl rfl ?_
        refine rw_qg (guard_vt rfl rfl rfl) rfl rfl (q_pev rfl Bt) ?_
        refine rw_qg (guard_vt rfl rfl rfl) rfl rfl (q_ld1 rfl rfl Bt rfl Mm rfl) ?_
        refine rw_qg (guard_vt rfl rfl rfl) rfl rfl (q_pev rfl Bt) ?_
        refine rw_qg (guard_vt rfl rfl rfl) rfl rfl (q_pev rfl Bt) ?_
        refine rw_q rfl rfl rfl (q_pev rfl Bt) ?_
        refine rw_nil ?_
        (repeat refine cw_seq ?_); refine cw_cond (b := ((((gt t1 n2).parent) == node1) && (((gt t1 n2).name) == (n1 : Int)))) rfl rfl (fun hc3 => ?_) (fun hc3 => ?_)
        · skip
          (repeat refine cw_seq ?_); refine cw_region ?_
          refine Rp rfl rfl rfl rfl ?_
          refine rw_q rfl rfl rfl (q_ldA rfl rfl (fun _ => rfl) rfl Mm rfl) ?_
          refine rw_bsliceL EPlace [(gt t1 n2)] .sq (guard_none rfl) rfl rfl rfl rfl rfl rfl rfl rfl rfl rfl rfl rfl rfl rfl rfl fun x4 x4b => ?_
          refine rw_appendL EPlace out3 [(gt t1 n2)] (b := x3b) .sq (fun _ _ => .inl ⟨_, rfl⟩) (guard_none rfl) rfl rfl rfl rfl rfl rfl rfl (fun _ _ => Uo) rfl rfl rfl rfl rfl rfl rfl (reads_ownL (e := 35) (b := x4b) Mm) (by show (out3.length + 1) * 24 ≤ 140737488355328; (try simp only [List.length_append, List.length_cons, List.length_nil]); omega) fun x5 x5b => ?_
          refine Rp rfl rfl rfl rfl ?_
          refine rw_nil ?_
          (repeat refine cw_seq ?_); refine cw_region ?_
          refine rw_q rfl rfl rfl (q_add rfl rfl (fun _ => rfl) rfl (fun _ => rfl) (fun _ => by omega)) ?_
          refine Rp rfl rfl rfl rfl ?_
          refine rw_nil ?_
          refine ⟨⟨(out3 ++ [(gt t1 n2)]), x5, x5b, (n2 + 1)⟩, ⟨hlt1, (by simp only [List.length_append, List.length_cons, List.length_nil]; omega), (by rw [← hf2, drop_gt hlt1]; simp only [orangeryref_KidsOf_L1, hc3, cond_true, cond_false] : (orangeryref_KidsOf_L1 node1 n1 t1 out1) = (orangeryref_KidsOf_L1 node1 n1 (t1.drop (n2 + 1)) (out3 ++ [(gt t1 n2)]))).symm⟩, (by simp only []; omega), Le4⟩
        · skip
          (repeat refine cw_seq ?_); refine cw_skip ?_
          (repeat refine cw_seq ?_); refine cw_region ?_
          refine rw_q rfl rfl rfl (q_add rfl rfl (fun _ => rfl) rfl (fun _ => rfl) (fun _ => by omega)) ?_
          refine Rp rfl rfl rfl rfl ?_
          refine rw_nil ?_
          refine ⟨⟨out3, x3, x3b, (n2 + 1)⟩, ⟨hlt1, (by simp only [List.length_append, List.length_cons, List.length_nil]; omega), (by rw [← hf2, drop_gt hlt1]; simp only [orangeryref_KidsOf_L1, hc3, cond_true, cond_false] : (orangeryref_KidsOf_L1 node1 n1 t1 out1) = (orangeryref_KidsOf_L1 node1 n1 (t1.drop (n2 + 1)) out3)).symm⟩, (by simp only []; omega), Le4⟩
      · skip
        have hge1 : t1.length ≤ n2 := by have := of_decide_eq_false hc2; omega
        (repeat refine cw_seq ?_); refine cw_exit ?_
        have hv1 : (orangeryref_KidsOf_L1 node1 n1 t1 out1) = out3 := by rw [← hf2, List.drop_of_length_le hge1]; simp only [orangeryref_KidsOf_L1, cond_true, cond_false]
        refine ⟨⟨out3, x3, x3b⟩, ⟨(by (try simp only []); omega), hv1.symm⟩, Le4⟩
    · skip
      rintro ⟨out2, x2, x2b⟩ ⟨hp, rfl⟩
      simp only [List.cons_append, List.nil_append]
      (repeat refine cw_seq ?_); refine cw_region ?_
      refine rw_q rfl rfl rfl (q_add rfl rfl (fun _ => rfl) rfl (fun _ => rfl) (fun _ => by omega)) ?_
      refine Rp rfl rfl rfl rfl ?_
      refine rw_nil ?_
      refine ⟨⟨((orangeryref_KidsOf_L1 node1 n1 t1 out1)), x2, x2b, (n1 + 1)⟩, ⟨hlt0, (by (try simp only []); omega), (by rw [← hf1]; (conv => lhs; rw [hlt0_]); simp only [orangeryref_KidsOf_L0, cond_true, cond_false] : (orangeryref_KidsOf t1 node1) = (orangeryref_KidsOf_L0 t1 node1 (100 - (n1 + 1)) (n1 + 1) ((orangeryref_KidsOf_L1 node1 n1 t1 out1)))).symm⟩, (by simp only []; omega), Le4⟩
  · skip
    have hge0 : 100 ≤ n1 := by have := of_decide_eq_false hc1; omega
    have hge0_ : 100 - n1 = 0 := by omega
    (repeat refine cw_seq ?_); refine cw_exit ?_
    (repeat refine cw_seq ?_); refine cw_region ?_
    refine Rp rfl rfl rfl rfl ?_
    refine Rp rfl rfl rfl rfl ?_
    refine rw_nil ?_
    (repeat refine cw_seq ?_)
    refine cw_le (le_freezeL EPlace 35 x1 x1b out1 Uo) ?_
    have hr1 : (orangeryref_KidsOf t1 node1) = out1 := by rw [← hf1, hge0_]; simp only [orangeryref_KidsOf_L0, cond_true, cond_false]
    refine cw_ret ?_
    rw [hr1]
    exact ⟨x1, _, (.cons (.tmp rfl) .nil), rfl, Sm, .nil _, .nil _⟩

theorem CheckTree_len15 {t : List Place} (h : orangeryref_CheckTree t = 0) : t.length ≤ 15 := checkT_len ((CheckTree_eq t).symm.trans h)

def orangerylaw_TreeSays_1 (n1 : Int) : Bool :=
  (decide (n1 ≥ 0) && decide (n1 ≤ 16))
theorem orangerylaw_TreeSays_1_spec (n1 : Int) : Does Try.prog 54 [.int .i64 n1] [] (fun (_ : Unit) => .bool (orangerylaw_TreeSays_1 n1)) (fun (_ : Unit) => []) := by
  refine does_of tab_ok Try.func54 rfl Try.ntmps54 Try.results54 rfl inferInstance (fun _ => inferInstance) fun C => ?_
  (repeat refine cw_seq ?_); refine cw_region ?_
  refine Rp rfl rfl rfl rfl ?_
  refine rw_nil ?_
  (repeat refine cw_seq ?_); refine cw_region ?_
  refine Rp rfl rfl rfl rfl ?_
  refine Rp rfl rfl rfl rfl ?_
  refine Rp rfl rfl rfl rfl ?_
  refine rw_qg (guard_vt rfl rfl rfl) rfl rfl (q_pev rfl Bt) ?_
  refine rw_qg (guard_vt rfl rfl rfl) rfl rfl (q_pev rfl Bt) ?_
  refine rw_q rfl rfl rfl (q_pev rfl Bt) ?_
  refine Rp rfl rfl rfl rfl ?_
  refine rw_nil ?_
  (repeat refine cw_seq ?_)
  have hr1 : (orangerylaw_TreeSays_1 n1) = (decide (n1 ≥ 0) && decide (n1 ≤ 16)) := by simp only [orangerylaw_TreeSays_1, cond_true, cond_false]
  refine cw_ret ?_
  rw [hr1]
  exact ⟨(), _, (.cons (.tmp rfl) .nil), rfl, Sm, .nil _, .nil _⟩

def orangerylaw_TreeSays (t1 : List Place) (node1 : Int) (top1 : Int) : Bool :=
  (bif (((!orangerylaw_grown) || ((tree_Check t1) != (orangeryref_CheckTree t1))) || (!(decide ((tree_Find t1 node1) = (orangeryref_FindIn t1 node1))))) then false else (bif (((orangeryref_CheckTree t1) == 0) && ((!(orangerylaw_TreeSays_1 node1)) || (!(orangerylaw_TreeSays_1 top1)))) then (bif (((orangeryref_CheckTree t1) == 0) && (!(orangerylaw_TreeSays_1 node1))) then (bif ((((5 : Int) != 0) && ((((tree_Under t1 node1 top1).2) != 5) || (tree_Under t1 node1 top1).1)) || (((5 : Int) == 0) && ((((tree_Under t1 node1 top1).2) != 0) || (!((tree_Under t1 node1 top1).1 == (orangeryref_IsUnder t1 node1 top1)))))) then false else (bif ((5 : Int) != 0) then ((((tree_Kids t1 node1).2) == 5) && ((((tree_Kids t1 node1).1).length : Int) == 0)) else (bif (((tree_Kids t1 node1).2) == 0) then ((((tree_Kids t1 node1).2) == 0) && (decide (((tree_Kids t1 node1).1) = (orangeryref_KidsOf t1 node1)))) else ((((tree_Kids t1 node1).2) == 0) && false)))) else (bif ((((5 : Int) != 0) && ((((tree_Under t1 node1 top1).2) != 5) || (tree_Under t1 node1 top1).1)) || (((5 : Int) == 0) && ((((tree_Under t1 node1 top1).2) != 0) || (!((tree_Under t1 node1 top1).1 == (orangeryref_IsUnder t1 node1 top1)))))) then false else (bif ((orangeryref_CheckTree t1) != 0) then ((((tree_Kids t1 node1).2) == (orangeryref_CheckTree t1)) && ((((tree_Kids t1 node1).1).length : Int) == 0)) else (bif (((tree_Kids t1 node1).2) == 0) then ((((tree_Kids t1 node1).2) == 0) && (decide (((tree_Kids t1 node1).1) = (orangeryref_KidsOf t1 node1)))) else ((((tree_Kids t1 node1).2) == 0) && false))))) else (bif (((orangeryref_CheckTree t1) == 0) && (!(orangerylaw_TreeSays_1 node1))) then (bif ((((orangeryref_CheckTree t1) != 0) && ((((tree_Under t1 node1 top1).2) != (orangeryref_CheckTree t1)) || (tree_Under t1 node1 top1).1)) || (((orangeryref_CheckTree t1) == 0) && ((((tree_Under t1 node1 top1).2) != 0) || (!((tree_Under t1 node1 top1).1 == (orangeryref_IsUnder t1 node1 top1)))))) then false else (bif ((5 : Int) != 0) then ((((tree_Kids t1 node1).2) == 5) && ((((tree_Kids t1 node1).1).length : Int) == 0)) else (bif (((tree_Kids t1 node1).2) == 0) then ((((tree_Kids t1 node1).2) == 0) && (decide (((tree_Kids t1 node1).1) = (orangeryref_KidsOf t1 node1)))) else ((((tree_Kids t1 node1).2) == 0) && false)))) else (bif ((((orangeryref_CheckTree t1) != 0) && ((((tree_Under t1 node1 top1).2) != (orangeryref_CheckTree t1)) || (tree_Under t1 node1 top1).1)) || (((orangeryref_CheckTree t1) == 0) && ((((tree_Under t1 node1 top1).2) != 0) || (!((tree_Under t1 node1 top1).1 == (orangeryref_IsUnder t1 node1 top1)))))) then false else (bif ((orangeryref_CheckTree t1) != 0) then ((((tree_Kids t1 node1).2) == (orangeryref_CheckTree t1)) && ((((tree_Kids t1 node1).1).length : Int) == 0)) else (bif (((tree_Kids t1 node1).2) == 0) then ((((tree_Kids t1 node1).2) == 0) && (decide (((tree_Kids t1 node1).1) = (orangeryref_KidsOf t1 node1)))) else ((((tree_Kids t1 node1).2) == 0) && false)))))))
theorem orangerylaw_TreeSays_spec (y1 : SlV) (t1 : List Place) (node1 : Int) (top1 : Int) : Does Try.prog 9 [.agg ⟨[y1.val t1.length]⟩, .int .i64 node1, .int .i64 top1] [RdL EPlace y1 t1] (fun (_ : Unit) => .bool (orangerylaw_TreeSays t1 node1 top1)) (fun (_ : Unit) => []) := by
  refine does_of tab_ok Try.func9 rfl Try.ntmps9 Try.results9 rfl inferInstance (fun _ => inferInstance) fun C => ?_
  refine cw_pure (φ := t1.length * 24 ≤ 140737488355328) [RdL EPlace y1 t1] Sm (fun M w h => (allF1 h).len) fun hlen1 => ?_
  (repeat refine cw_seq ?_); refine cw_region ?_
  refine rw_box_agg .sq (guard_none rfl) rfl rfl rfl rfl rfl fun g1 => ?_
  refine Rp rfl rfl rfl rfl ?_
  refine rw_nil ?_
  (repeat refine cw_seq ?_); refine cw_region ?_
  refine rw_q rfl rfl rfl (q_ldA rfl rfl (fun _ => rfl) rfl Mm rfl) ?_
  refine Rp rfl rfl rfl rfl ?_
  refine Rp rfl rfl rfl rfl ?_
  refine rw_call (tree_Under_spec y1 t1 node1 top1) .sq (guard_none rfl) rfl rfl rfl Kr rfl rfl Sm ?_
  intro _
  refine Rp rfl rfl rfl rfl ?_
  refine Rp rfl rfl rfl rfl ?_
  refine Rp rfl rfl rfl rfl ?_
  refine Rp rfl rfl rfl rfl ?_
  refine Rp rfl rfl rfl rfl ?_
  refine rw_nil ?_
  (repeat refine cw_seq ?_); refine cw_region ?_
  refine rw_q rfl rfl rfl (q_ldA rfl rfl (fun _ => rfl) rfl Mm rfl) ?_
  refine Rp rfl rfl rfl rfl ?_
  refine rw_call (tree_Kids_spec y1 t1 node1) .sq (guard_none rfl) rfl rfl rfl Kr rfl rfl Sm ?_
  intro x1
  refine rw_pure (φ := ((tree_Kids t1 node1).1).length * 24 ≤ 140737488355328) [RdL EPlace x1 ((tree_Kids t1 node1).1)] Sm (fun M w h => (allF1 h).len) fun hlen2 => ?_
  refine Rp rfl rfl rfl rfl ?_
  refine Rp rfl rfl rfl rfl ?_
  refine Rp rfl rfl rfl rfl ?_
  refine Rp rfl rfl rfl rfl ?_
  refine Rp rfl rfl rfl rfl ?_
  refine rw_nil ?_
  (repeat refine cw_seq ?_); refine cw_region ?_
  refine rw_q rfl rfl rfl (q_ldA rfl rfl (fun _ => rfl) rfl Mm rfl) ?_
  refine rw_call (orangeryref_CheckTree_spec y1 t1) .sq (guard_none rfl) rfl rfl rfl Kr rfl rfl Sm ?_
  intro _
  refine Rp rfl rfl rfl rfl ?_
  refine rw_nil ?_
  (repeat refine cw_seq ?_); refine cw_regionA (fun _ => some []) ?_
  refine ra_one 0 Kr ?_
  refine rw_call (orangerylaw_grown_spec ) (.an rfl rfl) (guard_none rfl) rfl rfl rfl Kr rfl rfl Sm ?_
  intro _
  refine ra_q (.ab (i := 1) (js := []) [2, 3, 4, 5, 6, 7, 8, 9, 10, 11, 12, 13, 14, 15, 16, 17] rfl Kr Kr Kr Kr Kr) (SplitB.all _) (by simp) rfl rfl rfl (q_pev rfl (fun _ => rfl)) ?_
  refine ra_q (.ab (i := 2) (js := []) [3, 4, 5, 6, 7, 8, 9, 10, 11, 12, 13, 14, 15, 16, 17] rfl Kr Kr Kr Kr Kr) (SplitB.all _) (by simp) rfl rfl rfl (q_pev rfl (fun _ => rfl)) ?_
  refine ra_qg (.ab (i := 3) (js := [5]) [4, 6, 7, 8, 9, 10, 11, 12, 13, 14, 15, 16, 17] rfl Kr Kr Kr Kr Kr) (SplitB.all _) (by simp) (guard_vf rfl rfl rfl) rfl rfl (q_ldA rfl rfl Bt rfl Mm rfl) ?_
  refine ra_qg (.ab (i := 5) (js := [4]) [6, 7, 8, 9, 10, 11, 12, 13, 14, 15, 16, 17] rfl Kr Kr Kr Kr Kr) (SplitB.all _) (by simp) (guard_vf rfl rfl rfl) rfl rfl (q_pev rfl Bt) ?_
  refine ra_one 4 Kr ?_
  refine rw_callg (fun hG_ => tree_Check_spec y1 t1) (fun _ => rfl) (.an rfl rfl) (guard_vf rfl rfl rfl) rfl rfl rfl Kr rfl Bt Sm ?_
  refine ra_qg (.ab (i := 6) (js := []) [7, 8, 9, 10, 11, 12, 13, 14, 15, 16, 17] rfl Kr Kr Kr Kr Kr) (SplitB.all _) (by simp) (guard_vf rfl rfl rfl) rfl rfl (q_pev rfl Bt) ?_
  refine ra_q (.ab (i := 7) (js := []) [8, 9, 10, 11, 12, 13, 14, 15, 16, 17] rfl Kr Kr Kr Kr Kr) (SplitB.all _) (by simp) rfl rfl rfl (q_pev rfl Bt) ?_
  refine ra_q (.an (i := 8) (js := []) rfl Kr Kr Kr Kr) (SplitB.all _) (by simp) rfl rfl rfl (q_pev rfl (fun _ => rfl)) ?_
  refine ra_qg (.ab (i := 9) (js := [10, 12, 13, 14]) [11, 15, 16, 17] rfl Kr Kr Kr Kr Kr) (SplitB.all _) (by simp) (guard_vf rfl rfl rfl) rfl rfl (q_ldA rfl rfl Bt rfl Mm rfl) ?_
  refine ra_qg (.ab (i := 10) (js := [12, 13, 14]) [11, 15, 16, 17] rfl Kr Kr Kr Kr Kr) (SplitB.all _) (by simp) (guard_vf rfl rfl rfl) rfl rfl (q_pev rfl Bt) ?_
  refine ra_qg (.ab (i := 12) (js := [11, 14]) [13, 15, 16, 17] rfl Kr Kr Kr Kr Kr) (SplitB.all _) (by simp) (guard_vf rfl rfl rfl) rfl rfl (q_pev rfl Bt) ?_
  refine ra_qg (.ab (i := 13) (js := [11, 14]) [15, 16, 17] rfl Kr Kr Kr Kr Kr) (SplitB.all _) (by simp) (guard_vf rfl rfl rfl) rfl rfl (q_ld1 rfl rfl Bt rfl Mm rfl) ?_
  refine ra_qg (.ab (i := 14) (js := [11]) [15, 16, 17] rfl Kr Kr Kr Kr Kr) (SplitB.all _) (by simp) (guard_vf rfl rfl rfl) rfl rfl (q_pev rfl Bt) ?_
  refine ra_one 11 Kr ?_
  refine rw_callg (fun hG_ => tree_Find_spec y1 t1 node1) (fun _ => rfl) (.an rfl rfl) (guard_vf rfl rfl rfl) rfl rfl rfl Kr rfl Bt Sm ?_
  refine ra_one 15 Kr ?_
  refine rw_callg (fun hG_ => orangeryref_FindIn_spec y1 t1 node1) (fun _ => rfl) (.an rfl rfl) (guard_vf rfl rfl rfl) rfl rfl rfl Kr rfl Bt Sm ?_
  refine ra_qg (.an (i := 16) (js := []) rfl Kr Kr Kr Kr) (SplitB.all _) (by simp) (guard_vf rfl rfl rfl) rfl rfl (q_neE eqT_Place (flatEq_Place (tree_Find t1 node1) (orangeryref_FindIn t1 node1)) rfl rfl Bt rfl Bt rfl rfl) ?_
  refine ra_q (.an (i := 17) (js := []) rfl Kr Kr Kr Kr) (SplitB.all _) (by simp) rfl rfl rfl (q_pev rfl Bt) ?_
  refine ra_nil Kr ?_
  (repeat refine cw_seq ?_); refine cw_cond (b := (((!orangerylaw_grown) || ((tree_Check t1) != (orangeryref_CheckTree t1))) || (!(decide ((tree_Find t1 node1) = (orangeryref_FindIn t1 node1)))))) rfl rfl (fun hc1 => ?_) (fun hc1 => ?_)
  · skip
    (repeat refine cw_seq ?_); refine cw_region ?_
    refine Rp rfl rfl rfl rfl ?_
    refine rw_nil ?_
    (repeat refine cw_seq ?_)
    have hr1 : (orangerylaw_TreeSays t1 node1 top1) = false := by rw [orangerylaw_TreeSays]; (try simp only [hc1, cond_true, cond_false])
    refine cw_ret ?_
    rw [hr1]
    exact ⟨(), _, (.cons (.tmp rfl) .nil), rfl, Sm, .nil _, .nil _⟩
  · skip
    (repeat refine cw_seq ?_); refine cw_skip ?_
    (repeat refine cw_seq ?_); refine cw_region ?_
    refine Rp rfl rfl rfl rfl ?_
    refine rw_nil ?_
    (repeat refine cw_seq ?_); refine cw_region ?_
    refine Rp rfl rfl rfl rfl ?_
    refine Rp rfl rfl rfl rfl ?_
    refine rw_nil ?_
    (repeat refine cw_seq ?_); refine cw_region ?_
    refine Rp rfl rfl rfl rfl ?_
    refine Rp rfl rfl rfl rfl ?_
    refine Rp rfl rfl rfl rfl ?_
    refine rw_qg (guard_vt rfl rfl rfl) rfl rfl (q_pev rfl Bt) ?_
    refine rw_qg (guard_vt rfl rfl rfl) rfl rfl (q_pev rfl Bt) ?_
    refine rw_callgv (fun hG_ => orangerylaw_TreeSays_1_spec node1) (fun _ => rfl) .sq (guard_vt rfl rfl rfl) rfl rfl rfl rfl Bt Kr rfl Bt rfl Sm ?_
    refine rw_qg (guard_vt rfl rfl rfl) rfl rfl (q_pev rfl Bt) ?_
    refine rw_qg (guard_vt rfl rfl rfl) rfl rfl (q_pev rfl Bt) ?_
    refine rw_qg (guard_of rfl rfl rfl) rfl rfl (q_pev rfl Bt) ?_
    refine rw_qg (guard_of rfl rfl rfl) rfl rfl (q_pev rfl Bt) ?_
    refine rw_callgv (fun hG_ => orangerylaw_TreeSays_1_spec top1) (fun _ => rfl) .sq (guard_of rfl rfl rfl) rfl rfl rfl rfl Bt Kr rfl Bt rfl Sm ?_
    refine rw_qg (guard_of rfl rfl rfl) rfl rfl (q_pev rfl Bt) ?_
    refine rw_qg (guard_vt rfl rfl rfl) rfl rfl (q_pev rfl Bt) ?_
    refine rw_q rfl rfl rfl (q_pev rfl Bt) ?_
    refine rw_nil ?_
    (repeat refine cw_seq ?_); refine cw_cond (b := (((orangeryref_CheckTree t1) == 0) && ((!(orangerylaw_TreeSays_1 node1)) || (!(orangerylaw_TreeSays_1 top1))))) rfl rfl (fun hc2 => ?_) (fun hc2 => ?_)
    · skip
      (repeat refine cw_seq ?_); refine cw_region ?_
      refine Rp rfl rfl rfl rfl ?_
      refine rw_nil ?_
      (repeat refine cw_seq ?_); refine cw_region ?_
      refine Rp rfl rfl rfl rfl ?_
      refine Rp rfl rfl rfl rfl ?_
      refine Rp rfl rfl rfl rfl ?_
      refine rw_qg (guard_vt rfl rfl rfl) rfl rfl (q_pev rfl Bt) ?_
      refine rw_qg (guard_vt rfl rfl rfl) rfl rfl (q_pev rfl Bt) ?_
      refine rw_callgv (fun hG_ => orangerylaw_TreeSays_1_spec node1) (fun _ => rfl) .sq (guard_vt rfl rfl rfl) rfl rfl rfl rfl Bt Kr rfl Bt rfl Sm ?_
      refine rw_qg (guard_vt rfl rfl rfl) rfl rfl (q_pev rfl Bt) ?_
      refine rw_q rfl rfl rfl (q_pev rfl Bt) ?_
      refine rw_nil ?_
      (repeat refine cw_seq ?_); refine cw_cond (b := (((orangeryref_CheckTree t1) == 0) && (!(orangerylaw_TreeSays_1 node1)))) rfl rfl (fun hc3 => ?_) (fun hc3 => ?_)
      · skip
        (repeat refine cw_seq ?_); refine cw_region ?_
        refine Rp rfl rfl rfl rfl ?_
        refine rw_nil ?_
        (repeat refine cw_seq ?_); refine cw_region ?_
        refine Rp rfl rfl rfl rfl ?_
        refine Rp rfl rfl rfl rfl ?_
        refine Rp rfl rfl rfl rfl ?_
        refine rw_qg (guard_vt rfl rfl rfl) rfl rfl (q_pev rfl Bt) ?_
        refine rw_qg (guard_vt rfl rfl rfl) rfl rfl (q_pev rfl Bt) ?_
        refine rw_qg (guard_vt rfl rfl rfl) rfl rfl (q_pev rfl Bt) ?_
        refine rw_qg (guard_vt rfl rfl rfl) rfl rfl (q_pev rfl Bt) ?_
        refine rw_qg (guard_of rfl rfl rfl) rfl rfl (q_pev rfl Bt) ?_
        refine rw_qg (guard_vt rfl rfl rfl) rfl rfl (q_pev rfl Bt) ?_
        refine rw_q rfl rfl rfl (q_pev rfl Bt) ?_
        refine Rp rfl rfl rfl rfl ?_
        refine rw_qg (guard_vf rfl rfl rfl) rfl rfl (q_pev rfl Bt) ?_
        refine rw_qg (guard_vf rfl rfl rfl) rfl rfl (q_pev rfl Bt) ?_
        refine rw_qg (guard_vf rfl rfl rfl) rfl rfl (q_pev rfl Bt) ?_
        refine rw_qg (guard_ot rfl rfl rfl) rfl rfl (q_pev rfl Bt) ?_
        refine rw_qg (guard_ot rfl rfl rfl) rfl rfl (q_pev rfl Bt) ?_
        refine rw_qg (guard_ot rfl rfl rfl) rfl rfl (q_pev rfl Bt) ?_
        refine rw_qg (guard_of rfl rfl rfl) rfl rfl (q_pev rfl Bt) ?_
        refine rw_qg (guard_of rfl rfl rfl) rfl rfl (q_pev rfl Bt) ?_
        refine rw_qg (guard_of rfl rfl rfl) rfl rfl (q_ld1 rfl rfl Bt rfl Mm rfl) ?_
        refine rw_qg (guard_of rfl rfl rfl) rfl rfl (q_pev rfl Bt) ?_
        refine rw_qg (guard_of rfl rfl rfl) rfl rfl (q_pev rfl Bt) ?_
        refine rw_callg (fun hG_ => orangeryref_IsUnder_spec y1 t1 node1 top1 (CheckTree_par (by rw [Bool.and_eq_true, Bool.and_eq_true] at hG_; first | exact eq_of_beq hG_.1.2 | exact absurd (eq_of_beq hG_.1.2) (by decide)))) (fun _ => rfl) .sq (guard_of rfl rfl rfl) rfl rfl rfl Kr rfl Bt Sm ?_
        refine rw_qg (guard_of rfl rfl rfl) rfl rfl (q_neb und_4 rfl rfl Bt rfl Bt) ?_
        refine rw_qg (guard_ot rfl rfl rfl) rfl rfl (q_pev rfl Bt) ?_
        refine rw_qg (guard_vf rfl rfl rfl) rfl rfl (q_pev rfl Bt) ?_
        refine rw_q rfl rfl rfl (q_pev rfl Bt) ?_
        refine rw_nil ?_
        (repeat refine cw_seq ?_); refine cw_cond (b := ((((5 : Int) != 0) && ((((tree_Under t1 node1 top1).2) != 5) || (tree_Under t1 node1 top1).1)) || (((5 : Int) == 0) && ((((tree_Under t1 node1 top1).2) != 0) || (!((tree_Under t1 node1 top1).1 == (orangeryref_IsUnder t1 node1 top1))))))) rfl rfl (fun hc4 => ?_) (fun hc4 => ?_)
        · skip
          (repeat refine cw_seq ?_); refine cw_region ?_
          refine Rp rfl rfl rfl rfl ?_
          refine rw_nil ?_
          (repeat refine cw_seq ?_)
          have hr2 : (orangerylaw_TreeSays t1 node1 top1) = false := by rw [orangerylaw_TreeSays]; (try simp only [hc1, cond_true, cond_false]); (try simp only [hc2, cond_true, cond_false]); (try simp only [hc3, cond_true, cond_false]); (try simp only [hc4, cond_true, cond_false])
          refine cw_ret ?_
          rw [hr2]
          exact ⟨(), _, (.cons (.tmp rfl) .nil), rfl, Sm, .nil _, .nil _⟩
        · skip
          (repeat refine cw_seq ?_); refine cw_skip ?_
          (repeat refine cw_seq ?_); refine cw_region ?_
          refine Rp rfl rfl rfl rfl ?_
          refine Rp rfl rfl rfl rfl ?_
          refine rw_nil ?_
          (repeat refine cw_seq ?_); refine cw_cond (b := ((5 : Int) != 0)) rfl rfl (fun hc5 => ?_) (fun hc5 => ?_)
          · skip
            have hc5p := bne_iff_ne.1 hc5
            (repeat refine cw_seq ?_); refine cw_region ?_
            refine Rp rfl rfl rfl rfl ?_
            refine Rp rfl rfl rfl rfl ?_
            refine Rp rfl rfl rfl rfl ?_
            refine Rp rfl rfl rfl rfl ?_
            refine rw_qg (guard_vt rfl rfl rfl) rfl rfl (q_pev rfl Bt) ?_
            refine rw_qg (guard_vt rfl rfl rfl) rfl rfl (q_pev rfl Bt) ?_
            refine rw_qg (guard_vt rfl rfl rfl) rfl rfl (q_pev rfl Bt) ?_
            refine rw_q rfl rfl rfl (q_pev rfl Bt) ?_
            refine Rp rfl rfl rfl rfl ?_
            refine rw_nil ?_
            (repeat refine cw_seq ?_)
            have hr3 : (orangerylaw_TreeSays t1 node1 top1) = ((((tree_Kids t1 node1).2) == 5) && ((((tree_Kids t1 node1).1).length : Int) == 0)) := by rw [orangerylaw_TreeSays]; (try simp only [hc1, cond_true, cond_false]); (try simp only [hc2, cond_true, cond_false]); (try simp only [hc3, cond_true, cond_false]); (try simp only [hc4, cond_true, cond_false]); (try simp only [hc5, cond_true, cond_false])
            refine cw_ret ?_
            rw [hr3]
            exact ⟨(), _, (.cons (.tmp rfl) .nil), rfl, Sm, .nil _, .nil _⟩
          · skip
            have hc5p := eq_of_bne_false hc5
            (repeat refine cw_seq ?_); refine cw_skip ?_
            (repeat refine cw_seq ?_); refine cw_region ?_
            refine Rp rfl rfl rfl rfl ?_
            refine Rp rfl rfl rfl rfl ?_
            refine Rp rfl rfl rfl rfl ?_
            refine rw_qg (guard_vt rfl rfl rfl) rfl rfl (q_pev rfl Bt) ?_
            refine rw_qg (guard_vt rfl rfl rfl) rfl rfl (q_ldA rfl rfl Bt rfl Mm rfl) ?_
            refine rw_qg (guard_vt rfl rfl rfl) rfl rfl (q_pev rfl Bt) ?_
            refine rw_split .sq (guard_vt rfl rfl rfl) (fun hg1 => ?_) (fun hg1 => ?_)
            · skip
              refine rw_call (orangeryref_KidsOf_spec y1 t1 node1 (by first | exact CheckTree_len15 (eq_of_bne_false (by assumption)) | omega)) .sq (guard_is (guard_vt rfl rfl rfl) hg1) rfl rfl rfl Kr rfl (by first | rfl | assumption | (simp only [hc1, hc2, hc3, hc4, hc5, hg1, Bool.and_true, Bool.true_and, Bool.and_self, Bool.not_false, Bool.not_true]; done) | simp_all) Sm ?_
              intro x2
              refine rw_pure (φ := (orangeryref_KidsOf t1 node1).length * 24 ≤ 140737488355328) [RdL EPlace x2 (orangeryref_KidsOf t1 node1)] Sm (fun M w h => (allF1 h).len) fun hlen3 => ?_
              refine rw_call ((fun y1 a y2 b => slices_Equal_Place_spec' y1 y2 a b) x1 ((tree_Kids t1 node1).1) x2 (orangeryref_KidsOf t1 node1)) .sq (guard_is (guard_vt rfl rfl rfl) hg1) rfl rfl rfl Kr rfl (by first | rfl | assumption | (simp only [hc1, hc2, hc3, hc4, hc5, hg1, Bool.and_true, Bool.true_and, Bool.and_self, Bool.not_false, Bool.not_true]; done) | simp_all) Sm ?_
              intro _
              refine rw_q rfl rfl rfl (q_pev rfl Bt) ?_
              refine Rp rfl rfl rfl rfl ?_
              refine rw_nil ?_
              (repeat refine cw_seq ?_)
              have hr4 : (orangerylaw_TreeSays t1 node1 top1) = ((((tree_Kids t1 node1).2) == 0) && (decide (((tree_Kids t1 node1).1) = (orangeryref_KidsOf t1 node1)))) := by rw [orangerylaw_TreeSays]; (try simp only [hc1, cond_true, cond_false]); (try simp only [hc2, cond_true, cond_false]); (try simp only [hc3, cond_true, cond_false]); (try simp only [hc4, cond_true, cond_false]); (try simp only [hc5, cond_true, cond_false]); (try simp only [hg1, cond_true, cond_false])
              refine cw_ret ?_
              rw [hr4]
              exact ⟨(), _, (.cons (.tmp rfl) .nil), rfl, Sm, .nil _, .nil _⟩
            · skip
              refine rw_dead .sq (guard_vt rfl rfl rfl) hg1 rfl rfl ?_
              refine rw_dead .sq (guard_vt rfl rfl rfl) hg1 rfl rfl ?_
              refine rw_q rfl rfl rfl (q_pev rfl Bt) ?_
              refine Rp rfl rfl rfl rfl ?_
              refine rw_nil ?_
              (repeat refine cw_seq ?_)
              have hr5 : (orangerylaw_TreeSays t1 node1 top1) = ((((tree_Kids t1 node1).2) == 0) && false) := by rw [orangerylaw_TreeSays]; (try simp only [hc1, cond_true, cond_false]); (try simp only [hc2, cond_true, cond_false]); (try simp only [hc3, cond_true, cond_false]); (try simp only [hc4, cond_true, cond_false]); (try simp only [hc5, cond_true, cond_false]); (try simp only [hg1, cond_true, cond_false])
              refine cw_ret ?_
              rw [hr5]
              exact ⟨(), _, (.cons (.tmp rfl) .nil), rfl, Sm, .nil _, .nil _⟩
      · skip
        (repeat refine cw_seq ?_); refine cw_skip ?_
        (repeat refine cw_seq ?_); refine cw_region ?_
        refine Rp rfl rfl rfl rfl ?_
        refine Rp rfl rfl rfl rfl ?_
        refine Rp rfl rfl rfl rfl ?_
        refine rw_qg (guard_vt rfl rfl rfl) rfl rfl (q_pev rfl Bt) ?_
        refine rw_qg (guard_vt rfl rfl rfl) rfl rfl (q_pev rfl Bt) ?_
        refine rw_qg (guard_vt rfl rfl rfl) rfl rfl (q_pev rfl Bt) ?_
        refine rw_qg (guard_vt rfl rfl rfl) rfl rfl (q_pev rfl Bt) ?_
        refine rw_qg (guard_of rfl rfl rfl) rfl rfl (q_pev rfl Bt) ?_
        refine rw_qg (guard_vt rfl rfl rfl) rfl rfl (q_pev rfl Bt) ?_
        refine rw_q rfl rfl rfl (q_pev rfl Bt) ?_
        refine Rp rfl rfl rfl rfl ?_
        refine rw_qg (guard_vf rfl rfl rfl) rfl rfl (q_pev rfl Bt) ?_
        refine rw_qg (guard_vf rfl rfl rfl) rfl rfl (q_pev rfl Bt) ?_
        refine rw_qg (guard_vf rfl rfl rfl) rfl rfl (q_pev rfl Bt) ?_
        refine rw_qg (guard_ot rfl rfl rfl) rfl rfl (q_pev rfl Bt) ?_
        refine rw_qg (guard_ot rfl rfl rfl) rfl rfl (q_pev rfl Bt) ?_
        refine rw_qg (guard_ot rfl rfl rfl) rfl rfl (q_pev rfl Bt) ?_
        refine rw_qg (guard_of rfl rfl rfl) rfl rfl (q_pev rfl Bt) ?_
        refine rw_qg (guard_of rfl rfl rfl) rfl rfl (q_pev rfl Bt) ?_
        refine rw_qg (guard_of rfl rfl rfl) rfl rfl (q_ld1 rfl rfl Bt rfl Mm rfl) ?_
        refine rw_qg (guard_of rfl rfl rfl) rfl rfl (q_pev rfl Bt) ?_
        refine rw_qg (guard_of rfl rfl rfl) rfl rfl (q_pev rfl Bt) ?_
        refine rw_callg (fun hG_ => orangeryref_IsUnder_spec y1 t1 node1 top1 (CheckTree_par (by rw [Bool.and_eq_true, Bool.and_eq_true] at hG_; first | exact eq_of_beq hG_.1.2 | exact absurd (eq_of_beq hG_.1.2) (by decide)))) (fun _ => rfl) .sq (guard_of rfl rfl rfl) rfl rfl rfl Kr rfl Bt Sm ?_
        refine rw_qg (guard_of rfl rfl rfl) rfl rfl (q_neb und_4 rfl rfl Bt rfl Bt) ?_
        refine rw_qg (guard_ot rfl rfl rfl) rfl rfl (q_pev rfl Bt) ?_
        refine rw_qg (guard_vf rfl rfl rfl) rfl rfl (q_pev rfl Bt) ?_
        refine rw_q rfl rfl rfl (q_pev rfl Bt) ?_
        refine rw_nil ?_
        (repeat refine cw_seq ?_); refine cw_cond (b := ((((5 : Int) != 0) && ((((tree_Under t1 node1 top1).2) != 5) || (tree_Under t1 node1 top1).1)) || (((5 : Int) == 0) && ((((tree_Under t1 node1 top1).2) != 0) || (!((tree_Under t1 node1 top1).1 == (orangeryref_IsUnder t1 node1 top1))))))) rfl rfl (fun hc6 => ?_) (fun hc6 => ?_)
        · skip
          (repeat refine cw_seq ?_); refine cw_region ?_
          refine Rp rfl rfl rfl rfl ?_
          refine rw_nil ?_
          (repeat refine cw_seq ?_)
          have hr6 : (orangerylaw_TreeSays t1 node1 top1) = false := by rw [orangerylaw_TreeSays]; (try simp only [hc1, cond_true, cond_false]); (try simp only [hc2, cond_true, cond_false]); (try simp only [hc3, cond_true, cond_false]); (try simp only [hc6, cond_true, cond_false])
          refine cw_ret ?_
          rw [hr6]
          exact ⟨(), _, (.cons (.tmp rfl) .nil), rfl, Sm, .nil _, .nil _⟩
        · skip
          (repeat refine cw_seq ?_); refine cw_skip ?_
          (repeat refine cw_seq ?_); refine cw_region ?_
          refine Rp rfl rfl rfl rfl ?_
          refine Rp rfl rfl rfl rfl ?_
          refine rw_nil ?_
          (repeat refine cw_seq ?_); refine cw_cond (b := ((orangeryref_CheckTree t1) != 0)) rfl rfl (fun hc7 => ?_) (fun hc7 => ?_)
          · skip
            have hc7p := bne_iff_ne.1 hc7
            (repeat refine cw_seq ?_); refine cw_region ?_
            refine Rp rfl rfl rfl rfl ?_
            refine Rp rfl rfl rfl rfl ?_
            refine Rp rfl rfl rfl rfl ?_
            refine Rp rfl rfl rfl rfl ?_
            refine rw_qg (guard_vt rfl rfl rfl) rfl rfl (q_pev rfl Bt) ?_
            refine rw_qg (guard_vt rfl rfl rfl) rfl rfl (q_pev rfl Bt) ?_
            refine rw_qg (guard_vt rfl rfl rfl) rfl rfl (q_pev rfl Bt) ?_
            refine rw_q rfl rfl rfl (q_pev rfl Bt) ?_
            refine Rp rfl rfl rfl rfl ?_
            refine rw_nil ?_
            (repeat refine cw_seq ?_)
            have hr7 : (orangerylaw_TreeSays t1 node1 top1) = ((((tree_Kids t1 node1).2) == (orangeryref_CheckTree t1)) && ((((tree_Kids t1 node1).1).length : Int) == 0)) := by rw [orangerylaw_TreeSays]; (try simp only [hc1, cond_true, cond_false]); (try simp only [hc2, cond_true, cond_false]); (try simp only [hc3, cond_true, cond_false]); (try simp only [hc6, cond_true, cond_false]); (try simp only [hc7, cond_true, cond_false])
            refine cw_ret ?_
            rw [hr7]
            exact ⟨(), _, (.cons (.tmp rfl) .nil), rfl, Sm, .nil _, .nil _⟩
          · skip
            have hc7p := eq_of_bne_false hc7
            (repeat refine cw_seq ?_); refine cw_skip ?_
            (repeat refine cw_seq ?_); refine cw_region ?_
            refine Rp rfl rfl rfl rfl ?_
            refine Rp rfl rfl rfl rfl ?_
            refine Rp rfl rfl rfl rfl ?_
            refine rw_qg (guard_vt rfl rfl rfl) rfl rfl (q_pev rfl Bt) ?_
            refine rw_qg (guard_vt rfl rfl rfl) rfl rfl (q_ldA rfl rfl Bt rfl Mm rfl) ?_
            refine rw_qg (guard_vt rfl rfl rfl) rfl rfl (q_pev rfl Bt) ?_
            refine rw_split .sq (guard_vt rfl rfl rfl) (fun hg2 => ?_) (fun hg2 => ?_)
            · skip
              refine rw_call (orangeryref_KidsOf_spec y1 t1 node1 (by first | exact CheckTree_len15 (eq_of_bne_false (by assumption)) | omega)) .sq (guard_is (guard_vt rfl rfl rfl) hg2) rfl rfl rfl Kr rfl (by first | rfl | assumption | (simp only [hc1, hc2, hc3, hc6, hc7, hg2, Bool.and_true, Bool.true_and, Bool.and_self, Bool.not_false, Bool.not_true]; done) | simp_all) Sm ?_
              intro x3
              refine rw_pure (φ := (orangeryref_KidsOf t1 node1).length * 24 ≤ 140737488355328) [RdL EPlace x3 (orangeryref_KidsOf t1 node1)] Sm (fun M w h => (allF1 h).len) fun hlen4 => ?_
              refine rw_call ((fun y1 a y2 b => slices_Equal_Place_spec' y1 y2 a b) x1 ((tree_Kids t1 node1).1) x3 (orangeryref_KidsOf t1 node1)) .sq (guard_is (guard_vt rfl rfl rfl) hg2) rfl rfl rfl Kr rfl (by first | rfl | assumption | (simp only [hc1, hc2, hc3, hc6, hc7, hg2, Bool.and_true, Bool.true_and, Bool.and_self, Bool.not_false, Bool.not_true]; done) | simp_all) Sm ?_
              intro _
              refine rw_q rfl rfl rfl (q_pev rfl Bt) ?_
              refine Rp rfl rfl rfl rfl ?_
              refine rw_nil ?_
              (repeat refine cw_seq ?_)
              have hr8 : (orangerylaw_TreeSays t1 node1 top1) = ((((tree_Kids t1 node1).2) == 0) && (decide (((tree_Kids t1 node1).1) = (orangeryref_KidsOf t1 node1)))) := by rw [orangerylaw_TreeSays]; (try simp only [hc1, cond_true, cond_false]); (try simp only [hc2, cond_true, cond_false]); (try simp only [hc3, cond_true, cond_false]); (try simp only [hc6, cond_true, cond_false]); (try simp only [hc7, cond_true, cond_false]); (try simp only [hg2, cond_true, cond_false])
              refine cw_ret ?_
              rw [hr8]
              exact ⟨(), _, (.cons (.tmp rfl) .nil), rfl, Sm, .nil _, .nil _⟩
            · skip
              refine rw_dead .sq (guard_vt rfl rfl rfl) hg2 rfl rfl ?_
              refine rw_dead .sq (guard_vt rfl rfl rfl) hg2 rfl rfl ?_
              refine rw_q rfl rfl rfl (q_pev rfl Bt) ?_
              refine Rp rfl rfl rfl rfl ?_
              refine rw_nil ?_
              (repeat refine cw_seq ?_)
              have hr9 : (orangerylaw_TreeSays t1 node1 top1) = ((((tree_Kids t1 node1).2) == 0) && false) := by rw [orangerylaw_TreeSays]; (try simp only [hc1, cond_true, cond_false]); (try simp only [hc2, cond_true, cond_false]); (try simp only [hc3, cond_true, cond_false]); (try simp only [hc6, cond_true, cond_false]); (try simp only [hc7, cond_true, cond_false]); (try simp only [hg2, cond_true, cond_false])
              refine cw_ret ?_
              rw [hr9]
              exact ⟨(), _, (.cons (.tmp rfl) .nil), rfl, Sm, .nil _, .nil _⟩
    · skip
      (repeat refine cw_seq ?_); refine cw_skip ?_
      (repeat refine cw_seq ?_); refine cw_region ?_
      refine Rp rfl rfl rfl rfl ?_
      refine Rp rfl rfl rfl rfl ?_
      refine Rp rfl rfl rfl rfl ?_
      refine rw_qg (guard_vt rfl rfl rfl) rfl rfl (q_pev rfl Bt) ?_
      refine rw_qg (guard_vt rfl rfl rfl) rfl rfl (q_pev rfl Bt) ?_
      refine rw_callgv (fun hG_ => orangerylaw_TreeSays_1_spec node1) (fun _ => rfl) .sq (guard_vt rfl rfl rfl) rfl rfl rfl rfl Bt Kr rfl Bt rfl Sm ?_
      refine rw_qg (guard_vt rfl rfl rfl) rfl rfl (q_pev rfl Bt) ?_
      refine rw_q rfl rfl rfl (q_pev rfl Bt) ?_
      refine rw_nil ?_
      (repeat refine cw_seq ?_); refine cw_cond (b := (((orangeryref_CheckTree t1) == 0) && (!(orangerylaw_TreeSays_1 node1)))) rfl rfl (fun hc8 => ?_) (fun hc8 => ?_)
      · skip
        (repeat refine cw_seq ?_); refine cw_region ?_
        refine Rp rfl rfl rfl rfl ?_
        refine rw_nil ?_
        (repeat refine cw_seq ?_); refine cw_region ?_
        refine Rp rfl rfl rfl rfl ?_
        refine Rp rfl rfl rfl rfl ?_
        refine Rp rfl rfl rfl rfl ?_
        refine rw_qg (guard_vt rfl rfl rfl) rfl rfl (q_pev rfl Bt) ?_
        refine rw_qg (guard_vt rfl rfl rfl) rfl rfl (q_pev rfl Bt) ?_
        refine rw_qg (guard_vt rfl rfl rfl) rfl rfl (q_pev rfl Bt) ?_
        refine rw_qg (guard_vt rfl rfl rfl) rfl rfl (q_pev rfl Bt) ?_
        refine rw_qg (guard_of rfl rfl rfl) rfl rfl (q_pev rfl Bt) ?_
        refine rw_qg (guard_vt rfl rfl rfl) rfl rfl (q_pev rfl Bt) ?_
        refine rw_q rfl rfl rfl (q_pev rfl Bt) ?_
        refine Rp rfl rfl rfl rfl ?_
        refine rw_qg (guard_vf rfl rfl rfl) rfl rfl (q_pev rfl Bt) ?_
        refine rw_qg (guard_vf rfl rfl rfl) rfl rfl (q_pev rfl Bt) ?_
        refine rw_qg (guard_vf rfl rfl rfl) rfl rfl (q_pev rfl Bt) ?_
        refine rw_qg (guard_ot rfl rfl rfl) rfl rfl (q_pev rfl Bt) ?_
        refine rw_qg (guard_ot rfl rfl rfl) rfl rfl (q_pev rfl Bt) ?_
        refine rw_qg (guard_ot rfl rfl rfl) rfl rfl (q_pev rfl Bt) ?_
        refine rw_qg (guard_of rfl rfl rfl) rfl rfl (q_pev rfl Bt) ?_
        refine rw_qg (guard_of rfl rfl rfl) rfl rfl (q_pev rfl Bt) ?_
        refine rw_qg (guard_of rfl rfl rfl) rfl rfl (q_ld1 rfl rfl Bt rfl Mm rfl) ?_
        refine rw_qg (guard_of rfl rfl rfl) rfl rfl (q_pev rfl Bt) ?_
        refine rw_qg (guard_of rfl rfl rfl) rfl rfl (q_pev rfl Bt) ?_
        refine rw_callg (fun hG_ => orangeryref_IsUnder_spec y1 t1 node1 top1 (CheckTree_par (by rw [Bool.and_eq_true, Bool.and_eq_true] at hG_; first | exact eq_of_beq hG_.1.2 | exact absurd (eq_of_beq hG_.1.2) (by decide)))) (fun _ => rfl) .sq (guard_of rfl rfl rfl) rfl rfl rfl Kr rfl Bt Sm ?_
        refine rw_qg (guard_of rfl rfl rfl) rfl rfl (q_neb und_4 rfl rfl Bt rfl Bt) ?_
        refine rw_qg (guard_ot rfl rfl rfl) rfl rfl (q_pev rfl Bt) ?_
        refine rw_qg (guard_vf rfl rfl rfl) rfl rfl (q_pev rfl Bt) ?_
        refine rw_q rfl rfl rfl (q_pev rfl Bt) ?_
        refine rw_nil ?_
        (repeat refine cw_seq ?_); refine cw_cond (b := ((((orangeryref_CheckTree t1) != 0) && ((((tree_Under t1 node1 top1).2) != (orangeryref_CheckTree t1)) || (tree_Under t1 node1 top1).1)) || (((orangeryref_CheckTree t1) == 0) && ((((tree_Under t1 node1 top1).2) != 0) || (!((tree_Under t1 node1 top1).1 == (orangeryref_IsUnder t1 node1 top1))))))) rfl rfl (fun hc9 => ?_) (fun hc9 => ?_)
        · skip
          (repeat refine cw_seq ?_); refine cw_region ?_
          refine Rp rfl rfl rfl rfl ?_
          refine rw_nil ?_
          (repeat refine cw_seq ?_)
          have hr10 : (orangerylaw_TreeSays t1 node1 top1) = false := by rw [orangerylaw_TreeSays]; (try simp only [hc1, cond_true, cond_false]); (try simp only [hc2, cond_true, cond_false]); (try simp only [hc8, cond_true, cond_false]); (try simp only [hc9, cond_true, cond_false])
          refine cw_ret ?_
          rw [hr10]
          exact ⟨(), _, (.cons (.tmp rfl) .nil), rfl, Sm, .nil _, .nil _⟩
        · skip
          (repeat refine cw_seq ?_); refine cw_skip ?_
          (repeat refine cw_seq ?_); refine cw_region ?_
          refine Rp rfl rfl rfl rfl ?_
          refine Rp rfl rfl rfl rfl ?_
          refine rw_nil ?_
          (repeat refine cw_seq ?_); refine cw_cond (b := ((5 : Int) != 0)) rfl rfl (fun hc10 => ?_) (fun hc10 => ?_)
          · skip
            have hc10p := bne_iff_ne.1 hc10
            (repeat refine cw_seq ?_); refine cw_region ?_
            refine Rp rfl rfl rfl rfl ?_
            refine Rp rfl rfl rfl rfl ?_
            refine Rp rfl rfl rfl rfl ?_
            refine Rp rfl rfl rfl rfl ?_
            refine rw_qg (guard_vt rfl rfl rfl) rfl rfl (q_pev rfl Bt) ?_
            refine rw_qg (guard_vt rfl rfl rfl) rfl rfl (q_pev rfl Bt) ?_
            refine rw_qg (guard_vt rfl rfl rfl) rfl rfl (q_pev rfl Bt) ?_
            refine rw_q rfl rfl rfl (q_pev rfl Bt) ?_
            refine Rp rfl rfl rfl rfl ?_
            refine rw_nil ?_
            (repeat refine cw_seq ?_)
            have hr11 : (orangerylaw_TreeSays t1 node1 top1) = ((((tree_Kids t1 node1).2) == 5) && ((((tree_Kids t1 node1).1).length : Int) == 0)) := by rw [orangerylaw_TreeSays]; (try simp only [hc1, cond_true, cond_false]); (try simp only [hc2, cond_true, cond_false]); (try simp only [hc8, cond_true, cond_false]); (try simp only [hc9, cond_true, cond_false]); (try simp only [hc10, cond_true, cond_false])
            refine cw_ret ?_
            rw [hr11]
            exact ⟨(), _, (.cons (.tmp rfl) .nil), rfl, Sm, .nil _, .nil _⟩
          · skip
            have hc10p := eq_of_bne_false hc10
            (repeat refine cw_seq ?_); refine cw_skip ?_
            (repeat refine cw_seq ?_); refine cw_region ?_
            refine Rp rfl rfl rfl rfl ?_
            refine Rp rfl rfl rfl rfl ?_
            refine Rp rfl rfl rfl rfl ?_
            refine rw_qg (guard_vt rfl rfl rfl) rfl rfl (q_pev rfl Bt) ?_
            refine rw_qg (guard_vt rfl rfl rfl) rfl rfl (q_ldA rfl rfl Bt rfl Mm rfl) ?_
            refine rw_qg (guard_vt rfl rfl rfl) rfl rfl (q_pev rfl Bt) ?_
            refine rw_split .sq (guard_vt rfl rfl rfl) (fun hg3 => ?_) (fun hg3 => ?_)
            · skip
              refine rw_call (orangeryref_KidsOf_spec y1 t1 node1 (by first | exact CheckTree_len15 (eq_of_bne_false (by assumption)) | omega)) .sq (guard_is (guard_vt rfl rfl rfl) hg3) rfl rfl rfl Kr rfl (by first | rfl | assumption | (simp only [hc1, hc2, hc8, hc9, hc10, hg3, Bool.and_true, Bool.true_and, Bool.and_self, Bool.not_false, Bool.not_true]; done) | simp_all) Sm ?_
              intro x4
              refine rw_pure (φ := (orangeryref_KidsOf t1 node1).length * 24 ≤ 140737488355328) [RdL EPlace x4 (orangeryref_KidsOf t1 node1)] Sm (fun M w h => (allF1 h).len) fun hlen5 => ?_
              refine rw_call ((fun y1 a y2 b => slices_Equal_Place_spec' y1 y2 a b) x1 ((tree_Kids t1 node1).1) x4 (orangeryref_KidsOf t1 node1)) .sq (guard_is (guard_vt rfl rfl rfl) hg3) rfl rfl rfl Kr rfl (by first | rfl | assumption | (simp only [hc1, hc2, hc8, hc9, hc10, hg3, Bool.and_true, Bool.true_and, Bool.and_self, Bool.not_false, Bool.not_true]; done) | simp_all) Sm ?_
              intro _
              refine rw_q rfl rfl rfl (q_pev rfl Bt) ?_
              refine Rp rfl rfl rfl rfl ?_
              refine rw_nil ?_
              (repeat refine cw_seq ?_)
              have hr12 : (orangerylaw_TreeSays t1 node1 top1) = ((((tree_Kids t1 node1).2) == 0) && (decide (((tree_Kids t1 node1).1) = (orangeryref_KidsOf t1 node1)))) := by rw [orangerylaw_TreeSays]; (try simp only [hc1, cond_true, cond_false]); (try simp only [hc2, cond_true, cond_false]); (try simp only [hc8, cond_true, cond_false]); (try simp only [hc9, cond_true, cond_false]); (try simp only [hc10, cond_true, cond_false]); (try simp only [hg3, cond_true, cond_false])
              refine cw_ret ?_
              rw [hr12]
              exact ⟨(), _, (.cons (.tmp rfl) .nil), rfl, Sm, .nil _, .nil _⟩
            · skip
              refine rw_dead .sq (guard_vt rfl rfl rfl) hg3 rfl rfl ?_
              refine rw_dead .sq (guard_vt rfl rfl rfl) hg3 rfl rfl ?_
              refine rw_q rfl rfl rfl (q_pev rfl Bt) ?_
              refine Rp rfl rfl rfl rfl ?_
              refine rw_nil ?_
              (repeat refine cw_seq ?_)
              have hr13 : (orangerylaw_TreeSays t1 node1 top1) = ((((tree_Kids t1 node1).2) == 0) && false) := by rw [orangerylaw_TreeSays]; (try simp only [hc1, cond_true, cond_false]); (try simp only [hc2, cond_true, cond_false]); (try simp only [hc8, cond_true, cond_false]); (try simp only [hc9, cond_true, cond_false]); (try simp only [hc10, cond_true, cond_false]); (try simp only [hg3, cond_true, cond_false])
              refine cw_ret ?_
              rw [hr13]
              exact ⟨(), _, (.cons (.tmp rfl) .nil), rfl, Sm, .nil _, .nil _⟩
      · skip
        (repeat refine cw_seq ?_); refine cw_skip ?_
        (repeat refine cw_seq ?_); refine cw_region ?_
        refine Rp rfl rfl rfl rfl ?_
        refine Rp rfl rfl rfl rfl ?_
        refine Rp rfl rfl rfl rfl ?_
        refine rw_qg (guard_vt rfl rfl rfl) rfl rfl (q_pev rfl Bt) ?_
        refine rw_qg (guard_vt rfl rfl rfl) rfl rfl (q_pev rfl Bt) ?_
        refine rw_qg (guard_vt rfl rfl rfl) rfl rfl (q_pev rfl Bt) ?_
        refine rw_qg (guard_vt rfl rfl rfl) rfl rfl (q_pev rfl Bt) ?_
        refine rw_qg (guard_of rfl rfl rfl) rfl rfl (q_pev rfl Bt) ?_
        refine rw_qg (guard_vt rfl rfl rfl) rfl rfl (q_pev rfl Bt) ?_
        refine rw_q rfl rfl rfl (q_pev rfl Bt) ?_
        refine Rp rfl rfl rfl rfl ?_
        refine rw_qg (guard_vf rfl rfl rfl) rfl rfl (q_pev rfl Bt) ?_
        refine rw_qg (guard_vf rfl rfl rfl) rfl rfl (q_pev rfl Bt) ?_
        refine rw_qg (guard_vf rfl rfl rfl) rfl rfl (q_pev rfl Bt) ?_
        refine rw_qg (guard_ot rfl rfl rfl) rfl rfl (q_pev rfl Bt) ?_
        refine rw_qg (guard_ot rfl rfl rfl) rfl rfl (q_pev rfl Bt) ?_
        refine rw_qg (guard_ot rfl rfl rfl) rfl rfl (q_pev rfl Bt) ?_
        refine rw_qg (guard_of rfl rfl rfl) rfl rfl (q_pev rfl Bt) ?_
        refine rw_qg (guard_of rfl rfl rfl) rfl rfl (q_pev rfl Bt) ?_
        refine rw_qg (guard_of rfl rfl rfl) rfl rfl (q_ld1 rfl rfl Bt rfl Mm rfl) ?_
        refine rw_qg (guard_of rfl rfl rfl) rfl rfl (q_pev rfl Bt) ?_
        refine rw_qg (guard_of rfl rfl rfl) rfl rfl (q_pev rfl Bt) ?_
        refine rw_callg (fun hG_ => orangeryref_IsUnder_spec y1 t1 node1 top1 (CheckTree_par (by rw [Bool.and_eq_true, Bool.and_eq_true] at hG_; first | exact eq_of_beq hG_.1.2 | exact absurd (eq_of_beq hG_.1.2) (by decide)))) (fun _ => rfl) .sq (guard_of rfl rfl rfl) rfl rfl rfl Kr rfl Bt Sm ?_
        refine rw_qg (guard_of rfl rfl rfl) rfl rfl (q_neb und_4 rfl rfl Bt rfl Bt) ?_
        refine rw_qg (guard_ot rfl rfl rfl) rfl rfl (q_pev rfl Bt) ?_
        refine rw_qg (guard_vf rfl rfl rfl) rfl rfl (q_pev rfl Bt) ?_
        refine rw_q rfl rfl rfl (q_pev rfl Bt) ?_
        refine rw_nil ?_
        (repeat refine cw_seq ?_); refine cw_cond (b := ((((orangeryref_CheckTree t1) != 0) && ((((tree_Under t1 node1 top1).2) != (orangeryref_CheckTree t1)) || (tree_Under t1 node1 top1).1)) || (((orangeryref_CheckTree t1) == 0) && ((((tree_Under t1 node1 top1).2) != 0) || (!((tree_Under t1 node1 top1).1 == (orangeryref_IsUnder t1 node1 top1))))))) rfl rfl (fun hc11 => ?_) (fun hc11 => ?_)
        · skip
          (repeat refine cw_seq ?_); refine cw_region ?_
          refine Rp rfl rfl rfl rfl ?_
          refine rw_nil ?_
          (repeat refine cw_seq ?_)
          have hr14 : (orangerylaw_TreeSays t1 node1 top1) = false := by rw [orangerylaw_TreeSays]; (try simp only [hc1, cond_true, cond_false]); (try simp only [hc2, cond_true, cond_false]); (try simp only [hc8, cond_true, cond_false]); (try simp only [hc11, cond_true, cond_false])
          refine cw_ret ?_
          rw [hr14]
          exact ⟨(), _, (.cons (.tmp rfl) .nil), rfl, Sm, .nil _, .nil _⟩
        · skip
          (repeat refine cw_seq ?_); refine cw_skip ?_
          (repeat refine cw_seq ?_); refine cw_region ?_
          refine Rp rfl rfl rfl rfl ?_
          refine Rp rfl rfl rfl rfl ?_
          refine rw_nil ?_
          (repeat refine cw_seq ?_); refine cw_cond (b := ((orangeryref_CheckTree t1) != 0)) rfl rfl (fun hc12 => ?_) (fun hc12 => ?_)
          · skip
            have hc12p := bne_iff_ne.1 hc12
            (repeat refine cw_seq ?_); refine cw_region ?_
            refine Rp rfl rfl rfl rfl ?_
            refine Rp rfl rfl rfl rfl ?_
            refine Rp rfl rfl rfl rfl ?_
            refine Rp rfl rfl rfl rfl ?_
            refine rw_qg (guard_vt rfl rfl rfl) rfl rfl (q_pev rfl Bt) ?_
            refine rw_qg (guard_vt rfl rfl rfl) rfl rfl (q_pev rfl Bt) ?_
            refine rw_qg (guard_vt rfl rfl rfl) rfl rfl (q_pev rfl Bt) ?_
            refine rw_q rfl rfl rfl (q_pev rfl Bt) ?_
            refine Rp rfl rfl rfl rfl ?_
            refine rw_nil ?_
            (repeat refine cw_seq ?_)
            have hr15 : (orangerylaw_TreeSays t1 node1 top1) = ((((tree_Kids t1 node1).2) == (orangeryref_CheckTree t1)) && ((((tree_Kids t1 node1).1).length : Int) == 0)) := by rw [orangerylaw_TreeSays]; (try simp only [hc1, cond_true, cond_false]); (try simp only [hc2, cond_true, cond_false]); (try simp only [hc8, cond_true, cond_false]); (try simp only [hc11, cond_true, cond_false]); (try simp only [hc12, cond_true, cond_false])
            refine cw_ret ?_
            rw [hr15]
            exact ⟨(), _, (.cons (.tmp rfl) .nil), rfl, Sm, .nil _, .nil _⟩
          · skip
            have hc12p := eq_of_bne_false hc12
            (repeat refine cw_seq ?_); refine cw_skip ?_
            (repeat refine cw_seq ?_); refine cw_region ?_
            refine Rp rfl rfl rfl rfl ?_
            refine Rp rfl rfl rfl rfl ?_
            refine Rp rfl rfl rfl rfl ?_
            refine rw_qg (guard_vt rfl rfl rfl) rfl rfl (q_pev rfl Bt) ?_
            refine rw_qg (guard_vt rfl rfl rfl) rfl rfl (q_ldA rfl rfl Bt rfl Mm rfl) ?_
            refine rw_qg (guard_vt rfl rfl rfl) rfl rfl (q_pev rfl Bt) ?_
            refine rw_split .sq (guard_vt rfl rfl rfl) (fun hg4 => ?_) (fun hg4 => ?_)
            · skip
              refine rw_call (orangeryref_KidsOf_spec y1 t1 node1 (by first | exact CheckTree_len15 (eq_of_bne_false (by assumption)) | omega)) .sq (guard_is (guard_vt rfl rfl rfl) hg4) rfl rfl rfl Kr rfl (by first | rfl | assumption | (simp only [hc1, hc2, hc8, hc11, hc12, hg4, Bool.and_true, Bool.true_and, Bool.and_self, Bool.not_false, Bool.not_true]; done) | simp_all) Sm ?_
              intro x5
              refine rw_pure (φ := (orangeryref_KidsOf t1 node1).length * 24 ≤ 140737488355328) [RdL EPlace x5 (orangeryref_KidsOf t1 node1)] Sm (fun M w h => (allF1 h).len) fun hlen6 => ?_
              refine rw_call ((fun y1 a y2 b => slices_Equal_Place_spec' y1 y2 a b) x1 ((tree_Kids t1 node1).1) x5 (orangeryref_KidsOf t1 node1)) .sq (guard_is (guard_vt rfl rfl rfl) hg4) rfl rfl rfl Kr rfl (by first | rfl | assumption | (simp only [hc1, hc2, hc8, hc11, hc12, hg4, Bool.and_true, Bool.true_and, Bool.and_self, Bool.not_false, Bool.not_true]; done) | simp_all) Sm ?_
              intro _
              refine rw_q rfl rfl rfl (q_pev rfl Bt) ?_
              refine Rp rfl rfl rfl rfl ?_
              refine rw_nil ?_
              (repeat refine cw_seq ?_)
              have hr16 : (orangerylaw_TreeSays t1 node1 top1) = ((((tree_Kids t1 node1).2) == 0) && (decide (((tree_Kids t1 node1).1) = (orangeryref_KidsOf t1 node1)))) := by rw [orangerylaw_TreeSays]; (try simp only [hc1, cond_true, cond_false]); (try simp only [hc2, cond_true, cond_false]); (try simp only [hc8, cond_true, cond_false]); (try simp only [hc11, cond_true, cond_false]); (try simp only [hc12, cond_true, cond_false]); (try simp only [hg4, cond_true, cond_false])
              refine cw_ret ?_
              rw [hr16]
              exact ⟨(), _, (.cons (.tmp rfl) .nil), rfl, Sm, .nil _, .nil _⟩
            · skip
              refine rw_dead .sq (guard_vt rfl rfl rfl) hg4 rfl rfl ?_
              refine rw_dead .sq (guard_vt rfl rfl rfl) hg4 rfl rfl ?_
              refine rw_q rfl rfl rfl (q_pev rfl Bt) ?_
              refine Rp rfl rfl rfl rfl ?_
              refine rw_nil ?_
              (repeat refine cw_seq ?_)
              have hr17 : (orangerylaw_TreeSays t1 node1 top1) = ((((tree_Kids t1 node1).2) == 0) && false) := by rw [orangerylaw_TreeSays]; (try simp only [hc1, cond_true, cond_false]); (try simp only [hc2, cond_true, cond_false]); (try simp only [hc8, cond_true, cond_false]); (try simp only [hc11, cond_true, cond_false]); (try simp only [hc12, cond_true, cond_false]); (try simp only [hg4, cond_true, cond_false])
              refine cw_ret ?_
              rw [hr17]
              exact ⟨(), _, (.cons (.tmp rfl) .nil), rfl, Sm, .nil _, .nil _⟩
end Go.Proofs.Ytchdacbjiomplaa
