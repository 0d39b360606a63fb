/- Part of this claim. No condition. -/
import Derived.Test.YtchdacbjiomplaaW6
set_option linter.unusedVariables false
set_option linter.unusedSimpArgs false
namespace Go.Proofs.Ytchdacbjiomplaa
open Go Go.Proofs.Ytchdacbjiomplaa.Fw Go.Proofs
theorem CheckPlace_ok {p : Place} (h1 : orangeryref_CheckPlace p = 0) : 1 ≤ p.node ∧ p.node ≤ 15 ∧ 0 ≤ p.parent ∧ p.parent ≤ 16 ∧ 0 ≤ p.name ∧ p.name ≤ 99 := by
  unfold orangeryref_CheckPlace orangeryref_in at h1
  cases hb : (((!(decide (1 ≤ p.node) && decide (p.node ≤ 15))) || (!(decide (0 ≤ p.parent) && decide (p.parent ≤ 16)))) || (!(decide (0 ≤ p.name) && decide (p.name ≤ 99)))) with
  | true => rw [hb] at h1; simp at h1
  | false => simp at hb; omega
theorem CheckTree_L0_ok (t : List Place) : ∀ (r : List Place) (last : Int), orangeryref_CheckTree_L0 t r last = 0 → ∀ p ∈ r, orangeryref_CheckPlace p = 0
  | [], _, _ => by simp
  | p :: r, last, h => by
    rw [orangeryref_CheckTree_L0] at h
    cases h1 : (orangeryref_CheckPlace p != 0) with
    | true => rw [h1, cond_true] at h; rw [h] at h1; simp at h1
    | false =>
      rw [h1, cond_false] at h
      cases h2 : decide (p.node ≤ last) with
      | true => rw [h2] at h; simp at h
      | false =>
        rw [h2, cond_false] at h
        intro q hq
        cases hq with
        | head => exact eq_of_bne_false h1
        | tail _ hq => exact CheckTree_L0_ok t r _ h q hq
theorem CheckTree_par {t : List Place} (h : orangeryref_CheckTree t = 0) : ∀ p ∈ t, 0 ≤ p.parent ∧ p.parent ≤ 16 := fun p hp => by have := CheckPlace_ok (CheckTree_L0_ok t t 0 h p hp); omega
theorem CheckTree_node {t : List Place} (h : orangeryref_CheckTree t = 0) : ∀ p ∈ t, 0 ≤ p.node ∧ p.node < 16 := fun p hp => by have := CheckPlace_ok (CheckTree_L0_ok t t 0 h p hp); omega
theorem CheckOp_node {o : Op} (h : orangeryref_CheckOp o = 0) : 0 ≤ o.node ∧ o.node < 16 := by
  unfold orangeryref_CheckOp at h
  generalize hb : (((((!(orangeryref_in o.time 1 10000)) || (!(orangeryref_in o.who 0 2))) || ((orangeryref_CheckPlace (⟨o.node, o.parent, o.name⟩ : Place)) != 0)) || (!(orangeryref_in o.life 1 50))) || (!(orangeryref_in o.seq 1 30))) = b at h
  cases b with
  | true => simp at h
  | false =>
    simp only [Bool.or_eq_false_iff] at hb
    have := CheckPlace_ok (eq_of_bne_false hb.1.1.2)
    simp only at this
    omega

def orangeryref_IsUnder (l1 : List Place) (node1 : Int) (top1 : Int) : Bool :=
  (decide (top1 ∈ (orangeryref_chain l1 node1)))
theorem orangeryref_IsUnder_spec (y1 : SlV) (l1 : List Place) (node1 : Int) (top1 : Int) (hpar : ∀ p ∈ l1, 0 ≤ p.parent ∧ p.parent ≤ 16) : Does Try.prog 55 [y1.val l1.length, .int .i64 node1, .int .i64 top1] [RdL EPlace y1 l1] (fun (_ : Unit) => .bool (orangeryref_IsUnder l1 node1 top1)) (fun (_ : Unit) => []) := by
  refine does_of tab_ok Try.func55 rfl Try.ntmps55 Try.results55 rfl inferInstance (fun _ => inferInstance) fun C => ?_
  refine cw_pure (φ := l1.length * 24 ≤ 140737488355328) [RdL EPlace y1 l1] Sm (fun M w h => (allF1 h).len) fun hlen1 => ?_
  (repeat refine cw_seq ?_); refine cw_region ?_
  refine Rp rfl rfl rfl rfl ?_
  refine rw_nil ?_
  (repeat refine cw_seq ?_); refine cw_region ?_
  refine Rp rfl rfl rfl rfl ?_
  refine Rp rfl rfl rfl rfl ?_
  refine rw_call (orangeryref_chain_spec y1 l1 node1 (by first | assumption | omega)) .sq (guard_none rfl) rfl rfl rfl Kr rfl rfl Sm ?_
  intro x1
  refine rw_pure (φ := (orangeryref_chain l1 node1).length * 8 ≤ 140737488355328) [RdL EInt x1 (orangeryref_chain l1 node1)] Sm (fun M w h => (allF1 h).len) fun hlen2 => ?_
  refine Rp rfl rfl rfl rfl ?_
  refine rw_call (slices_Contains_int_spec' x1 (orangeryref_chain l1 node1) top1) .sq (guard_none rfl) rfl rfl rfl Kr rfl rfl Sm ?_
  intro _
  refine Rp rfl rfl rfl rfl ?_
  refine rw_nil ?_
  (repeat refine cw_seq ?_)
  have hr1 : (orangeryref_IsUnder l1 node1 top1) = (decide (top1 ∈ (orangeryref_chain l1 node1))) := by simp only [orangeryref_IsUnder, cond_true, cond_false]
  refine cw_ret ?_
  rw [hr1]
  exact ⟨(), _, (.cons (.tmp rfl) .nil), rfl, Sm, .nil _, .nil _⟩

def orangeryref_table_L1  : List Place → (List Place) → (List Place)
  | [], tb2 => tb2
  | pn2 :: rn2, tb2 => (orangeryref_table_L1 rn2 (tb2.set ((pn2.node).toNat) pn2))
def orangeryref_table_L0 (l1 : List Place) : Nat → Nat → (List Place) → (List Place)
  | 0, n1, tb1 => (orangeryref_table_L1 l1 tb1)
  | fn1 + 1, n1, tb1 => (orangeryref_table_L0 l1 fn1 (n1 + 1) (tb1.set n1 (⟨(gt tb1 n1).node, (-1), (gt tb1 n1).name⟩ : Place)))
def orangeryref_table (l1 : List Place) : List Place :=
  (orangeryref_table_L0 l1 (16 - 0) 0 (List.replicate 16 (⟨0, 0, 0⟩ : Place)))
theorem orangeryref_table_spec (y1 : SlV) (l1 : List Place) (hnode : ∀ p ∈ l1, 0 ≤ p.node ∧ p.node < 16) : Does Try.prog 147 [y1.val l1.length] [RdL EPlace y1 l1] (fun (_ : Unit) => .agg ⟨((orangeryref_table l1).flatMap EPlace.enc)⟩) (fun (_ : Unit) => []) := by
  refine does_of tab_ok Try.func147 rfl Try.ntmps147 Try.results147 rfl inferInstance (fun _ => inferInstance) fun C => ?_
  refine cw_pure (φ := l1.length * 24 ≤ 140737488355328) [RdL EPlace y1 l1] Sm (fun M w h => (allF1 h).len) fun hlen1 => ?_
  (repeat refine cw_seq ?_); refine cw_region ?_
  refine rw_alloc .sq (guard_none rfl) rfl rfl rfl rfl fun g1 => ?_
  refine rw_nil ?_
  (repeat refine cw_seq ?_); refine cw_region ?_
  refine rw_alloc .sq (guard_none rfl) rfl rfl rfl rfl fun g2 => ?_
  refine rw_nil ?_
  (repeat refine cw_seq ?_); refine cw_region ?_
  refine Rp rfl rfl rfl rfl ?_
  refine rw_nil ?_
  (repeat refine cw_seq ?_); refine cw_block ?_
  (repeat refine cw_seq ?_); refine cw_loopS [0, 2, 3] [false, true] (fun (i_ : Nat × List Place) => match i_ with | ⟨n1, tb1⟩ => [(7, .v (.int .i64 (n1 : Int)))]) (fun (i_ : Nat × List Place) => match i_ with | ⟨n1, tb1⟩ => [⟨g2, 169, (tb1.flatMap EPlace.enc)⟩]) (fun (i_ : Nat × List Place) => match i_ with | ⟨n1, tb1⟩ => []) (fun (i_ : Nat × List Place) => match i_ with | ⟨n1, tb1⟩ => []) (fun (i_ : Nat × List Place) => match i_ with | ⟨n1, tb1⟩ => (n1 ≤ 16) ∧ (tb1.length = 16) ∧ (orangeryref_table_L0 l1 (16 - n1) n1 tb1) = (orangeryref_table l1)) (fun (i_ : Nat × List Place) => match i_ with | ⟨n1, tb1⟩ => 16 - n1) ⟨0, (List.replicate 16 (⟨0, 0, 0⟩ : Place))⟩ (.cons rfl (.cons rfl (.cons rfl (.nil _)))) (.drop (.keep (.nil))) ⟨(Nat.zero_le _), List.length_replicate, (by simp only [orangeryref_table, cond_true, cond_false] : (orangeryref_table l1) = (orangeryref_table_L0 l1 (16 - 0) 0 (List.replicate 16 (⟨0, 0, 0⟩ : Place)))).symm⟩ Le4 ?_
  rintro ⟨n1, tb1⟩ ⟨hkn1, hl_tb1, hf1⟩
  simp only [List.cons_append, List.nil_append]
  (repeat refine cw_seq ?_); refine cw_region ?_
  refine Rp rfl rfl rfl rfl ?_
  refine rw_nil ?_
  (repeat refine cw_seq ?_); refine cw_cond (b := decide ((n1 : Int) < 16)) rfl rfl (fun hc1 => ?_) (fun hc1 => ?_)
  · skip
    have hlt0 : n1 < 16 := by have := of_decide_eq_true hc1; omega
    have hlt0_ : 16 - n1 = (16 - (n1 + 1)) + 1 := by omega
    (repeat refine cw_seq ?_); refine cw_skip ?_
    (repeat refine cw_seq ?_); refine cw_block ?_
    (repeat refine cw_seq ?_); refine cw_region ?_
    refine Rp rfl rfl rfl rfl ?_
    refine Rp rfl rfl rfl rfl ?_
    refine rw_nil ?_
    (repeat refine cw_seq ?_); refine cw_region ?_
    refine Rp rfl rfl rfl rfl ?_
    refine rw_q rfl rfl rfl (q_idxB n1 rfl rfl (fun _ => rfl) rfl (fun _ => rfl) rfl rfl rfl (fun _ => rfl) (fun _ => by first | assumption | omega)) ?_
    refine Rp rfl rfl rfl rfl ?_
    refine rw_stT1 EPlace tb1 n1 1 (⟨(gt tb1 n1).node, (-1), (gt tb1 n1).name⟩ : Place) .sq (.inl ⟨_, rfl⟩) (guard_none rfl) rfl rfl rfl rfl rfl rfl rfl rfl rfl rfl rfl rfl (by rw [hl_tb1]; first | assumption | omega) rfl Ub ?_
    refine rw_nil ?_
    (repeat refine cw_seq ?_); refine cw_region ?_
    refine rw_q rfl rfl rfl (q_add rfl rfl (fun _ => rfl) rfl (fun _ => rfl) (fun _ => by omega)) ?_
    refine Rp rfl rfl rfl rfl ?_
    refine rw_nil ?_
    refine ⟨⟨(n1 + 1), (tb1.set n1 (⟨(gt tb1 n1).node, (-1), (gt tb1 n1).name⟩ : Place))⟩, ⟨hlt0, (by rw [List.length_set]; exact hl_tb1), (by rw [← hf1]; (conv => lhs; rw [hlt0_]); simp only [orangeryref_table_L0, cond_true, cond_false] : (orangeryref_table l1) = (orangeryref_table_L0 l1 (16 - (n1 + 1)) (n1 + 1) (tb1.set n1 (⟨(gt tb1 n1).node, (-1), (gt tb1 n1).name⟩ : Place)))).symm⟩, (by simp only []; omega), Le4⟩
  · skip
    have hge0 : 16 ≤ n1 := by have := of_decide_eq_false hc1; omega
    have hge0_ : 16 - n1 = 0 := by omega
    (repeat refine cw_seq ?_); refine cw_exit ?_
    (repeat refine cw_seq ?_); refine cw_region ?_
    refine Rp rfl rfl rfl rfl ?_
    refine Rp rfl rfl rfl rfl ?_
    refine Rp rfl rfl rfl rfl ?_
    refine rw_nil ?_
    (repeat refine cw_seq ?_); refine cw_block ?_
    (repeat refine cw_seq ?_); refine cw_loopS [2, 3, 14, 15] [false, true] (fun (i_ : Nat × List Place) => match i_ with | ⟨n2, tb2⟩ => [(16, .v (.int .i64 (n2 : Int)))]) (fun (i_ : Nat × List Place) => match i_ with | ⟨n2, tb2⟩ => [⟨g2, 169, (tb2.flatMap EPlace.enc)⟩]) (fun (i_ : Nat × List Place) => match i_ with | ⟨n2, tb2⟩ => []) (fun (i_ : Nat × List Place) => match i_ with | ⟨n2, tb2⟩ => []) (fun (i_ : Nat × List Place) => match i_ with | ⟨n2, tb2⟩ => (n2 ≤ l1.length) ∧ (tb2.length = 16) ∧ (orangeryref_table_L1 (l1.drop n2) tb2) = (orangeryref_table l1)) (fun (i_ : Nat × List Place) => match i_ with | ⟨n2, tb2⟩ => l1.length - n2) ⟨0, tb1⟩ (.cons rfl (.cons rfl (.cons rfl (.cons rfl (.nil _))))) (.drop (.keep (.nil))) ⟨Nat.zero_le _, hl_tb1, (by rw [← hf1, hge0_]; simp only [orangeryref_table_L0, cond_true, cond_false] : (orangeryref_table l1) = (orangeryref_table_L1 l1 tb1)).symm⟩ Le4 ?_
    rintro ⟨n2, tb2⟩ ⟨hkn2, hl_tb2, hf2⟩
    simp only [List.cons_append, List.nil_append]
    (repeat refine cw_seq ?_); refine cw_region ?_
    refine Rp rfl rfl rfl rfl ?_
    refine rw_nil ?_
    (repeat refine cw_seq ?_); refine cw_cond (b := decide ((n2 : Int) < (l1.length : Int))) rfl rfl (fun hc2 => ?_) (fun hc2 => ?_)
    · skip
      have hlt1 : n2 < l1.length := Int.ofNat_lt.1 (of_decide_eq_true hc2)
      have hnb := hnode _ (gt_mem hlt1)
      (repeat refine cw_seq ?_); refine cw_skip ?_
      (repeat refine cw_seq ?_); refine cw_block ?_
      (repeat refine cw_seq ?_); refine cw_region ?_
      refine rw_q rfl rfl rfl (q_idx EPlace n2 rfl rfl (fun _ => rfl) rfl (fun _ => rfl) rfl rfl rfl Mm rfl (fun _ => rfl) (fun _ => by first | assumption | omega)) ?_
      refine rw_q rfl rfl rfl (q_leA EPlace rfl rfl (fun _ => rfl) rfl rfl Mm (fun _ => by first | assumption | omega)) ?_
      refine rw_alloc .sq (guard_none rfl) rfl rfl rfl rfl fun g3 => ?_
      refine rw_stA .sq (.inl ⟨_, rfl⟩) (guard_none rfl) rfl rfl rfl rfl rfl rfl rfl rfl rfl Ub rfl ?_
      refine rw_nil ?_
      (repeat refine cw_seq ?_); refine cw_region ?_
      refine Rp rfl rfl rfl rfl ?_
      refine rw_q rfl rfl rfl (q_ld1 rfl rfl (fun _ => rfl) rfl Mm rfl) ?_
      refine rw_q rfl rfl rfl (q_ldA rfl rfl (fun _ => rfl) rfl Mm rfl) ?_
      refine rw_q rfl rfl rfl (q_idxB (((gt l1 n2).node).toNat) rfl rfl (fun _ => rfl) rfl (fun _ => rfl) rfl rfl rfl (fun _ => by omega) (fun _ => by first | assumption | omega)) ?_
      refine rw_stT EPlace tb2 (((gt l1 n2).node).toNat) (gt l1 n2) .sq (.inl ⟨_, rfl⟩) (guard_none rfl) rfl rfl rfl rfl rfl rfl rfl rfl rfl (by rw [hl_tb2]; first | assumption | omega) Ub ?_
      refine rw_nil ?_
      (repeat refine cw_seq ?_); refine cw_region ?_
      refine rw_q rfl rfl rfl (q_add rfl rfl (fun _ => rfl) rfl (fun _ => rfl) (fun _ => by omega)) ?_
      refine Rp rfl rfl rfl rfl ?_
      refine rw_nil ?_
      refine ⟨⟨(n2 + 1), (tb2.set (((gt l1 n2).node).toNat) (gt l1 n2))⟩, ⟨hlt1, (by rw [List.length_set]; exact hl_tb2), (by rw [← hf2, drop_gt hlt1]; simp only [orangeryref_table_L1, cond_true, cond_false] : (orangeryref_table l1) = (orangeryref_table_L1 (l1.drop (n2 + 1)) (tb2.set (((gt l1 n2).node).toNat) (gt l1 n2)))).symm⟩, (by simp only []; omega), Le4⟩
    · skip
      have hge1 : l1.length ≤ n2 := by have := of_decide_eq_false hc2; omega
      (repeat refine cw_seq ?_); refine cw_exit ?_
      (repeat refine cw_seq ?_); refine cw_region ?_
      refine rw_q rfl rfl rfl (q_ldA rfl rfl (fun _ => rfl) rfl Mm (flat_len EPlace (n := 16) hl_tb2 rfl)) ?_
      refine rw_stAr EPlace tb2 (n := 16) .sq (.inl ⟨_, rfl⟩) (guard_none rfl) rfl rfl rfl rfl rfl rfl rfl hl_tb2 rfl Ub (by rfl) ?_
      refine rw_nil ?_
      (repeat refine cw_seq ?_)
      have hr1 : (orangeryref_table l1) = tb2 := by rw [← hf2, List.drop_of_length_le hge1]; simp only [orangeryref_table_L1, cond_true, cond_false]
      refine cw_ret ?_
      rw [hr1]
      exact ⟨(), _, (.cons (.agg rfl rfl Mm (flat_len EPlace (n := 16) hl_tb2 rfl)) .nil), rfl, Sm, .nil _, .nil _⟩
end Go.Proofs.Ytchdacbjiomplaa
