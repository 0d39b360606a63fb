/- Part of this claim. No condition. -/
import Derived.Test.YtchdacbjiomplaaW4
set_option linter.unusedVariables false
set_option linter.unusedSimpArgs false
namespace Go.Proofs.Ytchdacbjiomplaa
open Go Go.Proofs.Ytchdacbjiomplaa.Fw Go.Proofs
theorem pigeon : ∀ (n : Nat) (l : List Int), l.Nodup → (∀ x ∈ l, 0 ≤ x ∧ x < n) → l.length ≤ n
  | 0, l, _, h => by
    cases l with
    | nil => simp
    | cons a r => have := h a (.head _); omega
  | n + 1, l, hn, h => by
    have h1 := pigeon n (l.erase (n : Int)) (hn.erase _) (fun x hx => by
      have h2 := h x (List.mem_of_mem_erase hx)
      have h3 : x ≠ (n : Int) := fun e => by subst e; exact (hn.not_mem_erase) hx
      omega)
    rw [List.length_erase] at h1
    split at h1 <;> omega
theorem chain_len {l : List Int} (hn : l.Nodup) (hm : ∀ x ∈ l.tail, 0 ≤ x ∧ x ≤ 16) : l.length ≤ 18 := by
  cases l with
  | nil => simp
  | cons a r =>
    have := pigeon 17 r (List.nodup_cons.1 hn).2 (fun x hx => by have := hm x hx; omega)
    simp only [List.length_cons]; omega
theorem nodup_snoc {l : List Int} {x : Int} (hn : l.Nodup) (hx : x ∉ l) : (l ++ [x]).Nodup := by
  rw [List.nodup_append]
  exact ⟨hn, by simp, fun a ha b hb e => by rw [List.mem_singleton] at hb; subst hb; subst e; exact hx ha⟩
theorem tail_snoc {l : List Int} {x : Int} (hm : ∀ y ∈ l.tail, 0 ≤ y ∧ y ≤ 16) (hx : 0 ≤ x ∧ x ≤ 16) : ∀ y ∈ (l ++ [x]).tail, 0 ≤ y ∧ y ≤ 16 := by
  cases l with
  | nil => simp
  | cons a r => 
    intro y hy
    simp only [List.cons_append, List.tail_cons, List.mem_append, List.mem_singleton] at hy
    rcases hy with hy | rfl
    · exact hm y hy
    · exact hx
theorem find_mem' {l : List Place} {n : Int} (h : (tree_Find l n).node ≠ 0) : tree_Find l n ∈ l := by
  unfold tree_Find at *
  induction l with
  | nil => exact absurd rfl h
  | cons p r ih =>
    rw [tree_Find_L0] at *
    cases hb : p.node == n with
    | true => exact .head _
    | false => rw [hb, cond_false] at h; exact .tail _ (ih h)

def orangeryref_chain_L0 (l1 : List Place) : Nat → Int → (List Int) → (List Int)
  | 0, node2, out1 => default
  | f_k0 + 1, node2, out1 => (bif ((((tree_Find l1 node2).node) == 0) || (decide (((tree_Find l1 node2).parent) ∈ out1))) then out1 else (orangeryref_chain_L0 l1 f_k0 ((tree_Find l1 node2).parent) (out1 ++ [(tree_Find l1 node2).parent])))
def orangeryref_chain (l1 : List Place) (node1 : Int) : List Int :=
  (orangeryref_chain_L0 l1 (19 - [node1].length) node1 [node1])
theorem orangeryref_chain_spec (y1 : SlV) (l1 : List Place) (node1 : Int) (hpar : ∀ p ∈ l1, 0 ≤ p.parent ∧ p.parent ≤ 16) : Does Try.prog 133 [y1.val l1.length, .int .i64 node1] [RdL EPlace y1 l1] (fun (X : SlV) => X.val (orangeryref_chain l1 node1).length) (fun (X : SlV) => [RdL EInt X (orangeryref_chain l1 node1)]) := by
  refine does_of tab_ok Try.func133 rfl Try.ntmps133 Try.results133 rfl inferInstance (fun _ => inferInstance) fun C => ?_
  refine cw_pure (φ := l1.length * 24 ≤ 140737488355328) [RdL EPlace y1 l1] Sm (fun M w h => (allF1 h).len) fun hlen1 => ?_
  (repeat refine cw_seq ?_); refine cw_region ?_
  refine Rp rfl rfl rfl rfl ?_
  refine rw_nil ?_
  (repeat refine cw_seq ?_); refine cw_region ?_
  refine Rp rfl rfl rfl rfl ?_
  refine rw_bsliceL EInt [node1] .sq (guard_none rfl) rfl rfl rfl rfl rfl rfl rfl rfl rfl rfl rfl rfl rfl rfl rfl fun x1 x1b => ?_
  refine Rp rfl rfl rfl rfl ?_
  refine rw_nil ?_
  (repeat refine cw_seq ?_); refine cw_block ?_
  (repeat refine cw_seq ?_); refine cw_loopS [0, 4] [] (fun (i_ : Int × List Int × SlV × Option Nat) => match i_ with | ⟨node2, out1, x2, x2b⟩ => [(1, .v (.int .i64 node2)), (5, .v (x2.val out1.length))]) (fun (i_ : Int × List Int × SlV × Option Nat) => match i_ with | ⟨node2, out1, x2, x2b⟩ => []) (fun (i_ : Int × List Int × SlV × Option Nat) => match i_ with | ⟨node2, out1, x2, x2b⟩ => [ownL EInt 3 x2 x2b out1]) (fun (i_ : Int × List Int × SlV × Option Nat) => match i_ with | ⟨node2, out1, x2, x2b⟩ => []) (fun (i_ : Int × List Int × SlV × Option Nat) => match i_ with | ⟨node2, out1, x2, x2b⟩ => (out1.Nodup) ∧ (∀ x ∈ out1.tail, 0 ≤ x ∧ x ≤ 16) ∧ (orangeryref_chain_L0 l1 (19 - out1.length) node2 out1) = (orangeryref_chain l1 node1)) (fun (i_ : Int × List Int × SlV × Option Nat) => match i_ with | ⟨node2, out1, x2, x2b⟩ => 19 - out1.length) ⟨node1, [node1], x1, x1b⟩ (.cons rfl (.cons rfl (.nil _))) (.nil) ⟨(by simp), (by simp), (by simp only [orangeryref_chain, cond_true, cond_false] : (orangeryref_chain l1 node1) = (orangeryref_chain_L0 l1 (19 - [node1].length) node1 [node1])).symm⟩ Le4 ?_
  rintro ⟨node2, out1, x2, x2b⟩ ⟨hnd, hmt, hf1⟩
  simp only [List.cons_append, List.nil_append]
  have hol := chain_len hnd hmt
  have hlt0_ : 19 - out1.length = (19 - out1.length - 1) + 1 := by omega
  (repeat refine cw_seq ?_); refine cw_block ?_
  (repeat refine cw_seq ?_); refine cw_region ?_
  refine Rp rfl rfl rfl rfl ?_
  refine Rp rfl rfl rfl rfl ?_
  refine rw_call (orangeryref_FindIn_spec' y1 l1 node2) .sq (guard_none rfl) rfl rfl rfl Kr rfl rfl Sm ?_
  intro _
  refine rw_alloc .sq (guard_none rfl) rfl rfl rfl rfl fun g1 => ?_
  refine rw_stA .sq (.inl ⟨_, rfl⟩) (guard_none rfl) rfl rfl rfl rfl rfl rfl rfl rfl rfl Ub rfl ?_
  refine rw_nil ?_
  (repeat refine cw_seq ?_); refine cw_region ?_
  refine Rp rfl rfl rfl rfl ?_
  refine rw_q rfl rfl rfl (q_ld1 rfl rfl (fun _ => rfl) rfl Mm rfl) ?_
  refine Rp rfl rfl rfl rfl ?_
  refine Rp rfl rfl rfl rfl ?_
  refine rw_qg (guard_vf rfl rfl rfl) rfl rfl (q_pev rfl Bt) ?_
  refine rw_qg (guard_vf rfl rfl rfl) rfl rfl (q_pev rfl Bt) ?_
  refine rw_qg (guard_vf rfl rfl rfl) rfl rfl (q_ld1 rfl rfl Bt rfl Mm rfl) ?_
  refine rw_callgR (fun hG_ => slices_Contains_int_spec' x2 out1 ((tree_Find l1 node2).parent)) (fun _ => rfl) .sq (guard_vf rfl rfl rfl) rfl rfl rfl Kr rfl Bt (.own Mm (.nil _ _)) ?_
  refine rw_q rfl rfl rfl (q_pev rfl Bt) ?_
  refine rw_nil ?_
  (repeat refine cw_seq ?_); refine cw_cond (b := ((((tree_Find l1 node2).node) == 0) || (decide (((tree_Find l1 node2).parent) ∈ out1)))) rfl rfl (fun hc1 => ?_) (fun hc1 => ?_)
  · skip
    (repeat refine cw_seq ?_); refine cw_region ?_
    refine Rp rfl rfl rfl rfl ?_
    refine Rp rfl rfl rfl rfl ?_
    refine rw_nil ?_
    (repeat refine cw_seq ?_)
    refine cw_le (le_freezeL EInt 3 x2 x2b out1 Uo) ?_
    have hr1 : (orangeryref_chain l1 node1) = out1 := by rw [← hf1]; (conv => lhs; rw [hlt0_]); simp only [orangeryref_chain_L0, hc1, cond_true, cond_false]
    refine cw_ret ?_
    rw [hr1]
    exact ⟨x2, _, (.cons (.tmp rfl) .nil), rfl, Sm, .nil _, .nil _⟩
  · skip
    obtain ⟨hnz, hnin⟩ := Bool.or_eq_false_iff.1 hc1
    (repeat refine cw_seq ?_); refine cw_skip ?_
    (repeat refine cw_seq ?_); refine cw_region ?_
    refine Rp rfl rfl rfl rfl ?_
    refine rw_q rfl rfl rfl (q_ld1 rfl rfl (fun _ => rfl) rfl Mm rfl) ?_
    refine Rp rfl rfl rfl rfl ?_
    refine rw_nil ?_
    (repeat refine cw_seq ?_); refine cw_region ?_
    refine Rp rfl rfl rfl rfl ?_
    refine Rp rfl rfl rfl rfl ?_
    refine rw_bsliceL EInt [(tree_Find l1 node2).parent] .sq (guard_none rfl) rfl rfl rfl rfl rfl rfl rfl rfl rfl rfl rfl rfl rfl rfl rfl fun x3 x3b => ?_
    refine rw_appendL EInt out1 [(tree_Find l1 node2).parent] (b := x2b) .sq (fun _ _ => .inl ⟨_, rfl⟩) (guard_none rfl) rfl rfl rfl rfl rfl rfl rfl (fun _ _ => Uo) rfl rfl rfl rfl rfl rfl rfl (reads_ownL (e := 3) (b := x3b) Mm) (by show (out1.length + 1) * 8 ≤ 140737488355328; (try simp only [List.length_append, List.length_cons, List.length_nil]); omega) fun x4 x4b => ?_
    refine Rp rfl rfl rfl rfl ?_
    refine rw_nil ?_
    have hnx1 : 19 - (out1 ++ [(tree_Find l1 node2).parent]).length = 19 - out1.length - 1 := by simp only [List.length_append, List.length_cons, List.length_nil]; omega
    refine ⟨⟨(tree_Find l1 node2).parent, (out1 ++ [(tree_Find l1 node2).parent]), x4, x4b⟩, ⟨(nodup_snoc hnd (by simpa using hnin)), (tail_snoc hmt (hpar _ (find_mem' (by simpa using hnz)))), (by rw [hnx1]; exact (by rw [← hf1]; (conv => lhs; rw [hlt0_]); simp only [orangeryref_chain_L0, hc1, cond_true, cond_false] : (orangeryref_chain l1 node1) = (orangeryref_chain_L0 l1 (19 - out1.length - 1) ((tree_Find l1 node2).parent) (out1 ++ [(tree_Find l1 node2).parent]))).symm)⟩, (by simp only []; omega), Le4⟩
end Go.Proofs.Ytchdacbjiomplaa
