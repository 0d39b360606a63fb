/- Part of this claim. No condition. -/
import Derived.Test.YtchdacbjiomplaaW11
set_option linter.unusedVariables false
set_option linter.unusedSimpArgs false
namespace Go.Proofs.Ytchdacbjiomplaa
open Go Go.Proofs.Ytchdacbjiomplaa.Fw Go.Proofs
theorem putl_L0_len (p : Place) : ∀ (l : List Place) (d : Bool) (acc : List Place), (tree_Put_L0 p l d acc).length ≤ acc.length + l.length + (bif d then 0 else 1)
  | [], d, acc => by rw [tree_Put_L0]; cases d <;> simp
  | q :: r, d, acc => by
    rw [tree_Put_L0]
    cases h1 : (!d && decide (q.node ≥ p.node)) with
    | true =>
      have hd : d = false := by cases d; rfl; simp at h1
      subst hd
      cases (q.node != p.node) with
      | true => simp only [cond_true]; have := putl_L0_len p r true ((acc ++ [p]) ++ [q]); simp at this ⊢; omega
      | false => simp only [cond_true, cond_false]; have := putl_L0_len p r true (acc ++ [p]); simp at this ⊢; omega
    | false =>
      cases (q.node != p.node) with
      | true => simp only [cond_true, cond_false]; have := putl_L0_len p r d (acc ++ [q]); simp at this ⊢; omega
      | false => simp only [cond_false]; have := putl_L0_len p r d acc; simp at this ⊢; omega
theorem putl_len (l : List Place) (p : Place) : (tree_Put l p).length ≤ l.length + 1 := by
  have := putl_L0_len p l (decide (p.parent < 0)) []
  unfold tree_Put
  generalize decide (p.parent < 0) = d at *
  cases d <;> simp at this ⊢ <;> omega

def view_All_L0  : List Place → (List Place) → (List Place)
  | [], p1 => p1
  | pn1 :: rn1, p1 => (view_All_L0 rn1 (tree_Put p1 pn1))
def view_All (v1 : View) : List Place :=
  (view_All_L0 v1.way v1.known)
theorem view_All_spec (y1 : SlV) (y2 : SlV) (y3 : SlV) (v1 : View) (hk1 : v1.known.length ≤ 1000) (hw1 : v1.way.length ≤ 1000) : Does Try.prog 134 [.agg ⟨[y1.val v1.roots.length, y2.val v1.known.length, y3.val v1.way.length]⟩] [RdL EInt y1 v1.roots, RdL EPlace y2 v1.known, RdL EPlace y3 v1.way] (fun (X : SlV) => .agg ⟨[X.val (view_All v1).length]⟩) (fun (X : SlV) => [RdL EPlace X (view_All v1)]) := by
  refine does_of tab_ok Try.func134 rfl Try.ntmps134 Try.results134 rfl inferInstance (fun _ => inferInstance) fun C => ?_
  refine cw_pure (φ := v1.roots.length * 8 ≤ 140737488355328) [RdL EInt y1 v1.roots] Sm (fun M w h => (allF1 h).len) fun hlen1 => ?_
  refine cw_pure (φ := v1.known.length * 24 ≤ 140737488355328) [RdL EPlace y2 v1.known] Sm (fun M w h => (allF1 h).len) fun hlen2 => ?_
  refine cw_pure (φ := v1.way.length * 24 ≤ 140737488355328) [RdL EPlace y3 v1.way] Sm (fun M w h => (allF1 h).len) fun hlen3 => ?_
  (repeat refine cw_seq ?_); refine cw_region ?_
  refine rw_box_agg .sq (guard_none rfl) rfl rfl rfl rfl rfl fun g1 => ?_
  refine rw_alloc .sq (guard_none rfl) rfl rfl rfl rfl fun g2 => ?_
  refine rw_nil ?_
  (repeat refine cw_seq ?_); refine cw_region ?_
  refine Rp rfl rfl rfl rfl ?_
  refine rw_q rfl rfl rfl (q_ld1 rfl rfl (fun _ => rfl) rfl Mm rfl) ?_
  refine rw_callG (slices_Clone_Place_spec y2 v1.known) .sq (.inl ⟨_, rfl⟩) (guard_none rfl) rfl rfl rfl Kr rfl rfl Sm (.nil _) (.nil _) ?_
  intro x1
  refine Rp rfl rfl rfl rfl ?_
  refine rw_alloc .sq (guard_none rfl) rfl rfl rfl rfl fun g3 => ?_
  refine rw_stA .sq (.inl ⟨_, rfl⟩) (guard_none rfl) rfl rfl rfl rfl rfl rfl rfl rfl rfl Ub rfl ?_
  refine rw_nil ?_
  (repeat refine cw_seq ?_); refine cw_region ?_
  refine Rp rfl rfl rfl rfl ?_
  refine rw_q rfl rfl rfl (q_ld1 rfl rfl (fun _ => rfl) rfl Mm rfl) ?_
  refine Rp rfl rfl rfl rfl ?_
  refine Rp rfl rfl rfl rfl ?_
  refine rw_nil ?_
  (repeat refine cw_seq ?_); refine cw_block ?_
  (repeat refine cw_seq ?_); refine cw_loopS [2, 3, 11, 12] [false, true, true] (fun (i_ : Nat × List Place × SlV) => match i_ with | ⟨n1, p1, x2⟩ => [(13, .v (.int .i64 (n1 : Int)))]) (fun (i_ : Nat × List Place × SlV) => match i_ with | ⟨n1, p1, x2⟩ => [⟨g3, 29, [x2.val p1.length]⟩]) (fun (i_ : Nat × List Place × SlV) => match i_ with | ⟨n1, p1, x2⟩ => []) (fun (i_ : Nat × List Place × SlV) => match i_ with | ⟨n1, p1, x2⟩ => [RdL EPlace x2 p1]) (fun (i_ : Nat × List Place × SlV) => match i_ with | ⟨n1, p1, x2⟩ => (n1 ≤ v1.way.length) ∧ (p1.length ≤ v1.known.length + n1) ∧ (view_All_L0 (v1.way.drop n1) p1) = (view_All v1)) (fun (i_ : Nat × List Place × SlV) => match i_ with | ⟨n1, p1, x2⟩ => v1.way.length - n1) ⟨0, v1.known, x1.1⟩ (.cons rfl (.cons rfl (.cons rfl (.cons rfl (.nil _))))) (.drop (.keep (.keep (.nil)))) ⟨Nat.zero_le _, (by simp), (by simp only [view_All, cond_true, cond_false] : (view_All v1) = (view_All_L0 v1.way v1.known)).symm⟩ (Le.trans (le_freezeL EPlace 35 x1.1 x1.2 v1.known Uo) Le4) ?_
  rintro ⟨n1, p1, x2⟩ ⟨hkn1, hpb, hf1⟩
  simp only [List.cons_append, List.nil_append]
  (repeat refine cw_seq ?_); refine cw_region ?_
  refine Rp rfl rfl rfl rfl ?_
  refine rw_nil ?_
  (repeat refine cw_seq ?_); refine cw_cond (b := decide ((n1 : Int) < (v1.way.length : Int))) rfl rfl (fun hc1 => ?_) (fun hc1 => ?_)
  · skip
    have hlt0 : n1 < v1.way.length := Int.ofNat_lt.1 (of_decide_eq_true hc1)
    (repeat refine cw_seq ?_); refine cw_skip ?_
    (repeat refine cw_seq ?_); refine cw_block ?_
    (repeat refine cw_seq ?_); refine cw_region ?_
    refine rw_q rfl rfl rfl (q_idx EPlace n1 rfl rfl (fun _ => rfl) rfl (fun _ => rfl) rfl rfl rfl Mm rfl (fun _ => rfl) (fun _ => by first | assumption | omega)) ?_
    refine rw_q rfl rfl rfl (q_leA EPlace rfl rfl (fun _ => rfl) rfl rfl Mm (fun _ => by first | assumption | omega)) ?_
    refine rw_alloc .sq (guard_none rfl) rfl rfl rfl rfl fun g4 => ?_
    refine rw_stA .sq (.inl ⟨_, rfl⟩) (guard_none rfl) rfl rfl rfl rfl rfl rfl rfl rfl rfl Ub rfl ?_
    refine rw_nil ?_
    (repeat refine cw_seq ?_); refine cw_region ?_
    refine rw_q rfl rfl rfl (q_ldA rfl rfl (fun _ => rfl) rfl Mm rfl) ?_
    refine rw_q rfl rfl rfl (q_ldA rfl rfl (fun _ => rfl) rfl Mm rfl) ?_
    refine rw_call (tree_Put_spec x2 p1 (gt v1.way n1) (by omega)) .sq (guard_none rfl) rfl rfl rfl Kr rfl rfl Sm ?_
    intro x3
    refine rw_pure (φ := (tree_Put p1 (gt v1.way n1)).length * 24 ≤ 140737488355328) [RdL EPlace x3 (tree_Put p1 (gt v1.way n1))] Sm (fun M w h => (allF1 h).len) fun hlen4 => ?_
    refine rw_stA .sq (.inl ⟨_, rfl⟩) (guard_none rfl) rfl rfl rfl rfl rfl rfl rfl rfl rfl Ub rfl ?_
    refine rw_nil ?_
    (repeat refine cw_seq ?_); refine cw_region ?_
    refine rw_q rfl rfl rfl (q_add rfl rfl (fun _ => rfl) rfl (fun _ => rfl) (fun _ => by omega)) ?_
    refine Rp rfl rfl rfl rfl ?_
    refine rw_nil ?_
    refine ⟨⟨(n1 + 1), (tree_Put p1 (gt v1.way n1)), x3⟩, ⟨hlt0, (by have := putl_len p1 (gt v1.way n1); simp only []; omega), (by rw [← hf1, drop_gt hlt0]; simp only [view_All_L0, cond_true, cond_false] : (view_All v1) = (view_All_L0 (v1.way.drop (n1 + 1)) (tree_Put p1 (gt v1.way n1)))).symm⟩, (by simp only []; omega), Le4⟩
  · skip
    have hge0 : v1.way.length ≤ n1 := by have := of_decide_eq_false hc1; omega
    (repeat refine cw_seq ?_); refine cw_exit ?_
    (repeat refine cw_seq ?_); refine cw_region ?_
    refine rw_q rfl rfl rfl (q_ldA rfl rfl (fun _ => rfl) rfl Mm rfl) ?_
    refine rw_stA .sq (.inl ⟨_, rfl⟩) (guard_none rfl) rfl rfl rfl rfl rfl rfl rfl rfl rfl Ub rfl ?_
    refine rw_nil ?_
    (repeat refine cw_seq ?_)
    have hr1 : (view_All v1) = p1 := by rw [← hf1, List.drop_of_length_le hge0]; simp only [view_All_L0, cond_true, cond_false]
    refine cw_ret ?_
    rw [hr1]
    exact ⟨x2, _, (.cons (.agg rfl rfl Mm rfl) .nil), rfl, Sm, .nil _, .nil _⟩
end Go.Proofs.Ytchdacbjiomplaa
