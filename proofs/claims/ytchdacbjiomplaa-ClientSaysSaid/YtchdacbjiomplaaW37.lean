/- Part of this claim. No condition. -/
import Derived.Test.YtchdacbjiomplaaW36
import Derived.Test.YtchdacbjiomplaaLCliD
import Derived.Test.YtchdacbjiomplaaLDone
set_option linter.unusedVariables false
set_option linter.unusedSimpArgs false
namespace Go.Proofs.Ytchdacbjiomplaa
open Go Go.Proofs.Ytchdacbjiomplaa.Fw Go.Proofs
attribute [local irreducible] RdL RdN VarP
def orangeryref_ShownBy_L0  : List Op → (List Place) → ((List Place) × Int)
  | [], l1 => (l1, 0)
  | pn1 :: rn1, l1 => (orangeryref_ShownBy_L0 rn1 ((orangeryref_done l1 pn1).1))
def orangeryref_ShownBy (c1 : Client) (me1 : Int) : (List Place) × Int :=
  (bif ((orangeryref_CheckClient c1 me1) != 0) then (([] : List Place), (orangeryref_CheckClient c1 me1)) else (orangeryref_ShownBy_L0 c1.pending (orangeryref_AllOf c1.v)))
theorem orangeryref_ShownBy_spec (y1 : SlV) (y2 : SlV) (y3 : SlV) (y4 : SlV) (c1 : Client) (me1 : Int) : Does Try.prog 97 [.agg ⟨[.int .i64 c1.life, .int .i64 c1.time, .int .i64 c1.seq, y1.val c1.pending.length, .int .i64 c1.version, y2.val c1.v.roots.length, y3.val c1.v.known.length, y4.val c1.v.way.length]⟩, .int .i64 me1] [RdL EOp y1 c1.pending, RdL EInt y2 c1.v.roots, RdL EPlace y3 c1.v.known, RdL EPlace y4 c1.v.way] (fun (X : SlV) => .tuple #[.agg ⟨[X.val ((orangeryref_ShownBy c1 me1).1).length]⟩, .int .i64 ((orangeryref_ShownBy c1 me1).2)]) (fun (X : SlV) => [RdL EPlace X ((orangeryref_ShownBy c1 me1).1)]) := by
  refine does_of tab_ok Try.func97 rfl Try.ntmps97 Try.results97 rfl inferInstance (fun _ => inferInstance) fun C => ?_
  refine cw_pure (φ := c1.pending.length * 56 ≤ 140737488355328) [RdL EOp y1 c1.pending] Sm (fun M w h => (allF1 h).len) fun hlen1 => ?_
  refine cw_pure (φ := c1.v.roots.length * 8 ≤ 140737488355328) [RdL EInt y2 c1.v.roots] Sm (fun M w h => (allF1 h).len) fun hlen2 => ?_
  refine cw_pure (φ := c1.v.known.length * 24 ≤ 140737488355328) [RdL EPlace y3 c1.v.known] Sm (fun M w h => (allF1 h).len) fun hlen3 => ?_
  refine cw_pure (φ := c1.v.way.length * 24 ≤ 140737488355328) [RdL EPlace y4 c1.v.way] Sm (fun M w h => (allF1 h).len) fun hlen4 => ?_
  (repeat refine cw_seq ?_); refine cw_region ?_
  refine rw_box_agg .sq (guard_none rfl) rfl rfl rfl rfl rfl fun g1 => ?_
  refine rw_alloc .sq (guard_none rfl) rfl rfl rfl rfl fun g2 => ?_
  refine Rp rfl rfl rfl rfl ?_
  refine rw_nil ?_
  (repeat refine cw_seq ?_); refine cw_region ?_
  refine rw_q rfl rfl rfl (q_ldA rfl rfl (fun _ => rfl) rfl Mm rfl) ?_
  refine Rp rfl rfl rfl rfl ?_
  refine rw_call (orangeryref_CheckClient_spec y1 y2 y3 y4 c1 me1) .sq (guard_none rfl) rfl rfl rfl Kr rfl rfl Sm ?_
  intro _
  refine Rp rfl rfl rfl rfl ?_
  refine rw_nil ?_
  (repeat refine cw_seq ?_); refine cw_region ?_
  refine Rp rfl rfl rfl rfl ?_
  refine Rp rfl rfl rfl rfl ?_
  refine rw_nil ?_
  (repeat refine cw_seq ?_); refine cw_cond (b := ((orangeryref_CheckClient c1 me1) != 0)) rfl rfl (fun hc1 => ?_) (fun hc1 => ?_)
  · skip
    have hc1p := bne_iff_ne.1 hc1
    (repeat refine cw_seq ?_); refine cw_region ?_
    refine Rp rfl rfl rfl rfl ?_
    refine Rp rfl rfl rfl rfl ?_
    refine rw_stA .sq (.inl ⟨_, rfl⟩) (guard_none rfl) rfl rfl rfl rfl rfl rfl rfl rfl rfl Ub rfl ?_
    refine Rp rfl rfl rfl rfl ?_
    refine rw_nil ?_
    (repeat refine cw_seq ?_)
    refine cw_fact (F := RdL EPlace ⟨none, 0⟩ ([] : List Place)) [] (.nil _) (fun M w _ => RdL.nil _ _ _ (by omega) M w) ?_
    have hr1 : (orangeryref_ShownBy c1 me1) = (([] : List Place), (orangeryref_CheckClient c1 me1)) := by simp only [orangeryref_ShownBy, hc1, cond_true, cond_false]
    refine cw_ret ?_
    rw [hr1]
    exact ⟨(⟨none, 0⟩ : SlV), _, (.cons (.agg rfl rfl Mm rfl) (.cons (.tmp rfl) .nil)), rfl, Sm, .nil _, .nil _⟩
  · skip
    have hc1p := eq_of_bne_false hc1
    have hcl := (client_Check_iff _ _).1 ((CheckClient_eq c1 me1).symm.trans (eq_of_bne_false hc1))
    have hvw := AllOf_eq hcl.view.known.rising hcl.view.way.rising
    (repeat refine cw_seq ?_); refine cw_skip ?_
    (repeat refine cw_seq ?_); refine cw_region ?_
    refine Rp rfl rfl rfl rfl ?_
    refine rw_q rfl rfl rfl (q_ldP rfl rfl (fun _ => rfl) rfl Mm rfl) ?_
    refine rw_call (orangeryref_AllOf_spec y2 y3 y4 c1.v ⟨Nat.le_trans (tree_len hcl.view.known) (by omega), Nat.le_trans (tree_len hcl.view.way) (by omega)⟩ (tree_node hcl.view.known) (tree_node hcl.view.way)) .sq (guard_none rfl) rfl rfl rfl Kr rfl rfl Sm ?_
    intro x1
    refine rw_pure (φ := (orangeryref_AllOf c1.v).length * 24 ≤ 140737488355328) [RdL EPlace x1 (orangeryref_AllOf c1.v)] Sm (fun M w h => (allF1 h).len) fun hlen5 => ?_
    refine Rp rfl rfl rfl rfl ?_
    refine Rp rfl rfl rfl rfl ?_
    refine rw_nil ?_
    (repeat refine cw_seq ?_); refine cw_region ?_
    refine Rp rfl rfl rfl rfl ?_
    refine rw_q rfl rfl rfl (q_ld1 rfl rfl (fun _ => rfl) rfl Mm rfl) ?_
    refine Rp rfl rfl rfl rfl ?_
    refine Rp rfl rfl rfl rfl ?_
    refine rw_nil ?_
    (repeat refine cw_seq ?_); refine cw_block ?_
    (repeat refine cw_seq ?_); refine cw_loopS [4, 5, 22, 23] [true, true] (fun (i_ : List Place × SlV × Nat) => match i_ with | ⟨l1, x2, n1⟩ => [(7, .v (x2.val l1.length)), (24, .v (.int .i64 (n1 : Int)))]) (fun (i_ : List Place × SlV × Nat) => match i_ with | ⟨l1, x2, n1⟩ => []) (fun (i_ : List Place × SlV × Nat) => match i_ with | ⟨l1, x2, n1⟩ => []) (fun (i_ : List Place × SlV × Nat) => match i_ with | ⟨l1, x2, n1⟩ => [RdL EPlace x2 l1]) (fun (i_ : List Place × SlV × Nat) => match i_ with | ⟨l1, x2, n1⟩ => (n1 ≤ c1.pending.length) ∧ (IsTree l1) ∧ (orangeryref_ShownBy_L0 (c1.pending.drop n1) l1) = (orangeryref_ShownBy c1 me1)) (fun (i_ : List Place × SlV × Nat) => match i_ with | ⟨l1, x2, n1⟩ => c1.pending.length - n1) ⟨(orangeryref_AllOf c1.v), x1, 0⟩ (.cons rfl (.cons rfl (.cons rfl (.cons rfl (.nil _))))) (.keep (.keep (.nil))) ⟨Nat.zero_le _, (by rw [hvw]; exact (checkT_iff _).1 hcl.view.all), (by simp only [orangeryref_ShownBy, hc1, cond_true, cond_false] : (orangeryref_ShownBy c1 me1) = (orangeryref_ShownBy_L0 c1.pending (orangeryref_AllOf c1.v))).symm⟩ Le4 ?_
    rintro ⟨l1, x2, n1⟩ ⟨hkn1, htr, hf1⟩
    simp only [List.cons_append, List.nil_append]
    (repeat refine cw_seq ?_); refine cw_region ?_
    refine Rp rfl rfl rfl rfl ?_
    refine rw_nil ?_
    (repeat refine cw_seq ?_); refine cw_cond (b := decide ((n1 : Int) < (c1.pending.length : Int))) rfl rfl (fun hc2 => ?_) (fun hc2 => ?_)
    · skip
      have hlt0 : n1 < c1.pending.length := Int.ofNat_lt.1 (of_decide_eq_true hc2)
      (repeat refine cw_seq ?_); refine cw_skip ?_
      (repeat refine cw_seq ?_); refine cw_block ?_
      (repeat refine cw_seq ?_); refine cw_region ?_
      refine rw_q rfl rfl rfl (q_idx EOp n1 rfl rfl (fun _ => rfl) rfl (fun _ => rfl) rfl rfl rfl Mm rfl (fun _ => rfl) (fun _ => by first | assumption | omega)) ?_
      refine rw_q rfl rfl rfl (q_leA EOp rfl rfl (fun _ => rfl) rfl rfl Mm (fun _ => by first | assumption | omega)) ?_
      refine rw_alloc .sq (guard_none rfl) rfl rfl rfl rfl fun g3 => ?_
      refine rw_stA .sq (.inl ⟨_, rfl⟩) (guard_none rfl) rfl rfl rfl rfl rfl rfl rfl rfl rfl Ub rfl ?_
      refine rw_nil ?_
      (repeat refine cw_seq ?_); refine cw_region ?_
      refine Rp rfl rfl rfl rfl ?_
      refine rw_q rfl rfl rfl (q_ldA rfl rfl (fun _ => rfl) rfl Mm rfl) ?_
      refine rw_call (orangeryref_done_spec x2 l1 (gt c1.pending n1) (tree_par htr) (tree_node htr) (CheckOp_node (cli_op hcl hlt0))) .sq (guard_none rfl) rfl rfl rfl Kr rfl rfl Sm ?_
      intro x3
      refine rw_pure (φ := ((orangeryref_done l1 (gt c1.pending n1)).1).length * 24 ≤ 140737488355328) [RdL EPlace x3 ((orangeryref_done l1 (gt c1.pending n1)).1)] Sm (fun M w h => (allF1 h).len) fun hlen6 => ?_
      refine Rp rfl rfl rfl rfl ?_
      refine Rp rfl rfl rfl rfl ?_
      refine Rp rfl rfl rfl rfl ?_
      refine Rp rfl rfl rfl rfl ?_
      refine rw_nil ?_
      (repeat refine cw_seq ?_); refine cw_region ?_
      refine rw_q rfl rfl rfl (q_add rfl rfl (fun _ => rfl) rfl (fun _ => rfl) (fun _ => by omega)) ?_
      refine Rp rfl rfl rfl rfl ?_
      refine rw_nil ?_
      refine ⟨⟨(orangeryref_done l1 (gt c1.pending n1)).1, x3, (n1 + 1)⟩, ⟨hlt0, (done_tree htr (cli_op hcl hlt0)), (by rw [← hf1, drop_gt hlt0]; simp only [orangeryref_ShownBy_L0, cond_true, cond_false] : (orangeryref_ShownBy c1 me1) = (orangeryref_ShownBy_L0 (c1.pending.drop (n1 + 1)) ((orangeryref_done l1 (gt c1.pending n1)).1))).symm⟩, (by simp only []; omega), Le4⟩
    · skip
      have hge0 : c1.pending.length ≤ n1 := by have := of_decide_eq_false hc2; omega
      (repeat refine cw_seq ?_); refine cw_exit ?_
      (repeat refine cw_seq ?_); refine cw_region ?_
      refine Rp rfl rfl rfl rfl ?_
      refine Rp rfl rfl rfl rfl ?_
      refine rw_stA .sq (.inl ⟨_, rfl⟩) (guard_none rfl) rfl rfl rfl rfl rfl rfl rfl rfl rfl Ub rfl ?_
      refine Rp rfl rfl rfl rfl ?_
      refine rw_nil ?_
      (repeat refine cw_seq ?_)
      have hr2 : (orangeryref_ShownBy c1 me1) = (l1, 0) := by rw [← hf1, List.drop_of_length_le hge0]; simp only [orangeryref_ShownBy_L0, cond_true, cond_false]
      refine cw_ret ?_
      rw [hr2]
      exact ⟨x2, _, (.cons (.agg rfl rfl Mm rfl) (.cons (.tmp rfl) .nil)), rfl, Sm, .nil _, .nil _⟩
end Go.Proofs.Ytchdacbjiomplaa
