/- Part of this claim. No condition. -/
import Derived.Test.YtchdacbjiomplaaW20
set_option linter.unusedVariables false
set_option linter.unusedSimpArgs false
namespace Go.Proofs.Ytchdacbjiomplaa
open Go Go.Proofs.Ytchdacbjiomplaa.Fw Go.Proofs
attribute [local irreducible] RdL RdN VarP
theorem tree_Kids_len (t : List Place) (n : Int) : (tree_Kids t n).1.length ≤ 15 := by
  unfold tree_Kids
  cases h : (tree_Check t != 0) with
  | true => simp
  | false =>
    have := check_len (eq_of_bne_false h)
    cases (decide (n < 0) || decide (n > 16)) with
    | true => simp
    | false =>
      simp only [cond_false, isort_len]
      exact Nat.le_trans (List.length_filter_le _ _) this

def orangerylaw_grown  : Bool :=
  ((((((((((((((tree_Under orangerylaw_small 4 1).2) == 0) && (((tree_Under orangerylaw_small 3 2).2) == 0)) && (((tree_Kids orangerylaw_small 1).2) == 0)) && (tree_Under orangerylaw_small 4 1).1) && (!((tree_Under orangerylaw_small 3 2).1))) && ((((tree_Kids orangerylaw_small 1).1).length : Int) == 2)) && (((gt ((tree_Kids orangerylaw_small 1).1) 0).node) == 3)) && (((gt ((tree_Kids orangerylaw_small 1).1) 1).node) == 2)) && (((tree_Find orangerylaw_small 4).parent) == 2)) && (((tree_Find orangerylaw_small 9).node) == 0)) && ((tree_Check [(⟨1, 2, 0⟩ : Place), (⟨2, 1, 0⟩ : Place)]) == 4)) && ((tree_Check orangerylaw_small) == 0))
theorem orangerylaw_grown_spec  : Does Try.prog 50 [] [] (fun (_ : Unit) => .bool (orangerylaw_grown)) (fun (_ : Unit) => []) := by
  refine does_of tab_ok Try.func50 rfl Try.ntmps50 Try.results50 rfl inferInstance (fun _ => inferInstance) fun C => ?_
  (repeat refine cw_seq ?_); refine cw_region ?_
  refine Rp rfl rfl rfl rfl ?_
  refine rw_nil ?_
  (repeat refine cw_seq ?_); refine cw_region ?_
  refine rw_call (orangerylaw_small_spec ) .sq (guard_none rfl) rfl rfl rfl Kr rfl rfl Sm ?_
  intro x1
  refine rw_pure (φ := orangerylaw_small.length * 24 ≤ 140737488355328) [RdL EPlace x1 orangerylaw_small] Sm (fun M w h => (allF1 h).len) fun hlen1 => ?_
  refine rw_call (tree_Under_spec x1 orangerylaw_small 4 1) .sq (guard_none rfl) rfl rfl rfl Kr rfl rfl Sm ?_
  intro _
  refine Rp rfl rfl rfl rfl ?_
  refine Rp rfl rfl rfl rfl ?_
  refine Rp rfl rfl rfl rfl ?_
  refine Rp rfl rfl rfl rfl ?_
  refine Rp rfl rfl rfl rfl ?_
  refine rw_nil ?_
  (repeat refine cw_seq ?_); refine cw_region ?_
  refine rw_call (orangerylaw_small_spec ) .sq (guard_none rfl) rfl rfl rfl Kr rfl rfl Sm ?_
  intro x2
  refine rw_pure (φ := orangerylaw_small.length * 24 ≤ 140737488355328) [RdL EPlace x2 orangerylaw_small] Sm (fun M w h => (allF1 h).len) fun hlen2 => ?_
  refine rw_call (tree_Under_spec x2 orangerylaw_small 3 2) .sq (guard_none rfl) rfl rfl rfl Kr rfl rfl Sm ?_
  intro _
  refine Rp rfl rfl rfl rfl ?_
  refine Rp rfl rfl rfl rfl ?_
  refine Rp rfl rfl rfl rfl ?_
  refine Rp rfl rfl rfl rfl ?_
  refine Rp rfl rfl rfl rfl ?_
  refine rw_nil ?_
  (repeat refine cw_seq ?_); refine cw_region ?_
  refine rw_call (orangerylaw_small_spec ) .sq (guard_none rfl) rfl rfl rfl Kr rfl rfl Sm ?_
  intro x3
  refine rw_pure (φ := orangerylaw_small.length * 24 ≤ 140737488355328) [RdL EPlace x3 orangerylaw_small] Sm (fun M w h => (allF1 h).len) fun hlen3 => ?_
  refine rw_call (tree_Kids_spec x3 orangerylaw_small 1) .sq (guard_none rfl) rfl rfl rfl Kr rfl rfl Sm ?_
  intro x4
  refine rw_pure (φ := ((tree_Kids orangerylaw_small 1).1).length * 24 ≤ 140737488355328) [RdL EPlace x4 ((tree_Kids orangerylaw_small 1).1)] Sm (fun M w h => (allF1 h).len) fun hlen4 => ?_
  refine Rp rfl rfl rfl rfl ?_
  refine Rp rfl rfl rfl rfl ?_
  refine Rp rfl rfl rfl rfl ?_
  refine Rp rfl rfl rfl rfl ?_
  refine Rp rfl rfl rfl rfl ?_
  refine rw_nil ?_
  (repeat refine cw_seq ?_); refine cw_region ?_
  refine Rp rfl rfl rfl rfl ?_
  refine Rp rfl rfl rfl rfl ?_
  refine rw_bsliceL EPlace [(⟨1, 2, 0⟩ : Place), (⟨2, 1, 0⟩ : Place)] .sq (guard_none rfl) rfl rfl rfl rfl rfl rfl rfl rfl rfl rfl rfl rfl rfl rfl rfl fun x5 x5b => ?_
  refine Rp rfl rfl rfl rfl ?_
  refine rw_alloc .sq (guard_none rfl) rfl rfl rfl rfl fun g1 => ?_
  refine rw_stA .sq (.inl ⟨_, rfl⟩) (guard_none rfl) rfl rfl rfl rfl rfl rfl rfl rfl rfl Ub rfl ?_
  refine rw_nil ?_
  (repeat refine cw_seq ?_); refine cw_region ?_
  refine Rp rfl rfl rfl rfl ?_
  refine Rp rfl rfl rfl rfl ?_
  refine Rp rfl rfl rfl rfl ?_
  refine rw_qg (guard_vt rfl rfl rfl) rfl rfl (q_pev rfl Bt) ?_
  refine rw_qg (guard_vt rfl rfl rfl) rfl rfl (q_pev rfl Bt) ?_
  refine rw_q rfl rfl rfl (q_pev rfl Bt) ?_
  refine Rp rfl rfl rfl rfl ?_
  refine rw_qg (guard_vt rfl rfl rfl) rfl rfl (q_pev rfl Bt) ?_
  refine rw_qg (guard_vt rfl rfl rfl) rfl rfl (q_pev rfl Bt) ?_
  refine rw_q rfl rfl rfl (q_pev rfl Bt) ?_
  refine Rp rfl rfl rfl rfl ?_
  refine rw_qg (guard_vt rfl rfl rfl) rfl rfl (q_pev rfl Bt) ?_
  refine rw_q rfl rfl rfl (q_pev rfl Bt) ?_
  refine Rp rfl rfl rfl rfl ?_
  refine rw_qg (guard_vt rfl rfl rfl) rfl rfl (q_pev rfl Bt) ?_
  refine rw_qg (guard_vt rfl rfl rfl) rfl rfl (q_pev rfl Bt) ?_
  refine rw_q rfl rfl rfl (q_pev rfl Bt) ?_
  refine Rp rfl rfl rfl rfl ?_
  refine rw_qg (guard_vt rfl rfl rfl) rfl rfl (q_pev rfl Bt) ?_
  refine rw_qg (guard_vt rfl rfl rfl) rfl rfl (q_pev rfl Bt) ?_
  refine rw_qg (guard_vt rfl rfl rfl) rfl rfl (q_pev rfl Bt) ?_
  refine rw_q rfl rfl rfl (q_pev rfl Bt) ?_
  refine Rp rfl rfl rfl rfl ?_
  refine rw_qg (guard_vt rfl rfl rfl) rfl rfl (q_pev rfl Bt) ?_
  refine rw_qg (guard_vt rfl rfl rfl) rfl rfl (q_idx EPlace 0 rfl rfl Bt rfl Bt rfl rfl rfl Mm rfl (by intro h; first | omega | rfl | (simp at h; omega)) (by first | (intro _; first | assumption | omega) | (intro h; simp at h; omega))) ?_
  refine rw_qg (guard_vt rfl rfl rfl) rfl rfl (q_fae rfl rfl Bt rfl rfl) ?_
  refine rw_qg (guard_vt rfl rfl rfl) rfl rfl (q_le1 EPlace rfl rfl Bt rfl rfl Mm (by first | (intro _; first | assumption | omega) | (intro h; simp at h; omega)) rfl) ?_
  refine rw_qg (guard_vt rfl rfl rfl) rfl rfl (q_pev rfl Bt) ?_
  refine rw_q rfl rfl rfl (q_pev rfl Bt) ?_
  refine Rp rfl rfl rfl rfl ?_
  refine rw_qg (guard_vt rfl rfl rfl) rfl rfl (q_pev rfl Bt) ?_
  refine rw_qg (guard_vt rfl rfl rfl) rfl rfl (q_idx EPlace 1 rfl rfl Bt rfl Bt rfl rfl rfl Mm rfl (by intro h; first | omega | rfl | (simp at h; omega)) (by first | (intro _; first | assumption | omega) | (intro h; simp at h; omega))) ?_
  refine rw_qg (guard_vt rfl rfl rfl) rfl rfl (q_fae rfl rfl Bt rfl rfl) ?_
  refine rw_qg (guard_vt rfl rfl rfl) rfl rfl (q_le1 EPlace rfl rfl Bt rfl rfl Mm (by first | (intro _; first | assumption | omega) | (intro h; simp at h; omega)) rfl) ?_
  refine rw_qg (guard_vt rfl rfl rfl) rfl rfl (q_pev rfl Bt) ?_
  refine rw_q rfl rfl rfl (q_pev rfl Bt) ?_
  refine Rp rfl rfl rfl rfl ?_
  refine rw_split .sq (guard_vt rfl rfl rfl) (fun hg1 => ?_) (fun hg1 => absurd hg1 (by decide +kernel))
  refine rw_call (orangerylaw_small_spec ) .sq (guard_is (guard_vt rfl rfl rfl) hg1) rfl rfl rfl Kr rfl rfl Sm ?_
  intro x6
  refine rw_pure (φ := orangerylaw_small.length * 24 ≤ 140737488355328) [RdL EPlace x6 orangerylaw_small] Sm (fun M w h => (allF1 h).len) fun hlen5 => ?_
  refine rw_call (tree_Find_spec x6 orangerylaw_small 4) .sq (guard_is (guard_vt rfl rfl rfl) hg1) rfl rfl rfl Kr rfl rfl Sm ?_
  intro _
  refine rw_qg (guard_vt rfl rfl rfl) rfl rfl (q_pev rfl Bt) ?_
  refine rw_qg (guard_vt rfl rfl rfl) rfl rfl (q_pev rfl Bt) ?_
  refine rw_q rfl rfl rfl (q_pev rfl Bt) ?_
  refine Rp rfl rfl rfl rfl ?_
  refine rw_split .sq (guard_vt rfl rfl rfl) (fun hg2 => ?_) (fun hg2 => absurd hg2 (by decide +kernel))
  refine rw_call (orangerylaw_small_spec ) .sq (guard_is (guard_vt rfl rfl rfl) hg2) rfl rfl rfl Kr rfl rfl Sm ?_
  intro x7
  refine rw_pure (φ := orangerylaw_small.length * 24 ≤ 140737488355328) [RdL EPlace x7 orangerylaw_small] Sm (fun M w h => (allF1 h).len) fun hlen6 => ?_
  refine rw_call (tree_Find_spec x7 orangerylaw_small 9) .sq (guard_is (guard_vt rfl rfl rfl) hg2) rfl rfl rfl Kr rfl rfl Sm ?_
  intro _
  refine rw_qg (guard_vt rfl rfl rfl) rfl rfl (q_pev rfl Bt) ?_
  refine rw_qg (guard_vt rfl rfl rfl) rfl rfl (q_pev rfl Bt) ?_
  refine rw_q rfl rfl rfl (q_pev rfl Bt) ?_
  refine Rp rfl rfl rfl rfl ?_
  refine rw_qg (guard_vt rfl rfl rfl) rfl rfl (q_ldA rfl rfl Bt rfl Mm rfl) ?_
  refine rw_callgR (fun hG_ => tree_Check_spec x5 [(⟨1, 2, 0⟩ : Place), (⟨2, 1, 0⟩ : Place)]) (fun _ => rfl) .sq (guard_vt rfl rfl rfl) rfl rfl rfl Kr rfl Bt (.own Mm (.nil _ _)) ?_
  refine rw_qg (guard_vt rfl rfl rfl) rfl rfl (q_pev rfl Bt) ?_
  refine rw_q rfl rfl rfl (q_pev rfl Bt) ?_
  refine Rp rfl rfl rfl rfl ?_
  refine rw_split .sq (guard_vt rfl rfl rfl) (fun hg3 => ?_) (fun hg3 => absurd hg3 (by decide +kernel))
  refine rw_call (orangerylaw_small_spec ) .sq (guard_is (guard_vt rfl rfl rfl) hg3) rfl rfl rfl Kr rfl rfl Sm ?_
  intro x8
  refine rw_pure (φ := orangerylaw_small.length * 24 ≤ 140737488355328) [RdL EPlace x8 orangerylaw_small] Sm (fun M w h => (allF1 h).len) fun hlen7 => ?_
  refine rw_call (tree_Check_spec x8 orangerylaw_small) .sq (guard_is (guard_vt rfl rfl rfl) hg3) rfl rfl rfl Kr rfl rfl Sm ?_
  intro _
  refine rw_qg (guard_vt rfl rfl rfl) rfl rfl (q_pev rfl Bt) ?_
  refine rw_q rfl rfl rfl (q_pev rfl Bt) ?_
  refine Rp rfl rfl rfl rfl ?_
  refine rw_nil ?_
  (repeat refine cw_seq ?_)
  have hr1 : (orangerylaw_grown) = ((((((((((((((tree_Under orangerylaw_small 4 1).2) == 0) && (((tree_Under orangerylaw_small 3 2).2) == 0)) && (((tree_Kids orangerylaw_small 1).2) == 0)) && (tree_Under orangerylaw_small 4 1).1) && (!((tree_Under orangerylaw_small 3 2).1))) && ((((tree_Kids orangerylaw_small 1).1).length : Int) == 2)) && (((gt ((tree_Kids orangerylaw_small 1).1) 0).node) == 3)) && (((gt ((tree_Kids orangerylaw_small 1).1) 1).node) == 2)) && (((tree_Find orangerylaw_small 4).parent) == 2)) && (((tree_Find orangerylaw_small 9).node) == 0)) && ((tree_Check [(⟨1, 2, 0⟩ : Place), (⟨2, 1, 0⟩ : Place)]) == 4)) && ((tree_Check orangerylaw_small) == 0)) := by simp only [orangerylaw_grown, hg1, hg2, hg3, cond_true, cond_false]
  refine cw_ret ?_
  rw [hr1]
  exact ⟨(), _, (.cons (.tmp rfl) .nil), rfl, Sm, .nil _, .nil _⟩

def orangerylaw_TreeOrder_L1 (t1 : List Place) (n2 : Nat) (κ_ : Bool) : List Place → Bool
  | [] => κ_
  | pn3 :: rn3 => (bif (((((tree_Under t1 (pn3.node) (n2 : Int)).2) != 0) || (!((tree_Under t1 (pn3.node) (n2 : Int)).1))) || (!(decide ((tree_Find t1 (pn3.node)) = pn3)))) then false else (orangerylaw_TreeOrder_L1 t1 n2 κ_ rn3))
def orangerylaw_TreeOrder_L0 (t1 : List Place) : Nat → Nat → Nat → Bool
  | 0, n2, n1 => ((n1 : Int) == (t1.length : Int))
  | fn2 + 1, n2, n1 => (bif (((tree_Kids t1 (n2 : Int)).2) != 0) then false else (orangerylaw_TreeOrder_L1 t1 n2 ((orangerylaw_TreeOrder_L0 t1 fn2 (n2 + 1) (n1 + ((tree_Kids t1 (n2 : Int)).1).length))) ((tree_Kids t1 (n2 : Int)).1)))
def orangerylaw_TreeOrder (t1 : List Place) (a1 : Int) (b1 : Int) (c1 : Int) : Bool :=
  (bif ((!orangerylaw_grown) || (((tree_Under t1 (orangerylaw_at a1 17) (orangerylaw_at b1 17)).2) != 0)) then orangerylaw_grown else (bif ((((((((tree_Under t1 (orangerylaw_at b1 17) (orangerylaw_at c1 17)).2) != 0) || (((tree_Under t1 (orangerylaw_at a1 17) (orangerylaw_at c1 17)).2) != 0)) || (((tree_Under t1 (orangerylaw_at b1 17) (orangerylaw_at a1 17)).2) != 0)) || (((tree_Under t1 (orangerylaw_at a1 17) (orangerylaw_at b1 17)).1 && (tree_Under t1 (orangerylaw_at b1 17) (orangerylaw_at c1 17)).1) && (!((tree_Under t1 (orangerylaw_at a1 17) (orangerylaw_at c1 17)).1)))) || (((tree_Under t1 (orangerylaw_at a1 17) (orangerylaw_at b1 17)).1 && (tree_Under t1 (orangerylaw_at b1 17) (orangerylaw_at a1 17)).1) && ((orangerylaw_at a1 17) != (orangerylaw_at b1 17)))) || (((orangerylaw_at a1 17) == (orangerylaw_at b1 17)) && (!((tree_Under t1 (orangerylaw_at a1 17) (orangerylaw_at b1 17)).1)))) then false else (orangerylaw_TreeOrder_L0 t1 (17 - 0) 0 0)))
theorem orangerylaw_TreeOrder_spec (y1 : SlV) (t1 : List Place) (a1 : Int) (b1 : Int) (c1 : Int) : Does Try.prog 8 [.agg ⟨[y1.val t1.length]⟩, .int .i64 a1, .int .i64 b1, .int .i64 c1] [RdL EPlace y1 t1] (fun (_ : Unit) => .bool (orangerylaw_TreeOrder t1 a1 b1 c1)) (fun (_ : Unit) => []) := by
  refine does_of tab_ok Try.func8 rfl Try.ntmps8 Try.results8 rfl inferInstance (fun _ => inferInstance) fun C => ?_
  refine cw_pure (φ := t1.length * 24 ≤ 140737488355328) [RdL EPlace y1 t1] Sm (fun M w h => (allF1 h).len) fun hlen1 => ?_
  (repeat refine cw_seq ?_); refine cw_region ?_
  refine rw_box_agg .sq (guard_none rfl) rfl rfl rfl rfl rfl fun g1 => ?_
  refine Rp rfl rfl rfl rfl ?_
  refine rw_nil ?_
  (repeat refine cw_seq ?_); refine cw_region ?_
  refine Rp rfl rfl rfl rfl ?_
  refine rw_call (orangerylaw_at_spec a1 17 (by omega)) .sq (guard_none rfl) rfl rfl rfl Kr rfl rfl Sm ?_
  intro _
  refine Rp rfl rfl rfl rfl ?_
  refine rw_call (orangerylaw_at_spec b1 17 (by omega)) .sq (guard_none rfl) rfl rfl rfl Kr rfl rfl Sm ?_
  intro _
  refine Rp rfl rfl rfl rfl ?_
  refine rw_call (orangerylaw_at_spec c1 17 (by omega)) .sq (guard_none rfl) rfl rfl rfl Kr rfl rfl Sm ?_
  intro _
  refine Rp rfl rfl rfl rfl ?_
  refine Rp rfl rfl rfl rfl ?_
  refine Rp rfl rfl rfl rfl ?_
  refine rw_nil ?_
  (repeat refine cw_seq ?_); refine cw_region ?_
  refine rw_q rfl rfl rfl (q_ldA rfl rfl (fun _ => rfl) rfl Mm rfl) ?_
  refine Rp rfl rfl rfl rfl ?_
  refine Rp rfl rfl rfl rfl ?_
  refine rw_call (tree_Under_spec y1 t1 (orangerylaw_at a1 17) (orangerylaw_at b1 17)) .sq (guard_none rfl) rfl rfl rfl Kr rfl rfl Sm ?_
  intro _
  refine Rp rfl rfl rfl rfl ?_
  refine Rp rfl rfl rfl rfl ?_
  refine Rp rfl rfl rfl rfl ?_
  refine Rp rfl rfl rfl rfl ?_
  refine Rp rfl rfl rfl rfl ?_
  refine rw_nil ?_
  (repeat refine cw_seq ?_); refine cw_region ?_
  refine rw_call (orangerylaw_grown_spec ) .sq (guard_none rfl) rfl rfl rfl Kr rfl rfl Sm ?_
  intro _
  refine Rp rfl rfl rfl rfl ?_
  refine Rp rfl rfl rfl rfl ?_
  refine rw_qg (guard_vf rfl rfl rfl) rfl rfl (q_pev rfl Bt) ?_
  refine rw_qg (guard_vf rfl rfl rfl) rfl rfl (q_pev rfl Bt) ?_
  refine rw_q rfl rfl rfl (q_pev rfl Bt) ?_
  refine rw_nil ?_
  (repeat refine cw_seq ?_); refine cw_cond (b := ((!orangerylaw_grown) || (((tree_Under t1 (orangerylaw_at a1 17) (orangerylaw_at b1 17)).2) != 0))) rfl rfl (fun hc1 => ?_) (fun hc1 => ?_)
  · skip
    (repeat refine cw_seq ?_); refine cw_region ?_
    refine rw_call (orangerylaw_grown_spec ) .sq (guard_none rfl) rfl rfl rfl Kr rfl rfl Sm ?_
    intro _
    refine Rp rfl rfl rfl rfl ?_
    refine rw_nil ?_
    (repeat refine cw_seq ?_)
    have hr1 : (orangerylaw_TreeOrder t1 a1 b1 c1) = orangerylaw_grown := by simp only [orangerylaw_TreeOrder, hc1, cond_true, cond_false]
    refine cw_ret ?_
    rw [hr1]
    exact ⟨(), _, (.cons (.tmp rfl) .nil), rfl, Sm, .nil _, .nil _⟩
  · skip
    (repeat refine cw_seq ?_); refine cw_skip ?_
    (repeat refine cw_seq ?_); refine cw_region ?_
    refine rw_q rfl rfl rfl (q_ldA rfl rfl (fun _ => rfl) rfl Mm rfl) ?_
    refine Rp rfl rfl rfl rfl ?_
    refine Rp rfl rfl rfl rfl ?_
    refine rw_call (tree_Under_spec y1 t1 (orangerylaw_at b1 17) (orangerylaw_at c1 17)) .sq (guard_none rfl) rfl rfl rfl Kr rfl rfl Sm ?_
    intro _
    refine Rp rfl rfl rfl rfl ?_
    refine Rp rfl rfl rfl rfl ?_
    refine Rp rfl rfl rfl rfl ?_
    refine Rp rfl rfl rfl rfl ?_
    refine Rp rfl rfl rfl rfl ?_
    refine rw_nil ?_
    (repeat refine cw_seq ?_); refine cw_region ?_
    refine rw_q rfl rfl rfl (q_ldA rfl rfl (fun _ => rfl) rfl Mm rfl) ?_
    refine Rp rfl rfl rfl rfl ?_
    refine Rp rfl rfl rfl rfl ?_
    refine rw_call (tree_Under_spec y1 t1 (orangerylaw_at a1 17) (orangerylaw_at c1 17)) .sq (guard_none rfl) rfl rfl rfl Kr rfl rfl Sm ?_
    intro _
    refine Rp rfl rfl rfl rfl ?_
    refine Rp rfl rfl rfl rfl ?_
    refine Rp rfl rfl rfl rfl ?_
    refine Rp rfl rfl rfl rfl ?_
    refine Rp rfl rfl rfl rfl ?_
    refine rw_nil ?_
    (repeat refine cw_seq ?_); refine cw_region ?_
    refine rw_q rfl rfl rfl (q_ldA rfl rfl (fun _ => rfl) rfl Mm rfl) ?_
    refine Rp rfl rfl rfl rfl ?_
    refine Rp rfl rfl rfl rfl ?_
    refine rw_call (tree_Under_spec y1 t1 (orangerylaw_at b1 17) (orangerylaw_at a1 17)) .sq (guard_none rfl) rfl rfl rfl Kr rfl rfl Sm ?_
    intro _
    refine Rp rfl rfl rfl rfl ?_
    refine Rp rfl rfl rfl rfl ?_
    refine Rp rfl rfl rfl rfl ?_
    refine Rp rfl rfl rfl rfl ?_
    refine Rp rfl rfl rfl rfl ?_
    refine rw_nil ?_
    (repeat refine cw_seq ?_); refine cw_region ?_
    refine Rp rfl rfl rfl rfl ?_
    refine Rp rfl rfl rfl rfl ?_
    refine Rp rfl rfl rfl rfl ?_
    refine rw_qg (guard_vf rfl rfl rfl) rfl rfl (q_pev rfl Bt) ?_
    refine rw_qg (guard_vf rfl rfl rfl) rfl rfl (q_pev rfl Bt) ?_
    refine rw_q rfl rfl rfl (q_pev rfl Bt) ?_
    refine Rp rfl rfl rfl rfl ?_
    refine rw_qg (guard_vf rfl rfl rfl) rfl rfl (q_pev rfl Bt) ?_
    refine rw_qg (guard_vf rfl rfl rfl) rfl rfl (q_pev rfl Bt) ?_
    refine rw_q rfl rfl rfl (q_pev rfl Bt) ?_
    refine Rp rfl rfl rfl rfl ?_
    refine rw_qg (guard_vf rfl rfl rfl) rfl rfl (q_pev rfl Bt) ?_
    refine rw_qg (guard_vf rfl rfl rfl) rfl rfl (q_pev rfl Bt) ?_
    refine rw_qg (guard_ot rfl rfl rfl) rfl rfl (q_pev rfl Bt) ?_
    refine rw_qg (guard_vf rfl rfl rfl) rfl rfl (q_pev rfl Bt) ?_
    refine rw_qg (guard_vf rfl rfl rfl) rfl rfl (q_pev rfl Bt) ?_
    refine rw_qg (guard_ot rfl rfl rfl) rfl rfl (q_pev rfl Bt) ?_
    refine rw_qg (guard_ot rfl rfl rfl) rfl rfl (q_pev rfl Bt) ?_
    refine rw_qg (guard_vf rfl rfl rfl) rfl rfl (q_pev rfl Bt) ?_
    refine rw_q rfl rfl rfl (q_pev rfl Bt) ?_
    refine Rp rfl rfl rfl rfl ?_
    refine rw_qg (guard_vf rfl rfl rfl) rfl rfl (q_pev rfl Bt) ?_
    refine rw_qg (guard_vf rfl rfl rfl) rfl rfl (q_pev rfl Bt) ?_
    refine rw_qg (guard_ot rfl rfl rfl) rfl rfl (q_pev rfl Bt) ?_
    refine rw_qg (guard_vf rfl rfl rfl) rfl rfl (q_pev rfl Bt) ?_
    refine rw_qg (guard_vf rfl rfl rfl) rfl rfl (q_pev rfl Bt) ?_
    refine rw_qg (guard_ot rfl rfl rfl) rfl rfl (q_pev rfl Bt) ?_
    refine rw_qg (guard_ot rfl rfl rfl) rfl rfl (q_pev rfl Bt) ?_
    refine rw_qg (guard_ot rfl rfl rfl) rfl rfl (q_pev rfl Bt) ?_
    refine rw_qg (guard_vf rfl rfl rfl) rfl rfl (q_pev rfl Bt) ?_
    refine rw_q rfl rfl rfl (q_pev rfl Bt) ?_
    refine Rp rfl rfl rfl rfl ?_
    refine rw_qg (guard_vf rfl rfl rfl) rfl rfl (q_pev rfl Bt) ?_
    refine rw_qg (guard_vf rfl rfl rfl) rfl rfl (q_pev rfl Bt) ?_
    refine rw_qg (guard_vf rfl rfl rfl) rfl rfl (q_pev rfl Bt) ?_
    refine rw_qg (guard_vf rfl rfl rfl) rfl rfl (q_pev rfl Bt) ?_
    refine rw_qg (guard_ot rfl rfl rfl) rfl rfl (q_pev rfl Bt) ?_
    refine rw_qg (guard_ot rfl rfl rfl) rfl rfl (q_pev rfl Bt) ?_
    refine rw_qg (guard_vf rfl rfl rfl) rfl rfl (q_pev rfl Bt) ?_
    refine rw_q rfl rfl rfl (q_pev rfl Bt) ?_
    refine rw_nil ?_
    (repeat refine cw_seq ?_); refine cw_cond (b := ((((((((tree_Under t1 (orangerylaw_at b1 17) (orangerylaw_at c1 17)).2) != 0) || (((tree_Under t1 (orangerylaw_at a1 17) (orangerylaw_at c1 17)).2) != 0)) || (((tree_Under t1 (orangerylaw_at b1 17) (orangerylaw_at a1 17)).2) != 0)) || (((tree_Under t1 (orangerylaw_at a1 17) (orangerylaw_at b1 17)).1 && (tree_Under t1 (orangerylaw_at b1 17) (orangerylaw_at c1 17)).1) && (!((tree_Under t1 (orangerylaw_at a1 17) (orangerylaw_at c1 17)).1)))) || (((tree_Under t1 (orangerylaw_at a1 17) (orangerylaw_at b1 17)).1 && (tree_Under t1 (orangerylaw_at b1 17) (orangerylaw_at a1 17)).1) && ((orangerylaw_at a1 17) != (orangerylaw_at b1 17)))) || (((orangerylaw_at a1 17) == (orangerylaw_at b1 17)) && (!((tree_Under t1 (orangerylaw_at a1 17) (orangerylaw_at b1 17)).1))))) rfl rfl (fun hc2 => ?_) (fun hc2 => ?_)
    · skip
      (repeat refine cw_seq ?_); refine cw_region ?_
      refine Rp rfl rfl rfl rfl ?_
      refine rw_nil ?_
      (repeat refine cw_seq ?_)
      have hr2 : (orangerylaw_TreeOrder t1 a1 b1 c1) = false := by simp only [orangerylaw_TreeOrder, hc1, hc2, cond_true, cond_false]
      refine cw_ret ?_
      rw [hr2]
      exact ⟨(), _, (.cons (.tmp rfl) .nil), rfl, Sm, .nil _, .nil _⟩
    · skip
      (repeat refine cw_seq ?_); refine cw_skip ?_
      (repeat refine cw_seq ?_); refine cw_region ?_
      refine Rp rfl rfl rfl rfl ?_
      refine rw_nil ?_
      (repeat refine cw_seq ?_); refine cw_region ?_
      refine Rp rfl rfl rfl rfl ?_
      refine rw_nil ?_
      (repeat refine cw_seq ?_); refine cw_block ?_
      (repeat refine cw_seq ?_); refine cw_loopS [4, 8] [true] (fun (i_ : Nat × Nat) => match i_ with | ⟨n1, n2⟩ => [(16, .v (.int .i64 (n1 : Int))), (105, .v (.int .i64 (n2 : Int)))]) (fun (i_ : Nat × Nat) => match i_ with | ⟨n1, n2⟩ => []) (fun (i_ : Nat × Nat) => match i_ with | ⟨n1, n2⟩ => []) (fun (i_ : Nat × Nat) => match i_ with | ⟨n1, n2⟩ => []) (fun (i_ : Nat × Nat) => match i_ with | ⟨n1, n2⟩ => (n2 ≤ 17) ∧ (n1 ≤ 15 * n2) ∧ (orangerylaw_TreeOrder_L0 t1 (17 - n2) n2 n1) = (orangerylaw_TreeOrder t1 a1 b1 c1)) (fun (i_ : Nat × Nat) => match i_ with | ⟨n1, n2⟩ => 17 - n2) ⟨0, 0⟩ (.cons rfl (.cons rfl (.nil _))) (.keep (.nil)) ⟨(Nat.zero_le _), (by first | exact Nat.le_refl _ | exact Nat.zero_le _ | omega), (by simp only [orangerylaw_TreeOrder, hc1, hc2, cond_true, cond_false] : (orangerylaw_TreeOrder t1 a1 b1 c1) = (orangerylaw_TreeOrder_L0 t1 (17 - 0) 0 0)).symm⟩ Le4 ?_
      rintro ⟨n1, n2⟩ ⟨hkn2, hnk, hf1⟩
      simp only [List.cons_append, List.nil_append]
      (repeat refine cw_seq ?_); refine cw_region ?_
      refine Rp rfl rfl rfl rfl ?_
      refine rw_nil ?_
      (repeat refine cw_seq ?_); refine cw_cond (b := decide ((n2 : Int) < 17)) rfl rfl (fun hc3 => ?_) (fun hc3 => ?_)
      · skip
        have hlt0 : n2 < 17 := by have := of_decide_eq_true hc3; omega
        have hlt0_ : 17 - n2 = (17 - (n2 + 1)) + 1 := by omega
        (repeat refine cw_seq ?_); refine cw_skip ?_
        (repeat refine cw_seq ?_); refine cw_block ?_
        (repeat refine cw_seq ?_); refine cw_region ?_
        refine Rp rfl rfl rfl rfl ?_
        refine Rp rfl rfl rfl rfl ?_
        refine rw_nil ?_
        (repeat refine cw_seq ?_); refine cw_region ?_
        refine rw_q rfl rfl rfl (q_ldA rfl rfl (fun _ => rfl) rfl Mm rfl) ?_
        refine Rp rfl rfl rfl rfl ?_
        refine rw_call (tree_Kids_spec y1 t1 (n2 : Int)) .sq (guard_none rfl) rfl rfl rfl Kr rfl rfl Sm ?_
        intro x1
        refine rw_pure (φ := ((tree_Kids t1 (n2 : Int)).1).length * 24 ≤ 140737488355328) [RdL EPlace x1 ((tree_Kids t1 (n2 : Int)).1)] Sm (fun M w h => (allF1 h).len) fun hlen2 => ?_
        refine Rp rfl rfl rfl rfl ?_
        refine Rp rfl rfl rfl rfl ?_
        refine Rp rfl rfl rfl rfl ?_
        refine Rp rfl rfl rfl rfl ?_
        refine Rp rfl rfl rfl rfl ?_
        refine rw_nil ?_
        (repeat refine cw_seq ?_); refine cw_region ?_
        refine Rp rfl rfl rfl rfl ?_
        refine Rp rfl rfl rfl rfl ?_
        refine rw_nil ?_
        (repeat refine cw_seq ?_); refine cw_cond (b := (((tree_Kids t1 (n2 : Int)).2) != 0)) rfl rfl (fun hc4 => ?_) (fun hc4 => ?_)
        · skip
          have hc4p := bne_iff_ne.1 hc4
          (repeat refine cw_seq ?_); refine cw_region ?_
          refine Rp rfl rfl rfl rfl ?_
          refine rw_nil ?_
          (repeat refine cw_seq ?_)
          have hr3 : (orangerylaw_TreeOrder t1 a1 b1 c1) = false := by rw [← hf1]; (conv => lhs; rw [hlt0_]); simp only [orangerylaw_TreeOrder_L0, hc4, cond_true, cond_false]
          refine cw_ret ?_
          rw [hr3]
          exact ⟨(), _, (.cons (.tmp rfl) .nil), rfl, Sm, .nil _, .nil _⟩
        · skip
          have hc4p := eq_of_bne_false hc4
          (repeat refine cw_seq ?_); refine cw_skip ?_
          (repeat refine cw_seq ?_); refine cw_region ?_
          refine Rp rfl rfl rfl rfl ?_
          refine Rp rfl rfl rfl rfl ?_
          refine Rp rfl rfl rfl rfl ?_
          refine rw_nil ?_
          (repeat refine cw_seq ?_); refine cw_block ?_
          (repeat refine cw_seq ?_); refine cw_loopS [4, 8, 16, 17, 18, 19, 105, 106, 107, 108, 109, 110, 111, 112, 113, 114, 115, 116, 117] [true] (fun (n3 : Nat) => [(118, .v (.int .i64 (n3 : Int)))]) (fun (n3 : Nat) => []) (fun (n3 : Nat) => []) (fun (n3 : Nat) => []) (fun (n3 : Nat) => (n3 ≤ ((tree_Kids t1 (n2 : Int)).1).length) ∧ (orangerylaw_TreeOrder_L1 t1 n2 ((orangerylaw_TreeOrder_L0 t1 (17 - (n2 + 1)) (n2 + 1) (n1 + ((tree_Kids t1 (n2 : Int)).1).length))) (((tree_Kids t1 (n2 : Int)).1).drop n3)) = (orangerylaw_TreeOrder t1 a1 b1 c1)) (fun (n3 : Nat) => ((tree_Kids t1 (n2 : Int)).1).length - n3) 0 (.cons rfl (.cons rfl (.cons rfl (.cons rfl (.cons rfl (.cons rfl (.cons rfl (.cons rfl (.cons rfl (.cons rfl (.cons rfl (.cons rfl (.cons rfl (.cons rfl (.cons rfl (.cons rfl (.cons rfl (.cons rfl (.cons rfl (.nil _)))))))))))))))))))) (.keep (.nil)) ⟨Nat.zero_le _, (by rw [← hf1]; (conv => lhs; rw [hlt0_]); simp only [orangerylaw_TreeOrder_L0, hc4, cond_true, cond_false] : (orangerylaw_TreeOrder t1 a1 b1 c1) = (orangerylaw_TreeOrder_L1 t1 n2 ((orangerylaw_TreeOrder_L0 t1 (17 - (n2 + 1)) (n2 + 1) (n1 + ((tree_Kids t1 (n2 : Int)).1).length))) ((tree_Kids t1 (n2 : Int)).1))).symm⟩ Le4 ?_
          rintro n3 ⟨hkn3, hf2⟩
          simp only [List.cons_append, List.nil_append]
          (repeat refine cw_seq ?_); refine cw_region ?_
          refine Rp rfl rfl rfl rfl ?_
          refine rw_nil ?_
          (repeat refine cw_seq ?_); refine cw_cond (b := decide ((n3 : Int) < (((tree_Kids t1 (n2 : Int)).1).length : Int))) rfl rfl (fun hc5 => ?_) (fun hc5 => ?_)
          · skip
            have hlt1 : n3 < ((tree_Kids t1 (n2 : Int)).1).length := Int.ofNat_lt.1 (of_decide_eq_true hc5)
            (repeat refine cw_seq ?_); refine cw_skip ?_
            (repeat refine cw_seq ?_); refine cw_block ?_
            (repeat refine cw_seq ?_); refine cw_region ?_
            refine rw_q rfl rfl rfl (q_idx EPlace n3 rfl rfl (fun _ => rfl) rfl (fun _ => rfl) rfl rfl rfl Mm rfl (fun _ => rfl) (fun _ => by first | assumption | omega)) ?_
            refine rw_q rfl rfl rfl (q_leA EPlace rfl rfl (fun _ => rfl) rfl rfl Mm (fun _ => by first | assumption | omega)) ?_
            refine rw_alloc .sq (guard_none rfl) rfl rfl rfl rfl fun g2 => ?_
            refine rw_stA .sq (.inl ⟨_, rfl⟩) (guard_none rfl) rfl rfl rfl rfl rfl rfl rfl rfl rfl Ub rfl ?_
            refine rw_nil ?_
            (repeat refine cw_seq ?_); refine cw_region ?_
            refine rw_q rfl rfl rfl (q_ldA rfl rfl (fun _ => rfl) rfl Mm rfl) ?_
            refine Rp rfl rfl rfl rfl ?_
            refine rw_q rfl rfl rfl (q_ld1 rfl rfl (fun _ => rfl) rfl Mm rfl) ?_
            refine Rp rfl rfl rfl rfl ?_
            refine rw_call (tree_Under_spec y1 t1 ((gt ((tree_Kids t1 (n2 : Int)).1) n3).node) (n2 : Int)) .sq (guard_none rfl) rfl rfl rfl Kr rfl rfl Sm ?_
            intro _
            refine Rp rfl rfl rfl rfl ?_
            refine Rp rfl rfl rfl rfl ?_
            refine Rp rfl rfl rfl rfl ?_
            refine Rp rfl rfl rfl rfl ?_
            refine Rp rfl rfl rfl rfl ?_
            refine rw_nil ?_
            (repeat refine cw_seq ?_); refine cw_regionA (fun _ => some []) ?_
            refine ra_q (.ab (i := 0) (js := []) [1, 2, 3, 4, 5, 6, 7, 8, 9, 10, 11, 12, 13] rfl Kr Kr Kr Kr Kr) (SplitB.all _) (by simp) rfl rfl rfl (q_pev rfl (fun _ => rfl)) ?_
            refine ra_q (.ab (i := 1) (js := []) [2, 3, 4, 5, 6, 7, 8, 9, 10, 11, 12, 13] rfl Kr Kr Kr Kr Kr) (SplitB.all _) (by simp) rfl rfl rfl (q_pev rfl (fun _ => rfl)) ?_
            refine ra_q (.ab (i := 2) (js := []) [3, 4, 5, 6, 7, 8, 9, 10, 11, 12, 13] rfl Kr Kr Kr Kr Kr) (SplitB.all _) (by simp) rfl rfl rfl (q_pev rfl (fun _ => rfl)) ?_
            refine ra_qg (.ab (i := 3) (js := []) [4, 5, 6, 7, 8, 9, 10, 11, 12, 13] rfl Kr Kr Kr Kr Kr) (SplitB.all _) (by simp) (guard_vf rfl rfl rfl) rfl rfl (q_pev rfl Bt) ?_
            refine ra_qg (.ab (i := 4) (js := []) [5, 6, 7, 8, 9, 10, 11, 12, 13] rfl Kr Kr Kr Kr Kr) (SplitB.all _) (by simp) (guard_vf rfl rfl rfl) rfl rfl (q_pev rfl Bt) ?_
            refine ra_q (.ab (i := 5) (js := []) [6, 7, 8, 9, 10, 11, 12, 13] rfl Kr Kr Kr Kr Kr) (SplitB.all _) (by simp) rfl rfl rfl (q_pev rfl Bt) ?_
            refine ra_q (.an (i := 6) (js := []) rfl Kr Kr Kr Kr) (SplitB.all _) (by simp) rfl rfl rfl (q_pev rfl (fun _ => rfl)) ?_
            refine ra_qg (.ab (i := 7) (js := [8, 9, 11]) [10, 12, 13] rfl Kr Kr Kr Kr Kr) (SplitB.all _) (by simp) (guard_vf rfl rfl rfl) rfl rfl (q_ldA rfl rfl Bt rfl Mm rfl) ?_
            refine ra_qg (.ab (i := 8) (js := [11]) [9, 10, 12, 13] rfl Kr Kr Kr Kr Kr) (SplitB.all _) (by simp) (guard_vf rfl rfl rfl) rfl rfl (q_pev rfl Bt) ?_
            refine ra_qg (.ab (i := 9) (js := [11]) [10, 12, 13] rfl Kr Kr Kr Kr Kr) (SplitB.all _) (by simp) (guard_vf rfl rfl rfl) rfl rfl (q_ld1 rfl rfl Bt rfl Mm rfl) ?_
            refine ra_qg (.ab (i := 11) (js := [10]) [12, 13] rfl Kr Kr Kr Kr Kr) (SplitB.all _) (by simp) (guard_vf rfl rfl rfl) rfl rfl (q_ldA rfl rfl Bt rfl Mm rfl) ?_
            refine ra_one 10 Kr ?_
            refine rw_callg (fun hG_ => tree_Find_spec y1 t1 ((gt ((tree_Kids t1 (n2 : Int)).1) n3).node)) (fun _ => rfl) (.an rfl rfl) (guard_vf rfl rfl rfl) rfl rfl rfl Kr rfl Bt Sm ?_
            refine ra_qg (.an (i := 12) (js := []) rfl Kr Kr Kr Kr) (SplitB.all _) (by simp) (guard_vf rfl rfl rfl) rfl rfl (q_neE eqT_Place (flatEq_Place (tree_Find t1 ((gt ((tree_Kids t1 (n2 : Int)).1) n3).node)) (gt ((tree_Kids t1 (n2 : Int)).1) n3)) rfl rfl Bt rfl Bt rfl rfl) ?_
            refine ra_q (.an (i := 13) (js := []) rfl Kr Kr Kr Kr) (SplitB.all _) (by simp) rfl rfl rfl (q_pev rfl Bt) ?_
            refine ra_nil Kr ?_
            (repeat refine cw_seq ?_); refine cw_cond (b := (((((tree_Under t1 ((gt ((tree_Kids t1 (n2 : Int)).1) n3).node) (n2 : Int)).2) != 0) || (!((tree_Under t1 ((gt ((tree_Kids t1 (n2 : Int)).1) n3).node) (n2 : Int)).1))) || (!(decide ((tree_Find t1 ((gt ((tree_Kids t1 (n2 : Int)).1) n3).node)) = (gt ((tree_Kids t1 (n2 : Int)).1) n3)))))) rfl rfl (fun hc6 => ?_) (fun hc6 => ?_)
            · skip
              (repeat refine cw_seq ?_); refine cw_region ?_
              refine Rp rfl rfl rfl rfl ?_
              refine rw_nil ?_
              (repeat refine cw_seq ?_)
              have hr4 : (orangerylaw_TreeOrder t1 a1 b1 c1) = false := by rw [← hf2, drop_gt hlt1]; simp only [orangerylaw_TreeOrder_L1, hc6, cond_true, cond_false]
              refine cw_ret ?_
              rw [hr4]
              exact ⟨(), _, (.cons (.tmp rfl) .nil), rfl, Sm, .nil _, .nil _⟩
            · skip
              (repeat refine cw_seq ?_); refine cw_skip ?_
              (repeat refine cw_seq ?_); refine cw_region ?_
              refine rw_q rfl rfl rfl (q_add rfl rfl (fun _ => rfl) rfl (fun _ => rfl) (fun _ => by (have := tree_Kids_len t1 (n2 : Int); omega))) ?_
              refine Rp rfl rfl rfl rfl ?_
              refine rw_nil ?_
              refine ⟨(n3 + 1), ⟨hlt1, (by rw [← hf2, drop_gt hlt1]; simp only [orangerylaw_TreeOrder_L1, hc6, cond_true, cond_false] : (orangerylaw_TreeOrder t1 a1 b1 c1) = (orangerylaw_TreeOrder_L1 t1 n2 ((orangerylaw_TreeOrder_L0 t1 (17 - (n2 + 1)) (n2 + 1) (n1 + ((tree_Kids t1 (n2 : Int)).1).length))) (((tree_Kids t1 (n2 : Int)).1).drop (n3 + 1)))).symm⟩, (by simp only []; omega), Le4⟩
          · skip
            have hge1 : ((tree_Kids t1 (n2 : Int)).1).length ≤ n3 := by have := of_decide_eq_false hc5; omega
            (repeat refine cw_seq ?_); refine cw_exit ?_
            (repeat refine cw_seq ?_); refine cw_region ?_
            refine Rp rfl rfl rfl rfl ?_
            refine Rp rfl rfl rfl rfl ?_
            refine Rp rfl rfl rfl rfl ?_
            refine rw_q rfl rfl rfl (q_add rfl rfl (fun _ => rfl) rfl (fun _ => rfl) (fun _ => by (have := tree_Kids_len t1 (n2 : Int); omega))) ?_
            refine Rp rfl rfl rfl rfl ?_
            refine rw_nil ?_
            (repeat refine cw_seq ?_); refine cw_region ?_
            refine rw_q rfl rfl rfl (q_add rfl rfl (fun _ => rfl) rfl (fun _ => rfl) (fun _ => by (have := tree_Kids_len t1 (n2 : Int); omega))) ?_
            refine Rp rfl rfl rfl rfl ?_
            refine rw_nil ?_
            refine ⟨⟨(n1 + ((tree_Kids t1 (n2 : Int)).1).length), (n2 + 1)⟩, ⟨hlt0, (by have := tree_Kids_len t1 (n2 : Int); omega), (by rw [← hf2, List.drop_of_length_le hge1]; simp only [orangerylaw_TreeOrder_L1, cond_true, cond_false] : (orangerylaw_TreeOrder t1 a1 b1 c1) = (orangerylaw_TreeOrder_L0 t1 (17 - (n2 + 1)) (n2 + 1) (n1 + ((tree_Kids t1 (n2 : Int)).1).length))).symm⟩, (by simp only []; omega), Le4⟩
      · skip
        have hge0 : 17 ≤ n2 := by have := of_decide_eq_false hc3; omega
        have hge0_ : 17 - n2 = 0 := by omega
        (repeat refine cw_seq ?_); refine cw_exit ?_
        (repeat refine cw_seq ?_); refine cw_region ?_
        refine Rp rfl rfl rfl rfl ?_
        refine Rp rfl rfl rfl rfl ?_
        refine rw_q rfl rfl rfl (q_ld1 rfl rfl (fun _ => rfl) rfl Mm rfl) ?_
        refine Rp rfl rfl rfl rfl ?_
        refine Rp rfl rfl rfl rfl ?_
        refine Rp rfl rfl rfl rfl ?_
        refine rw_nil ?_
        (repeat refine cw_seq ?_)
        have hr5 : (orangerylaw_TreeOrder t1 a1 b1 c1) = ((n1 : Int) == (t1.length : Int)) := by rw [← hf1, hge0_]; simp only [orangerylaw_TreeOrder_L0, cond_true, cond_false]
        refine cw_ret ?_
        rw [hr5]
        exact ⟨(), _, (.cons (.tmp rfl) .nil), rfl, Sm, .nil _, .nil _⟩
end Go.Proofs.Ytchdacbjiomplaa
