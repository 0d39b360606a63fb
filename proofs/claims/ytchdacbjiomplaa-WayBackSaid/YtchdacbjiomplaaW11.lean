/- Part of this claim. No condition. -/
import Derived.Test.YtchdacbjiomplaaW10
set_option linter.unusedVariables false
set_option linter.unusedSimpArgs false
namespace Go.Proofs.Ytchdacbjiomplaa
open Go Go.Proofs.Ytchdacbjiomplaa.Fw Go.Proofs
def view_Roots_L0 (l1 : List Int) : List Int → Nat → Int
  | [], n1 => 0
  | pn1 :: rn1, n1 => (bif (decide (pn1 < 0) || decide (pn1 > 16)) then 5 else (bif (decide ((n1 : Int) > 0) && decide ((gt l1 (n1 - 1)) ≥ pn1)) then 6 else (view_Roots_L0 l1 rn1 (n1 + 1))))
def view_Roots (l1 : List Int) : Int :=
  (bif decide ((l1.length : Int) > 4) then 2 else (view_Roots_L0 l1 l1 0))
theorem view_Roots_spec (y1 : SlV) (l1 : List Int) : Does Try.prog 44 [y1.val l1.length] [RdL EInt y1 l1] (fun (_ : Unit) => .int .i64 (view_Roots l1)) (fun (_ : Unit) => []) := by
  refine does_of tab_ok Try.func44 rfl Try.ntmps44 Try.results44 rfl inferInstance (fun _ => inferInstance) fun C => ?_
  refine cw_pure (φ := l1.length * 8 ≤ 140737488355328) [RdL EInt y1 l1] Sm (fun M w h => (allF1 h).len) fun hlen1 => ?_
  (repeat refine cw_seq ?_); refine cw_region ?_
  refine Rp rfl rfl rfl rfl ?_
  refine rw_nil ?_
  (repeat refine cw_seq ?_); refine cw_region ?_
  refine Rp rfl rfl rfl rfl ?_
  refine Rp rfl rfl rfl rfl ?_
  refine Rp rfl rfl rfl rfl ?_
  refine rw_nil ?_
  (repeat refine cw_seq ?_); refine cw_cond (b := decide ((l1.length : Int) > 4)) rfl rfl (fun hc1 => ?_) (fun hc1 => ?_)
  · skip
    have hc1p := of_decide_eq_true hc1
    (repeat refine cw_seq ?_); refine cw_region ?_
    refine Rp rfl rfl rfl rfl ?_
    refine rw_nil ?_
    (repeat refine cw_seq ?_)
    have hr1 : (view_Roots l1) = 2 := by simp only [view_Roots, hc1, cond_true, cond_false]
    refine cw_ret ?_
    rw [hr1]
    exact ⟨(), _, (.cons (.tmp rfl) .nil), rfl, Sm, .nil _, .nil _⟩
  · skip
    have hc1p := of_decide_eq_false hc1
    (repeat refine cw_seq ?_); refine cw_skip ?_
    (repeat refine cw_seq ?_); refine cw_region ?_
    refine Rp rfl rfl rfl rfl ?_
    refine Rp rfl rfl rfl rfl ?_
    refine Rp rfl rfl rfl rfl ?_
    refine rw_nil ?_
    (repeat refine cw_seq ?_); refine cw_block ?_
    (repeat refine cw_seq ?_); refine cw_loopS [0, 2, 8, 9] [] (fun (n1 : Nat) => [(10, .v (.int .i64 (n1 : Int)))]) (fun (n1 : Nat) => []) (fun (n1 : Nat) => []) (fun (n1 : Nat) => []) (fun (n1 : Nat) => (n1 ≤ l1.length) ∧ (view_Roots_L0 l1 (l1.drop n1) n1) = (view_Roots l1)) (fun (n1 : Nat) => l1.length - n1) 0 (.cons rfl (.cons rfl (.cons rfl (.cons rfl (.nil _))))) (.nil) ⟨Nat.zero_le _, (by simp only [view_Roots, hc1, cond_true, cond_false] : (view_Roots l1) = (view_Roots_L0 l1 l1 0)).symm⟩ Le4 ?_
    rintro n1 ⟨hkn1, hf1⟩
    simp only [List.cons_append, List.nil_append]
    (repeat refine cw_seq ?_); refine cw_region ?_
    refine Rp rfl rfl rfl rfl ?_
    refine rw_nil ?_
    (repeat refine cw_seq ?_); refine cw_cond (b := decide ((n1 : Int) < (l1.length : Int))) rfl rfl (fun hc2 => ?_) (fun hc2 => ?_)
    · skip
      have hlt0 : n1 < l1.length := Int.ofNat_lt.1 (of_decide_eq_true hc2)
      (repeat refine cw_seq ?_); refine cw_skip ?_
      (repeat refine cw_seq ?_); refine cw_block ?_
      (repeat refine cw_seq ?_); refine cw_region ?_
      refine Rp rfl rfl rfl rfl ?_
      refine rw_q rfl rfl rfl (q_idx EInt n1 rfl rfl (fun _ => rfl) rfl (fun _ => rfl) rfl rfl rfl Mm rfl (fun _ => rfl) (fun _ => by first | assumption | omega)) ?_
      refine rw_q rfl rfl rfl (q_le1 EInt rfl rfl (fun _ => rfl) rfl rfl Mm (fun _ => by first | assumption | omega) rfl) ?_
      refine Rp rfl rfl rfl rfl ?_
      refine Rp rfl rfl rfl rfl ?_
      refine rw_nil ?_
      (repeat refine cw_seq ?_); refine cw_region ?_
      refine Rp rfl rfl rfl rfl ?_
      refine Rp rfl rfl rfl rfl ?_
      refine Rp rfl rfl rfl rfl ?_
      refine rw_qg (guard_vf rfl rfl rfl) rfl rfl (q_pev rfl Bt) ?_
      refine rw_qg (guard_vf rfl rfl rfl) rfl rfl (q_pev rfl Bt) ?_
      refine rw_q rfl rfl rfl (q_pev rfl Bt) ?_
      refine rw_nil ?_
      (repeat refine cw_seq ?_); refine cw_cond (b := (decide ((gt l1 n1) < 0) || decide ((gt l1 n1) > 16))) rfl rfl (fun hc3 => ?_) (fun hc3 => ?_)
      · skip
        (repeat refine cw_seq ?_); refine cw_region ?_
        refine Rp rfl rfl rfl rfl ?_
        refine rw_nil ?_
        (repeat refine cw_seq ?_)
        have hr2 : (view_Roots l1) = 5 := by rw [← hf1, drop_gt hlt0]; simp only [view_Roots_L0, hc3, cond_true, cond_false]
        refine cw_ret ?_
        rw [hr2]
        exact ⟨(), _, (.cons (.tmp rfl) .nil), rfl, Sm, .nil _, .nil _⟩
      · skip
        (repeat refine cw_seq ?_); refine cw_skip ?_
        (repeat refine cw_seq ?_); refine cw_region ?_
        refine Rp rfl rfl rfl rfl ?_
        refine Rp rfl rfl rfl rfl ?_
        refine Rp rfl rfl rfl rfl ?_
        refine rw_qg (guard_vt rfl rfl rfl) rfl rfl (q_pev rfl Bt) ?_
        refine rw_qg (guard_vt rfl rfl rfl) rfl rfl (q_pev rfl Bt) ?_
        refine rw_qg (guard_vt rfl rfl rfl) rfl rfl (q_sub rfl rfl Bt rfl Bt (by intro h; first | omega | (simp at h; omega))) ?_
        refine rw_qg (guard_vt rfl rfl rfl) rfl rfl (q_idx EInt (n1 - 1) rfl rfl Bt rfl Bt rfl rfl rfl Mm rfl (by intro h; first | omega | rfl | (simp at h; omega)) (by first | (intro _; first | assumption | omega) | (intro h; simp at h; omega))) ?_
        refine rw_qg (guard_vt rfl rfl rfl) rfl rfl (q_le1 EInt rfl rfl Bt rfl rfl Mm (by first | (intro _; first | assumption | omega) | (intro h; simp at h; omega)) rfl) ?_
        refine rw_qg (guard_vt rfl rfl rfl) rfl rfl (q_pev rfl Bt) ?_
        refine rw_qg (guard_vt rfl rfl rfl) rfl rfl (q_pev rfl Bt) ?_
        refine rw_q rfl rfl rfl (q_pev rfl Bt) ?_
        refine rw_nil ?_
        (repeat refine cw_seq ?_); refine cw_cond (b := (decide ((n1 : Int) > 0) && decide ((gt l1 (n1 - 1)) ≥ (gt l1 n1)))) rfl rfl (fun hc4 => ?_) (fun hc4 => ?_)
        · skip
          (repeat refine cw_seq ?_); refine cw_region ?_
          refine Rp rfl rfl rfl rfl ?_
          refine rw_nil ?_
          (repeat refine cw_seq ?_)
          have hr3 : (view_Roots l1) = 6 := by rw [← hf1, drop_gt hlt0]; simp only [view_Roots_L0, hc3, hc4, cond_true, cond_false]
          refine cw_ret ?_
          rw [hr3]
          exact ⟨(), _, (.cons (.tmp rfl) .nil), rfl, Sm, .nil _, .nil _⟩
        · skip
          (repeat refine cw_seq ?_); refine cw_skip ?_
          (repeat refine cw_seq ?_); refine cw_region ?_
          refine rw_q rfl rfl rfl (q_add rfl rfl (fun _ => rfl) rfl (fun _ => rfl) (fun _ => by omega)) ?_
          refine Rp rfl rfl rfl rfl ?_
          refine rw_nil ?_
          refine ⟨(n1 + 1), ⟨hlt0, (by rw [← hf1, drop_gt hlt0]; simp only [view_Roots_L0, hc3, hc4, cond_true, cond_false] : (view_Roots l1) = (view_Roots_L0 l1 (l1.drop (n1 + 1)) (n1 + 1))).symm⟩, (by simp only []; omega), Le4⟩
    · skip
      have hge0 : l1.length ≤ n1 := by have := of_decide_eq_false hc2; omega
      (repeat refine cw_seq ?_); refine cw_exit ?_
      (repeat refine cw_seq ?_); refine cw_region ?_
      refine Rp rfl rfl rfl rfl ?_
      refine rw_nil ?_
      (repeat refine cw_seq ?_)
      have hr4 : (view_Roots l1) = 0 := by rw [← hf1, List.drop_of_length_le hge0]; simp only [view_Roots_L0, cond_true, cond_false]
      refine cw_ret ?_
      rw [hr4]
      exact ⟨(), _, (.cons (.tmp rfl) .nil), rfl, Sm, .nil _, .nil _⟩

def view_below_1 (r1 : Int) (t1 : List Place) (node1 : Int) : Bool :=
  (tree_Stands t1 node1 r1)
theorem view_below_1_spec (r1 : Int) (c1 : Nat) (y1 : SlV) (t1 : List Place) (c2 : Nat) (node1 : Int) : Does Try.prog 182 [.int .i64 r1, .pointer (some ⟨c1, 0, none⟩), .pointer (some ⟨c2, 0, none⟩)] [VarP c1 [y1.val t1.length], RdL EPlace y1 t1, VarP c2 [.int .i64 node1]] (fun (_ : Unit) => .bool (view_below_1 r1 t1 node1)) (fun (_ : Unit) => []) := by
  refine does_of tab_ok Try.func182 rfl Try.ntmps182 Try.results182 rfl inferInstance (fun _ => inferInstance) fun C => ?_
  (repeat refine cw_seq ?_); refine cw_region ?_
  refine Rp rfl rfl rfl rfl ?_
  refine rw_nil ?_
  (repeat refine cw_seq ?_); refine cw_region ?_
  refine rw_q rfl rfl rfl (q_lfA rfl rfl (fun _ => rfl) rfl Mm rfl) ?_
  refine rw_q rfl rfl rfl (q_lf1 rfl rfl (fun _ => rfl) rfl Mm rfl) ?_
  refine Rp rfl rfl rfl rfl ?_
  refine rw_call (tree_Stands_spec y1 t1 node1 r1) .sq (guard_none rfl) rfl rfl rfl Kr rfl rfl Sm ?_
  intro _
  refine Rp rfl rfl rfl rfl ?_
  refine rw_nil ?_
  (repeat refine cw_seq ?_)
  have hr1 : (view_below_1 r1 t1 node1) = (tree_Stands t1 node1 r1) := by simp only [view_below_1, cond_true, cond_false]
  refine cw_ret ?_
  rw [hr1]
  exact ⟨(), _, (.cons (.tmp rfl) .nil), rfl, Sm, .nil _, .nil _⟩

def view_above_1 (r1 : Int) (node1 : Int) (t1 : List Place) : Bool :=
  ((r1 != node1) && (tree_Stands t1 r1 node1))
theorem view_above_1_spec (r1 : Int) (c1 : Nat) (node1 : Int) (c2 : Nat) (y1 : SlV) (t1 : List Place) : Does Try.prog 183 [.int .i64 r1, .pointer (some ⟨c1, 0, none⟩), .pointer (some ⟨c2, 0, none⟩)] [VarP c1 [.int .i64 node1], VarP c2 [y1.val t1.length], RdL EPlace y1 t1] (fun (_ : Unit) => .bool (view_above_1 r1 node1 t1)) (fun (_ : Unit) => []) := by
  refine does_of tab_ok Try.func183 rfl Try.ntmps183 Try.results183 rfl inferInstance (fun _ => inferInstance) fun C => ?_
  (repeat refine cw_seq ?_); refine cw_region ?_
  refine Rp rfl rfl rfl rfl ?_
  refine rw_nil ?_
  (repeat refine cw_seq ?_); refine cw_region ?_
  refine Rp rfl rfl rfl rfl ?_
  refine rw_q rfl rfl rfl (q_lf1 rfl rfl (fun _ => rfl) rfl Mm rfl) ?_
  refine Rp rfl rfl rfl rfl ?_
  refine Rp rfl rfl rfl rfl ?_
  refine rw_qg (guard_vt rfl rfl rfl) rfl rfl (q_lfA rfl rfl Bt rfl Mm rfl) ?_
  refine rw_qg (guard_vt rfl rfl rfl) rfl rfl (q_pev rfl Bt) ?_
  refine rw_qg (guard_vt rfl rfl rfl) rfl rfl (q_lf1 rfl rfl Bt rfl Mm rfl) ?_
  refine rw_callg (fun hG_ => tree_Stands_spec y1 t1 r1 node1) (fun _ => rfl) .sq (guard_vt rfl rfl rfl) rfl rfl rfl Kr rfl Bt Sm ?_
  refine rw_q rfl rfl rfl (q_pev rfl Bt) ?_
  refine Rp rfl rfl rfl rfl ?_
  refine rw_nil ?_
  (repeat refine cw_seq ?_)
  have hr1 : (view_above_1 r1 node1 t1) = ((r1 != node1) && (tree_Stands t1 r1 node1)) := by simp only [view_above_1, cond_true, cond_false]
  refine cw_ret ?_
  rw [hr1]
  exact ⟨(), _, (.cons (.tmp rfl) .nil), rfl, Sm, .nil _, .nil _⟩

def view_below (t1 : List Place) (node1 : Int) (roots1 : List Int) : Bool :=
  (roots1.any (fun a0_ => view_below_1 a0_ t1 node1))
theorem view_below_spec (y1 : SlV) (t1 : List Place) (node1 : Int) (y2 : SlV) (roots1 : List Int) : Does Try.prog 130 [.agg ⟨[y1.val t1.length]⟩, .int .i64 node1, y2.val roots1.length] [RdL EPlace y1 t1, RdL EInt y2 roots1] (fun (_ : Unit) => .bool (view_below t1 node1 roots1)) (fun (_ : Unit) => []) := by
  refine does_of tab_ok Try.func130 rfl Try.ntmps130 Try.results130 rfl inferInstance (fun _ => inferInstance) fun C => ?_
  refine cw_pure (φ := t1.length * 24 ≤ 140737488355328) [RdL EPlace y1 t1] Sm (fun M w h => (allF1 h).len) fun hlen1 => ?_
  refine cw_pure (φ := roots1.length * 8 ≤ 140737488355328) [RdL EInt y2 roots1] Sm (fun M w h => (allF1 h).len) fun hlen2 => ?_
  (repeat refine cw_seq ?_); refine cw_region ?_
  refine rw_box_agg .sq (guard_none rfl) rfl rfl rfl rfl rfl fun g1 => ?_
  refine rw_box (cs := [_]) .sq (guard_none rfl) rfl rfl rfl rfl rfl rfl fun g2 => ?_
  refine Rp rfl rfl rfl rfl ?_
  refine rw_nil ?_
  (repeat refine cw_seq ?_); refine cw_region ?_
  refine Rp rfl rfl rfl rfl ?_
  refine Rp rfl rfl rfl rfl ?_
  refine rw_le (le_var (g := g1) Pk) ?_
  refine rw_le (le_var (g := g2) Pk) ?_
  refine rw_call (slices_ContainsFunc_int_spec' y2 roots1 _ _ _ (fun a0_ => view_below_1 a0_ t1 node1) Kr (fun a0_ => view_below_1_spec a0_ g1 y1 t1 g2 node1)) .sq (guard_none rfl) rfl rfl rfl Kr rfl rfl Sm ?_
  intro _
  refine Rp rfl rfl rfl rfl ?_
  refine rw_nil ?_
  (repeat refine cw_seq ?_)
  have hr1 : (view_below t1 node1 roots1) = (roots1.any (fun a0_ => view_below_1 a0_ t1 node1)) := by simp only [view_below, cond_true, cond_false]
  refine cw_ret ?_
  rw [hr1]
  exact ⟨(), _, (.cons (.tmp rfl) .nil), rfl, Sm, .nil _, .nil _⟩

def view_above (t1 : List Place) (node1 : Int) (roots1 : List Int) : Bool :=
  (roots1.any (fun a0_ => view_above_1 a0_ node1 t1))
theorem view_above_spec (y1 : SlV) (t1 : List Place) (node1 : Int) (y2 : SlV) (roots1 : List Int) : Does Try.prog 131 [.agg ⟨[y1.val t1.length]⟩, .int .i64 node1, y2.val roots1.length] [RdL EPlace y1 t1, RdL EInt y2 roots1] (fun (_ : Unit) => .bool (view_above t1 node1 roots1)) (fun (_ : Unit) => []) := by
  refine does_of tab_ok Try.func131 rfl Try.ntmps131 Try.results131 rfl inferInstance (fun _ => inferInstance) fun C => ?_
  refine cw_pure (φ := t1.length * 24 ≤ 140737488355328) [RdL EPlace y1 t1] Sm (fun M w h => (allF1 h).len) fun hlen1 => ?_
  refine cw_pure (φ := roots1.length * 8 ≤ 140737488355328) [RdL EInt y2 roots1] Sm (fun M w h => (allF1 h).len) fun hlen2 => ?_
  (repeat refine cw_seq ?_); refine cw_region ?_
  refine rw_box_agg .sq (guard_none rfl) rfl rfl rfl rfl rfl fun g1 => ?_
  refine rw_box (cs := [_]) .sq (guard_none rfl) rfl rfl rfl rfl rfl rfl fun g2 => ?_
  refine Rp rfl rfl rfl rfl ?_
  refine rw_nil ?_
  (repeat refine cw_seq ?_); refine cw_region ?_
  refine Rp rfl rfl rfl rfl ?_
  refine Rp rfl rfl rfl rfl ?_
  refine rw_le (le_var (g := g2) Pk) ?_
  refine rw_le (le_var (g := g1) Pk) ?_
  refine rw_call (slices_ContainsFunc_int_spec' y2 roots1 _ _ _ (fun a0_ => view_above_1 a0_ node1 t1) Kr (fun a0_ => view_above_1_spec a0_ g2 node1 g1 y1 t1)) .sq (guard_none rfl) rfl rfl rfl Kr rfl rfl Sm ?_
  intro _
  refine Rp rfl rfl rfl rfl ?_
  refine rw_nil ?_
  (repeat refine cw_seq ?_)
  have hr1 : (view_above t1 node1 roots1) = (roots1.any (fun a0_ => view_above_1 a0_ node1 t1)) := by simp only [view_above, cond_true, cond_false]
  refine cw_ret ?_
  rw [hr1]
  exact ⟨(), _, (.cons (.tmp rfl) .nil), rfl, Sm, .nil _, .nil _⟩

def view_Of_L0 (t1 : List Place) (roots1 : List Int) : List Place → (List Place) → (List Place) → (View × Int)
  | [], known1, way1 => ((⟨roots1, known1, way1⟩ : View), 0)
  | pn1 :: rn1, known1, way1 => (bif (view_below t1 (pn1.node) roots1) then (view_Of_L0 t1 roots1 rn1 (known1 ++ [pn1]) way1) else (bif (view_above t1 (pn1.node) roots1) then (view_Of_L0 t1 roots1 rn1 known1 (way1 ++ [pn1])) else (view_Of_L0 t1 roots1 rn1 known1 way1)))
def view_Of (t1 : List Place) (roots1 : List Int) : View × Int :=
  (bif ((tree_Check t1) != 0) then ((⟨([] : List Int), ([] : List Place), ([] : List Place)⟩ : View), (tree_Check t1)) else (bif ((view_Roots roots1) != 0) then ((⟨([] : List Int), ([] : List Place), ([] : List Place)⟩ : View), (view_Roots roots1)) else (view_Of_L0 t1 roots1 t1 [] [])))
theorem view_Of_spec (y1 : SlV) (t1 : List Place) (y2 : SlV) (roots1 : List Int) : Does Try.prog 39 [.agg ⟨[y1.val t1.length]⟩, y2.val roots1.length] [RdL EPlace y1 t1, RdL EInt y2 roots1] (fun (X : SlV × SlV × SlV) => .tuple #[.agg ⟨[X.1.val (((view_Of t1 roots1).1).roots).length, X.2.1.val (((view_Of t1 roots1).1).known).length, X.2.2.val (((view_Of t1 roots1).1).way).length]⟩, .int .i64 ((view_Of t1 roots1).2)]) (fun (X : SlV × SlV × SlV) => [RdL EInt X.1 (((view_Of t1 roots1).1).roots), RdL EPlace X.2.1 (((view_Of t1 roots1).1).known), RdL EPlace X.2.2 (((view_Of t1 roots1).1).way)]) := by
  refine does_of tab_ok Try.func39 rfl Try.ntmps39 Try.results39 rfl inferInstance (fun _ => inferInstance) fun C => ?_
  refine cw_pure (φ := t1.length * 24 ≤ 140737488355328) [RdL EPlace y1 t1] Sm (fun M w h => (allF1 h).len) fun hlen1 => ?_
  refine cw_pure (φ := roots1.length * 8 ≤ 140737488355328) [RdL EInt y2 roots1] Sm (fun M w h => (allF1 h).len) fun hlen2 => ?_
  (repeat refine cw_seq ?_); refine cw_region ?_
  refine rw_box_agg .sq (guard_none rfl) rfl rfl rfl rfl rfl fun g1 => ?_
  refine rw_alloc .sq (guard_none rfl) rfl rfl rfl rfl fun g2 => ?_
  refine Rp rfl rfl rfl rfl ?_
  refine rw_nil ?_
  (repeat refine cw_seq ?_); refine cw_region ?_
  refine rw_q rfl rfl rfl (q_ldA rfl rfl (fun _ => rfl) rfl Mm rfl) ?_
  refine rw_call (tree_Check_spec y1 t1) .sq (guard_none rfl) rfl rfl rfl Kr rfl rfl Sm ?_
  intro _
  refine Rp rfl rfl rfl rfl ?_
  refine rw_nil ?_
  (repeat refine cw_seq ?_); refine cw_region ?_
  refine Rp rfl rfl rfl rfl ?_
  refine Rp rfl rfl rfl rfl ?_
  refine rw_nil ?_
  (repeat refine cw_seq ?_); refine cw_cond (b := ((tree_Check t1) != 0)) rfl rfl (fun hc1 => ?_) (fun hc1 => ?_)
  · skip
    have hc1p := bne_iff_ne.1 hc1
    (repeat refine cw_seq ?_); refine cw_region ?_
    refine Rp rfl rfl rfl rfl ?_
    refine Rp rfl rfl rfl rfl ?_
    refine rw_stA .sq (.inl ⟨_, rfl⟩) (guard_none rfl) rfl rfl rfl rfl rfl rfl rfl rfl rfl Ub rfl ?_
    refine Rp rfl rfl rfl rfl ?_
    refine rw_nil ?_
    (repeat refine cw_seq ?_)
    refine cw_fact (F := RdL EInt ⟨none, 0⟩ ([] : List Int)) [] (.nil _) (fun M w _ => RdL.nil _ _ _ (by omega) M w) ?_
    refine cw_fact (F := RdL EPlace ⟨none, 0⟩ ([] : List Place)) [] (.nil _) (fun M w _ => RdL.nil _ _ _ (by omega) M w) ?_
    have hr1 : (view_Of t1 roots1) = ((⟨([] : List Int), ([] : List Place), ([] : List Place)⟩ : View), (tree_Check t1)) := by simp only [view_Of, hc1, cond_true, cond_false]
    refine cw_ret ?_
    rw [hr1]
    exact ⟨⟨(⟨none, 0⟩ : SlV), (⟨none, 0⟩ : SlV), (⟨none, 0⟩ : SlV)⟩, _, (.cons (.agg rfl rfl Mm rfl) (.cons (.tmp rfl) .nil)), rfl, Sm, .nil _, .nil _⟩
  · skip
    have hc1p := eq_of_bne_false hc1
    (repeat refine cw_seq ?_); refine cw_skip ?_
    (repeat refine cw_seq ?_); refine cw_region ?_
    refine Rp rfl rfl rfl rfl ?_
    refine rw_call (view_Roots_spec y2 roots1) .sq (guard_none rfl) rfl rfl rfl Kr rfl rfl Sm ?_
    intro _
    refine Rp rfl rfl rfl rfl ?_
    refine rw_nil ?_
    (repeat refine cw_seq ?_); refine cw_region ?_
    refine Rp rfl rfl rfl rfl ?_
    refine Rp rfl rfl rfl rfl ?_
    refine rw_nil ?_
    (repeat refine cw_seq ?_); refine cw_cond (b := ((view_Roots roots1) != 0)) rfl rfl (fun hc2 => ?_) (fun hc2 => ?_)
    · skip
      have hc2p := bne_iff_ne.1 hc2
      (repeat refine cw_seq ?_); refine cw_region ?_
      refine Rp rfl rfl rfl rfl ?_
      refine Rp rfl rfl rfl rfl ?_
      refine rw_stA .sq (.inl ⟨_, rfl⟩) (guard_none rfl) rfl rfl rfl rfl rfl rfl rfl rfl rfl Ub rfl ?_
      refine Rp rfl rfl rfl rfl ?_
      refine rw_nil ?_
      (repeat refine cw_seq ?_)
      refine cw_fact (F := RdL EInt ⟨none, 0⟩ ([] : List Int)) [] (.nil _) (fun M w _ => RdL.nil _ _ _ (by omega) M w) ?_
      refine cw_fact (F := RdL EPlace ⟨none, 0⟩ ([] : List Place)) [] (.nil _) (fun M w _ => RdL.nil _ _ _ (by omega) M w) ?_
      have hr2 : (view_Of t1 roots1) = ((⟨([] : List Int), ([] : List Place), ([] : List Place)⟩ : View), (view_Roots roots1)) := by simp only [view_Of, hc1, hc2, cond_true, cond_false]
      refine cw_ret ?_
      rw [hr2]
      exact ⟨⟨(⟨none, 0⟩ : SlV), (⟨none, 0⟩ : SlV), (⟨none, 0⟩ : SlV)⟩, _, (.cons (.agg rfl rfl Mm rfl) (.cons (.tmp rfl) .nil)), rfl, Sm, .nil _, .nil _⟩
    · skip
      have hc2p := eq_of_bne_false hc2
      (repeat refine cw_seq ?_); refine cw_skip ?_
      (repeat refine cw_seq ?_); refine cw_region ?_
      refine Rp rfl rfl rfl rfl ?_
      refine rw_callG (slices_Clone_Int_spec y2 roots1) .sq (.inl ⟨_, rfl⟩) (guard_none rfl) rfl rfl rfl Kr rfl rfl Sm (.nil _) (.nil _) ?_
      intro x1
      refine Rp rfl rfl rfl rfl ?_
      refine rw_alloc .sq (guard_none rfl) rfl rfl rfl rfl fun g3 => ?_
      refine rw_stA .sq (.inl ⟨_, rfl⟩) (guard_none rfl) rfl rfl rfl rfl rfl rfl rfl rfl rfl Ub rfl ?_
      refine rw_nil ?_
      (repeat refine cw_seq ?_); refine cw_region ?_
      refine Rp rfl rfl rfl rfl ?_
      refine rw_q rfl rfl rfl (q_ld1 rfl rfl (fun _ => rfl) rfl Mm rfl) ?_
      refine Rp rfl rfl rfl rfl ?_
      refine Rp rfl rfl rfl rfl ?_
      refine rw_nil ?_
      (repeat refine cw_seq ?_); refine cw_block ?_
      (repeat refine cw_seq ?_); refine cw_loopS [1, 2, 4, 5, 8, 27, 28] [false, true, true] (fun (i_ : Nat × List Place × SlV × Option Nat × List Place × SlV × Option Nat) => match i_ with | ⟨n1, known1, x2, x2b, way1, x3, x3b⟩ => [(29, .v (.int .i64 (n1 : Int)))]) (fun (i_ : Nat × List Place × SlV × Option Nat × List Place × SlV × Option Nat) => match i_ with | ⟨n1, known1, x2, x2b, way1, x3, x3b⟩ => [⟨g3, 51, [x1.1.val roots1.length, x2.val known1.length, x3.val way1.length]⟩]) (fun (i_ : Nat × List Place × SlV × Option Nat × List Place × SlV × Option Nat) => match i_ with | ⟨n1, known1, x2, x2b, way1, x3, x3b⟩ => [ownL EInt 3 x1.1 x1.2 roots1, ownL EPlace 35 x2 x2b known1, ownL EPlace 35 x3 x3b way1]) (fun (i_ : Nat × List Place × SlV × Option Nat × List Place × SlV × Option Nat) => match i_ with | ⟨n1, known1, x2, x2b, way1, x3, x3b⟩ => []) (fun (i_ : Nat × List Place × SlV × Option Nat × List Place × SlV × Option Nat) => match i_ with | ⟨n1, known1, x2, x2b, way1, x3, x3b⟩ => (n1 ≤ t1.length) ∧ (known1.length ≤ n1) ∧ (way1.length ≤ n1) ∧ (view_Of_L0 t1 roots1 (t1.drop n1) known1 way1) = (view_Of t1 roots1)) (fun (i_ : Nat × List Place × SlV × Option Nat × List Place × SlV × Option Nat) => match i_ with | ⟨n1, known1, x2, x2b, way1, x3, x3b⟩ => t1.length - n1) ⟨0, [], ⟨none, 0⟩, none, [], ⟨none, 0⟩, none⟩ (.cons rfl (.cons rfl (.cons rfl (.cons rfl (.cons rfl (.cons rfl (.cons rfl (.nil _)))))))) (.drop (.keep (.keep (.nil)))) ⟨Nat.zero_le _, (by first | exact Nat.le_refl _ | exact Nat.zero_le _ | omega), (by first | exact Nat.le_refl _ | exact Nat.zero_le _ | omega), (by simp only [view_Of, hc1, hc2, cond_true, cond_false] : (view_Of t1 roots1) = (view_Of_L0 t1 roots1 t1 [] [])).symm⟩ (Le.trans (le_nilL EPlace 35) (Le.trans (le_nilL EPlace 35) Le4)) ?_
      rintro ⟨n1, known1, x2, x2b, way1, x3, x3b⟩ ⟨hkn1, hknown1, hway1, hf1⟩
      simp only [List.cons_append, List.nil_append]
      (repeat refine cw_seq ?_); refine cw_region ?_
      refine Rp rfl rfl rfl rfl ?_
      refine rw_nil ?_
      (repeat refine cw_seq ?_); refine cw_cond (b := decide ((n1 : Int) < (t1.length : Int))) rfl rfl (fun hc3 => ?_) (fun hc3 => ?_)
      · skip
        have hlt0 : n1 < t1.length := Int.ofNat_lt.1 (of_decide_eq_true hc3)
        (repeat refine cw_seq ?_); refine cw_skip ?_
        (repeat refine cw_seq ?_); refine cw_block ?_
        (repeat refine cw_seq ?_); refine cw_region ?_
        refine rw_q rfl rfl rfl (q_idx EPlace n1 rfl rfl (fun _ => rfl) rfl (fun _ => rfl) rfl rfl rfl Mm rfl (fun _ => rfl) (fun _ => by first | assumption | omega)) ?_
        refine rw_q rfl rfl rfl (q_leA EPlace rfl rfl (fun _ => rfl) rfl rfl Mm (fun _ => by first | assumption | omega)) ?_
        refine rw_alloc .sq (guard_none rfl) rfl rfl rfl rfl fun g4 => ?_
        refine rw_stA .sq (.inl ⟨_, rfl⟩) (guard_none rfl) rfl rfl rfl rfl rfl rfl rfl rfl rfl Ub rfl ?_
        refine rw_nil ?_
        (repeat refine cw_seq ?_); refine cw_region ?_
        refine rw_q rfl rfl rfl (q_ldA rfl rfl (fun _ => rfl) rfl Mm rfl) ?_
        refine Rp rfl rfl rfl rfl ?_
        refine rw_q rfl rfl rfl (q_ld1 rfl rfl (fun _ => rfl) rfl Mm rfl) ?_
        refine Rp rfl rfl rfl rfl ?_
        refine rw_call (view_below_spec y1 t1 ((gt t1 n1).node) y2 roots1) .sq (guard_none rfl) rfl rfl rfl Kr rfl rfl Sm ?_
        intro _
        refine rw_nil ?_
        (repeat refine cw_seq ?_); refine cw_cond (b := (view_below t1 ((gt t1 n1).node) roots1)) rfl rfl (fun hc4 => ?_) (fun hc4 => ?_)
        · skip
          (repeat refine cw_seq ?_); refine cw_region ?_
          refine Rp rfl rfl rfl rfl ?_
          refine rw_q rfl rfl rfl (q_ld1 rfl rfl (fun _ => rfl) rfl Mm rfl) ?_
          refine rw_q rfl rfl rfl (q_ldA rfl rfl (fun _ => rfl) rfl Mm rfl) ?_
          refine rw_bsliceL EPlace [(gt t1 n1)] .sq (guard_none rfl) rfl rfl rfl rfl rfl rfl rfl rfl rfl rfl rfl rfl rfl rfl rfl fun x4 x4b => ?_
          refine rw_appendL EPlace known1 [(gt t1 n1)] (b := x2b) .sq (fun _ _ => .inl ⟨_, rfl⟩) (guard_none rfl) rfl rfl rfl rfl rfl rfl rfl (fun _ _ => Uo) rfl rfl rfl rfl rfl rfl rfl (reads_ownL (e := 35) (b := x4b) Mm) (by show (known1.length + 1) * 24 ≤ 140737488355328; (try simp only [List.length_append, List.length_cons, List.length_nil]); omega) fun x5 x5b => ?_
          refine Rp rfl rfl rfl rfl ?_
          refine rw_st1 .sq (.inl ⟨_, rfl⟩) (guard_none rfl) rfl rfl rfl rfl rfl rfl rfl rfl rfl Ub rfl ?_
          refine rw_nil ?_
          (repeat refine cw_seq ?_); refine cw_region ?_
          refine rw_q rfl rfl rfl (q_add rfl rfl (fun _ => rfl) rfl (fun _ => rfl) (fun _ => by omega)) ?_
          refine Rp rfl rfl rfl rfl ?_
          refine rw_nil ?_
          refine ⟨⟨(n1 + 1), (known1 ++ [(gt t1 n1)]), x5, x5b, way1, x3, x3b⟩, ⟨hlt0, (by simp only [List.length_append, List.length_cons, List.length_nil]; omega), (by simp only [List.length_append, List.length_cons, List.length_nil]; omega), (by rw [← hf1, drop_gt hlt0]; simp only [view_Of_L0, hc4, cond_true, cond_false] : (view_Of t1 roots1) = (view_Of_L0 t1 roots1 (t1.drop (n1 + 1)) (known1 ++ [(gt t1 n1)]) way1)).symm⟩, (by simp only []; omega), Le4⟩
        · skip
          (repeat refine cw_seq ?_); refine cw_region ?_
          refine rw_q rfl rfl rfl (q_ldA rfl rfl (fun _ => rfl) rfl Mm rfl) ?_
          refine Rp rfl rfl rfl rfl ?_
          refine rw_q rfl rfl rfl (q_ld1 rfl rfl (fun _ => rfl) rfl Mm rfl) ?_
          refine Rp rfl rfl rfl rfl ?_
          refine rw_call (view_above_spec y1 t1 ((gt t1 n1).node) y2 roots1) .sq (guard_none rfl) rfl rfl rfl Kr rfl rfl Sm ?_
          intro _
          refine rw_nil ?_
          (repeat refine cw_seq ?_); refine cw_cond (b := (view_above t1 ((gt t1 n1).node) roots1)) rfl rfl (fun hc5 => ?_) (fun hc5 => ?_)
          · skip
            (repeat refine cw_seq ?_); refine cw_region ?_
            refine Rp rfl rfl rfl rfl ?_
            refine rw_q rfl rfl rfl (q_ld1 rfl rfl (fun _ => rfl) rfl Mm rfl) ?_
            refine rw_q rfl rfl rfl (q_ldA rfl rfl (fun _ => rfl) rfl Mm rfl) ?_
            refine rw_bsliceL EPlace [(gt t1 n1)] .sq (guard_none rfl) rfl rfl rfl rfl rfl rfl rfl rfl rfl rfl rfl rfl rfl rfl rfl fun x6 x6b => ?_
            refine rw_appendL EPlace way1 [(gt t1 n1)] (b := x3b) .sq (fun _ _ => .inl ⟨_, rfl⟩) (guard_none rfl) rfl rfl rfl rfl rfl rfl rfl (fun _ _ => Uo) rfl rfl rfl rfl rfl rfl rfl (reads_ownL (e := 35) (b := x6b) Mm) (by show (way1.length + 1) * 24 ≤ 140737488355328; (try simp only [List.length_append, List.length_cons, List.length_nil]); omega) fun x7 x7b => ?_
            refine Rp rfl rfl rfl rfl ?_
            refine rw_st1 .sq (.inl ⟨_, rfl⟩) (guard_none rfl) rfl rfl rfl rfl rfl rfl rfl rfl rfl Ub rfl ?_
            refine rw_nil ?_
            (repeat refine cw_seq ?_); refine cw_region ?_
            refine rw_q rfl rfl rfl (q_add rfl rfl (fun _ => rfl) rfl (fun _ => rfl) (fun _ => by omega)) ?_
            refine Rp rfl rfl rfl rfl ?_
            refine rw_nil ?_
            refine ⟨⟨(n1 + 1), known1, x2, x2b, (way1 ++ [(gt t1 n1)]), x7, x7b⟩, ⟨hlt0, (by simp only [List.length_append, List.length_cons, List.length_nil]; omega), (by simp only [List.length_append, List.length_cons, List.length_nil]; omega), (by rw [← hf1, drop_gt hlt0]; simp only [view_Of_L0, hc4, hc5, cond_true, cond_false] : (view_Of t1 roots1) = (view_Of_L0 t1 roots1 (t1.drop (n1 + 1)) known1 (way1 ++ [(gt t1 n1)]))).symm⟩, (by simp only []; omega), Le4⟩
          · skip
            (repeat refine cw_seq ?_); refine cw_skip ?_
            (repeat refine cw_seq ?_); refine cw_region ?_
            refine rw_q rfl rfl rfl (q_add rfl rfl (fun _ => rfl) rfl (fun _ => rfl) (fun _ => by omega)) ?_
            refine Rp rfl rfl rfl rfl ?_
            refine rw_nil ?_
            refine ⟨⟨(n1 + 1), known1, x2, x2b, way1, x3, x3b⟩, ⟨hlt0, (by simp only [List.length_append, List.length_cons, List.length_nil]; omega), (by simp only [List.length_append, List.length_cons, List.length_nil]; omega), (by rw [← hf1, drop_gt hlt0]; simp only [view_Of_L0, hc4, hc5, cond_true, cond_false] : (view_Of t1 roots1) = (view_Of_L0 t1 roots1 (t1.drop (n1 + 1)) known1 way1)).symm⟩, (by simp only []; omega), Le4⟩
      · skip
        have hge0 : t1.length ≤ n1 := by have := of_decide_eq_false hc3; omega
        (repeat refine cw_seq ?_); refine cw_exit ?_
        (repeat refine cw_seq ?_); refine cw_region ?_
        refine rw_q rfl rfl rfl (q_ldA rfl rfl (fun _ => rfl) rfl Mm rfl) ?_
        refine rw_stA .sq (.inl ⟨_, rfl⟩) (guard_none rfl) rfl rfl rfl rfl rfl rfl rfl rfl rfl Ub rfl ?_
        refine Rp rfl rfl rfl rfl ?_
        refine rw_nil ?_
        (repeat refine cw_seq ?_)
        refine cw_le (le_freezeL EInt 3 x1.1 x1.2 roots1 Uo) ?_
        refine cw_le (le_freezeL EPlace 35 x2 x2b known1 Uo) ?_
        refine cw_le (le_freezeL EPlace 35 x3 x3b way1 Uo) ?_
        have hr3 : (view_Of t1 roots1) = ((⟨roots1, known1, way1⟩ : View), 0) := by rw [← hf1, List.drop_of_length_le hge0]; simp only [view_Of_L0, cond_true, cond_false]
        refine cw_ret ?_
        rw [hr3]
        exact ⟨⟨x1.1, x2, x3⟩, _, (.cons (.agg rfl rfl Mm rfl) (.cons (.tmp rfl) .nil)), rfl, Sm, .nil _, .nil _⟩

def view_Same (a1 : View) (b1 : View) : Bool :=
  (((decide (a1.roots = b1.roots)) && (decide (a1.known = b1.known))) && (decide (a1.way = b1.way)))
theorem view_Same_spec (y1 : SlV) (y2 : SlV) (y3 : SlV) (a1 : View) (y4 : SlV) (y5 : SlV) (y6 : SlV) (b1 : View) : Does Try.prog 49 [.agg ⟨[y1.val a1.roots.length, y2.val a1.known.length, y3.val a1.way.length]⟩, .agg ⟨[y4.val b1.roots.length, y5.val b1.known.length, y6.val b1.way.length]⟩] [RdL EInt y1 a1.roots, RdL EPlace y2 a1.known, RdL EPlace y3 a1.way, RdL EInt y4 b1.roots, RdL EPlace y5 b1.known, RdL EPlace y6 b1.way] (fun (_ : Unit) => .bool (view_Same a1 b1)) (fun (_ : Unit) => []) := by
  refine does_of tab_ok Try.func49 rfl Try.ntmps49 Try.results49 rfl inferInstance (fun _ => inferInstance) fun C => ?_
  refine cw_pure (φ := a1.roots.length * 8 ≤ 140737488355328) [RdL EInt y1 a1.roots] Sm (fun M w h => (allF1 h).len) fun hlen1 => ?_
  refine cw_pure (φ := a1.known.length * 24 ≤ 140737488355328) [RdL EPlace y2 a1.known] Sm (fun M w h => (allF1 h).len) fun hlen2 => ?_
  refine cw_pure (φ := a1.way.length * 24 ≤ 140737488355328) [RdL EPlace y3 a1.way] Sm (fun M w h => (allF1 h).len) fun hlen3 => ?_
  refine cw_pure (φ := b1.roots.length * 8 ≤ 140737488355328) [RdL EInt y4 b1.roots] Sm (fun M w h => (allF1 h).len) fun hlen4 => ?_
  refine cw_pure (φ := b1.known.length * 24 ≤ 140737488355328) [RdL EPlace y5 b1.known] Sm (fun M w h => (allF1 h).len) fun hlen5 => ?_
  refine cw_pure (φ := b1.way.length * 24 ≤ 140737488355328) [RdL EPlace y6 b1.way] Sm (fun M w h => (allF1 h).len) fun hlen6 => ?_
  (repeat refine cw_seq ?_); refine cw_region ?_
  refine rw_box_agg .sq (guard_none rfl) rfl rfl rfl rfl rfl fun g1 => ?_
  refine rw_box_agg .sq (guard_none rfl) rfl rfl rfl rfl rfl fun g2 => ?_
  refine Rp rfl rfl rfl rfl ?_
  refine rw_nil ?_
  (repeat refine cw_seq ?_); refine cw_region ?_
  refine Rp rfl rfl rfl rfl ?_
  refine rw_q rfl rfl rfl (q_ld1 rfl rfl (fun _ => rfl) rfl Mm rfl) ?_
  refine Rp rfl rfl rfl rfl ?_
  refine rw_q rfl rfl rfl (q_ld1 rfl rfl (fun _ => rfl) rfl Mm rfl) ?_
  refine rw_call ((fun y1 a y2 b => slices_Equal_Int_spec' y1 y2 a b) y1 a1.roots y4 b1.roots) .sq (guard_none rfl) rfl rfl rfl Kr rfl rfl Sm ?_
  intro _
  refine Rp rfl rfl rfl rfl ?_
  refine rw_qg (guard_vt rfl rfl rfl) rfl rfl (q_pev rfl Bt) ?_
  refine rw_qg (guard_vt rfl rfl rfl) rfl rfl (q_ld1 rfl rfl Bt rfl Mm rfl) ?_
  refine rw_qg (guard_vt rfl rfl rfl) rfl rfl (q_pev rfl Bt) ?_
  refine rw_qg (guard_vt rfl rfl rfl) rfl rfl (q_ld1 rfl rfl Bt rfl Mm rfl) ?_
  refine rw_callg (fun hG_ => (fun y1 a y2 b => slices_Equal_Place_spec' y1 y2 a b) y2 a1.known y5 b1.known) (fun _ => rfl) .sq (guard_vt rfl rfl rfl) rfl rfl rfl Kr rfl Bt Sm ?_
  refine rw_q rfl rfl rfl (q_pev rfl Bt) ?_
  refine Rp rfl rfl rfl rfl ?_
  refine rw_qg (guard_vt rfl rfl rfl) rfl rfl (q_pev rfl Bt) ?_
  refine rw_qg (guard_vt rfl rfl rfl) rfl rfl (q_ld1 rfl rfl Bt rfl Mm rfl) ?_
  refine rw_qg (guard_vt rfl rfl rfl) rfl rfl (q_pev rfl Bt) ?_
  refine rw_qg (guard_vt rfl rfl rfl) rfl rfl (q_ld1 rfl rfl Bt rfl Mm rfl) ?_
  refine rw_callg (fun hG_ => (fun y1 a y2 b => slices_Equal_Place_spec' y1 y2 a b) y3 a1.way y6 b1.way) (fun _ => rfl) .sq (guard_vt rfl rfl rfl) rfl rfl rfl Kr rfl Bt Sm ?_
  refine rw_q rfl rfl rfl (q_pev rfl Bt) ?_
  refine Rp rfl rfl rfl rfl ?_
  refine rw_nil ?_
  (repeat refine cw_seq ?_)
  have hr1 : (view_Same a1 b1) = (((decide (a1.roots = b1.roots)) && (decide (a1.known = b1.known))) && (decide (a1.way = b1.way))) := by simp only [view_Same, cond_true, cond_false]
  refine cw_ret ?_
  rw [hr1]
  exact ⟨(), _, (.cons (.tmp rfl) .nil), rfl, Sm, .nil _, .nil _⟩
end Go.Proofs.Ytchdacbjiomplaa
