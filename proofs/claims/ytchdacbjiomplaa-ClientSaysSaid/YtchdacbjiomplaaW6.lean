/- Part of this claim. No condition. -/
import Derived.Test.YtchdacbjiomplaaW5
set_option linter.unusedVariables false
set_option linter.unusedSimpArgs false
namespace Go.Proofs.Ytchdacbjiomplaa
open Go Go.Proofs.Ytchdacbjiomplaa.Fw Go.Proofs
theorem par_of {l : List Place} (h : ∀ i, i < l.length → orangeryref_CheckPlace (gt l i) = 0) : ∀ p ∈ l, 0 ≤ p.parent ∧ p.parent ≤ 16 := fun p hp => by
  obtain ⟨i, hi, rfl⟩ := List.getElem_of_mem hp
  have h1 := h i hi
  rw [gt_eq hi] at h1
  unfold orangeryref_CheckPlace orangeryref_in at h1
  cases hb : (((!(decide (1 ≤ l[i].node) && decide (l[i].node ≤ 15))) || (!(decide (0 ≤ l[i].parent) && decide (l[i].parent ≤ 16)))) || (!(decide (0 ≤ l[i].name) && decide (l[i].name ≤ 99)))) with
  | true => rw [hb] at h1; simp at h1
  | false => simp at hb; omega

theorem snoc_all {p : Nat → Prop} {k : Nat} (h : ∀ i, i < k → p i) (h' : p k) (i : Nat) (hi : i < k + 1) : p i := by
  by_cases he : i = k
  · rw [he]; exact h'
  · exact h i (by omega)

def orangeryref_CheckTree_L1 (t1 : List Place) : List Place → Int
  | [] => 0
  | pn2 :: rn2 => (bif (decide ((pn2.node) ∈ (orangeryref_chain t1 (pn2.parent)))) then 4 else (orangeryref_CheckTree_L1 t1 rn2))
def orangeryref_CheckTree_L0 (t1 : List Place) : List Place → Int → Int
  | [], last1 => (orangeryref_CheckTree_L1 t1 t1)
  | pn1 :: rn1, last1 => (bif ((orangeryref_CheckPlace pn1) != 0) then (orangeryref_CheckPlace pn1) else (bif decide ((pn1.node) ≤ last1) then 6 else (orangeryref_CheckTree_L0 t1 rn1 (pn1.node))))
def orangeryref_CheckTree (t1 : List Place) : Int :=
  (orangeryref_CheckTree_L0 t1 t1 0)
theorem orangeryref_CheckTree_spec (y1 : SlV) (t1 : List Place) : Does Try.prog 52 [.agg ⟨[y1.val t1.length]⟩] [RdL EPlace y1 t1] (fun (_ : Unit) => .int .i64 (orangeryref_CheckTree t1)) (fun (_ : Unit) => []) := by
  refine does_of tab_ok Try.func52 rfl Try.ntmps52 Try.results52 rfl inferInstance (fun _ => inferInstance) fun C => ?_
  refine cw_pure (φ := t1.length * 24 ≤ 140737488355328) [RdL EPlace y1 t1] Sm (fun M w h => (allF1 h).len) fun hlen1 => ?_
  (repeat refine cw_seq ?_); refine cw_region ?_
  refine rw_box_agg .sq (guard_none rfl) rfl rfl rfl rfl rfl fun g1 => ?_
  refine Rp rfl rfl rfl rfl ?_
  refine rw_nil ?_
  (repeat refine cw_seq ?_); refine cw_region ?_
  refine Rp rfl rfl rfl rfl ?_
  refine rw_nil ?_
  (repeat refine cw_seq ?_); refine cw_region ?_
  refine Rp rfl rfl rfl rfl ?_
  refine rw_q rfl rfl rfl (q_ld1 rfl rfl (fun _ => rfl) rfl Mm rfl) ?_
  refine Rp rfl rfl rfl rfl ?_
  refine Rp rfl rfl rfl rfl ?_
  refine rw_nil ?_
  (repeat refine cw_seq ?_); refine cw_block ?_
  (repeat refine cw_seq ?_); refine cw_loopS [1, 2, 10, 11] [true] (fun (i_ : Int × Nat) => match i_ with | ⟨last1, n1⟩ => [(3, .v (.int .i64 last1)), (12, .v (.int .i64 (n1 : Int)))]) (fun (i_ : Int × Nat) => match i_ with | ⟨last1, n1⟩ => []) (fun (i_ : Int × Nat) => match i_ with | ⟨last1, n1⟩ => []) (fun (i_ : Int × Nat) => match i_ with | ⟨last1, n1⟩ => []) (fun (i_ : Int × Nat) => match i_ with | ⟨last1, n1⟩ => (n1 ≤ t1.length) ∧ (∀ i, i < n1 → orangeryref_CheckPlace (gt t1 i) = 0) ∧ (orangeryref_CheckTree_L0 t1 (t1.drop n1) last1) = (orangeryref_CheckTree t1)) (fun (i_ : Int × Nat) => match i_ with | ⟨last1, n1⟩ => t1.length - n1) ⟨0, 0⟩ (.cons rfl (.cons rfl (.cons rfl (.cons rfl (.nil _))))) (.keep (.nil)) ⟨Nat.zero_le _, (fun i hi => absurd hi (Nat.not_lt_zero i)), (by simp only [orangeryref_CheckTree, cond_true, cond_false] : (orangeryref_CheckTree t1) = (orangeryref_CheckTree_L0 t1 t1 0)).symm⟩ Le4 ?_
  rintro ⟨last1, n1⟩ ⟨hkn1, hck, hf1⟩
  simp only [List.cons_append, List.nil_append]
  (repeat refine cw_seq ?_); refine cw_region ?_
  refine Rp rfl rfl rfl rfl ?_
  refine rw_nil ?_
  (repeat refine cw_seq ?_); refine cw_cond (b := decide ((n1 : Int) < (t1.length : Int))) rfl rfl (fun hc1 => ?_) (fun hc1 => ?_)
  · skip
    have hlt0 : n1 < t1.length := Int.ofNat_lt.1 (of_decide_eq_true hc1)
    (repeat refine cw_seq ?_); refine cw_skip ?_
    (repeat refine cw_seq ?_); refine cw_block ?_
    (repeat refine cw_seq ?_); refine cw_region ?_
    refine rw_q rfl rfl rfl (q_idx EPlace n1 rfl rfl (fun _ => rfl) rfl (fun _ => rfl) rfl rfl rfl Mm rfl (fun _ => rfl) (fun _ => by first | assumption | omega)) ?_
    refine rw_q rfl rfl rfl (q_leA EPlace rfl rfl (fun _ => rfl) rfl rfl Mm (fun _ => by first | assumption | omega)) ?_
    refine rw_alloc .sq (guard_none rfl) rfl rfl rfl rfl fun g2 => ?_
    refine rw_stA .sq (.inl ⟨_, rfl⟩) (guard_none rfl) rfl rfl rfl rfl rfl rfl rfl rfl rfl Ub rfl ?_
    refine rw_nil ?_
    (repeat refine cw_seq ?_); refine cw_region ?_
    refine rw_q rfl rfl rfl (q_ldA rfl rfl (fun _ => rfl) rfl Mm rfl) ?_
    refine rw_call (orangeryref_CheckPlace_spec (gt t1 n1)) .sq (guard_none rfl) rfl rfl rfl Kr rfl rfl Sm ?_
    intro _
    refine Rp rfl rfl rfl rfl ?_
    refine rw_nil ?_
    (repeat refine cw_seq ?_); refine cw_region ?_
    refine Rp rfl rfl rfl rfl ?_
    refine Rp rfl rfl rfl rfl ?_
    refine rw_nil ?_
    (repeat refine cw_seq ?_); refine cw_cond (b := ((orangeryref_CheckPlace (gt t1 n1)) != 0)) rfl rfl (fun hc2 => ?_) (fun hc2 => ?_)
    · skip
      have hc2p := bne_iff_ne.1 hc2
      (repeat refine cw_seq ?_); refine cw_region ?_
      refine Rp rfl rfl rfl rfl ?_
      refine Rp rfl rfl rfl rfl ?_
      refine rw_nil ?_
      (repeat refine cw_seq ?_)
      have hr1 : (orangeryref_CheckTree t1) = (orangeryref_CheckPlace (gt t1 n1)) := by rw [← hf1, drop_gt hlt0]; simp only [orangeryref_CheckTree_L0, hc2, cond_true, cond_false]
      refine cw_ret ?_
      rw [hr1]
      exact ⟨(), _, (.cons (.tmp rfl) .nil), rfl, Sm, .nil _, .nil _⟩
    · skip
      have hc2p := eq_of_bne_false hc2
      have hcp := eq_of_bne_false hc2
      (repeat refine cw_seq ?_); refine cw_skip ?_
      (repeat refine cw_seq ?_); refine cw_region ?_
      refine Rp rfl rfl rfl rfl ?_
      refine rw_q rfl rfl rfl (q_ld1 rfl rfl (fun _ => rfl) rfl Mm rfl) ?_
      refine Rp rfl rfl rfl rfl ?_
      refine Rp rfl rfl rfl rfl ?_
      refine rw_nil ?_
      (repeat refine cw_seq ?_); refine cw_cond (b := decide (((gt t1 n1).node) ≤ last1)) rfl rfl (fun hc3 => ?_) (fun hc3 => ?_)
      · skip
        have hc3p := of_decide_eq_true hc3
        (repeat refine cw_seq ?_); refine cw_region ?_
        refine Rp rfl rfl rfl rfl ?_
        refine rw_nil ?_
        (repeat refine cw_seq ?_)
        have hr2 : (orangeryref_CheckTree t1) = 6 := by rw [← hf1, drop_gt hlt0]; simp only [orangeryref_CheckTree_L0, hc2, hc3, cond_true, cond_false]
        refine cw_ret ?_
        rw [hr2]
        exact ⟨(), _, (.cons (.tmp rfl) .nil), rfl, Sm, .nil _, .nil _⟩
      · skip
        have hc3p := of_decide_eq_false hc3
        (repeat refine cw_seq ?_); refine cw_skip ?_
        (repeat refine cw_seq ?_); refine cw_region ?_
        refine Rp rfl rfl rfl rfl ?_
        refine rw_q rfl rfl rfl (q_ld1 rfl rfl (fun _ => rfl) rfl Mm rfl) ?_
        refine Rp rfl rfl rfl rfl ?_
        refine rw_nil ?_
        (repeat refine cw_seq ?_); refine cw_region ?_
        refine rw_q rfl rfl rfl (q_add rfl rfl (fun _ => rfl) rfl (fun _ => rfl) (fun _ => by omega)) ?_
        refine Rp rfl rfl rfl rfl ?_
        refine rw_nil ?_
        refine ⟨⟨(gt t1 n1).node, (n1 + 1)⟩, ⟨hlt0, (fun i hi => snoc_all hck hcp i hi), (by rw [← hf1, drop_gt hlt0]; simp only [orangeryref_CheckTree_L0, hc2, hc3, cond_true, cond_false] : (orangeryref_CheckTree t1) = (orangeryref_CheckTree_L0 t1 (t1.drop (n1 + 1)) ((gt t1 n1).node))).symm⟩, (by simp only []; omega), Le4⟩
  · skip
    have hge0 : t1.length ≤ n1 := by have := of_decide_eq_false hc1; omega
    (repeat refine cw_seq ?_); refine cw_exit ?_
    (repeat refine cw_seq ?_); refine cw_region ?_
    refine Rp rfl rfl rfl rfl ?_
    refine rw_q rfl rfl rfl (q_ld1 rfl rfl (fun _ => rfl) rfl Mm rfl) ?_
    refine Rp rfl rfl rfl rfl ?_
    refine Rp rfl rfl rfl rfl ?_
    refine rw_nil ?_
    (repeat refine cw_seq ?_); refine cw_block ?_
    (repeat refine cw_seq ?_); refine cw_loopS [1, 2, 29, 30] [true] (fun (n2 : Nat) => [(31, .v (.int .i64 (n2 : Int)))]) (fun (n2 : Nat) => []) (fun (n2 : Nat) => []) (fun (n2 : Nat) => []) (fun (n2 : Nat) => (n2 ≤ t1.length) ∧ (orangeryref_CheckTree_L1 t1 (t1.drop n2)) = (orangeryref_CheckTree t1)) (fun (n2 : Nat) => t1.length - n2) 0 (.cons rfl (.cons rfl (.cons rfl (.cons rfl (.nil _))))) (.keep (.nil)) ⟨Nat.zero_le _, (by rw [← hf1, List.drop_of_length_le hge0]; simp only [orangeryref_CheckTree_L0, cond_true, cond_false] : (orangeryref_CheckTree t1) = (orangeryref_CheckTree_L1 t1 t1)).symm⟩ Le4 ?_
    rintro n2 ⟨hkn2, hf2⟩
    simp only [List.cons_append, List.nil_append]
    (repeat refine cw_seq ?_); refine cw_region ?_
    refine Rp rfl rfl rfl rfl ?_
    refine rw_nil ?_
    (repeat refine cw_seq ?_); refine cw_cond (b := decide ((n2 : Int) < (t1.length : Int))) rfl rfl (fun hc4 => ?_) (fun hc4 => ?_)
    · skip
      have hlt1 : n2 < t1.length := Int.ofNat_lt.1 (of_decide_eq_true hc4)
      (repeat refine cw_seq ?_); refine cw_skip ?_
      (repeat refine cw_seq ?_); refine cw_block ?_
      (repeat refine cw_seq ?_); refine cw_region ?_
      refine rw_q rfl rfl rfl (q_idx EPlace n2 rfl rfl (fun _ => rfl) rfl (fun _ => rfl) rfl rfl rfl Mm rfl (fun _ => rfl) (fun _ => by first | assumption | omega)) ?_
      refine rw_q rfl rfl rfl (q_leA EPlace rfl rfl (fun _ => rfl) rfl rfl Mm (fun _ => by first | assumption | omega)) ?_
      refine rw_alloc .sq (guard_none rfl) rfl rfl rfl rfl fun g3 => ?_
      refine rw_stA .sq (.inl ⟨_, rfl⟩) (guard_none rfl) rfl rfl rfl rfl rfl rfl rfl rfl rfl Ub rfl ?_
      refine rw_nil ?_
      (repeat refine cw_seq ?_); refine cw_regionA (fun _ => some []) ?_
      refine ra_q (.ab (i := 0) (js := [2, 3, 5, 6]) [1, 4, 7] rfl Kr Kr Kr Kr Kr) (SplitB.all _) (by simp) rfl rfl rfl (q_pev rfl (fun _ => rfl)) ?_
      refine ra_q (.ab (i := 1) (js := [2, 3, 5, 6]) [4, 7] rfl Kr Kr Kr Kr Kr) (SplitB.all _) (by simp) rfl rfl rfl (q_ld1 rfl rfl (fun _ => rfl) rfl Mm rfl) ?_
      refine ra_q (.ab (i := 2) (js := [5, 6]) [3, 4, 7] rfl Kr Kr Kr Kr Kr) (SplitB.all _) (by simp) rfl rfl rfl (q_pev rfl (fun _ => rfl)) ?_
      refine ra_q (.ab (i := 3) (js := [5, 6]) [4, 7] rfl Kr Kr Kr Kr Kr) (SplitB.all _) (by simp) rfl rfl rfl (q_ld1 rfl rfl (fun _ => rfl) rfl Mm rfl) ?_
      refine ra_q (.ab (i := 5) (js := [4]) [6, 7] rfl Kr Kr Kr Kr Kr) (SplitB.all _) (by simp) rfl rfl rfl (q_pev rfl (fun _ => rfl)) ?_
      refine ra_q (.an (i := 6) (js := [4]) rfl Kr Kr Kr Kr) (SplitB.all _) (by simp) rfl rfl rfl (q_ld1 rfl rfl (fun _ => rfl) rfl Mm rfl) ?_
      refine ra_one 4 Kr ?_
      refine rw_call (orangeryref_chain_spec y1 t1 ((gt t1 n2).parent) (par_of (fun i hi => hck i (by omega)))) (.an rfl rfl) (guard_none rfl) rfl rfl rfl Kr rfl rfl Sm ?_
      intro x1
      refine rw_pure (φ := (orangeryref_chain t1 ((gt t1 n2).parent)).length * 8 ≤ 140737488355328) [RdL EInt x1 (orangeryref_chain t1 ((gt t1 n2).parent))] Sm (fun M w h => (allF1 h).len) fun hlen2 => ?_
      refine ra_one 7 Kr ?_
      refine rw_call (slices_Contains_int_spec' x1 (orangeryref_chain t1 ((gt t1 n2).parent)) ((gt t1 n2).node)) (.an rfl rfl) (guard_none rfl) rfl rfl rfl Kr rfl rfl Sm ?_
      intro _
      refine ra_nil Kr ?_
      (repeat refine cw_seq ?_); refine cw_cond (b := (decide (((gt t1 n2).node) ∈ (orangeryref_chain t1 ((gt t1 n2).parent))))) rfl rfl (fun hc5 => ?_) (fun hc5 => ?_)
      · skip
        (repeat refine cw_seq ?_); refine cw_region ?_
        refine Rp rfl rfl rfl rfl ?_
        refine rw_nil ?_
        (repeat refine cw_seq ?_)
        have hr3 : (orangeryref_CheckTree t1) = 4 := by rw [← hf2, drop_gt hlt1]; simp only [orangeryref_CheckTree_L1, hc5, cond_true, cond_false]
        refine cw_ret ?_
        rw [hr3]
        exact ⟨(), _, (.cons (.tmp rfl) .nil), rfl, Sm, .nil _, .nil _⟩
      · skip
        (repeat refine cw_seq ?_); refine cw_skip ?_
        (repeat refine cw_seq ?_); refine cw_region ?_
        refine rw_q rfl rfl rfl (q_add rfl rfl (fun _ => rfl) rfl (fun _ => rfl) (fun _ => by omega)) ?_
        refine Rp rfl rfl rfl rfl ?_
        refine rw_nil ?_
        refine ⟨(n2 + 1), ⟨hlt1, (by rw [← hf2, drop_gt hlt1]; simp only [orangeryref_CheckTree_L1, hc5, cond_true, cond_false] : (orangeryref_CheckTree t1) = (orangeryref_CheckTree_L1 t1 (t1.drop (n2 + 1)))).symm⟩, (by simp only []; omega), Le4⟩
    · skip
      have hge1 : t1.length ≤ n2 := by have := of_decide_eq_false hc4; omega
      (repeat refine cw_seq ?_); refine cw_exit ?_
      (repeat refine cw_seq ?_); refine cw_region ?_
      refine Rp rfl rfl rfl rfl ?_
      refine rw_nil ?_
      (repeat refine cw_seq ?_)
      have hr4 : (orangeryref_CheckTree t1) = 0 := by rw [← hf2, List.drop_of_length_le hge1]; simp only [orangeryref_CheckTree_L1, cond_true, cond_false]
      refine cw_ret ?_
      rw [hr4]
      exact ⟨(), _, (.cons (.tmp rfl) .nil), rfl, Sm, .nil _, .nil _⟩
end Go.Proofs.Ytchdacbjiomplaa
