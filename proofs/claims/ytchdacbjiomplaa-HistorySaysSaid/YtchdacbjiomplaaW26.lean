/- Part of this claim. No condition. -/
import Derived.Test.YtchdacbjiomplaaW25
set_option linter.unusedVariables false
set_option linter.unusedSimpArgs false
namespace Go.Proofs.Ytchdacbjiomplaa
open Go Go.Proofs.Ytchdacbjiomplaa.Fw Go.Proofs
attribute [local irreducible] RdL RdN VarP
def slices_Index_Op_L0 (v1 : Op) : List Op → Nat → Int
  | [], n1 => (-1)
  | pn1 :: rn1, n1 => (bif decide (v1 = pn1) then (n1 : Int) else (slices_Index_Op_L0 v1 rn1 (n1 + 1)))
def slices_Index_Op (s1 : List Op) (v1 : Op) : Int :=
  (slices_Index_Op_L0 v1 s1 0)
theorem slices_Index_Op_spec (y1 : SlV) (s1 : List Op) (v1 : Op) : Does Try.prog 163 [y1.val s1.length, .agg ⟨[.int .i64 v1.time, .int .i64 v1.who, .int .i64 v1.node, .int .i64 v1.parent, .int .i64 v1.name, .int .i64 v1.life, .int .i64 v1.seq]⟩] [RdL EOp y1 s1] (fun (_ : Unit) => .int .i64 (slices_Index_Op s1 v1)) (fun (_ : Unit) => []) := by
  refine does_of tab_ok Try.func163 rfl Try.ntmps163 Try.results163 rfl inferInstance (fun _ => inferInstance) fun C => ?_
  refine cw_pure (φ := s1.length * 56 ≤ 140737488355328) [RdL EOp y1 s1] Sm (fun M w h => (allF1 h).len) fun hlen1 => ?_
  (repeat refine cw_seq ?_); refine cw_region ?_
  refine rw_box_agg .sq (guard_none rfl) rfl rfl rfl rfl rfl fun g1 => ?_
  refine Rp rfl rfl rfl rfl ?_
  refine rw_nil ?_
  (repeat refine cw_seq ?_); refine cw_region ?_
  refine Rp rfl rfl rfl rfl ?_
  refine Rp rfl rfl rfl rfl ?_
  refine Rp rfl rfl rfl rfl ?_
  refine rw_nil ?_
  (repeat refine cw_seq ?_); refine cw_block ?_
  (repeat refine cw_seq ?_); refine cw_loopS [0, 3, 4, 7] [true] (fun (n1 : Nat) => [(8, .v (.int .i64 (n1 : Int)))]) (fun (n1 : Nat) => []) (fun (n1 : Nat) => []) (fun (n1 : Nat) => []) (fun (n1 : Nat) => (n1 ≤ s1.length) ∧ (slices_Index_Op_L0 v1 (s1.drop n1) n1) = (slices_Index_Op s1 v1)) (fun (n1 : Nat) => s1.length - n1) 0 (.cons rfl (.cons rfl (.cons rfl (.cons rfl (.nil _))))) (.keep (.nil)) ⟨Nat.zero_le _, (by simp only [slices_Index_Op, cond_true, cond_false] : (slices_Index_Op s1 v1) = (slices_Index_Op_L0 v1 s1 0)).symm⟩ Le4 ?_
  rintro n1 ⟨hkn1, hf1⟩
  simp only [List.cons_append, List.nil_append]
  (repeat refine cw_seq ?_); refine cw_region ?_
  refine Rp rfl rfl rfl rfl ?_
  refine rw_nil ?_
  (repeat refine cw_seq ?_); refine cw_cond (b := decide ((n1 : Int) < (s1.length : Int))) rfl rfl (fun hc1 => ?_) (fun hc1 => ?_)
  · skip
    have hlt0 : n1 < s1.length := Int.ofNat_lt.1 (of_decide_eq_true hc1)
    (repeat refine cw_seq ?_); refine cw_skip ?_
    (repeat refine cw_seq ?_); refine cw_block ?_
    (repeat refine cw_seq ?_); refine cw_region ?_
    refine Rp rfl rfl rfl rfl ?_
    refine Rp rfl rfl rfl rfl ?_
    refine rw_nil ?_
    (repeat refine cw_seq ?_); refine cw_regionA (fun _ => some []) ?_
    refine ra_q (.an (i := 0) (js := [1, 2, 3, 4]) rfl Kr Kr Kr Kr) (SplitB.all _) (by simp) rfl rfl rfl (q_ldA rfl rfl (fun _ => rfl) rfl Mm rfl) ?_
    refine ra_q (.ab (i := 1) (js := [2]) [3, 4, 5] rfl Kr Kr Kr Kr Kr) (SplitB.all _) (by simp) rfl rfl rfl (q_pev rfl (fun _ => rfl)) ?_
    refine ra_q (.ab (i := 2) (js := []) [3, 4, 5] rfl Kr Kr Kr Kr Kr) (SplitB.all _) (by simp) rfl rfl rfl (q_pev rfl (fun _ => rfl)) ?_
    refine ra_q (.ab (i := 3) (js := []) [4, 5] rfl Kr Kr Kr Kr Kr) (SplitB.all _) (by simp) rfl rfl rfl (q_idx EOp n1 rfl rfl (fun _ => rfl) rfl (fun _ => rfl) rfl rfl rfl Mm rfl (fun _ => rfl) (fun _ => by first | assumption | omega)) ?_
    refine ra_q (.an (i := 4) (js := []) rfl Kr Kr Kr Kr) (SplitB.all _) (by simp) rfl rfl rfl (q_leA EOp rfl rfl (fun _ => rfl) rfl rfl Mm (fun _ => by first | assumption | omega)) ?_
    refine ra_q (.an (i := 5) (js := []) rfl Kr Kr Kr Kr) (SplitB.all _) (by simp) rfl rfl rfl (q_eqE eqT_Op (flatEq_Op v1 (gt s1 n1)) rfl rfl (fun _ => rfl) rfl (fun _ => rfl) rfl rfl) ?_
    refine ra_nil Kr ?_
    (repeat refine cw_seq ?_); refine cw_cond (b := decide (v1 = (gt s1 n1))) rfl rfl (fun hc2 => ?_) (fun hc2 => ?_)
    · skip
      have hc2p := of_decide_eq_true hc2
      (repeat refine cw_seq ?_); refine cw_region ?_
      refine Rp rfl rfl rfl rfl ?_
      refine Rp rfl rfl rfl rfl ?_
      refine rw_nil ?_
      (repeat refine cw_seq ?_)
      have hr1 : (slices_Index_Op s1 v1) = (n1 : Int) := by rw [← hf1, drop_gt hlt0]; simp only [slices_Index_Op_L0, hc2, cond_true, cond_false]
      refine cw_ret ?_
      rw [hr1]
      exact ⟨(), _, (.cons (.tmp rfl) .nil), rfl, Sm, .nil _, .nil _⟩
    · skip
      have hc2p := of_decide_eq_false hc2
      (repeat refine cw_seq ?_); refine cw_skip ?_
      (repeat refine cw_seq ?_); refine cw_region ?_
      refine rw_q rfl rfl rfl (q_add rfl rfl (fun _ => rfl) rfl (fun _ => rfl) (fun _ => by omega)) ?_
      refine Rp rfl rfl rfl rfl ?_
      refine rw_nil ?_
      refine ⟨(n1 + 1), ⟨hlt0, (by rw [← hf1, drop_gt hlt0]; simp only [slices_Index_Op_L0, hc2, cond_true, cond_false] : (slices_Index_Op s1 v1) = (slices_Index_Op_L0 v1 (s1.drop (n1 + 1)) (n1 + 1))).symm⟩, (by simp only []; omega), Le4⟩
  · skip
    have hge0 : s1.length ≤ n1 := by have := of_decide_eq_false hc1; omega
    (repeat refine cw_seq ?_); refine cw_exit ?_
    (repeat refine cw_seq ?_); refine cw_region ?_
    refine Rp rfl rfl rfl rfl ?_
    refine rw_nil ?_
    (repeat refine cw_seq ?_)
    have hr2 : (slices_Index_Op s1 v1) = (-1) := by rw [← hf1, List.drop_of_length_le hge0]; simp only [slices_Index_Op_L0, cond_true, cond_false]
    refine cw_ret ?_
    rw [hr2]
    exact ⟨(), _, (.cons (.tmp rfl) .nil), rfl, Sm, .nil _, .nil _⟩
def slices_Contains_Op (s1 : List Op) (v1 : Op) : Bool :=
  decide ((slices_Index_Op s1 v1) ≥ 0)
theorem slices_Contains_Op_spec (y1 : SlV) (s1 : List Op) (v1 : Op) : Does Try.prog 85 [y1.val s1.length, .agg ⟨[.int .i64 v1.time, .int .i64 v1.who, .int .i64 v1.node, .int .i64 v1.parent, .int .i64 v1.name, .int .i64 v1.life, .int .i64 v1.seq]⟩] [RdL EOp y1 s1] (fun (_ : Unit) => .bool (slices_Contains_Op s1 v1)) (fun (_ : Unit) => []) := by
  refine does_of tab_ok Try.func85 rfl Try.ntmps85 Try.results85 rfl inferInstance (fun _ => inferInstance) fun C => ?_
  refine cw_pure (φ := s1.length * 56 ≤ 140737488355328) [RdL EOp y1 s1] Sm (fun M w h => (allF1 h).len) fun hlen1 => ?_
  (repeat refine cw_seq ?_); refine cw_region ?_
  refine rw_box_agg .sq (guard_none rfl) rfl rfl rfl rfl rfl fun g1 => ?_
  refine Rp rfl rfl rfl rfl ?_
  refine rw_nil ?_
  (repeat refine cw_seq ?_); refine cw_region ?_
  refine Rp rfl rfl rfl rfl ?_
  refine rw_q rfl rfl rfl (q_ldA rfl rfl (fun _ => rfl) rfl Mm rfl) ?_
  refine rw_call (slices_Index_Op_spec y1 s1 v1) .sq (guard_none rfl) rfl rfl rfl Kr rfl rfl Sm ?_
  intro _
  refine Rp rfl rfl rfl rfl ?_
  refine Rp rfl rfl rfl rfl ?_
  refine rw_nil ?_
  (repeat refine cw_seq ?_)
  have hr1 : (slices_Contains_Op s1 v1) = decide ((slices_Index_Op s1 v1) ≥ 0) := by simp only [slices_Contains_Op, cond_true, cond_false]
  refine cw_ret ?_
  rw [hr1]
  exact ⟨(), _, (.cons (.tmp rfl) .nil), rfl, Sm, .nil _, .nil _⟩
theorem slices_Contains_Op_eq (s : List Op) (v : Op) : slices_Contains_Op s v = decide (v ∈ s) := by
  have key : ∀ (l : List Op) (k : Nat), decide (slices_Index_Op_L0 v l k ≥ 0) = decide (v ∈ l) := by
    intro l
    induction l with
    | nil => intro k; simp [slices_Index_Op_L0]
    | cons p r ih =>
      intro k
      rw [slices_Index_Op_L0]
      by_cases h : v = p
      · first | (simp [h]; done) | (simp [h]; omega)
      · have : decide (v = p) = false := by simpa using h
        rw [this, cond_false, ih]; simp [h]
  exact key s 0
theorem slices_Contains_Op_spec' (y1 : SlV) (s1 : List Op) (v1 : Op) : Does Try.prog 85 [y1.val s1.length, .agg ⟨[.int .i64 v1.time, .int .i64 v1.who, .int .i64 v1.node, .int .i64 v1.parent, .int .i64 v1.name, .int .i64 v1.life, .int .i64 v1.seq]⟩] [RdL EOp y1 s1] (fun (_ : Unit) => .bool (decide (v1 ∈ s1))) (fun (_ : Unit) => []) := by
  have := slices_Contains_Op_spec y1 s1 v1
  rw [slices_Contains_Op_eq] at this
  exact this

def orangerylaw_HistoryLast_L2 (l1 : List Op) : List Step → Nat → Bool
  | [], n3 => (((((history_Fold l1).1).l).length : Int) == (l1.length : Int))
  | pn3 :: rn3, n3 => (bif ((decide ((n3 : Int) > 0) && (!(decide ((((gt (((history_Fold l1).1).l) (n3 - 1)).o).time) < ((pn3.o).time)) || (((((gt (((history_Fold l1).1).l) (n3 - 1)).o).time) == ((pn3.o).time)) && decide ((((gt (((history_Fold l1).1).l) (n3 - 1)).o).who) < ((pn3.o).who)))))) || (!(decide ((pn3.o) ∈ l1)))) then false else (orangerylaw_HistoryLast_L2 l1 rn3 (n3 + 1)))
def orangerylaw_HistoryLast_L1 (n1 : Nat) : List Step → Place → Place
  | [], p2 => p2
  | pn2 :: rn2, p2 => (bif ((((pn2.o).node) == (n1 : Int)) && pn2.did) then (orangerylaw_HistoryLast_L1 n1 rn2 (⟨(n1 : Int), (pn2.o).parent, (pn2.o).name⟩ : Place)) else (orangerylaw_HistoryLast_L1 n1 rn2 p2))
def orangerylaw_HistoryLast_L0 (l1 : List Op) : Nat → Nat → Bool
  | 0, n1 => (orangerylaw_HistoryLast_L2 l1 (((history_Fold l1).1).l) 0)
  | fn1 + 1, n1 => (bif (!(decide ((tree_Find (((history_Fold l1).1).t) (n1 : Int)) = (⟨((orangerylaw_HistoryLast_L1 n1 (((history_Fold l1).1).l) (⟨0, 0, 0⟩ : Place))).node, ((orangerylaw_HistoryLast_L1 n1 (((history_Fold l1).1).l) (⟨0, 0, 0⟩ : Place))).parent, ((orangerylaw_HistoryLast_L1 n1 (((history_Fold l1).1).l) (⟨0, 0, 0⟩ : Place))).name⟩ : Place)))) then false else (orangerylaw_HistoryLast_L0 l1 fn1 (n1 + 1)))
def orangerylaw_HistoryLast (l1 : List Op) : Bool :=
  (bif ((!orangerylaw_folded) || (((history_Fold l1).2) != 0)) then orangerylaw_folded else (orangerylaw_HistoryLast_L0 l1 (16 - 1) 1))
theorem orangerylaw_HistoryLast_spec (y1 : SlV) (l1 : List Op) : Does Try.prog 16 [y1.val l1.length] [RdL EOp y1 l1] (fun (_ : Unit) => .bool (orangerylaw_HistoryLast l1)) (fun (_ : Unit) => []) := by
  refine does_of tab_ok Try.func16 rfl Try.ntmps16 Try.results16 rfl inferInstance (fun _ => inferInstance) fun C => ?_
  refine cw_pure (φ := l1.length * 56 ≤ 140737488355328) [RdL EOp y1 l1] Sm (fun M w h => (allF1 h).len) fun hlen1 => ?_
  (repeat refine cw_seq ?_); refine cw_region ?_
  refine Rp rfl rfl rfl rfl ?_
  refine rw_nil ?_
  (repeat refine cw_seq ?_); refine cw_region ?_
  refine Rp rfl rfl rfl rfl ?_
  refine rw_call (history_Fold_spec y1 l1) .sq (guard_none rfl) rfl rfl rfl Kr rfl rfl Sm ?_
  intro x1
  refine rw_pure (φ := (((history_Fold l1).1).l).length * 88 ≤ 140737488355328) [RdL EStep x1.1 (((history_Fold l1).1).l)] Sm (fun M w h => (allF1 h).len) fun hlen2 => ?_
  refine rw_pure (φ := (((history_Fold l1).1).t).length * 24 ≤ 140737488355328) [RdL EPlace x1.2 (((history_Fold l1).1).t)] Sm (fun M w h => (allF1 h).len) fun hlen3 => ?_
  refine Rp rfl rfl rfl rfl ?_
  refine Rp rfl rfl rfl rfl ?_
  refine Rp rfl rfl rfl rfl ?_
  refine rw_alloc .sq (guard_none rfl) rfl rfl rfl rfl fun g1 => ?_
  refine rw_stA .sq (.inl ⟨_, rfl⟩) (guard_none rfl) rfl rfl rfl rfl rfl rfl rfl rfl rfl Ub rfl ?_
  refine Rp rfl rfl rfl rfl ?_
  refine rw_nil ?_
  (repeat refine cw_seq ?_); refine cw_region ?_
  refine rw_call (orangerylaw_folded_spec ) .sq (guard_none rfl) rfl rfl rfl Kr rfl rfl Sm ?_
  intro _
  refine Rp rfl rfl rfl rfl ?_
  refine Rp rfl rfl rfl rfl ?_
  refine rw_qg (guard_vf rfl rfl rfl) rfl rfl (q_pev rfl Bt) ?_
  refine rw_qg (guard_vf rfl rfl rfl) rfl rfl (q_pev rfl Bt) ?_
  refine rw_q rfl rfl rfl (q_pev rfl Bt) ?_
  refine rw_nil ?_
  (repeat refine cw_seq ?_); refine cw_cond (b := ((!orangerylaw_folded) || (((history_Fold l1).2) != 0))) rfl rfl (fun hc1 => ?_) (fun hc1 => ?_)
  · skip
    (repeat refine cw_seq ?_); refine cw_region ?_
    refine rw_call (orangerylaw_folded_spec ) .sq (guard_none rfl) rfl rfl rfl Kr rfl rfl Sm ?_
    intro _
    refine Rp rfl rfl rfl rfl ?_
    refine rw_nil ?_
    (repeat refine cw_seq ?_)
    have hr1 : (orangerylaw_HistoryLast l1) = orangerylaw_folded := by simp only [orangerylaw_HistoryLast, hc1, cond_true, cond_false]
    refine cw_ret ?_
    rw [hr1]
    exact ⟨(), _, (.cons (.tmp rfl) .nil), rfl, Sm, .nil _, .nil _⟩
  · skip
    (repeat refine cw_seq ?_); refine cw_skip ?_
    (repeat refine cw_seq ?_); refine cw_region ?_
    refine Rp rfl rfl rfl rfl ?_
    refine rw_nil ?_
    (repeat refine cw_seq ?_); refine cw_block ?_
    (repeat refine cw_seq ?_); refine cw_loopS [0, 2, 3] [true] (fun (n1 : Nat) => [(5, .v (.int .i64 (n1 : Int)))]) (fun (n1 : Nat) => []) (fun (n1 : Nat) => []) (fun (n1 : Nat) => []) (fun (n1 : Nat) => (n1 ≤ 16) ∧ (orangerylaw_HistoryLast_L0 l1 (16 - n1) n1) = (orangerylaw_HistoryLast l1)) (fun (n1 : Nat) => 16 - n1) 1 (.cons rfl (.cons rfl (.cons rfl (.nil _)))) (.keep (.nil)) ⟨(by omega), (by simp only [orangerylaw_HistoryLast, hc1, cond_true, cond_false] : (orangerylaw_HistoryLast l1) = (orangerylaw_HistoryLast_L0 l1 (16 - 1) 1)).symm⟩ Le4 ?_
    rintro n1 ⟨hkn1, hf1⟩
    simp only [List.cons_append, List.nil_append]
    (repeat refine cw_seq ?_); refine cw_region ?_
    refine Rp rfl rfl rfl rfl ?_
    refine Rp rfl rfl rfl rfl ?_
    refine rw_nil ?_
    (repeat refine cw_seq ?_); refine cw_cond (b := decide ((n1 : Int) < 16)) rfl rfl (fun hc2 => ?_) (fun hc2 => ?_)
    · skip
      have hlt0 : n1 < 16 := by have := of_decide_eq_true hc2; omega
      have hlt0_ : 16 - n1 = (16 - (n1 + 1)) + 1 := by omega
      (repeat refine cw_seq ?_); refine cw_skip ?_
      (repeat refine cw_seq ?_); refine cw_block ?_
      (repeat refine cw_seq ?_); refine cw_region ?_
      refine Rp rfl rfl rfl rfl ?_
      refine rw_alloc .sq (guard_none rfl) rfl rfl rfl rfl fun g2 => ?_
      refine rw_stA .sq (.inl ⟨_, rfl⟩) (guard_none rfl) rfl rfl rfl rfl rfl rfl rfl rfl rfl Ub rfl ?_
      refine rw_nil ?_
      (repeat refine cw_seq ?_); refine cw_region ?_
      refine Rp rfl rfl rfl rfl ?_
      refine rw_q rfl rfl rfl (q_ld1 rfl rfl (fun _ => rfl) rfl Mm rfl) ?_
      refine Rp rfl rfl rfl rfl ?_
      refine Rp rfl rfl rfl rfl ?_
      refine rw_nil ?_
      (repeat refine cw_seq ?_)
      refine cw_joinB [0, 2, 3, 5, 6, 23, 24, 27, 28, 29, 30] [false, true] (fun (p1 : Place) => []) (fun (p1 : Place) => [⟨g2, 35, [.int .i64 p1.node, .int .i64 p1.parent, .int .i64 p1.name]⟩]) (fun (p1 : Place) => []) (fun (p1 : Place) => []) (fun (p1 : Place) => p1 = (orangerylaw_HistoryLast_L1 n1 (((history_Fold l1).1).l) (⟨0, 0, 0⟩ : Place))) (.cons rfl (.cons rfl (.cons rfl (.cons rfl (.cons rfl (.cons rfl (.cons rfl (.cons rfl (.cons rfl (.cons rfl (.cons rfl (.nil _)))))))))))) (.drop (.keep (.nil))) ?_ ?_
      · skip
        (repeat refine cw_seq ?_); refine cw_block ?_
        (repeat refine cw_seq ?_); refine cw_loopS [0, 2, 3, 5, 6, 23, 24, 27, 28, 29, 30] [false, true] (fun (i_ : Nat × Place) => match i_ with | ⟨n2, p2⟩ => [(31, .v (.int .i64 (n2 : Int)))]) (fun (i_ : Nat × Place) => match i_ with | ⟨n2, p2⟩ => [⟨g2, 35, [.int .i64 p2.node, .int .i64 p2.parent, .int .i64 p2.name]⟩]) (fun (i_ : Nat × Place) => match i_ with | ⟨n2, p2⟩ => []) (fun (i_ : Nat × Place) => match i_ with | ⟨n2, p2⟩ => []) (fun (i_ : Nat × Place) => match i_ with | ⟨n2, p2⟩ => (n2 ≤ (((history_Fold l1).1).l).length) ∧ (orangerylaw_HistoryLast_L1 n1 ((((history_Fold l1).1).l).drop n2) p2) = (orangerylaw_HistoryLast_L1 n1 (((history_Fold l1).1).l) (⟨0, 0, 0⟩ : Place))) (fun (i_ : Nat × Place) => match i_ with | ⟨n2, p2⟩ => (((history_Fold l1).1).l).length - n2) ⟨0, (⟨0, 0, 0⟩ : Place)⟩ (.cons rfl (.cons rfl (.cons rfl (.cons rfl (.cons rfl (.cons rfl (.cons rfl (.cons rfl (.cons rfl (.cons rfl (.cons rfl (.nil _)))))))))))) (.drop (.keep (.nil))) ⟨Nat.zero_le _, (rfl : (orangerylaw_HistoryLast_L1 n1 (((history_Fold l1).1).l) (⟨0, 0, 0⟩ : Place)) = (orangerylaw_HistoryLast_L1 n1 (((history_Fold l1).1).l) (⟨0, 0, 0⟩ : Place))).symm⟩ Le4 ?_
        rintro ⟨n2, p2⟩ ⟨hkn2, hf2⟩
        simp only [List.cons_append, List.nil_append]
        (repeat refine cw_seq ?_); refine cw_region ?_
        refine Rp rfl rfl rfl rfl ?_
        refine rw_nil ?_
        (repeat refine cw_seq ?_); refine cw_cond (b := decide ((n2 : Int) < ((((history_Fold l1).1).l).length : Int))) rfl rfl (fun hc3 => ?_) (fun hc3 => ?_)
        · skip
          have hlt1 : n2 < (((history_Fold l1).1).l).length := Int.ofNat_lt.1 (of_decide_eq_true hc3)
          (repeat refine cw_seq ?_); refine cw_skip ?_
          (repeat refine cw_seq ?_); refine cw_block ?_
          (repeat refine cw_seq ?_); refine cw_region ?_
          refine rw_q rfl rfl rfl (q_idx EStep n2 rfl rfl (fun _ => rfl) rfl (fun _ => rfl) rfl rfl rfl Mm rfl (fun _ => rfl) (fun _ => by first | assumption | omega)) ?_
          refine rw_q rfl rfl rfl (q_leA EStep rfl rfl (fun _ => rfl) rfl rfl Mm (fun _ => by first | assumption | omega)) ?_
          refine rw_alloc .sq (guard_none rfl) rfl rfl rfl rfl fun g3 => ?_
          refine rw_stA .sq (.inl ⟨_, rfl⟩) (guard_none rfl) rfl rfl rfl rfl rfl rfl rfl rfl rfl Ub rfl ?_
          refine rw_nil ?_
          (repeat refine cw_seq ?_); refine cw_region ?_
          refine Rp rfl rfl rfl rfl ?_
          refine Rp rfl rfl rfl rfl ?_
          refine rw_q rfl rfl rfl (q_ld1 rfl rfl (fun _ => rfl) rfl Mm rfl) ?_
          refine Rp rfl rfl rfl rfl ?_
          refine Rp rfl rfl rfl rfl ?_
          refine Rp rfl rfl rfl rfl ?_
          refine rw_qg (guard_vt rfl rfl rfl) rfl rfl (q_pev rfl Bt) ?_
          refine rw_qg (guard_vt rfl rfl rfl) rfl rfl (q_ld1 rfl rfl Bt rfl Mm rfl) ?_
          refine rw_q rfl rfl rfl (q_pev rfl Bt) ?_
          refine rw_nil ?_
          (repeat refine cw_seq ?_); refine cw_cond (b := (((((gt (((history_Fold l1).1).l) n2).o).node) == (n1 : Int)) && (gt (((history_Fold l1).1).l) n2).did)) rfl rfl (fun hc4 => ?_) (fun hc4 => ?_)
          · skip
            (repeat refine cw_seq ?_); refine cw_region ?_
            refine Rp rfl rfl rfl rfl ?_
            refine Rp rfl rfl rfl rfl ?_
            refine Rp rfl rfl rfl rfl ?_
            refine rw_q rfl rfl rfl (q_ld1 rfl rfl (fun _ => rfl) rfl Mm rfl) ?_
            refine Rp rfl rfl rfl rfl ?_
            refine Rp rfl rfl rfl rfl ?_
            refine rw_q rfl rfl rfl (q_ld1 rfl rfl (fun _ => rfl) rfl Mm rfl) ?_
            refine Rp rfl rfl rfl rfl ?_
            refine rw_stA .sq (.inl ⟨_, rfl⟩) (guard_none rfl) rfl rfl rfl rfl rfl rfl rfl rfl rfl Ub rfl ?_
            refine rw_nil ?_
            (repeat refine cw_seq ?_); refine cw_region ?_
            refine rw_q rfl rfl rfl (q_add rfl rfl (fun _ => rfl) rfl (fun _ => rfl) (fun _ => by omega)) ?_
            refine Rp rfl rfl rfl rfl ?_
            refine rw_nil ?_
            refine ⟨⟨(n2 + 1), (⟨(n1 : Int), ((gt (((history_Fold l1).1).l) n2).o).parent, ((gt (((history_Fold l1).1).l) n2).o).name⟩ : Place)⟩, ⟨hlt1, (by rw [← hf2, drop_gt hlt1]; simp only [orangerylaw_HistoryLast_L1, hc4, cond_true, cond_false] : (orangerylaw_HistoryLast_L1 n1 (((history_Fold l1).1).l) (⟨0, 0, 0⟩ : Place)) = (orangerylaw_HistoryLast_L1 n1 ((((history_Fold l1).1).l).drop (n2 + 1)) (⟨(n1 : Int), ((gt (((history_Fold l1).1).l) n2).o).parent, ((gt (((history_Fold l1).1).l) n2).o).name⟩ : Place))).symm⟩, (by simp only []; omega), Le4⟩
          · skip
            (repeat refine cw_seq ?_); refine cw_skip ?_
            (repeat refine cw_seq ?_); refine cw_region ?_
            refine rw_q rfl rfl rfl (q_add rfl rfl (fun _ => rfl) rfl (fun _ => rfl) (fun _ => by omega)) ?_
            refine Rp rfl rfl rfl rfl ?_
            refine rw_nil ?_
            refine ⟨⟨(n2 + 1), p2⟩, ⟨hlt1, (by rw [← hf2, drop_gt hlt1]; simp only [orangerylaw_HistoryLast_L1, hc4, cond_true, cond_false] : (orangerylaw_HistoryLast_L1 n1 (((history_Fold l1).1).l) (⟨0, 0, 0⟩ : Place)) = (orangerylaw_HistoryLast_L1 n1 ((((history_Fold l1).1).l).drop (n2 + 1)) p2)).symm⟩, (by simp only []; omega), Le4⟩
        · skip
          have hge1 : (((history_Fold l1).1).l).length ≤ n2 := by have := of_decide_eq_false hc3; omega
          (repeat refine cw_seq ?_); refine cw_exit ?_
          have hv1 : (orangerylaw_HistoryLast_L1 n1 (((history_Fold l1).1).l) (⟨0, 0, 0⟩ : Place)) = p2 := by rw [← hf2, List.drop_of_length_le hge1]; simp only [orangerylaw_HistoryLast_L1, cond_true, cond_false]
          refine ⟨p2, hv1.symm, Le4⟩
      · skip
        rintro p1 rfl
        simp only [List.cons_append, List.nil_append]
        (repeat refine cw_seq ?_); refine cw_regionA (fun _ => some []) ?_
        refine ra_q (.ab (i := 0) (js := [2, 4]) [1, 3, 5] rfl Kr Kr Kr Kr Kr) (SplitB.all _) (by simp) rfl rfl rfl (q_pev rfl (fun _ => rfl)) ?_
        refine ra_q (.ab (i := 1) (js := [2, 4]) [3, 5] rfl Kr Kr Kr Kr Kr) (SplitB.all _) (by simp) rfl rfl rfl (q_ldP rfl rfl (fun _ => rfl) rfl Mm rfl) ?_
        refine ra_q (.ab (i := 2) (js := [4]) [3, 5] rfl Kr Kr Kr Kr Kr) (SplitB.all _) (by simp) rfl rfl rfl (q_pev rfl (fun _ => rfl)) ?_
        refine ra_q (.an (i := 4) (js := [3]) rfl Kr Kr Kr Kr) (SplitB.all _) (by simp) rfl rfl rfl (q_ldA rfl rfl (fun _ => rfl) rfl Mm rfl) ?_
        refine ra_one 3 Kr ?_
        refine rw_call (tree_Find_spec x1.2 (((history_Fold l1).1).t) (n1 : Int)) (.an rfl rfl) (guard_none rfl) rfl rfl rfl Kr rfl rfl Sm ?_
        intro _
        refine ra_q (.an (i := 5) (js := []) rfl Kr Kr Kr Kr) (SplitB.all _) (by simp) rfl rfl rfl (q_neE eqT_Place (flatEq_Place (tree_Find (((history_Fold l1).1).t) (n1 : Int)) (⟨((orangerylaw_HistoryLast_L1 n1 (((history_Fold l1).1).l) (⟨0, 0, 0⟩ : Place))).node, ((orangerylaw_HistoryLast_L1 n1 (((history_Fold l1).1).l) (⟨0, 0, 0⟩ : Place))).parent, ((orangerylaw_HistoryLast_L1 n1 (((history_Fold l1).1).l) (⟨0, 0, 0⟩ : Place))).name⟩ : Place)) rfl rfl (fun _ => rfl) rfl (fun _ => rfl) rfl rfl) ?_
        refine ra_nil Kr ?_
        (repeat refine cw_seq ?_); refine cw_cond (b := (!(decide ((tree_Find (((history_Fold l1).1).t) (n1 : Int)) = (⟨((orangerylaw_HistoryLast_L1 n1 (((history_Fold l1).1).l) (⟨0, 0, 0⟩ : Place))).node, ((orangerylaw_HistoryLast_L1 n1 (((history_Fold l1).1).l) (⟨0, 0, 0⟩ : Place))).parent, ((orangerylaw_HistoryLast_L1 n1 (((history_Fold l1).1).l) (⟨0, 0, 0⟩ : Place))).name⟩ : Place))))) rfl rfl (fun hc5 => ?_) (fun hc5 => ?_)
        · skip
          (repeat refine cw_seq ?_); refine cw_region ?_
          refine Rp rfl rfl rfl rfl ?_
          refine rw_nil ?_
          (repeat refine cw_seq ?_)
          have hr2 : (orangerylaw_HistoryLast l1) = false := by rw [← hf1]; (conv => lhs; rw [hlt0_]); simp only [orangerylaw_HistoryLast_L0, hc5, cond_true, cond_false]
          refine cw_ret ?_
          rw [hr2]
          exact ⟨(), _, (.cons (.tmp rfl) .nil), rfl, Sm, .nil _, .nil _⟩
        · skip
          (repeat refine cw_seq ?_); refine cw_skip ?_
          (repeat refine cw_seq ?_); refine cw_region ?_
          refine Rp rfl rfl rfl rfl ?_
          refine rw_q rfl rfl rfl (q_add rfl rfl (fun _ => rfl) rfl (fun _ => rfl) (fun _ => by omega)) ?_
          refine Rp rfl rfl rfl rfl ?_
          refine rw_nil ?_
          refine ⟨(n1 + 1), ⟨hlt0, (by rw [← hf1]; (conv => lhs; rw [hlt0_]); simp only [orangerylaw_HistoryLast_L0, hc5, cond_true, cond_false] : (orangerylaw_HistoryLast l1) = (orangerylaw_HistoryLast_L0 l1 (16 - (n1 + 1)) (n1 + 1))).symm⟩, (by simp only []; omega), Le4⟩
    · skip
      have hge0 : 16 ≤ n1 := by have := of_decide_eq_false hc2; omega
      have hge0_ : 16 - n1 = 0 := by omega
      (repeat refine cw_seq ?_); refine cw_exit ?_
      (repeat refine cw_seq ?_); refine cw_region ?_
      refine Rp rfl rfl rfl rfl ?_
      refine rw_q rfl rfl rfl (q_ld1 rfl rfl (fun _ => rfl) rfl Mm rfl) ?_
      refine Rp rfl rfl rfl rfl ?_
      refine Rp rfl rfl rfl rfl ?_
      refine rw_nil ?_
      (repeat refine cw_seq ?_); refine cw_block ?_
      (repeat refine cw_seq ?_); refine cw_loopS [0, 2, 3, 60, 61] [true] (fun (n3 : Nat) => [(62, .v (.int .i64 (n3 : Int)))]) (fun (n3 : Nat) => []) (fun (n3 : Nat) => []) (fun (n3 : Nat) => []) (fun (n3 : Nat) => (n3 ≤ (((history_Fold l1).1).l).length) ∧ (orangerylaw_HistoryLast_L2 l1 ((((history_Fold l1).1).l).drop n3) n3) = (orangerylaw_HistoryLast l1)) (fun (n3 : Nat) => (((history_Fold l1).1).l).length - n3) 0 (.cons rfl (.cons rfl (.cons rfl (.cons rfl (.cons rfl (.nil _)))))) (.keep (.nil)) ⟨Nat.zero_le _, (by rw [← hf1, hge0_]; simp only [orangerylaw_HistoryLast_L0, cond_true, cond_false] : (orangerylaw_HistoryLast l1) = (orangerylaw_HistoryLast_L2 l1 (((history_Fold l1).1).l) 0)).symm⟩ Le4 ?_
      rintro n3 ⟨hkn3, hf3⟩
      simp only [List.cons_append, List.nil_append]
      (repeat refine cw_seq ?_); refine cw_region ?_
      refine Rp rfl rfl rfl rfl ?_
      refine rw_nil ?_
      (repeat refine cw_seq ?_); refine cw_cond (b := decide ((n3 : Int) < ((((history_Fold l1).1).l).length : Int))) rfl rfl (fun hc6 => ?_) (fun hc6 => ?_)
      · skip
        have hlt2 : n3 < (((history_Fold l1).1).l).length := Int.ofNat_lt.1 (of_decide_eq_true hc6)
        (repeat refine cw_seq ?_); refine cw_skip ?_
        (repeat refine cw_seq ?_); refine cw_block ?_
        (repeat refine cw_seq ?_); refine cw_region ?_
        refine Rp rfl rfl rfl rfl ?_
        refine rw_q rfl rfl rfl (q_idx EStep n3 rfl rfl (fun _ => rfl) rfl (fun _ => rfl) rfl rfl rfl Mm rfl (fun _ => rfl) (fun _ => by first | assumption | omega)) ?_
        refine rw_q rfl rfl rfl (q_leA EStep rfl rfl (fun _ => rfl) rfl rfl Mm (fun _ => by first | assumption | omega)) ?_
        refine rw_alloc .sq (guard_none rfl) rfl rfl rfl rfl fun g4 => ?_
        refine Rp rfl rfl rfl rfl ?_
        refine rw_stA .sq (.inl ⟨_, rfl⟩) (guard_none rfl) rfl rfl rfl rfl rfl rfl rfl rfl rfl Ub rfl ?_
        refine rw_nil ?_
        (repeat refine cw_seq ?_); refine cw_regionA (fun _ => some []) ?_
        refine ra_q (.ab (i := 0) (js := []) [1, 2, 3, 4, 5, 6, 7, 8, 9, 10, 11, 12, 13, 14, 15, 16, 17, 18, 19, 20, 21, 22, 23, 24, 25, 26, 27, 28, 29, 30, 31, 32, 33, 34, 35, 36, 37, 38, 39, 40, 41, 42, 43, 44, 45, 46, 47, 48, 49, 50, 51, 52, 53, 54, 55, 56, 57] rfl Kr Kr Kr Kr Kr) (SplitB.all _) (by simp) rfl rfl rfl (q_pev rfl (fun _ => rfl)) ?_
        refine ra_q (.ab (i := 1) (js := []) [2, 3, 4, 5, 6, 7, 8, 9, 10, 11, 12, 13, 14, 15, 16, 17, 18, 19, 20, 21, 22, 23, 24, 25, 26, 27, 28, 29, 30, 31, 32, 33, 34, 35, 36, 37, 38, 39, 40, 41, 42, 43, 44, 45, 46, 47, 48, 49, 50, 51, 52, 53, 54, 55, 56, 57] rfl Kr Kr Kr Kr Kr) (SplitB.all _) (by simp) rfl rfl rfl (q_pev rfl (fun _ => rfl)) ?_
        refine ra_q (.ab (i := 2) (js := []) [3, 4, 5, 6, 7, 8, 9, 10, 11, 12, 13, 14, 15, 16, 17, 18, 19, 20, 21, 22, 23, 24, 25, 26, 27, 28, 29, 30, 31, 32, 33, 34, 35, 36, 37, 38, 39, 40, 41, 42, 43, 44, 45, 46, 47, 48, 49, 50, 51, 52, 53, 54, 55, 56, 57] rfl Kr Kr Kr Kr Kr) (SplitB.all _) (by simp) rfl rfl rfl (q_pev rfl (fun _ => rfl)) ?_
        refine ra_qg (.ab (i := 3) (js := [5, 6, 12, 13, 14, 15]) [4, 7, 8, 9, 10, 11, 16, 17, 18, 19, 20, 21, 22, 23, 24, 25, 26, 27, 28, 29, 30, 31, 32, 33, 34, 35, 36, 37, 38, 39, 40, 41, 42, 43, 44, 45, 46, 47, 48, 49, 50, 51, 52, 53, 54, 55, 56, 57] rfl Kr Kr Kr Kr Kr) (SplitB.all _) (by simp) (guard_vt rfl rfl rfl) rfl rfl (q_pev rfl Bt) ?_
        refine ra_qg (.ab (i := 4) (js := [5, 6, 12, 13, 14, 15]) [7, 8, 9, 10, 11, 16, 17, 18, 19, 20, 21, 22, 23, 24, 25, 26, 27, 28, 29, 30, 31, 32, 33, 34, 35, 36, 37, 38, 39, 40, 41, 42, 43, 44, 45, 46, 47, 48, 49, 50, 51, 52, 53, 54, 55, 56, 57] rfl Kr Kr Kr Kr Kr) (SplitB.all _) (by simp) (guard_vt rfl rfl rfl) rfl rfl (q_ld1 rfl rfl Bt rfl Mm rfl) ?_
        refine ra_qg (.ab (i := 5) (js := [12, 13, 14, 15]) [6, 7, 8, 9, 10, 11, 16, 17, 18, 19, 20, 21, 22, 23, 24, 25, 26, 27, 28, 29, 30, 31, 32, 33, 34, 35, 36, 37, 38, 39, 40, 41, 42, 43, 44, 45, 46, 47, 48, 49, 50, 51, 52, 53, 54, 55, 56, 57] rfl Kr Kr Kr Kr Kr) (SplitB.all _) (by simp) (guard_vt rfl rfl rfl) rfl rfl (q_pev rfl Bt) ?_
        refine ra_qg (.ab (i := 6) (js := [12, 13, 14, 15]) [7, 8, 9, 10, 11, 16, 17, 18, 19, 20, 21, 22, 23, 24, 25, 26, 27, 28, 29, 30, 31, 32, 33, 34, 35, 36, 37, 38, 39, 40, 41, 42, 43, 44, 45, 46, 47, 48, 49, 50, 51, 52, 53, 54, 55, 56, 57] rfl Kr Kr Kr Kr Kr) (SplitB.all _) (by simp) (guard_vt rfl rfl rfl) rfl rfl (q_sub rfl rfl Bt rfl Bt (by intro h; first | omega | (simp at h; omega))) ?_
        refine ra_qg (.ab (i := 7) (js := [12, 13, 14, 15]) [8, 9, 10, 11, 16, 17, 18, 19, 20, 21, 22, 23, 24, 25, 26, 27, 28, 29, 30, 31, 32, 33, 34, 35, 36, 37, 38, 39, 40, 41, 42, 43, 44, 45, 46, 47, 48, 49, 50, 51, 52, 53, 54, 55, 56, 57] rfl Kr Kr Kr Kr Kr) (SplitB.all _) (by simp) (guard_vt rfl rfl rfl) rfl rfl (q_idx EStep (n3 - 1) rfl rfl Bt rfl Bt rfl rfl rfl Mm rfl (by intro h; first | omega | rfl | (simp at h; omega)) (by first | (intro _; first | assumption | omega) | (intro h; simp at h; omega))) ?_
        refine ra_qg (.ab (i := 8) (js := [12, 13, 14, 15]) [9, 10, 11, 16, 17, 18, 19, 20, 21, 22, 23, 24, 25, 26, 27, 28, 29, 30, 31, 32, 33, 34, 35, 36, 37, 38, 39, 40, 41, 42, 43, 44, 45, 46, 47, 48, 49, 50, 51, 52, 53, 54, 55, 56, 57] rfl Kr Kr Kr Kr Kr) (SplitB.all _) (by simp) (guard_vt rfl rfl rfl) rfl rfl (q_fae rfl rfl Bt rfl rfl) ?_
        refine ra_qg (.ab (i := 9) (js := [12, 13, 14, 15]) [10, 11, 16, 17, 18, 19, 20, 21, 22, 23, 24, 25, 26, 27, 28, 29, 30, 31, 32, 33, 34, 35, 36, 37, 38, 39, 40, 41, 42, 43, 44, 45, 46, 47, 48, 49, 50, 51, 52, 53, 54, 55, 56, 57] rfl Kr Kr Kr Kr Kr) (SplitB.all _) (by simp) (guard_vt rfl rfl rfl) rfl rfl (q_fae rfl rfl Bt rfl rfl) ?_
        refine ra_qg (.ab (i := 10) (js := [12, 13, 14, 15]) [11, 16, 17, 18, 19, 20, 21, 22, 23, 24, 25, 26, 27, 28, 29, 30, 31, 32, 33, 34, 35, 36, 37, 38, 39, 40, 41, 42, 43, 44, 45, 46, 47, 48, 49, 50, 51, 52, 53, 54, 55, 56, 57] rfl Kr Kr Kr Kr Kr) (SplitB.all _) (by simp) (guard_vt rfl rfl rfl) rfl rfl (q_fae rfl rfl Bt rfl rfl) ?_
        refine ra_qg (.ab (i := 11) (js := [12, 13, 14, 15]) [16, 17, 18, 19, 20, 21, 22, 23, 24, 25, 26, 27, 28, 29, 30, 31, 32, 33, 34, 35, 36, 37, 38, 39, 40, 41, 42, 43, 44, 45, 46, 47, 48, 49, 50, 51, 52, 53, 54, 55, 56, 57] rfl Kr Kr Kr Kr Kr) (SplitB.all _) (by simp) (guard_vt rfl rfl rfl) rfl rfl (q_le1 EStep rfl rfl Bt rfl rfl Mm (by first | (intro _; first | assumption | omega) | (intro h; simp at h; omega)) rfl) ?_
        refine ra_qg (.ab (i := 12) (js := []) [13, 14, 15, 16, 17, 18, 19, 20, 21, 22, 23, 24, 25, 26, 27, 28, 29, 30, 31, 32, 33, 34, 35, 36, 37, 38, 39, 40, 41, 42, 43, 44, 45, 46, 47, 48, 49, 50, 51, 52, 53, 54, 55, 56, 57] rfl Kr Kr Kr Kr Kr) (SplitB.all _) (by simp) (guard_vt rfl rfl rfl) rfl rfl (q_pev rfl Bt) ?_
        refine ra_qg (.ab (i := 13) (js := []) [14, 15, 16, 17, 18, 19, 20, 21, 22, 23, 24, 25, 26, 27, 28, 29, 30, 31, 32, 33, 34, 35, 36, 37, 38, 39, 40, 41, 42, 43, 44, 45, 46, 47, 48, 49, 50, 51, 52, 53, 54, 55, 56, 57] rfl Kr Kr Kr Kr Kr) (SplitB.all _) (by simp) (guard_vt rfl rfl rfl) rfl rfl (q_pev rfl Bt) ?_
        refine ra_qg (.ab (i := 14) (js := []) [15, 16, 17, 18, 19, 20, 21, 22, 23, 24, 25, 26, 27, 28, 29, 30, 31, 32, 33, 34, 35, 36, 37, 38, 39, 40, 41, 42, 43, 44, 45, 46, 47, 48, 49, 50, 51, 52, 53, 54, 55, 56, 57] rfl Kr Kr Kr Kr Kr) (SplitB.all _) (by simp) (guard_vt rfl rfl rfl) rfl rfl (q_pev rfl Bt) ?_
        refine ra_qg (.ab (i := 15) (js := []) [16, 17, 18, 19, 20, 21, 22, 23, 24, 25, 26, 27, 28, 29, 30, 31, 32, 33, 34, 35, 36, 37, 38, 39, 40, 41, 42, 43, 44, 45, 46, 47, 48, 49, 50, 51, 52, 53, 54, 55, 56, 57] rfl Kr Kr Kr Kr Kr) (SplitB.all _) (by simp) (guard_vt rfl rfl rfl) rfl rfl (q_ld1 rfl rfl Bt rfl Mm rfl) ?_
        refine ra_qg (.ab (i := 16) (js := []) [17, 18, 19, 20, 21, 22, 23, 24, 25, 26, 27, 28, 29, 30, 31, 32, 33, 34, 35, 36, 37, 38, 39, 40, 41, 42, 43, 44, 45, 46, 47, 48, 49, 50, 51, 52, 53, 54, 55, 56, 57] rfl Kr Kr Kr Kr Kr) (SplitB.all _) (by simp) (guard_vt rfl rfl rfl) rfl rfl (q_pev rfl Bt) ?_
        refine ra_qg (.ab (i := 17) (js := []) [18, 19, 20, 21, 22, 23, 24, 25, 26, 27, 28, 29, 30, 31, 32, 33, 34, 35, 36, 37, 38, 39, 40, 41, 42, 43, 44, 45, 46, 47, 48, 49, 50, 51, 52, 53, 54, 55, 56, 57] rfl Kr Kr Kr Kr Kr) (SplitB.all _) (by simp) (guard_vt rfl rfl rfl) rfl rfl (q_pev rfl Bt) ?_
        refine ra_qg (.ab (i := 18) (js := [20, 21, 27, 28, 29, 30]) [19, 22, 23, 24, 25, 26, 31, 32, 33, 34, 35, 36, 37, 38, 39, 40, 41, 42, 43, 44, 45, 46, 47, 48, 49, 50, 51, 52, 53, 54, 55, 56, 57] rfl Kr Kr Kr Kr Kr) (SplitB.all _) (by simp) (guard_of rfl rfl rfl) rfl rfl (q_pev rfl Bt) ?_
        refine ra_qg (.ab (i := 19) (js := [20, 21, 27, 28, 29, 30]) [22, 23, 24, 25, 26, 31, 32, 33, 34, 35, 36, 37, 38, 39, 40, 41, 42, 43, 44, 45, 46, 47, 48, 49, 50, 51, 52, 53, 54, 55, 56, 57] rfl Kr Kr Kr Kr Kr) (SplitB.all _) (by simp) (guard_of rfl rfl rfl) rfl rfl (q_ld1 rfl rfl Bt rfl Mm rfl) ?_
        refine ra_qg (.ab (i := 20) (js := [27, 28, 29, 30]) [21, 22, 23, 24, 25, 26, 31, 32, 33, 34, 35, 36, 37, 38, 39, 40, 41, 42, 43, 44, 45, 46, 47, 48, 49, 50, 51, 52, 53, 54, 55, 56, 57] rfl Kr Kr Kr Kr Kr) (SplitB.all _) (by simp) (guard_of rfl rfl rfl) rfl rfl (q_pev rfl Bt) ?_
        refine ra_qg (.ab (i := 21) (js := [27, 28, 29, 30]) [22, 23, 24, 25, 26, 31, 32, 33, 34, 35, 36, 37, 38, 39, 40, 41, 42, 43, 44, 45, 46, 47, 48, 49, 50, 51, 52, 53, 54, 55, 56, 57] rfl Kr Kr Kr Kr Kr) (SplitB.all _) (by simp) (guard_of rfl rfl rfl) rfl rfl (q_sub rfl rfl Bt rfl Bt (by intro h; first | omega | (simp at h; omega))) ?_
        refine ra_qg (.ab (i := 22) (js := [27, 28, 29, 30]) [23, 24, 25, 26, 31, 32, 33, 34, 35, 36, 37, 38, 39, 40, 41, 42, 43, 44, 45, 46, 47, 48, 49, 50, 51, 52, 53, 54, 55, 56, 57] rfl Kr Kr Kr Kr Kr) (SplitB.all _) (by simp) (guard_of rfl rfl rfl) rfl rfl (q_idx EStep (n3 - 1) rfl rfl Bt rfl Bt rfl rfl rfl Mm rfl (by intro h; first | omega | rfl | (simp at h; omega)) (by first | (intro _; first | assumption | omega) | (intro h; simp at h; omega))) ?_
        refine ra_qg (.ab (i := 23) (js := [27, 28, 29, 30]) [24, 25, 26, 31, 32, 33, 34, 35, 36, 37, 38, 39, 40, 41, 42, 43, 44, 45, 46, 47, 48, 49, 50, 51, 52, 53, 54, 55, 56, 57] rfl Kr Kr Kr Kr Kr) (SplitB.all _) (by simp) (guard_of rfl rfl rfl) rfl rfl (q_fae rfl rfl Bt rfl rfl) ?_
        refine ra_qg (.ab (i := 24) (js := [27, 28, 29, 30]) [25, 26, 31, 32, 33, 34, 35, 36, 37, 38, 39, 40, 41, 42, 43, 44, 45, 46, 47, 48, 49, 50, 51, 52, 53, 54, 55, 56, 57] rfl Kr Kr Kr Kr Kr) (SplitB.all _) (by simp) (guard_of rfl rfl rfl) rfl rfl (q_fae rfl rfl Bt rfl rfl) ?_
        refine ra_qg (.ab (i := 25) (js := [27, 28, 29, 30]) [26, 31, 32, 33, 34, 35, 36, 37, 38, 39, 40, 41, 42, 43, 44, 45, 46, 47, 48, 49, 50, 51, 52, 53, 54, 55, 56, 57] rfl Kr Kr Kr Kr Kr) (SplitB.all _) (by simp) (guard_of rfl rfl rfl) rfl rfl (q_fae rfl rfl Bt rfl rfl) ?_
        refine ra_qg (.ab (i := 26) (js := [27, 28, 29, 30]) [31, 32, 33, 34, 35, 36, 37, 38, 39, 40, 41, 42, 43, 44, 45, 46, 47, 48, 49, 50, 51, 52, 53, 54, 55, 56, 57] rfl Kr Kr Kr Kr Kr) (SplitB.all _) (by simp) (guard_of rfl rfl rfl) rfl rfl (q_le1 EStep rfl rfl Bt rfl rfl Mm (by first | (intro _; first | assumption | omega) | (intro h; simp at h; omega)) rfl) ?_
        refine ra_qg (.ab (i := 27) (js := []) [28, 29, 30, 31, 32, 33, 34, 35, 36, 37, 38, 39, 40, 41, 42, 43, 44, 45, 46, 47, 48, 49, 50, 51, 52, 53, 54, 55, 56, 57] rfl Kr Kr Kr Kr Kr) (SplitB.all _) (by simp) (guard_of rfl rfl rfl) rfl rfl (q_pev rfl Bt) ?_
        refine ra_qg (.ab (i := 28) (js := []) [29, 30, 31, 32, 33, 34, 35, 36, 37, 38, 39, 40, 41, 42, 43, 44, 45, 46, 47, 48, 49, 50, 51, 52, 53, 54, 55, 56, 57] rfl Kr Kr Kr Kr Kr) (SplitB.all _) (by simp) (guard_of rfl rfl rfl) rfl rfl (q_pev rfl Bt) ?_
        refine ra_qg (.ab (i := 29) (js := []) [30, 31, 32, 33, 34, 35, 36, 37, 38, 39, 40, 41, 42, 43, 44, 45, 46, 47, 48, 49, 50, 51, 52, 53, 54, 55, 56, 57] rfl Kr Kr Kr Kr Kr) (SplitB.all _) (by simp) (guard_of rfl rfl rfl) rfl rfl (q_pev rfl Bt) ?_
        refine ra_qg (.ab (i := 30) (js := []) [31, 32, 33, 34, 35, 36, 37, 38, 39, 40, 41, 42, 43, 44, 45, 46, 47, 48, 49, 50, 51, 52, 53, 54, 55, 56, 57] rfl Kr Kr Kr Kr Kr) (SplitB.all _) (by simp) (guard_of rfl rfl rfl) rfl rfl (q_ld1 rfl rfl Bt rfl Mm rfl) ?_
        refine ra_qg (.ab (i := 31) (js := []) [32, 33, 34, 35, 36, 37, 38, 39, 40, 41, 42, 43, 44, 45, 46, 47, 48, 49, 50, 51, 52, 53, 54, 55, 56, 57] rfl Kr Kr Kr Kr Kr) (SplitB.all _) (by simp) (guard_of rfl rfl rfl) rfl rfl (q_pev rfl Bt) ?_
        refine ra_qg (.ab (i := 32) (js := []) [33, 34, 35, 36, 37, 38, 39, 40, 41, 42, 43, 44, 45, 46, 47, 48, 49, 50, 51, 52, 53, 54, 55, 56, 57] rfl Kr Kr Kr Kr Kr) (SplitB.all _) (by simp) (guard_of rfl rfl rfl) rfl rfl (q_pev rfl Bt) ?_
        refine ra_qg (.ab (i := 33) (js := [35, 36, 42, 43, 44, 45]) [34, 37, 38, 39, 40, 41, 46, 47, 48, 49, 50, 51, 52, 53, 54, 55, 56, 57] rfl Kr Kr Kr Kr Kr) (SplitB.all _) (by simp) (guard_ot rfl rfl rfl) rfl rfl (q_pev rfl Bt) ?_
        refine ra_qg (.ab (i := 34) (js := [35, 36, 42, 43, 44, 45]) [37, 38, 39, 40, 41, 46, 47, 48, 49, 50, 51, 52, 53, 54, 55, 56, 57] rfl Kr Kr Kr Kr Kr) (SplitB.all _) (by simp) (guard_ot rfl rfl rfl) rfl rfl (q_ld1 rfl rfl Bt rfl Mm rfl) ?_
        refine ra_qg (.ab (i := 35) (js := [42, 43, 44, 45]) [36, 37, 38, 39, 40, 41, 46, 47, 48, 49, 50, 51, 52, 53, 54, 55, 56, 57] rfl Kr Kr Kr Kr Kr) (SplitB.all _) (by simp) (guard_ot rfl rfl rfl) rfl rfl (q_pev rfl Bt) ?_
        refine ra_qg (.ab (i := 36) (js := [42, 43, 44, 45]) [37, 38, 39, 40, 41, 46, 47, 48, 49, 50, 51, 52, 53, 54, 55, 56, 57] rfl Kr Kr Kr Kr Kr) (SplitB.all _) (by simp) (guard_ot rfl rfl rfl) rfl rfl (q_sub rfl rfl Bt rfl Bt (by intro h; first | omega | (simp at h; omega))) ?_
        refine ra_qg (.ab (i := 37) (js := [42, 43, 44, 45]) [38, 39, 40, 41, 46, 47, 48, 49, 50, 51, 52, 53, 54, 55, 56, 57] rfl Kr Kr Kr Kr Kr) (SplitB.all _) (by simp) (guard_ot rfl rfl rfl) rfl rfl (q_idx EStep (n3 - 1) rfl rfl Bt rfl Bt rfl rfl rfl Mm rfl (by intro h; first | omega | rfl | (simp at h; omega)) (by first | (intro _; first | assumption | omega) | (intro h; simp at h; omega))) ?_
        refine ra_qg (.ab (i := 38) (js := [42, 43, 44, 45]) [39, 40, 41, 46, 47, 48, 49, 50, 51, 52, 53, 54, 55, 56, 57] rfl Kr Kr Kr Kr Kr) (SplitB.all _) (by simp) (guard_ot rfl rfl rfl) rfl rfl (q_fae rfl rfl Bt rfl rfl) ?_
        refine ra_qg (.ab (i := 39) (js := [42, 43, 44, 45]) [40, 41, 46, 47, 48, 49, 50, 51, 52, 53, 54, 55, 56, 57] rfl Kr Kr Kr Kr Kr) (SplitB.all _) (by simp) (guard_ot rfl rfl rfl) rfl rfl (q_fae rfl rfl Bt rfl rfl) ?_
        refine ra_qg (.ab (i := 40) (js := [42, 43, 44, 45]) [41, 46, 47, 48, 49, 50, 51, 52, 53, 54, 55, 56, 57] rfl Kr Kr Kr Kr Kr) (SplitB.all _) (by simp) (guard_ot rfl rfl rfl) rfl rfl (q_fae rfl rfl Bt rfl rfl) ?_
        refine ra_qg (.ab (i := 41) (js := [42, 43, 44, 45]) [46, 47, 48, 49, 50, 51, 52, 53, 54, 55, 56, 57] rfl Kr Kr Kr Kr Kr) (SplitB.all _) (by simp) (guard_ot rfl rfl rfl) rfl rfl (q_le1 EStep rfl rfl Bt rfl rfl Mm (by first | (intro _; first | assumption | omega) | (intro h; simp at h; omega)) rfl) ?_
        refine ra_qg (.ab (i := 42) (js := []) [43, 44, 45, 46, 47, 48, 49, 50, 51, 52, 53, 54, 55, 56, 57] rfl Kr Kr Kr Kr Kr) (SplitB.all _) (by simp) (guard_ot rfl rfl rfl) rfl rfl (q_pev rfl Bt) ?_
        refine ra_qg (.ab (i := 43) (js := []) [44, 45, 46, 47, 48, 49, 50, 51, 52, 53, 54, 55, 56, 57] rfl Kr Kr Kr Kr Kr) (SplitB.all _) (by simp) (guard_ot rfl rfl rfl) rfl rfl (q_pev rfl Bt) ?_
        refine ra_qg (.ab (i := 44) (js := []) [45, 46, 47, 48, 49, 50, 51, 52, 53, 54, 55, 56, 57] rfl Kr Kr Kr Kr Kr) (SplitB.all _) (by simp) (guard_ot rfl rfl rfl) rfl rfl (q_pev rfl Bt) ?_
        refine ra_qg (.ab (i := 45) (js := []) [46, 47, 48, 49, 50, 51, 52, 53, 54, 55, 56, 57] rfl Kr Kr Kr Kr Kr) (SplitB.all _) (by simp) (guard_ot rfl rfl rfl) rfl rfl (q_ld1 rfl rfl Bt rfl Mm rfl) ?_
        refine ra_qg (.ab (i := 46) (js := []) [47, 48, 49, 50, 51, 52, 53, 54, 55, 56, 57] rfl Kr Kr Kr Kr Kr) (SplitB.all _) (by simp) (guard_ot rfl rfl rfl) rfl rfl (q_pev rfl Bt) ?_
        refine ra_qg (.ab (i := 47) (js := []) [48, 49, 50, 51, 52, 53, 54, 55, 56, 57] rfl Kr Kr Kr Kr Kr) (SplitB.all _) (by simp) (guard_of rfl rfl rfl) rfl rfl (q_pev rfl Bt) ?_
        refine ra_qg (.ab (i := 48) (js := []) [49, 50, 51, 52, 53, 54, 55, 56, 57] rfl Kr Kr Kr Kr Kr) (SplitB.all _) (by simp) (guard_vt rfl rfl rfl) rfl rfl (q_pev rfl Bt) ?_
        refine ra_qg (.ab (i := 49) (js := []) [50, 51, 52, 53, 54, 55, 56, 57] rfl Kr Kr Kr Kr Kr) (SplitB.all _) (by simp) (guard_vt rfl rfl rfl) rfl rfl (q_pev rfl Bt) ?_
        refine ra_q (.ab (i := 50) (js := []) [51, 52, 53, 54, 55, 56, 57] rfl Kr Kr Kr Kr Kr) (SplitB.all _) (by simp) rfl rfl rfl (q_pev rfl Bt) ?_
        refine ra_q (.an (i := 51) (js := []) rfl Kr Kr Kr Kr) (SplitB.all _) (by simp) rfl rfl rfl (q_pev rfl (fun _ => rfl)) ?_
        refine ra_qg (.ab (i := 52) (js := [53, 54]) [55, 56, 57] rfl Kr Kr Kr Kr Kr) (SplitB.all _) (by simp) (guard_vf rfl rfl rfl) rfl rfl (q_pev rfl Bt) ?_
        refine ra_qg (.ab (i := 53) (js := []) [54, 55, 56, 57] rfl Kr Kr Kr Kr Kr) (SplitB.all _) (by simp) (guard_vf rfl rfl rfl) rfl rfl (q_pev rfl Bt) ?_
        refine ra_qg (.ab (i := 54) (js := []) [55, 56, 57] rfl Kr Kr Kr Kr Kr) (SplitB.all _) (by simp) (guard_vf rfl rfl rfl) rfl rfl (q_ldP rfl rfl Bt rfl Mm rfl) ?_
        refine ra_one 55 Kr ?_
        refine rw_callg (fun hG_ => slices_Contains_Op_spec' y1 l1 ((gt (((history_Fold l1).1).l) n3).o)) (fun _ => rfl) (.an rfl rfl) (guard_vf rfl rfl rfl) rfl rfl rfl Kr rfl Bt Sm ?_
        refine ra_qg (.an (i := 56) (js := []) rfl Kr Kr Kr Kr) (SplitB.all _) (by simp) (guard_vf rfl rfl rfl) rfl rfl (q_pev rfl Bt) ?_
        refine ra_q (.an (i := 57) (js := []) rfl Kr Kr Kr Kr) (SplitB.all _) (by simp) rfl rfl rfl (q_pev rfl Bt) ?_
        refine ra_nil Kr ?_
        (repeat refine cw_seq ?_); refine cw_cond (b := ((decide ((n3 : Int) > 0) && (!(decide ((((gt (((history_Fold l1).1).l) (n3 - 1)).o).time) < (((gt (((history_Fold l1).1).l) n3).o).time)) || (((((gt (((history_Fold l1).1).l) (n3 - 1)).o).time) == (((gt (((history_Fold l1).1).l) n3).o).time)) && decide ((((gt (((history_Fold l1).1).l) (n3 - 1)).o).who) < (((gt (((history_Fold l1).1).l) n3).o).who)))))) || (!(decide (((gt (((history_Fold l1).1).l) n3).o) ∈ l1))))) rfl rfl (fun hc7 => ?_) (fun hc7 => ?_)
        · skip
          (repeat refine cw_seq ?_); refine cw_region ?_
          refine Rp rfl rfl rfl rfl ?_
          refine rw_nil ?_
          (repeat refine cw_seq ?_)
          have hr3 : (orangerylaw_HistoryLast l1) = false := by rw [← hf3, drop_gt hlt2]; simp only [orangerylaw_HistoryLast_L2, hc7, cond_true, cond_false]
          refine cw_ret ?_
          rw [hr3]
          exact ⟨(), _, (.cons (.tmp rfl) .nil), rfl, Sm, .nil _, .nil _⟩
        · skip
          (repeat refine cw_seq ?_); refine cw_skip ?_
          (repeat refine cw_seq ?_); refine cw_region ?_
          refine rw_q rfl rfl rfl (q_add rfl rfl (fun _ => rfl) rfl (fun _ => rfl) (fun _ => by omega)) ?_
          refine Rp rfl rfl rfl rfl ?_
          refine rw_nil ?_
          refine ⟨(n3 + 1), ⟨hlt2, (by rw [← hf3, drop_gt hlt2]; simp only [orangerylaw_HistoryLast_L2, hc7, cond_true, cond_false] : (orangerylaw_HistoryLast l1) = (orangerylaw_HistoryLast_L2 l1 ((((history_Fold l1).1).l).drop (n3 + 1)) (n3 + 1))).symm⟩, (by simp only []; omega), Le4⟩
      · skip
        have hge2 : (((history_Fold l1).1).l).length ≤ n3 := by have := of_decide_eq_false hc6; omega
        (repeat refine cw_seq ?_); refine cw_exit ?_
        (repeat refine cw_seq ?_); refine cw_region ?_
        refine Rp rfl rfl rfl rfl ?_
        refine rw_q rfl rfl rfl (q_ld1 rfl rfl (fun _ => rfl) rfl Mm rfl) ?_
        refine Rp rfl rfl rfl rfl ?_
        refine Rp rfl rfl rfl rfl ?_
        refine Rp rfl rfl rfl rfl ?_
        refine Rp rfl rfl rfl rfl ?_
        refine Rp rfl rfl rfl rfl ?_
        refine rw_nil ?_
        (repeat refine cw_seq ?_)
        have hr4 : (orangerylaw_HistoryLast l1) = (((((history_Fold l1).1).l).length : Int) == (l1.length : Int)) := by rw [← hf3, List.drop_of_length_le hge2]; simp only [orangerylaw_HistoryLast_L2, cond_true, cond_false]
        refine cw_ret ?_
        rw [hr4]
        exact ⟨(), _, (.cons (.tmp rfl) .nil), rfl, Sm, .nil _, .nil _⟩
end Go.Proofs.Ytchdacbjiomplaa
