/- Part of this claim. No condition. -/
import Derived.Test.YtchdacbjiomplaaLDeltaC
import Derived.Test.YtchdacbjiomplaaW17
set_option linter.unusedVariables false
set_option linter.unusedSimpArgs false
namespace Go.Proofs.Ytchdacbjiomplaa
open Go Go.Proofs.Ytchdacbjiomplaa.Fw Go.Proofs
attribute [local irreducible] RdL RdN VarP
def orangeryref_Applied_1_L1  : List Place → (List Place) → (List Place)
  | [], tb2 => (orangeryref_places tb2)
  | pn2 :: rn2, tb2 => (orangeryref_Applied_1_L1 rn2 (tb2.set ((pn2.node).toNat) pn2))
def orangeryref_Applied_1_L0 (here1 : List Place) : List Int → (List Place) → (List Place)
  | [], tb1 => (orangeryref_Applied_1_L1 here1 tb1)
  | pn1 :: rn1, tb1 => (orangeryref_Applied_1_L0 here1 rn1 (tb1.set (pn1.toNat) (⟨(gt tb1 (pn1.toNat)).node, (-1), (gt tb1 (pn1.toNat)).name⟩ : Place)))
def orangeryref_Applied_1 (l1 : List Place) (gone1 : List Int) (here1 : List Place) : List Place :=
  (orangeryref_Applied_1_L0 here1 gone1 (orangeryref_table l1))
theorem orangeryref_Applied_1_spec (y1 : SlV) (l1 : List Place) (y2 : SlV) (gone1 : List Int) (y3 : SlV) (here1 : List Place) (hnode : ∀ p ∈ l1, 0 ≤ p.node ∧ p.node < 16) (hg : ∀ n ∈ gone1, 0 ≤ n ∧ n < 16) (hh : ∀ p ∈ here1, 0 ≤ p.node ∧ p.node < 16) : Does Try.prog 146 [y1.val l1.length, y2.val gone1.length, y3.val here1.length] [RdL EPlace y1 l1, RdL EInt y2 gone1, RdL EPlace y3 here1] (fun (X : SlV) => X.val (orangeryref_Applied_1 l1 gone1 here1).length) (fun (X : SlV) => [RdL EPlace X (orangeryref_Applied_1 l1 gone1 here1)]) := by
  refine does_of tab_ok Try.func146 rfl Try.ntmps146 Try.results146 rfl inferInstance (fun _ => inferInstance) fun C => ?_
  refine cw_pure (φ := l1.length * 24 ≤ 140737488355328) [RdL EPlace y1 l1] Sm (fun M w h => (allF1 h).len) fun hlen1 => ?_
  refine cw_pure (φ := gone1.length * 8 ≤ 140737488355328) [RdL EInt y2 gone1] Sm (fun M w h => (allF1 h).len) fun hlen2 => ?_
  refine cw_pure (φ := here1.length * 24 ≤ 140737488355328) [RdL EPlace y3 here1] Sm (fun M w h => (allF1 h).len) fun hlen3 => ?_
  (repeat refine cw_seq ?_); refine cw_region ?_
  refine Rp rfl rfl rfl rfl ?_
  refine rw_nil ?_
  (repeat refine cw_seq ?_); refine cw_region ?_
  refine Rp rfl rfl rfl rfl ?_
  refine rw_call (orangeryref_table_spec y1 l1 hnode) .sq (guard_none rfl) rfl rfl rfl Kr rfl rfl Sm ?_
  intro _
  refine rw_alloc .sq (guard_none rfl) rfl rfl rfl rfl fun g1 => ?_
  refine rw_stAr EPlace (orangeryref_table l1) (n := 16) .sq (.inl ⟨_, rfl⟩) (guard_none rfl) rfl rfl rfl rfl rfl rfl rfl (table_len l1) rfl Ub (by rfl) ?_
  refine rw_nil ?_
  (repeat refine cw_seq ?_); refine cw_region ?_
  refine Rp rfl rfl rfl rfl ?_
  refine Rp rfl rfl rfl rfl ?_
  refine Rp rfl rfl rfl rfl ?_
  refine rw_nil ?_
  (repeat refine cw_seq ?_); refine cw_block ?_
  (repeat refine cw_seq ?_); refine cw_loopS [2, 6, 7, 14, 15] [false] (fun (i_ : Nat × List Place) => match i_ with | ⟨n1, tb1⟩ => [(16, .v (.int .i64 (n1 : Int)))]) (fun (i_ : Nat × List Place) => match i_ with | ⟨n1, tb1⟩ => [⟨g1, 169, (tb1.flatMap EPlace.enc)⟩]) (fun (i_ : Nat × List Place) => match i_ with | ⟨n1, tb1⟩ => []) (fun (i_ : Nat × List Place) => match i_ with | ⟨n1, tb1⟩ => []) (fun (i_ : Nat × List Place) => match i_ with | ⟨n1, tb1⟩ => (n1 ≤ gone1.length) ∧ (tb1.length = 16) ∧ (orangeryref_Applied_1_L0 here1 (gone1.drop n1) tb1) = (orangeryref_Applied_1 l1 gone1 here1)) (fun (i_ : Nat × List Place) => match i_ with | ⟨n1, tb1⟩ => gone1.length - n1) ⟨0, (orangeryref_table l1)⟩ (.cons rfl (.cons rfl (.cons rfl (.cons rfl (.cons rfl (.nil _)))))) (.drop (.nil)) ⟨Nat.zero_le _, (table_len l1), (by simp only [orangeryref_Applied_1, cond_true, cond_false] : (orangeryref_Applied_1 l1 gone1 here1) = (orangeryref_Applied_1_L0 here1 gone1 (orangeryref_table l1))).symm⟩ Le4 ?_
  rintro ⟨n1, tb1⟩ ⟨hkn1, hl_tb1, hf1⟩
  simp only [List.cons_append, List.nil_append]
  (repeat refine cw_seq ?_); refine cw_region ?_
  refine Rp rfl rfl rfl rfl ?_
  refine rw_nil ?_
  (repeat refine cw_seq ?_); refine cw_cond (b := decide ((n1 : Int) < (gone1.length : Int))) rfl rfl (fun hc1 => ?_) (fun hc1 => ?_)
  · skip
    have hlt0 : n1 < gone1.length := Int.ofNat_lt.1 (of_decide_eq_true hc1)
    have hgb := hg _ (gt_mem hlt0)
    (repeat refine cw_seq ?_); refine cw_skip ?_
    (repeat refine cw_seq ?_); refine cw_block ?_
    (repeat refine cw_seq ?_); refine cw_region ?_
    refine rw_q rfl rfl rfl (q_idx EInt n1 rfl rfl (fun _ => rfl) rfl (fun _ => rfl) rfl rfl rfl Mm rfl (fun _ => rfl) (fun _ => by first | assumption | omega)) ?_
    refine rw_q rfl rfl rfl (q_le1 EInt rfl rfl (fun _ => rfl) rfl rfl Mm (fun _ => by first | assumption | omega) rfl) ?_
    refine Rp rfl rfl rfl rfl ?_
    refine rw_nil ?_
    (repeat refine cw_seq ?_); refine cw_region ?_
    refine Rp rfl rfl rfl rfl ?_
    refine rw_q rfl rfl rfl (q_idxB ((gt gone1 n1).toNat) rfl rfl (fun _ => rfl) rfl (fun _ => rfl) rfl rfl rfl (fun _ => by omega) (fun _ => by first | assumption | omega)) ?_
    refine Rp rfl rfl rfl rfl ?_
    refine rw_stT1 EPlace tb1 ((gt gone1 n1).toNat) 1 (⟨(gt tb1 ((gt gone1 n1).toNat)).node, (-1), (gt tb1 ((gt gone1 n1).toNat)).name⟩ : Place) .sq (.inl ⟨_, rfl⟩) (guard_none rfl) rfl rfl rfl rfl rfl rfl rfl rfl rfl rfl rfl rfl (by rw [hl_tb1]; first | assumption | omega) rfl Ub ?_
    refine rw_nil ?_
    (repeat refine cw_seq ?_); refine cw_region ?_
    refine rw_q rfl rfl rfl (q_add rfl rfl (fun _ => rfl) rfl (fun _ => rfl) (fun _ => by omega)) ?_
    refine Rp rfl rfl rfl rfl ?_
    refine rw_nil ?_
    refine ⟨⟨(n1 + 1), (tb1.set ((gt gone1 n1).toNat) (⟨(gt tb1 ((gt gone1 n1).toNat)).node, (-1), (gt tb1 ((gt gone1 n1).toNat)).name⟩ : Place))⟩, ⟨hlt0, (by rw [List.length_set]; exact hl_tb1), (by rw [← hf1, drop_gt hlt0]; simp only [orangeryref_Applied_1_L0, cond_true, cond_false] : (orangeryref_Applied_1 l1 gone1 here1) = (orangeryref_Applied_1_L0 here1 (gone1.drop (n1 + 1)) (tb1.set ((gt gone1 n1).toNat) (⟨(gt tb1 ((gt gone1 n1).toNat)).node, (-1), (gt tb1 ((gt gone1 n1).toNat)).name⟩ : Place)))).symm⟩, (by simp only []; omega), Le4⟩
  · skip
    have hge0 : gone1.length ≤ n1 := by have := of_decide_eq_false hc1; omega
    (repeat refine cw_seq ?_); refine cw_exit ?_
    (repeat refine cw_seq ?_); refine cw_region ?_
    refine Rp rfl rfl rfl rfl ?_
    refine Rp rfl rfl rfl rfl ?_
    refine Rp rfl rfl rfl rfl ?_
    refine rw_nil ?_
    (repeat refine cw_seq ?_); refine cw_block ?_
    (repeat refine cw_seq ?_); refine cw_loopS [6, 7, 24, 25] [false] (fun (i_ : Nat × List Place) => match i_ with | ⟨n2, tb2⟩ => [(26, .v (.int .i64 (n2 : Int)))]) (fun (i_ : Nat × List Place) => match i_ with | ⟨n2, tb2⟩ => [⟨g1, 169, (tb2.flatMap EPlace.enc)⟩]) (fun (i_ : Nat × List Place) => match i_ with | ⟨n2, tb2⟩ => []) (fun (i_ : Nat × List Place) => match i_ with | ⟨n2, tb2⟩ => []) (fun (i_ : Nat × List Place) => match i_ with | ⟨n2, tb2⟩ => (n2 ≤ here1.length) ∧ (tb2.length = 16) ∧ (orangeryref_Applied_1_L1 (here1.drop n2) tb2) = (orangeryref_Applied_1 l1 gone1 here1)) (fun (i_ : Nat × List Place) => match i_ with | ⟨n2, tb2⟩ => here1.length - n2) ⟨0, tb1⟩ (.cons rfl (.cons rfl (.cons rfl (.cons rfl (.nil _))))) (.drop (.nil)) ⟨Nat.zero_le _, hl_tb1, (by rw [← hf1, List.drop_of_length_le hge0]; simp only [orangeryref_Applied_1_L0, cond_true, cond_false] : (orangeryref_Applied_1 l1 gone1 here1) = (orangeryref_Applied_1_L1 here1 tb1)).symm⟩ Le4 ?_
    rintro ⟨n2, tb2⟩ ⟨hkn2, hl_tb2, hf2⟩
    simp only [List.cons_append, List.nil_append]
    (repeat refine cw_seq ?_); refine cw_region ?_
    refine Rp rfl rfl rfl rfl ?_
    refine rw_nil ?_
    (repeat refine cw_seq ?_); refine cw_cond (b := decide ((n2 : Int) < (here1.length : Int))) rfl rfl (fun hc2 => ?_) (fun hc2 => ?_)
    · skip
      have hlt1 : n2 < here1.length := Int.ofNat_lt.1 (of_decide_eq_true hc2)
      have hhb := hh _ (gt_mem hlt1)
      (repeat refine cw_seq ?_); refine cw_skip ?_
      (repeat refine cw_seq ?_); refine cw_block ?_
      (repeat refine cw_seq ?_); refine cw_region ?_
      refine rw_q rfl rfl rfl (q_idx EPlace n2 rfl rfl (fun _ => rfl) rfl (fun _ => rfl) rfl rfl rfl Mm rfl (fun _ => rfl) (fun _ => by first | assumption | omega)) ?_
      refine rw_q rfl rfl rfl (q_leA EPlace rfl rfl (fun _ => rfl) rfl rfl Mm (fun _ => by first | assumption | omega)) ?_
      refine rw_alloc .sq (guard_none rfl) rfl rfl rfl rfl fun g2 => ?_
      refine rw_stA .sq (.inl ⟨_, rfl⟩) (guard_none rfl) rfl rfl rfl rfl rfl rfl rfl rfl rfl Ub rfl ?_
      refine rw_nil ?_
      (repeat refine cw_seq ?_); refine cw_region ?_
      refine Rp rfl rfl rfl rfl ?_
      refine rw_q rfl rfl rfl (q_ld1 rfl rfl (fun _ => rfl) rfl Mm rfl) ?_
      refine rw_q rfl rfl rfl (q_ldA rfl rfl (fun _ => rfl) rfl Mm rfl) ?_
      refine rw_q rfl rfl rfl (q_idxB (((gt here1 n2).node).toNat) rfl rfl (fun _ => rfl) rfl (fun _ => rfl) rfl rfl rfl (fun _ => by omega) (fun _ => by first | assumption | omega)) ?_
      refine rw_stT EPlace tb2 (((gt here1 n2).node).toNat) (gt here1 n2) .sq (.inl ⟨_, rfl⟩) (guard_none rfl) rfl rfl rfl rfl rfl rfl rfl rfl rfl (by rw [hl_tb2]; first | assumption | omega) Ub ?_
      refine rw_nil ?_
      (repeat refine cw_seq ?_); refine cw_region ?_
      refine rw_q rfl rfl rfl (q_add rfl rfl (fun _ => rfl) rfl (fun _ => rfl) (fun _ => by omega)) ?_
      refine Rp rfl rfl rfl rfl ?_
      refine rw_nil ?_
      refine ⟨⟨(n2 + 1), (tb2.set (((gt here1 n2).node).toNat) (gt here1 n2))⟩, ⟨hlt1, (by rw [List.length_set]; exact hl_tb2), (by rw [← hf2, drop_gt hlt1]; simp only [orangeryref_Applied_1_L1, cond_true, cond_false] : (orangeryref_Applied_1 l1 gone1 here1) = (orangeryref_Applied_1_L1 (here1.drop (n2 + 1)) (tb2.set (((gt here1 n2).node).toNat) (gt here1 n2)))).symm⟩, (by simp only []; omega), Le4⟩
    · skip
      have hge1 : here1.length ≤ n2 := by have := of_decide_eq_false hc2; omega
      (repeat refine cw_seq ?_); refine cw_exit ?_
      (repeat refine cw_seq ?_); refine cw_region ?_
      refine rw_q rfl rfl rfl (q_ldA rfl rfl (fun _ => rfl) rfl Mm (flat_len EPlace (n := 16) hl_tb2 rfl)) ?_
      refine rw_call (orangeryref_places_spec tb2 (by first | assumption | omega)) .sq (guard_none rfl) rfl rfl rfl Kr rfl rfl Sm ?_
      intro x1
      refine rw_pure (φ := (orangeryref_places tb2).length * 24 ≤ 140737488355328) [RdL EPlace x1 (orangeryref_places tb2)] Sm (fun M w h => (allF1 h).len) fun hlen4 => ?_
      refine Rp rfl rfl rfl rfl ?_
      refine rw_nil ?_
      (repeat refine cw_seq ?_)
      have hr1 : (orangeryref_Applied_1 l1 gone1 here1) = (orangeryref_places tb2) := by rw [← hf2, List.drop_of_length_le hge1]; simp only [orangeryref_Applied_1_L1, cond_true, cond_false]
      refine cw_ret ?_
      rw [hr1]
      exact ⟨x1, _, (.cons (.tmp rfl) .nil), rfl, Sm, .nil _, .nil _⟩

def orangeryref_Applied (v1 : View) (d1 : Delta) : View × Int :=
  (bif ((orangeryref_CheckView v1) != 0) then ((⟨([] : List Int), ([] : List Place), ([] : List Place)⟩ : View), (orangeryref_CheckView v1)) else (bif ((orangeryref_CheckDelta d1) != 0) then ((⟨([] : List Int), ([] : List Place), ([] : List Place)⟩ : View), (orangeryref_CheckDelta d1)) else (bif ((orangeryref_CheckView (⟨v1.roots, (orangeryref_Applied_1 v1.known d1.gone d1.here), (orangeryref_Applied_1 v1.way d1.wayGone d1.wayHere)⟩ : View)) != 0) then ((⟨([] : List Int), ([] : List Place), ([] : List Place)⟩ : View), (orangeryref_CheckView (⟨v1.roots, (orangeryref_Applied_1 v1.known d1.gone d1.here), (orangeryref_Applied_1 v1.way d1.wayGone d1.wayHere)⟩ : View))) else ((⟨v1.roots, (orangeryref_Applied_1 v1.known d1.gone d1.here), (orangeryref_Applied_1 v1.way d1.wayGone d1.wayHere)⟩ : View), 0))))
theorem orangeryref_Applied_spec (y1 : SlV) (y2 : SlV) (y3 : SlV) (v1 : View) (y4 : SlV) (y5 : SlV) (y6 : SlV) (y7 : SlV) (d1 : Delta) : Does Try.prog 62 [.agg ⟨[y1.val v1.roots.length, y2.val v1.known.length, y3.val v1.way.length]⟩, .agg ⟨[y4.val d1.gone.length, y5.val d1.here.length, y6.val d1.wayGone.length, y7.val d1.wayHere.length]⟩] [RdL EInt y1 v1.roots, RdL EPlace y2 v1.known, RdL EPlace y3 v1.way, RdL EInt y4 d1.gone, RdL EPlace y5 d1.here, RdL EInt y6 d1.wayGone, RdL EPlace y7 d1.wayHere] (fun (X : SlV × SlV × SlV) => .tuple #[.agg ⟨[X.1.val (((orangeryref_Applied v1 d1).1).roots).length, X.2.1.val (((orangeryref_Applied v1 d1).1).known).length, X.2.2.val (((orangeryref_Applied v1 d1).1).way).length]⟩, .int .i64 ((orangeryref_Applied v1 d1).2)]) (fun (X : SlV × SlV × SlV) => [RdL EInt X.1 (((orangeryref_Applied v1 d1).1).roots), RdL EPlace X.2.1 (((orangeryref_Applied v1 d1).1).known), RdL EPlace X.2.2 (((orangeryref_Applied v1 d1).1).way)]) := by
  refine does_of tab_ok Try.func62 rfl Try.ntmps62 Try.results62 rfl inferInstance (fun _ => inferInstance) fun C => ?_
  refine cw_pure (φ := v1.roots.length * 8 ≤ 140737488355328) [RdL EInt y1 v1.roots] Sm (fun M w h => (allF1 h).len) fun hlen1 => ?_
  refine cw_pure (φ := v1.known.length * 24 ≤ 140737488355328) [RdL EPlace y2 v1.known] Sm (fun M w h => (allF1 h).len) fun hlen2 => ?_
  refine cw_pure (φ := v1.way.length * 24 ≤ 140737488355328) [RdL EPlace y3 v1.way] Sm (fun M w h => (allF1 h).len) fun hlen3 => ?_
  refine cw_pure (φ := d1.gone.length * 8 ≤ 140737488355328) [RdL EInt y4 d1.gone] Sm (fun M w h => (allF1 h).len) fun hlen4 => ?_
  refine cw_pure (φ := d1.here.length * 24 ≤ 140737488355328) [RdL EPlace y5 d1.here] Sm (fun M w h => (allF1 h).len) fun hlen5 => ?_
  refine cw_pure (φ := d1.wayGone.length * 8 ≤ 140737488355328) [RdL EInt y6 d1.wayGone] Sm (fun M w h => (allF1 h).len) fun hlen6 => ?_
  refine cw_pure (φ := d1.wayHere.length * 24 ≤ 140737488355328) [RdL EPlace y7 d1.wayHere] Sm (fun M w h => (allF1 h).len) fun hlen7 => ?_
  (repeat refine cw_seq ?_); refine cw_region ?_
  refine rw_box_agg .sq (guard_none rfl) rfl rfl rfl rfl rfl fun g1 => ?_
  refine rw_box_agg .sq (guard_none rfl) rfl rfl rfl rfl rfl fun g2 => ?_
  refine rw_alloc .sq (guard_none rfl) rfl rfl rfl rfl fun g3 => ?_
  refine Rp rfl rfl rfl rfl ?_
  refine rw_nil ?_
  (repeat refine cw_seq ?_); refine cw_region ?_
  refine rw_q rfl rfl rfl (q_ldA rfl rfl (fun _ => rfl) rfl Mm rfl) ?_
  refine rw_call (orangeryref_CheckView_spec y1 y2 y3 v1) .sq (guard_none rfl) rfl rfl rfl Kr rfl rfl Sm ?_
  intro _
  refine Rp rfl rfl rfl rfl ?_
  refine rw_nil ?_
  (repeat refine cw_seq ?_); refine cw_region ?_
  refine Rp rfl rfl rfl rfl ?_
  refine Rp rfl rfl rfl rfl ?_
  refine rw_nil ?_
  (repeat refine cw_seq ?_); refine cw_cond (b := ((orangeryref_CheckView v1) != 0)) rfl rfl (fun hc1 => ?_) (fun hc1 => ?_)
  · skip
    have hc1p := bne_iff_ne.1 hc1
    (repeat refine cw_seq ?_); refine cw_region ?_
    refine Rp rfl rfl rfl rfl ?_
    refine Rp rfl rfl rfl rfl ?_
    refine rw_stA .sq (.inl ⟨_, rfl⟩) (guard_none rfl) rfl rfl rfl rfl rfl rfl rfl rfl rfl Ub rfl ?_
    refine Rp rfl rfl rfl rfl ?_
    refine rw_nil ?_
    (repeat refine cw_seq ?_)
    refine cw_fact (F := RdL EInt ⟨none, 0⟩ ([] : List Int)) [] (.nil _) (fun M w _ => RdL.nil _ _ _ (by omega) M w) ?_
    refine cw_fact (F := RdL EPlace ⟨none, 0⟩ ([] : List Place)) [] (.nil _) (fun M w _ => RdL.nil _ _ _ (by omega) M w) ?_
    have hr1 : (orangeryref_Applied v1 d1) = ((⟨([] : List Int), ([] : List Place), ([] : List Place)⟩ : View), (orangeryref_CheckView v1)) := by simp only [orangeryref_Applied, hc1, cond_true, cond_false]
    refine cw_ret ?_
    rw [hr1]
    exact ⟨⟨(⟨none, 0⟩ : SlV), (⟨none, 0⟩ : SlV), (⟨none, 0⟩ : SlV)⟩, _, (.cons (.agg rfl rfl Mm rfl) (.cons (.tmp rfl) .nil)), rfl, Sm, .nil _, .nil _⟩
  · skip
    have hc1p := eq_of_bne_false hc1
    have hcv := CheckView_nodes (eq_of_bne_false hc1)
    (repeat refine cw_seq ?_); refine cw_skip ?_
    (repeat refine cw_seq ?_); refine cw_region ?_
    refine rw_q rfl rfl rfl (q_ldA rfl rfl (fun _ => rfl) rfl Mm rfl) ?_
    refine rw_call (orangeryref_CheckDelta_spec y4 y5 y6 y7 d1) .sq (guard_none rfl) rfl rfl rfl Kr rfl rfl Sm ?_
    intro _
    refine Rp rfl rfl rfl rfl ?_
    refine rw_nil ?_
    (repeat refine cw_seq ?_); refine cw_region ?_
    refine Rp rfl rfl rfl rfl ?_
    refine Rp rfl rfl rfl rfl ?_
    refine rw_nil ?_
    (repeat refine cw_seq ?_); refine cw_cond (b := ((orangeryref_CheckDelta d1) != 0)) rfl rfl (fun hc2 => ?_) (fun hc2 => ?_)
    · skip
      have hc2p := bne_iff_ne.1 hc2
      (repeat refine cw_seq ?_); refine cw_region ?_
      refine Rp rfl rfl rfl rfl ?_
      refine Rp rfl rfl rfl rfl ?_
      refine rw_stA .sq (.inl ⟨_, rfl⟩) (guard_none rfl) rfl rfl rfl rfl rfl rfl rfl rfl rfl Ub rfl ?_
      refine Rp rfl rfl rfl rfl ?_
      refine rw_nil ?_
      (repeat refine cw_seq ?_)
      refine cw_fact (F := RdL EInt ⟨none, 0⟩ ([] : List Int)) [] (.nil _) (fun M w _ => RdL.nil _ _ _ (by omega) M w) ?_
      refine cw_fact (F := RdL EPlace ⟨none, 0⟩ ([] : List Place)) [] (.nil _) (fun M w _ => RdL.nil _ _ _ (by omega) M w) ?_
      have hr2 : (orangeryref_Applied v1 d1) = ((⟨([] : List Int), ([] : List Place), ([] : List Place)⟩ : View), (orangeryref_CheckDelta d1)) := by simp only [orangeryref_Applied, hc1, hc2, cond_true, cond_false]
      refine cw_ret ?_
      rw [hr2]
      exact ⟨⟨(⟨none, 0⟩ : SlV), (⟨none, 0⟩ : SlV), (⟨none, 0⟩ : SlV)⟩, _, (.cons (.agg rfl rfl Mm rfl) (.cons (.tmp rfl) .nil)), rfl, Sm, .nil _, .nil _⟩
    · skip
      have hc2p := eq_of_bne_false hc2
      have hcd := CheckDelta_nodes (eq_of_bne_false hc2)
      (repeat refine cw_seq ?_); refine cw_skip ?_
      (repeat refine cw_seq ?_); refine cw_region ?_
      refine Rp rfl rfl rfl rfl ?_
      refine rw_nil ?_
      (repeat refine cw_seq ?_)
      refine cw_join [4, 5] [true, true, true] (fun (i_ : Nat × SlV × SlV) => match i_ with | ⟨g4, x1, x2⟩ => [(9, .v (.pointer (some ⟨g4, 0, none⟩)))]) (fun (i_ : Nat × SlV × SlV) => match i_ with | ⟨g4, x1, x2⟩ => [⟨g4, 51, [y1.val v1.roots.length, x1.val (orangeryref_Applied_1 v1.known d1.gone d1.here).length, x2.val (orangeryref_Applied_1 v1.way d1.wayGone d1.wayHere).length]⟩]) (fun (i_ : Nat × SlV × SlV) => match i_ with | ⟨g4, x1, x2⟩ => []) (fun (i_ : Nat × SlV × SlV) => match i_ with | ⟨g4, x1, x2⟩ => [RdL EInt y1 v1.roots, RdL EPlace x1 (orangeryref_Applied_1 v1.known d1.gone d1.here), RdL EPlace x2 (orangeryref_Applied_1 v1.way d1.wayGone d1.wayHere)]) (fun _ => True) (.cons rfl (.cons rfl (.nil _))) (.keep (.keep (.keep (.nil)))) ?_ ?_
      · skip
        refine cw_regionA (fun j => match j with | 20 => none | _ => some []) ?_
        refine ra_q (.ab (i := 0) (js := [2, 3, 4, 5, 6, 7, 8, 9, 10, 11, 12, 13, 14, 15, 16, 17, 19]) [1, 18, 20] rfl Kr Kr Kr Kr Kr) (SplitB.all _) (by simp) rfl rfl rfl (q_pev rfl (fun _ => rfl)) ?_
        refine ra_q (.an (i := 1) (js := [2, 3, 4, 5, 6, 7, 8, 9, 10, 11, 12, 13, 14, 15, 16, 17, 19]) rfl Kr Kr Kr Kr) (SplitB.all _) (by simp) rfl rfl rfl (q_ld1 rfl rfl (fun _ => rfl) rfl Mm rfl) ?_
        refine ra_q (.ab (i := 2) (js := [3, 4, 5, 6, 7, 8, 10, 11, 12, 13, 14, 15, 16, 19]) [9, 17, 18, 20] rfl Kr Kr Kr Kr Kr) (SplitB.all _) (by simp) rfl rfl rfl (q_pev rfl (fun _ => rfl)) ?_
        refine ra_q (.ab (i := 3) (js := [5, 6, 7, 8, 10, 11, 12, 13, 14, 15, 16, 19]) [4, 9, 17, 18, 20] rfl Kr Kr Kr Kr Kr) (SplitB.all _) (by simp) rfl rfl rfl (q_pev rfl (fun _ => rfl)) ?_
        refine ra_q (.ab (i := 4) (js := [5, 6, 7, 8, 10, 11, 12, 13, 14, 15, 16, 19]) [9, 17, 18, 20] rfl Kr Kr Kr Kr Kr) (SplitB.all _) (by simp) rfl rfl rfl (q_ld1 rfl rfl (fun _ => rfl) rfl Mm rfl) ?_
        refine ra_q (.ab (i := 5) (js := [7, 8, 10, 11, 12, 13, 14, 15, 16, 19]) [6, 9, 17, 18, 20] rfl Kr Kr Kr Kr Kr) (SplitB.all _) (by simp) rfl rfl rfl (q_pev rfl (fun _ => rfl)) ?_
        refine ra_q (.ab (i := 6) (js := [7, 8, 10, 11, 12, 13, 14, 15, 16, 19]) [9, 17, 18, 20] rfl Kr Kr Kr Kr Kr) (SplitB.all _) (by simp) rfl rfl rfl (q_ld1 rfl rfl (fun _ => rfl) rfl Mm rfl) ?_
        refine ra_q (.ab (i := 7) (js := [10, 11, 12, 13, 14, 15, 16, 19]) [8, 9, 17, 18, 20] rfl Kr Kr Kr Kr Kr) (SplitB.all _) (by simp) rfl rfl rfl (q_pev rfl (fun _ => rfl)) ?_
        refine ra_q (.ab (i := 8) (js := [10, 11, 12, 13, 14, 15, 16, 19]) [9, 17, 18, 20] rfl Kr Kr Kr Kr Kr) (SplitB.all _) (by simp) rfl rfl rfl (q_ld1 rfl rfl (fun _ => rfl) rfl Mm rfl) ?_
        refine ra_q (.ab (i := 10) (js := [9, 11, 12, 13, 14, 15, 16, 19]) [17, 18, 20] rfl Kr Kr Kr Kr Kr) (SplitB.all _) (by simp) rfl rfl rfl (q_pev rfl (fun _ => rfl)) ?_
        refine ra_q (.ab (i := 11) (js := [9, 13, 14, 15, 16, 19]) [12, 17, 18, 20] rfl Kr Kr Kr Kr Kr) (SplitB.all _) (by simp) rfl rfl rfl (q_pev rfl (fun _ => rfl)) ?_
        refine ra_q (.ab (i := 12) (js := [9, 13, 14, 15, 16, 19]) [17, 18, 20] rfl Kr Kr Kr Kr Kr) (SplitB.all _) (by simp) rfl rfl rfl (q_ld1 rfl rfl (fun _ => rfl) rfl Mm rfl) ?_
        refine ra_q (.ab (i := 13) (js := [9, 15, 16, 19]) [14, 17, 18, 20] rfl Kr Kr Kr Kr Kr) (SplitB.all _) (by simp) rfl rfl rfl (q_pev rfl (fun _ => rfl)) ?_
        refine ra_q (.ab (i := 14) (js := [9, 15, 16, 19]) [17, 18, 20] rfl Kr Kr Kr Kr Kr) (SplitB.all _) (by simp) rfl rfl rfl (q_ld1 rfl rfl (fun _ => rfl) rfl Mm rfl) ?_
        refine ra_q (.ab (i := 15) (js := [9, 19]) [16, 17, 18, 20] rfl Kr Kr Kr Kr Kr) (SplitB.all _) (by simp) rfl rfl rfl (q_pev rfl (fun _ => rfl)) ?_
        refine ra_q (.ab (i := 16) (js := [9, 19]) [17, 18, 20] rfl Kr Kr Kr Kr Kr) (SplitB.all _) (by simp) rfl rfl rfl (q_ld1 rfl rfl (fun _ => rfl) rfl Mm rfl) ?_
        refine ra_two 9 19 Kr ?_ ?_
        · skip
          refine rw_callv (orangeryref_Applied_1_spec y2 v1.known y4 d1.gone y5 d1.here (by first | exact hcv.1 | exact hcv.2) (by first | exact hcd.1 | exact hcd.2.2.1) (by first | exact hcd.2.1 | exact hcd.2.2.2)) (.an rfl rfl) (guard_none rfl) rfl rfl rfl rfl rfl Kr rfl rfl rfl Sm ?_
          intro x3
          refine rw_pure (φ := (orangeryref_Applied_1 v1.known d1.gone d1.here).length * 24 ≤ 140737488355328) [RdL EPlace x3 (orangeryref_Applied_1 v1.known d1.gone d1.here)] Sm (fun M w h => (allF1 h).len) fun hlen8 => ?_
          refine ra_two 17 19 Kr ?_ ?_
          · skip
            refine rw_callv (orangeryref_Applied_1_spec y3 v1.way y6 d1.wayGone y7 d1.wayHere (by first | exact hcv.1 | exact hcv.2) (by first | exact hcd.1 | exact hcd.2.2.1) (by first | exact hcd.2.1 | exact hcd.2.2.2)) (.an rfl rfl) (guard_none rfl) rfl rfl rfl rfl rfl Kr rfl rfl rfl Sm ?_
            intro x4
            refine rw_pure (φ := (orangeryref_Applied_1 v1.way d1.wayGone d1.wayHere).length * 24 ≤ 140737488355328) [RdL EPlace x4 (orangeryref_Applied_1 v1.way d1.wayGone d1.wayHere)] Sm (fun M w h => (allF1 h).len) fun hlen9 => ?_
            refine ra_q (.an (i := 18) (js := [19]) rfl Kr Kr Kr Kr) (SplitB.all _) (by simp) rfl rfl rfl (q_pev rfl (fun _ => rfl)) ?_
            refine ra_one 19 Kr ?_
            refine rw_alloc (.an rfl rfl) (guard_none rfl) rfl rfl rfl rfl fun g5 => ?_
            refine ra_one 20 Kr ?_
            refine rw_stA (.lo [g5] rfl rfl) (.inr (by simp)) (guard_none rfl) rfl rfl rfl rfl rfl rfl rfl rfl rfl Ub rfl ?_
            refine ra_nil Kr ?_
            refine ⟨⟨g5, x3, x4⟩, trivial, Le4⟩
          · skip
            refine rw_alloc (.an rfl rfl) (guard_none rfl) rfl rfl rfl rfl fun g6 => ?_
            refine ra_one 17 Kr ?_
            refine rw_callv (orangeryref_Applied_1_spec y3 v1.way y6 d1.wayGone y7 d1.wayHere (by first | exact hcv.1 | exact hcv.2) (by first | exact hcd.1 | exact hcd.2.2.1) (by first | exact hcd.2.1 | exact hcd.2.2.2)) (.an rfl rfl) (guard_none rfl) rfl rfl rfl rfl rfl Kr rfl rfl rfl Sm ?_
            intro x5
            refine rw_pure (φ := (orangeryref_Applied_1 v1.way d1.wayGone d1.wayHere).length * 24 ≤ 140737488355328) [RdL EPlace x5 (orangeryref_Applied_1 v1.way d1.wayGone d1.wayHere)] Sm (fun M w h => (allF1 h).len) fun hlen10 => ?_
            refine ra_q (.an (i := 18) (js := []) rfl Kr Kr Kr Kr) (SplitB.all _) (by simp) rfl rfl rfl (q_pev rfl (fun _ => rfl)) ?_
            refine ra_one 20 Kr ?_
            refine rw_stA (.lo [g6] rfl rfl) (.inr (by simp)) (guard_none rfl) rfl rfl rfl rfl rfl rfl rfl rfl rfl Ub rfl ?_
            refine ra_nil Kr ?_
            refine ⟨⟨g6, x3, x5⟩, trivial, Le4⟩
        · skip
          refine rw_alloc (.an rfl rfl) (guard_none rfl) rfl rfl rfl rfl fun g7 => ?_
          refine ra_one 9 Kr ?_
          refine rw_callv (orangeryref_Applied_1_spec y2 v1.known y4 d1.gone y5 d1.here (by first | exact hcv.1 | exact hcv.2) (by first | exact hcd.1 | exact hcd.2.2.1) (by first | exact hcd.2.1 | exact hcd.2.2.2)) (.an rfl rfl) (guard_none rfl) rfl rfl rfl rfl rfl Kr rfl rfl rfl Sm ?_
          intro x6
          refine rw_pure (φ := (orangeryref_Applied_1 v1.known d1.gone d1.here).length * 24 ≤ 140737488355328) [RdL EPlace x6 (orangeryref_Applied_1 v1.known d1.gone d1.here)] Sm (fun M w h => (allF1 h).len) fun hlen11 => ?_
          refine ra_one 17 Kr ?_
          refine rw_callv (orangeryref_Applied_1_spec y3 v1.way y6 d1.wayGone y7 d1.wayHere (by first | exact hcv.1 | exact hcv.2) (by first | exact hcd.1 | exact hcd.2.2.1) (by first | exact hcd.2.1 | exact hcd.2.2.2)) (.an rfl rfl) (guard_none rfl) rfl rfl rfl rfl rfl Kr rfl rfl rfl Sm ?_
          intro x7
          refine rw_pure (φ := (orangeryref_Applied_1 v1.way d1.wayGone d1.wayHere).length * 24 ≤ 140737488355328) [RdL EPlace x7 (orangeryref_Applied_1 v1.way d1.wayGone d1.wayHere)] Sm (fun M w h => (allF1 h).len) fun hlen12 => ?_
          refine ra_q (.an (i := 18) (js := []) rfl Kr Kr Kr Kr) (SplitB.all _) (by simp) rfl rfl rfl (q_pev rfl (fun _ => rfl)) ?_
          refine ra_one 20 Kr ?_
          refine rw_stA (.lo [g7] rfl rfl) (.inr (by simp)) (guard_none rfl) rfl rfl rfl rfl rfl rfl rfl rfl rfl Ub rfl ?_
          refine ra_nil Kr ?_
          refine ⟨⟨g7, x6, x7⟩, trivial, Le4⟩
      · skip
        rintro ⟨g4, x1, x2⟩ -
        simp only [List.cons_append, List.nil_append]
        (repeat refine cw_seq ?_); refine cw_region ?_
        refine rw_q rfl rfl rfl (q_ldA rfl rfl (fun _ => rfl) rfl Mm rfl) ?_
        refine rw_call (orangeryref_CheckView_spec y1 x1 x2 (⟨v1.roots, (orangeryref_Applied_1 v1.known d1.gone d1.here), (orangeryref_Applied_1 v1.way d1.wayGone d1.wayHere)⟩ : View)) .sq (guard_none rfl) rfl rfl rfl Kr rfl rfl Sm ?_
        intro _
        refine Rp rfl rfl rfl rfl ?_
        refine rw_nil ?_
        (repeat refine cw_seq ?_); refine cw_region ?_
        refine Rp rfl rfl rfl rfl ?_
        refine Rp rfl rfl rfl rfl ?_
        refine rw_nil ?_
        (repeat refine cw_seq ?_); refine cw_cond (b := ((orangeryref_CheckView (⟨v1.roots, (orangeryref_Applied_1 v1.known d1.gone d1.here), (orangeryref_Applied_1 v1.way d1.wayGone d1.wayHere)⟩ : View)) != 0)) rfl rfl (fun hc3 => ?_) (fun hc3 => ?_)
        · skip
          have hc3p := bne_iff_ne.1 hc3
          (repeat refine cw_seq ?_); refine cw_region ?_
          refine Rp rfl rfl rfl rfl ?_
          refine Rp rfl rfl rfl rfl ?_
          refine rw_stA .sq (.inl ⟨_, rfl⟩) (guard_none rfl) rfl rfl rfl rfl rfl rfl rfl rfl rfl Ub rfl ?_
          refine Rp rfl rfl rfl rfl ?_
          refine rw_nil ?_
          (repeat refine cw_seq ?_)
          refine cw_fact (F := RdL EInt ⟨none, 0⟩ ([] : List Int)) [] (.nil _) (fun M w _ => RdL.nil _ _ _ (by omega) M w) ?_
          refine cw_fact (F := RdL EPlace ⟨none, 0⟩ ([] : List Place)) [] (.nil _) (fun M w _ => RdL.nil _ _ _ (by omega) M w) ?_
          have hr3 : (orangeryref_Applied v1 d1) = ((⟨([] : List Int), ([] : List Place), ([] : List Place)⟩ : View), (orangeryref_CheckView (⟨v1.roots, (orangeryref_Applied_1 v1.known d1.gone d1.here), (orangeryref_Applied_1 v1.way d1.wayGone d1.wayHere)⟩ : View))) := by simp only [orangeryref_Applied, hc1, hc2, hc3, cond_true, cond_false]
          refine cw_ret ?_
          rw [hr3]
          exact ⟨⟨(⟨none, 0⟩ : SlV), (⟨none, 0⟩ : SlV), (⟨none, 0⟩ : SlV)⟩, _, (.cons (.agg rfl rfl Mm rfl) (.cons (.tmp rfl) .nil)), rfl, Sm, .nil _, .nil _⟩
        · skip
          have hc3p := eq_of_bne_false hc3
          (repeat refine cw_seq ?_); refine cw_skip ?_
          (repeat refine cw_seq ?_); refine cw_region ?_
          refine rw_q rfl rfl rfl (q_ldA rfl rfl (fun _ => rfl) rfl Mm rfl) ?_
          refine rw_stA .sq (.inl ⟨_, rfl⟩) (guard_none rfl) rfl rfl rfl rfl rfl rfl rfl rfl rfl Ub rfl ?_
          refine Rp rfl rfl rfl rfl ?_
          refine rw_nil ?_
          (repeat refine cw_seq ?_)
          have hr4 : (orangeryref_Applied v1 d1) = ((⟨v1.roots, (orangeryref_Applied_1 v1.known d1.gone d1.here), (orangeryref_Applied_1 v1.way d1.wayGone d1.wayHere)⟩ : View), 0) := by simp only [orangeryref_Applied, hc1, hc2, hc3, cond_true, cond_false]
          refine cw_ret ?_
          rw [hr4]
          exact ⟨⟨y1, x1, x2⟩, _, (.cons (.agg rfl rfl Mm rfl) (.cons (.tmp rfl) .nil)), rfl, Sm, .nil _, .nil _⟩
end Go.Proofs.Ytchdacbjiomplaa
