/- Part of this claim. No condition. -/
import Derived.Test.YtchdacbjiomplaaW22c
set_option linter.unusedVariables false
set_option linter.unusedSimpArgs false
namespace Go.Proofs.Ytchdacbjiomplaa
open Go Go.Proofs.Ytchdacbjiomplaa.Fw Go.Proofs
attribute [local irreducible] RdL RdN VarP
def history_Fold_1 (a1 : Op) (b1 : Op) : Int :=
  (bif (move_Before (⟨a1.time, a1.who⟩ : Stamp) (⟨b1.time, b1.who⟩ : Stamp)) then (-1) else (bif (move_Before (⟨b1.time, b1.who⟩ : Stamp) (⟨a1.time, a1.who⟩ : Stamp)) then 1 else 0))
theorem history_Fold_1_spec (a1 : Op) (b1 : Op) : Does Try.prog 157 [.agg ⟨[.int .i64 a1.time, .int .i64 a1.who, .int .i64 a1.node, .int .i64 a1.parent, .int .i64 a1.name, .int .i64 a1.life, .int .i64 a1.seq]⟩, .agg ⟨[.int .i64 b1.time, .int .i64 b1.who, .int .i64 b1.node, .int .i64 b1.parent, .int .i64 b1.name, .int .i64 b1.life, .int .i64 b1.seq]⟩] [] (fun (_ : Unit) => .int .i64 (history_Fold_1 a1 b1)) (fun (_ : Unit) => []) := by
  refine does_of tab_ok Try.func157 rfl Try.ntmps157 Try.results157 rfl inferInstance (fun _ => inferInstance) fun C => ?_
  (repeat refine cw_seq ?_); refine cw_region ?_
  refine rw_box_agg .sq (guard_none rfl) rfl rfl rfl rfl rfl fun g1 => ?_
  refine rw_box_agg .sq (guard_none rfl) rfl rfl rfl rfl rfl fun g2 => ?_
  refine Rp rfl rfl rfl rfl ?_
  refine rw_nil ?_
  (repeat refine cw_seq ?_); refine cw_region ?_
  refine Rp rfl rfl rfl rfl ?_
  refine rw_q rfl rfl rfl (q_ldP rfl rfl (fun _ => rfl) rfl Mm rfl) ?_
  refine Rp rfl rfl rfl rfl ?_
  refine rw_q rfl rfl rfl (q_ldP rfl rfl (fun _ => rfl) rfl Mm rfl) ?_
  refine rw_call (move_Before_spec (⟨a1.time, a1.who⟩ : Stamp) (⟨b1.time, b1.who⟩ : Stamp)) .sq (guard_none rfl) rfl rfl rfl Kr rfl rfl Sm ?_
  intro _
  refine rw_nil ?_
  (repeat refine cw_seq ?_); refine cw_cond (b := (move_Before (⟨a1.time, a1.who⟩ : Stamp) (⟨b1.time, b1.who⟩ : Stamp))) rfl rfl (fun hc1 => ?_) (fun hc1 => ?_)
  · skip
    (repeat refine cw_seq ?_); refine cw_region ?_
    refine Rp rfl rfl rfl rfl ?_
    refine rw_nil ?_
    (repeat refine cw_seq ?_)
    have hr1 : (history_Fold_1 a1 b1) = (-1) := by simp only [history_Fold_1, hc1, cond_true, cond_false]
    refine cw_ret ?_
    rw [hr1]
    exact ⟨(), _, (.cons (.tmp rfl) .nil), rfl, Sm, .nil _, .nil _⟩
  · skip
    (repeat refine cw_seq ?_); refine cw_skip ?_
    (repeat refine cw_seq ?_); refine cw_region ?_
    refine Rp rfl rfl rfl rfl ?_
    refine rw_q rfl rfl rfl (q_ldP rfl rfl (fun _ => rfl) rfl Mm rfl) ?_
    refine Rp rfl rfl rfl rfl ?_
    refine rw_q rfl rfl rfl (q_ldP rfl rfl (fun _ => rfl) rfl Mm rfl) ?_
    refine rw_call (move_Before_spec (⟨b1.time, b1.who⟩ : Stamp) (⟨a1.time, a1.who⟩ : Stamp)) .sq (guard_none rfl) rfl rfl rfl Kr rfl rfl Sm ?_
    intro _
    refine rw_nil ?_
    (repeat refine cw_seq ?_); refine cw_cond (b := (move_Before (⟨b1.time, b1.who⟩ : Stamp) (⟨a1.time, a1.who⟩ : Stamp))) rfl rfl (fun hc2 => ?_) (fun hc2 => ?_)
    · skip
      (repeat refine cw_seq ?_); refine cw_region ?_
      refine Rp rfl rfl rfl rfl ?_
      refine rw_nil ?_
      (repeat refine cw_seq ?_)
      have hr2 : (history_Fold_1 a1 b1) = 1 := by simp only [history_Fold_1, hc1, hc2, cond_true, cond_false]
      refine cw_ret ?_
      rw [hr2]
      exact ⟨(), _, (.cons (.tmp rfl) .nil), rfl, Sm, .nil _, .nil _⟩
    · skip
      (repeat refine cw_seq ?_); refine cw_skip ?_
      (repeat refine cw_seq ?_); refine cw_region ?_
      refine Rp rfl rfl rfl rfl ?_
      refine rw_nil ?_
      (repeat refine cw_seq ?_)
      have hr3 : (history_Fold_1 a1 b1) = 0 := by simp only [history_Fold_1, hc1, hc2, cond_true, cond_false]
      refine cw_ret ?_
      rw [hr3]
      exact ⟨(), _, (.cons (.tmp rfl) .nil), rfl, Sm, .nil _, .nil _⟩

def history_Fold_L1 (l1 : List Op) : List Op → Nat → (List Step) → (List Place) → (History × Int)
  | [], n2, l2, p1 => ((⟨l2, p1⟩ : History), 0)
  | pn2 :: rn2, n2, l2, p1 => (bif (decide ((n2 : Int) > 0) && decide ((⟨(gt (slices_SortStableFunc_Op l1 history_Fold_1) (n2 - 1)).time, (gt (slices_SortStableFunc_Op l1 history_Fold_1) (n2 - 1)).who⟩ : Stamp) = (⟨pn2.time, pn2.who⟩ : Stamp))) then ((⟨([] : List Step), ([] : List Place)⟩ : History), 6) else (bif (((move_Do p1 pn2).2.2) != 0) then ((⟨([] : List Step), ([] : List Place)⟩ : History), (move_Do p1 pn2).2.2) else (history_Fold_L1 l1 rn2 (n2 + 1) (l2 ++ [((move_Do p1 pn2).2.1)]) ((move_Do p1 pn2).1))))
def history_Fold_L0 (l1 : List Op) : List Op → (History × Int)
  | [] => (history_Fold_L1 l1 (slices_SortStableFunc_Op l1 history_Fold_1) 0 [] [])
  | pn1 :: rn1 => (bif ((move_Check pn1) != 0) then ((⟨([] : List Step), ([] : List Place)⟩ : History), (move_Check pn1)) else (history_Fold_L0 l1 rn1))
def history_Fold (l1 : List Op) : History × Int :=
  (bif decide ((l1.length : Int) > 30) then ((⟨([] : List Step), ([] : List Place)⟩ : History), 2) else (history_Fold_L0 l1 l1))
theorem history_Fold_spec (y1 : SlV) (l1 : List Op) : Does Try.prog 75 [y1.val l1.length] [RdL EOp y1 l1] (fun (X : SlV × SlV) => .tuple #[.agg ⟨[X.1.val (((history_Fold l1).1).l).length, X.2.val (((history_Fold l1).1).t).length]⟩, .int .i64 ((history_Fold l1).2)]) (fun (X : SlV × SlV) => [RdL EStep X.1 (((history_Fold l1).1).l), RdL EPlace X.2 (((history_Fold l1).1).t)]) := by
  refine does_of tab_ok Try.func75 rfl Try.ntmps75 Try.results75 rfl inferInstance (fun _ => inferInstance) fun C => ?_
  refine cw_pure (φ := l1.length * 56 ≤ 140737488355328) [RdL EOp y1 l1] Sm (fun M w h => (allF1 h).len) fun hlen1 => ?_
  (repeat refine cw_seq ?_); refine cw_region ?_
  refine rw_alloc .sq (guard_none rfl) rfl rfl rfl rfl fun g1 => ?_
  refine Rp rfl rfl rfl rfl ?_
  refine rw_nil ?_
  (repeat refine cw_seq ?_); refine cw_region ?_
  refine Rp rfl rfl rfl rfl ?_
  refine Rp rfl rfl rfl rfl ?_
  refine Rp rfl rfl rfl rfl ?_
  refine rw_nil ?_
  (repeat refine cw_seq ?_); refine cw_cond (b := decide ((l1.length : Int) > 30)) rfl rfl (fun hc1 => ?_) (fun hc1 => ?_)
  · skip
    have hc1p := of_decide_eq_true hc1
    (repeat refine cw_seq ?_); refine cw_region ?_
    refine Rp rfl rfl rfl rfl ?_
    refine rw_stA .sq (.inl ⟨_, rfl⟩) (guard_none rfl) rfl rfl rfl rfl rfl rfl rfl rfl rfl Ub rfl ?_
    refine Rp rfl rfl rfl rfl ?_
    refine rw_nil ?_
    (repeat refine cw_seq ?_)
    refine cw_fact (F := RdL EStep ⟨none, 0⟩ ([] : List Step)) [] (.nil _) (fun M w _ => RdL.nil _ _ _ (by omega) M w) ?_
    refine cw_fact (F := RdL EPlace ⟨none, 0⟩ ([] : List Place)) [] (.nil _) (fun M w _ => RdL.nil _ _ _ (by omega) M w) ?_
    have hr1 : (history_Fold l1) = ((⟨([] : List Step), ([] : List Place)⟩ : History), 2) := by simp only [history_Fold, hc1, cond_true, cond_false]
    refine cw_ret ?_
    rw [hr1]
    exact ⟨⟨(⟨none, 0⟩ : SlV), (⟨none, 0⟩ : SlV)⟩, _, (.cons (.agg rfl rfl Mm rfl) (.cons (.tmp rfl) .nil)), rfl, Sm, .nil _, .nil _⟩
  · skip
    have hc1p := of_decide_eq_false hc1
    (repeat refine cw_seq ?_); refine cw_skip ?_
    (repeat refine cw_seq ?_); refine cw_region ?_
    refine Rp rfl rfl rfl rfl ?_
    refine Rp rfl rfl rfl rfl ?_
    refine Rp rfl rfl rfl rfl ?_
    refine rw_nil ?_
    (repeat refine cw_seq ?_); refine cw_block ?_
    (repeat refine cw_seq ?_); refine cw_loopS [0, 2, 3, 17, 18] [true] (fun (n1 : Nat) => [(19, .v (.int .i64 (n1 : Int)))]) (fun (n1 : Nat) => []) (fun (n1 : Nat) => []) (fun (n1 : Nat) => []) (fun (n1 : Nat) => (n1 ≤ l1.length) ∧ (history_Fold_L0 l1 (l1.drop n1)) = (history_Fold l1)) (fun (n1 : Nat) => l1.length - n1) 0 (.cons rfl (.cons rfl (.cons rfl (.cons rfl (.cons rfl (.nil _)))))) (.keep (.nil)) ⟨Nat.zero_le _, (by simp only [history_Fold, hc1, cond_true, cond_false] : (history_Fold l1) = (history_Fold_L0 l1 l1)).symm⟩ Le4 ?_
    rintro n1 ⟨hkn1, hf1⟩
    simp only [List.cons_append, List.nil_append]
    (repeat refine cw_seq ?_); refine cw_region ?_
    refine Rp rfl rfl rfl rfl ?_
    refine rw_nil ?_
    (repeat refine cw_seq ?_); refine cw_cond (b := decide ((n1 : Int) < (l1.length : Int))) rfl rfl (fun hc2 => ?_) (fun hc2 => ?_)
    · skip
      have hlt0 : n1 < l1.length := Int.ofNat_lt.1 (of_decide_eq_true hc2)
      (repeat refine cw_seq ?_); refine cw_skip ?_
      (repeat refine cw_seq ?_); refine cw_block ?_
      (repeat refine cw_seq ?_); refine cw_region ?_
      refine rw_q rfl rfl rfl (q_idx EOp n1 rfl rfl (fun _ => rfl) rfl (fun _ => rfl) rfl rfl rfl Mm rfl (fun _ => rfl) (fun _ => by first | assumption | omega)) ?_
      refine rw_q rfl rfl rfl (q_leA EOp rfl rfl (fun _ => rfl) rfl rfl Mm (fun _ => by first | assumption | omega)) ?_
      refine rw_alloc .sq (guard_none rfl) rfl rfl rfl rfl fun g2 => ?_
      refine rw_stA .sq (.inl ⟨_, rfl⟩) (guard_none rfl) rfl rfl rfl rfl rfl rfl rfl rfl rfl Ub rfl ?_
      refine rw_nil ?_
      (repeat refine cw_seq ?_); refine cw_region ?_
      refine rw_q rfl rfl rfl (q_ldA rfl rfl (fun _ => rfl) rfl Mm rfl) ?_
      refine rw_call (move_Check_spec (gt l1 n1)) .sq (guard_none rfl) rfl rfl rfl Kr rfl rfl Sm ?_
      intro _
      refine Rp rfl rfl rfl rfl ?_
      refine rw_nil ?_
      (repeat refine cw_seq ?_); refine cw_region ?_
      refine Rp rfl rfl rfl rfl ?_
      refine Rp rfl rfl rfl rfl ?_
      refine rw_nil ?_
      (repeat refine cw_seq ?_); refine cw_cond (b := ((move_Check (gt l1 n1)) != 0)) rfl rfl (fun hc3 => ?_) (fun hc3 => ?_)
      · skip
        have hc3p := bne_iff_ne.1 hc3
        (repeat refine cw_seq ?_); refine cw_region ?_
        refine Rp rfl rfl rfl rfl ?_
        refine Rp rfl rfl rfl rfl ?_
        refine rw_stA .sq (.inl ⟨_, rfl⟩) (guard_none rfl) rfl rfl rfl rfl rfl rfl rfl rfl rfl Ub rfl ?_
        refine Rp rfl rfl rfl rfl ?_
        refine rw_nil ?_
        (repeat refine cw_seq ?_)
        refine cw_fact (F := RdL EStep ⟨none, 0⟩ ([] : List Step)) [] (.nil _) (fun M w _ => RdL.nil _ _ _ (by omega) M w) ?_
        refine cw_fact (F := RdL EPlace ⟨none, 0⟩ ([] : List Place)) [] (.nil _) (fun M w _ => RdL.nil _ _ _ (by omega) M w) ?_
        have hr2 : (history_Fold l1) = ((⟨([] : List Step), ([] : List Place)⟩ : History), (move_Check (gt l1 n1))) := by rw [← hf1, drop_gt hlt0]; simp only [history_Fold_L0, hc3, cond_true, cond_false]
        refine cw_ret ?_
        rw [hr2]
        exact ⟨⟨(⟨none, 0⟩ : SlV), (⟨none, 0⟩ : SlV)⟩, _, (.cons (.agg rfl rfl Mm rfl) (.cons (.tmp rfl) .nil)), rfl, Sm, .nil _, .nil _⟩
      · skip
        have hc3p := eq_of_bne_false hc3
        (repeat refine cw_seq ?_); refine cw_skip ?_
        (repeat refine cw_seq ?_); refine cw_region ?_
        refine rw_q rfl rfl rfl (q_add rfl rfl (fun _ => rfl) rfl (fun _ => rfl) (fun _ => by omega)) ?_
        refine Rp rfl rfl rfl rfl ?_
        refine rw_nil ?_
        refine ⟨(n1 + 1), ⟨hlt0, (by rw [← hf1, drop_gt hlt0]; simp only [history_Fold_L0, hc3, cond_true, cond_false] : (history_Fold l1) = (history_Fold_L0 l1 (l1.drop (n1 + 1)))).symm⟩, (by simp only []; omega), Le4⟩
    · skip
      have hge0 : l1.length ≤ n1 := by have := of_decide_eq_false hc2; omega
      (repeat refine cw_seq ?_); refine cw_exit ?_
      (repeat refine cw_seq ?_); refine cw_region ?_
      refine Rp rfl rfl rfl rfl ?_
      refine rw_callG (slices_Clone_Op_spec y1 l1) .sq (.inl ⟨_, rfl⟩) (guard_none rfl) rfl rfl rfl Kr rfl rfl Sm (.nil _) (.nil _) ?_
      intro x1
      refine Rp rfl rfl rfl rfl ?_
      refine rw_nil ?_
      (repeat refine cw_seq ?_); refine cw_region ?_
      refine Rp rfl rfl rfl rfl ?_
      refine rw_callG (slices_SortStableFunc_Op_spec x1.1 x1.2 l1 _ _ _ history_Fold_1 Kr (fun a0_ a1_ => history_Fold_1_spec a0_ a1_) (by omega)) .sq (.inl ⟨_, rfl⟩) (guard_none rfl) rfl rfl rfl Kr rfl rfl Sm (.nil _) (by first | exact .cons (.here _ _) (.nil _) | exact .cons (.there _ (.here _ _)) (.nil _) | exact .cons (.there _ (.there _ (.here _ _))) (.nil _) | exact .cons (.there _ (.there _ (.there _ (.here _ _)))) (.nil _)) ?_
      intro _
      have hv1l : l1.length = (slices_SortStableFunc_Op l1 history_Fold_1).length := (ST_Op_len l1 history_Fold_1 (by omega)).symm
      have hv1 : x1.1.val l1.length = x1.1.val (slices_SortStableFunc_Op l1 history_Fold_1).length := congrArg (SlV.val x1.1) hv1l
      try rw [hv1]
      refine rw_nil ?_
      (repeat refine cw_seq ?_); refine cw_region ?_
      refine rw_alloc .sq (guard_none rfl) rfl rfl rfl rfl fun g3 => ?_
      refine rw_nil ?_
      (repeat refine cw_seq ?_); refine cw_region ?_
      refine Rp rfl rfl rfl rfl ?_
      refine Rp rfl rfl rfl rfl ?_
      refine Rp rfl rfl rfl rfl ?_
      refine rw_nil ?_
      (repeat refine cw_seq ?_); refine cw_block ?_
      refine cw_le (le_freezeL EOp 33 x1.1 x1.2 (slices_SortStableFunc_Op l1 history_Fold_1) Uo) ?_
      refine cw_pure (φ := (slices_SortStableFunc_Op l1 history_Fold_1).length * 56 ≤ 140737488355328) [RdL EOp x1.1 (slices_SortStableFunc_Op l1 history_Fold_1)] Sm (fun M w h => (allF1 h).len) fun hlen2 => ?_
      (repeat refine cw_seq ?_); refine cw_loopS [0, 2, 3, 7, 34, 35] [false, true] (fun (i_ : Nat × List Step × SlV × Option Nat × List Place × SlV) => match i_ with | ⟨n2, l2, x2, x2b, p1, x3⟩ => [(36, .v (.int .i64 (n2 : Int)))]) (fun (i_ : Nat × List Step × SlV × Option Nat × List Place × SlV) => match i_ with | ⟨n2, l2, x2, x2b, p1, x3⟩ => [⟨g3, 94, [x2.val l2.length, x3.val p1.length]⟩]) (fun (i_ : Nat × List Step × SlV × Option Nat × List Place × SlV) => match i_ with | ⟨n2, l2, x2, x2b, p1, x3⟩ => [ownL EStep 37 x2 x2b l2]) (fun (i_ : Nat × List Step × SlV × Option Nat × List Place × SlV) => match i_ with | ⟨n2, l2, x2, x2b, p1, x3⟩ => [RdL EPlace x3 p1]) (fun (i_ : Nat × List Step × SlV × Option Nat × List Place × SlV) => match i_ with | ⟨n2, l2, x2, x2b, p1, x3⟩ => (n2 ≤ (slices_SortStableFunc_Op l1 history_Fold_1).length) ∧ (l2.length ≤ n2) ∧ (l2.length = n2) ∧ (history_Fold_L1 l1 ((slices_SortStableFunc_Op l1 history_Fold_1).drop n2) n2 l2 p1) = (history_Fold l1)) (fun (i_ : Nat × List Step × SlV × Option Nat × List Place × SlV) => match i_ with | ⟨n2, l2, x2, x2b, p1, x3⟩ => (slices_SortStableFunc_Op l1 history_Fold_1).length - n2) ⟨0, [], ⟨none, 0⟩, none, [], ⟨none, 0⟩⟩ (.cons rfl (.cons rfl (.cons rfl (.cons rfl (.cons rfl (.cons rfl (.nil _))))))) (.drop (.keep (.nil))) ⟨Nat.zero_le _, (by first | exact Nat.le_refl _ | exact Nat.zero_le _ | omega), rfl, (by rw [← hf1, List.drop_of_length_le hge0]; simp only [history_Fold_L0, cond_true, cond_false] : (history_Fold l1) = (history_Fold_L1 l1 (slices_SortStableFunc_Op l1 history_Fold_1) 0 [] [])).symm⟩ (Le.trans (le_nilL EStep 37) (Le.trans (le_fact (RdL EPlace ⟨none, 0⟩ ([] : List Place)) [] (.nil _) (fun M w _ => RdL.nil _ _ _ (by omega) M w)) Le4)) ?_
      rintro ⟨n2, l2, x2, x2b, p1, x3⟩ ⟨hkn2, hl2, hhl, hf2⟩
      simp only [List.cons_append, List.nil_append]
      (repeat refine cw_seq ?_); refine cw_region ?_
      refine Rp rfl rfl rfl rfl ?_
      refine rw_nil ?_
      (repeat refine cw_seq ?_); refine cw_cond (b := decide ((n2 : Int) < ((slices_SortStableFunc_Op l1 history_Fold_1).length : Int))) rfl rfl (fun hc4 => ?_) (fun hc4 => ?_)
      · skip
        have hlt1 : n2 < (slices_SortStableFunc_Op l1 history_Fold_1).length := Int.ofNat_lt.1 (of_decide_eq_true hc4)
        (repeat refine cw_seq ?_); refine cw_skip ?_
        (repeat refine cw_seq ?_); refine cw_block ?_
        (repeat refine cw_seq ?_); refine cw_region ?_
        refine Rp rfl rfl rfl rfl ?_
        refine rw_q rfl rfl rfl (q_idx EOp n2 rfl rfl (fun _ => rfl) rfl (fun _ => rfl) rfl rfl rfl Mm rfl (fun _ => rfl) (fun _ => by first | assumption | omega)) ?_
        refine rw_q rfl rfl rfl (q_leA EOp rfl rfl (fun _ => rfl) rfl rfl Mm (fun _ => by first | assumption | omega)) ?_
        refine rw_alloc .sq (guard_none rfl) rfl rfl rfl rfl fun g4 => ?_
        refine Rp rfl rfl rfl rfl ?_
        refine rw_stA .sq (.inl ⟨_, rfl⟩) (guard_none rfl) rfl rfl rfl rfl rfl rfl rfl rfl rfl Ub rfl ?_
        refine rw_nil ?_
        (repeat refine cw_seq ?_); refine cw_regionA (fun _ => some []) ?_
        refine ra_q (.ab (i := 0) (js := []) [1, 2, 3, 4, 5, 6, 7, 8, 9, 10, 11, 12] rfl Kr Kr Kr Kr Kr) (SplitB.all _) (by simp) rfl rfl rfl (q_pev rfl (fun _ => rfl)) ?_
        refine ra_q (.ab (i := 1) (js := []) [2, 3, 4, 5, 6, 7, 8, 9, 10, 11, 12] rfl Kr Kr Kr Kr Kr) (SplitB.all _) (by simp) rfl rfl rfl (q_pev rfl (fun _ => rfl)) ?_
        refine ra_q (.an (i := 2) (js := []) rfl Kr Kr Kr Kr) (SplitB.all _) (by simp) rfl rfl rfl (q_pev rfl (fun _ => rfl)) ?_
        refine ra_qg (.ab (i := 3) (js := [4, 5, 9, 10]) [6, 7, 8, 11, 12] rfl Kr Kr Kr Kr Kr) (SplitB.all _) (by simp) (guard_vt rfl rfl rfl) rfl rfl (q_pev rfl Bt) ?_
        refine ra_qg (.ab (i := 4) (js := [9, 10]) [5, 6, 7, 8, 11, 12] rfl Kr Kr Kr Kr Kr) (SplitB.all _) (by simp) (guard_vt rfl rfl rfl) rfl rfl (q_pev rfl Bt) ?_
        refine ra_qg (.ab (i := 5) (js := [9, 10]) [6, 7, 8, 11, 12] rfl Kr Kr Kr Kr Kr) (SplitB.all _) (by simp) (guard_vt rfl rfl rfl) rfl rfl (q_sub rfl rfl Bt rfl Bt (by intro h; first | omega | (simp at h; omega))) ?_
        refine ra_qg (.ab (i := 6) (js := [9, 10]) [7, 8, 11, 12] rfl Kr Kr Kr Kr Kr) (SplitB.all _) (by simp) (guard_vt rfl rfl rfl) rfl rfl (q_idx EOp (n2 - 1) rfl rfl Bt rfl Bt rfl rfl rfl Mm rfl (by intro h; first | omega | rfl | (simp at h; omega)) (by first | (intro _; first | assumption | omega) | (intro h; simp at h; omega))) ?_
        refine ra_qg (.ab (i := 7) (js := [9, 10]) [8, 11, 12] rfl Kr Kr Kr Kr Kr) (SplitB.all _) (by simp) (guard_vt rfl rfl rfl) rfl rfl (q_fae rfl rfl Bt rfl rfl) ?_
        refine ra_qg (.ab (i := 8) (js := [9, 10]) [11, 12] rfl Kr Kr Kr Kr Kr) (SplitB.all _) (by simp) (guard_vt rfl rfl rfl) rfl rfl (q_leP EOp rfl rfl Bt rfl rfl Mm (by first | (intro _; first | assumption | omega) | (intro h; simp at h; omega)) rfl) ?_
        refine ra_qg (.ab (i := 9) (js := []) [10, 11, 12] rfl Kr Kr Kr Kr Kr) (SplitB.all _) (by simp) (guard_vt rfl rfl rfl) rfl rfl (q_pev rfl Bt) ?_
        refine ra_qg (.ab (i := 10) (js := []) [11, 12] rfl Kr Kr Kr Kr Kr) (SplitB.all _) (by simp) (guard_vt rfl rfl rfl) rfl rfl (q_ldP rfl rfl Bt rfl Mm rfl) ?_
        refine ra_qg (.an (i := 11) (js := []) rfl Kr Kr Kr Kr) (SplitB.all _) (by simp) (guard_vt rfl rfl rfl) rfl rfl (q_eqE eqT_Stamp (flatEq_Stamp (⟨(gt (slices_SortStableFunc_Op l1 history_Fold_1) (n2 - 1)).time, (gt (slices_SortStableFunc_Op l1 history_Fold_1) (n2 - 1)).who⟩ : Stamp) (⟨(gt (slices_SortStableFunc_Op l1 history_Fold_1) n2).time, (gt (slices_SortStableFunc_Op l1 history_Fold_1) n2).who⟩ : Stamp)) rfl rfl Bt rfl Bt rfl rfl) ?_
        refine ra_q (.an (i := 12) (js := []) rfl Kr Kr Kr Kr) (SplitB.all _) (by simp) rfl rfl rfl (q_pev rfl Bt) ?_
        refine ra_nil Kr ?_
        (repeat refine cw_seq ?_); refine cw_cond (b := (decide ((n2 : Int) > 0) && decide ((⟨(gt (slices_SortStableFunc_Op l1 history_Fold_1) (n2 - 1)).time, (gt (slices_SortStableFunc_Op l1 history_Fold_1) (n2 - 1)).who⟩ : Stamp) = (⟨(gt (slices_SortStableFunc_Op l1 history_Fold_1) n2).time, (gt (slices_SortStableFunc_Op l1 history_Fold_1) n2).who⟩ : Stamp)))) rfl rfl (fun hc5 => ?_) (fun hc5 => ?_)
        · skip
          (repeat refine cw_seq ?_); refine cw_region ?_
          refine Rp rfl rfl rfl rfl ?_
          refine rw_stA .sq (.inl ⟨_, rfl⟩) (guard_none rfl) rfl rfl rfl rfl rfl rfl rfl rfl rfl Ub rfl ?_
          refine Rp rfl rfl rfl rfl ?_
          refine rw_nil ?_
          (repeat refine cw_seq ?_)
          refine cw_fact (F := RdL EStep ⟨none, 0⟩ ([] : List Step)) [] (.nil _) (fun M w _ => RdL.nil _ _ _ (by omega) M w) ?_
          refine cw_fact (F := RdL EPlace ⟨none, 0⟩ ([] : List Place)) [] (.nil _) (fun M w _ => RdL.nil _ _ _ (by omega) M w) ?_
          have hr3 : (history_Fold l1) = ((⟨([] : List Step), ([] : List Place)⟩ : History), 6) := by rw [← hf2, drop_gt hlt1]; simp only [history_Fold_L1, hc5, cond_true, cond_false]
          refine cw_ret ?_
          rw [hr3]
          exact ⟨⟨(⟨none, 0⟩ : SlV), (⟨none, 0⟩ : SlV)⟩, _, (.cons (.agg rfl rfl Mm rfl) (.cons (.tmp rfl) .nil)), rfl, Sm, .nil _, .nil _⟩
        · skip
          (repeat refine cw_seq ?_); refine cw_skip ?_
          (repeat refine cw_seq ?_); refine cw_region ?_
          refine Rp rfl rfl rfl rfl ?_
          refine rw_q rfl rfl rfl (q_ldP rfl rfl (fun _ => rfl) rfl Mm rfl) ?_
          refine rw_q rfl rfl rfl (q_ldA rfl rfl (fun _ => rfl) rfl Mm rfl) ?_
          refine rw_call (move_Do_spec x3 p1 (gt (slices_SortStableFunc_Op l1 history_Fold_1) n2)) .sq (guard_none rfl) rfl rfl rfl Kr rfl rfl Sm ?_
          intro x4
          refine rw_pure (φ := ((move_Do p1 (gt (slices_SortStableFunc_Op l1 history_Fold_1) n2)).1).length * 24 ≤ 140737488355328) [RdL EPlace x4 ((move_Do p1 (gt (slices_SortStableFunc_Op l1 history_Fold_1) n2)).1)] Sm (fun M w h => (allF1 h).len) fun hlen3 => ?_
          refine Rp rfl rfl rfl rfl ?_
          refine Rp rfl rfl rfl rfl ?_
          refine Rp rfl rfl rfl rfl ?_
          refine Rp rfl rfl rfl rfl ?_
          refine rw_alloc .sq (guard_none rfl) rfl rfl rfl rfl fun g5 => ?_
          refine rw_alloc .sq (guard_none rfl) rfl rfl rfl rfl fun g6 => ?_
          refine rw_stA .sq (.inl ⟨_, rfl⟩) (guard_none rfl) rfl rfl rfl rfl rfl rfl rfl rfl rfl Ub rfl ?_
          refine rw_stA .sq (.inl ⟨_, rfl⟩) (guard_none rfl) rfl rfl rfl rfl rfl rfl rfl rfl rfl Ub rfl ?_
          refine Rp rfl rfl rfl rfl ?_
          refine rw_nil ?_
          (repeat refine cw_seq ?_); refine cw_region ?_
          refine Rp rfl rfl rfl rfl ?_
          refine Rp rfl rfl rfl rfl ?_
          refine rw_nil ?_
          (repeat refine cw_seq ?_); refine cw_cond (b := (((move_Do p1 (gt (slices_SortStableFunc_Op l1 history_Fold_1) n2)).2.2) != 0)) rfl rfl (fun hc6 => ?_) (fun hc6 => ?_)
          · skip
            have hc6p := bne_iff_ne.1 hc6
            (repeat refine cw_seq ?_); refine cw_region ?_
            refine Rp rfl rfl rfl rfl ?_
            refine Rp rfl rfl rfl rfl ?_
            refine rw_stA .sq (.inl ⟨_, rfl⟩) (guard_none rfl) rfl rfl rfl rfl rfl rfl rfl rfl rfl Ub rfl ?_
            refine Rp rfl rfl rfl rfl ?_
            refine rw_nil ?_
            (repeat refine cw_seq ?_)
            refine cw_fact (F := RdL EStep ⟨none, 0⟩ ([] : List Step)) [] (.nil _) (fun M w _ => RdL.nil _ _ _ (by omega) M w) ?_
            refine cw_fact (F := RdL EPlace ⟨none, 0⟩ ([] : List Place)) [] (.nil _) (fun M w _ => RdL.nil _ _ _ (by omega) M w) ?_
            have hr4 : (history_Fold l1) = ((⟨([] : List Step), ([] : List Place)⟩ : History), (move_Do p1 (gt (slices_SortStableFunc_Op l1 history_Fold_1) n2)).2.2) := by rw [← hf2, drop_gt hlt1]; simp only [history_Fold_L1, hc5, hc6, cond_true, cond_false]
            refine cw_ret ?_
            rw [hr4]
            exact ⟨⟨(⟨none, 0⟩ : SlV), (⟨none, 0⟩ : SlV)⟩, _, (.cons (.agg rfl rfl Mm rfl) (.cons (.tmp rfl) .nil)), rfl, Sm, .nil _, .nil _⟩
          · skip
            have hc6p := eq_of_bne_false hc6
            (repeat refine cw_seq ?_); refine cw_skip ?_
            (repeat refine cw_seq ?_); refine cw_regionA (fun j => match j with | 5 => some x2b.toList | 7 => some [g3] | 9 => some [g3] | _ => some []) ?_
            refine ra_q (.an (i := 0) (js := [1, 2, 3, 4, 5]) rfl Kr Kr Kr Kr) (SplitB.all _) (by intro g hg; simp only [List.mem_append, List.mem_singleton, List.not_mem_nil, or_false, false_or, Option.mem_toList, Option.mem_def, List.append_nil] at hg; first | exact .inr ⟨ownL EStep 37 x2 x2b l2, Mm, hg⟩) rfl rfl rfl (q_ldA rfl rfl (fun _ => rfl) rfl Mm rfl) ?_
            refine ra_q (.ab (i := 1) (js := [3, 4]) [2, 5, 6, 7, 8, 9] rfl Kr Kr Kr Kr Kr) (SplitB.all _) (by simp) rfl rfl rfl (q_pev rfl (fun _ => rfl)) ?_
            refine ra_q (.an (i := 2) (js := [3, 4]) rfl Kr Kr Kr Kr) (SplitB.all _) (by simp) rfl rfl rfl (q_ld1 rfl rfl (fun _ => rfl) rfl Mm rfl) ?_
            refine ra_q (.ab (i := 3) (js := [6]) [4, 5, 7, 8, 9] rfl Kr Kr Kr Kr Kr) (SplitB.all _) (by simp) rfl rfl rfl (q_ldA rfl rfl (fun _ => rfl) rfl Mm rfl) ?_
            refine ra_q (.an (i := 6) (js := [4, 5]) rfl Kr Kr Kr Kr) (SplitB.all _) (by intro g hg; simp only [List.mem_append, List.mem_singleton, List.not_mem_nil, or_false, false_or, Option.mem_toList, Option.mem_def, List.append_nil] at hg; first | exact .inr ⟨ownL EStep 37 x2 x2b l2, Mm, hg⟩) rfl rfl rfl (q_pev rfl (fun _ => rfl)) ?_
            refine ra_one 4 Kr ?_
            refine rw_bsliceL EStep [((move_Do p1 (gt (slices_SortStableFunc_Op l1 history_Fold_1) n2)).2.1)] (.an rfl rfl) (guard_none rfl) rfl rfl rfl rfl rfl rfl rfl rfl rfl rfl rfl rfl rfl rfl rfl fun x5 x5b => ?_
            refine ra_one 5 Kr ?_
            refine rw_appendL EStep l2 [((move_Do p1 (gt (slices_SortStableFunc_Op l1 history_Fold_1) n2)).2.1)] (b := x2b) (.an rfl rfl) (fun g h => .inr (by simp [h])) (guard_none rfl) rfl rfl rfl rfl rfl rfl rfl (fun _ _ => Uo) rfl rfl rfl rfl rfl rfl rfl (reads_ownL (e := 37) (b := x5b) Mm) (by show (l2.length + 1) * 88 ≤ 140737488355328; (try simp only [List.length_append, List.length_cons, List.length_nil]); omega) fun x6 x6b => ?_
            refine ra_one 7 Kr ?_
            refine rw_stP (.an rfl rfl) (.inr (by simp)) (guard_none rfl) rfl rfl rfl rfl rfl rfl rfl rfl rfl Ub rfl ?_
            refine ra_q (.an (i := 8) (js := []) rfl Kr Kr Kr Kr) (SplitB.all _) (by simp) rfl rfl rfl (q_pev rfl (fun _ => rfl)) ?_
            refine ra_one 9 Kr ?_
            refine rw_st1 (.an rfl rfl) (.inr (by simp)) (guard_none rfl) rfl rfl rfl rfl rfl rfl rfl rfl rfl Ub rfl ?_
            refine ra_nil Kr ?_
            (repeat refine cw_seq ?_); refine cw_region ?_
            refine rw_q rfl rfl rfl (q_add rfl rfl (fun _ => rfl) rfl (fun _ => rfl) (fun _ => by omega)) ?_
            refine Rp rfl rfl rfl rfl ?_
            refine rw_nil ?_
            refine ⟨⟨(n2 + 1), (l2 ++ [((move_Do p1 (gt (slices_SortStableFunc_Op l1 history_Fold_1) n2)).2.1)]), x6, x6b, (move_Do p1 (gt (slices_SortStableFunc_Op l1 history_Fold_1) n2)).1, x4⟩, ⟨hlt1, (by simp only [List.length_append, List.length_cons, List.length_nil]; omega), (by simp only [List.length_append, List.length_cons, List.length_nil]; omega), (by rw [← hf2, drop_gt hlt1]; simp only [history_Fold_L1, hc5, hc6, cond_true, cond_false] : (history_Fold l1) = (history_Fold_L1 l1 ((slices_SortStableFunc_Op l1 history_Fold_1).drop (n2 + 1)) (n2 + 1) (l2 ++ [((move_Do p1 (gt (slices_SortStableFunc_Op l1 history_Fold_1) n2)).2.1)]) ((move_Do p1 (gt (slices_SortStableFunc_Op l1 history_Fold_1) n2)).1))).symm⟩, (by simp only []; omega), Le4⟩
      · skip
        have hge1 : (slices_SortStableFunc_Op l1 history_Fold_1).length ≤ n2 := by have := of_decide_eq_false hc4; omega
        (repeat refine cw_seq ?_); refine cw_exit ?_
        (repeat refine cw_seq ?_); refine cw_region ?_
        refine rw_q rfl rfl rfl (q_ldA rfl rfl (fun _ => rfl) rfl Mm rfl) ?_
        refine rw_stA .sq (.inl ⟨_, rfl⟩) (guard_none rfl) rfl rfl rfl rfl rfl rfl rfl rfl rfl Ub rfl ?_
        refine Rp rfl rfl rfl rfl ?_
        refine rw_nil ?_
        (repeat refine cw_seq ?_)
        refine cw_le (le_freezeL EStep 37 x2 x2b l2 Uo) ?_
        have hr5 : (history_Fold l1) = ((⟨l2, p1⟩ : History), 0) := by rw [← hf2, List.drop_of_length_le hge1]; simp only [history_Fold_L1, cond_true, cond_false]
        refine cw_ret ?_
        rw [hr5]
        exact ⟨⟨x2, x3⟩, _, (.cons (.agg rfl rfl Mm rfl) (.cons (.tmp rfl) .nil)), rfl, Sm, .nil _, .nil _⟩

def history_Ops_L0  : List Step → (List Op) → (List Op)
  | [], l1 => l1
  | pn1 :: rn1, l1 => (history_Ops_L0 rn1 (l1 ++ [(pn1.o)]))
def history_Ops (h1 : History) : List Op :=
  (history_Ops_L0 h1.l [])
theorem history_Ops_spec (y1 : SlV) (y2 : SlV) (h1 : History) : Does Try.prog 162 [.agg ⟨[y1.val h1.l.length, y2.val h1.t.length]⟩] [RdL EStep y1 h1.l, RdL EPlace y2 h1.t] (fun (X : SlV) => X.val (history_Ops h1).length) (fun (X : SlV) => [RdL EOp X (history_Ops h1)]) := by
  refine does_of tab_ok Try.func162 rfl Try.ntmps162 Try.results162 rfl inferInstance (fun _ => inferInstance) fun C => ?_
  refine cw_pure (φ := h1.l.length * 88 ≤ 140737488355328) [RdL EStep y1 h1.l] Sm (fun M w h => (allF1 h).len) fun hlen1 => ?_
  refine cw_pure (φ := h1.t.length * 24 ≤ 140737488355328) [RdL EPlace y2 h1.t] Sm (fun M w h => (allF1 h).len) fun hlen2 => ?_
  (repeat refine cw_seq ?_); refine cw_region ?_
  refine rw_box_agg .sq (guard_none rfl) rfl rfl rfl rfl rfl fun g1 => ?_
  refine Rp rfl rfl rfl rfl ?_
  refine rw_nil ?_
  (repeat refine cw_seq ?_); refine cw_region ?_
  refine Rp rfl rfl rfl rfl ?_
  refine rw_nil ?_
  (repeat refine cw_seq ?_); refine cw_region ?_
  refine Rp rfl rfl rfl rfl ?_
  refine rw_q rfl rfl rfl (q_ld1 rfl rfl (fun _ => rfl) rfl Mm rfl) ?_
  refine Rp rfl rfl rfl rfl ?_
  refine Rp rfl rfl rfl rfl ?_
  refine rw_nil ?_
  (repeat refine cw_seq ?_); refine cw_block ?_
  (repeat refine cw_seq ?_); refine cw_loopS [2, 7, 8] [true] (fun (i_ : List Op × SlV × Option Nat × Nat) => match i_ with | ⟨l1, x1, x1b, n1⟩ => [(3, .v (x1.val l1.length)), (9, .v (.int .i64 (n1 : Int)))]) (fun (i_ : List Op × SlV × Option Nat × Nat) => match i_ with | ⟨l1, x1, x1b, n1⟩ => []) (fun (i_ : List Op × SlV × Option Nat × Nat) => match i_ with | ⟨l1, x1, x1b, n1⟩ => [ownL EOp 33 x1 x1b l1]) (fun (i_ : List Op × SlV × Option Nat × Nat) => match i_ with | ⟨l1, x1, x1b, n1⟩ => []) (fun (i_ : List Op × SlV × Option Nat × Nat) => match i_ with | ⟨l1, x1, x1b, n1⟩ => (n1 ≤ h1.l.length) ∧ (l1.length ≤ n1) ∧ (history_Ops_L0 (h1.l.drop n1) l1) = (history_Ops h1)) (fun (i_ : List Op × SlV × Option Nat × Nat) => match i_ with | ⟨l1, x1, x1b, n1⟩ => h1.l.length - n1) ⟨[], ⟨none, 0⟩, none, 0⟩ (.cons rfl (.cons rfl (.cons rfl (.nil _)))) (.keep (.nil)) ⟨Nat.zero_le _, (by first | exact Nat.le_refl _ | exact Nat.zero_le _ | omega), (by simp only [history_Ops, cond_true, cond_false] : (history_Ops h1) = (history_Ops_L0 h1.l [])).symm⟩ (Le.trans (le_nilL EOp 33) Le4) ?_
  rintro ⟨l1, x1, x1b, n1⟩ ⟨hkn1, hl1, hf1⟩
  simp only [List.cons_append, List.nil_append]
  (repeat refine cw_seq ?_); refine cw_region ?_
  refine Rp rfl rfl rfl rfl ?_
  refine rw_nil ?_
  (repeat refine cw_seq ?_); refine cw_cond (b := decide ((n1 : Int) < (h1.l.length : Int))) rfl rfl (fun hc1 => ?_) (fun hc1 => ?_)
  · skip
    have hlt0 : n1 < h1.l.length := Int.ofNat_lt.1 (of_decide_eq_true hc1)
    (repeat refine cw_seq ?_); refine cw_skip ?_
    (repeat refine cw_seq ?_); refine cw_block ?_
    (repeat refine cw_seq ?_); refine cw_region ?_
    refine rw_q rfl rfl rfl (q_idx EStep n1 rfl rfl (fun _ => rfl) rfl (fun _ => rfl) rfl rfl rfl Mm rfl (fun _ => rfl) (fun _ => by first | assumption | omega)) ?_
    refine rw_q rfl rfl rfl (q_leA EStep rfl rfl (fun _ => rfl) rfl rfl Mm (fun _ => by first | assumption | omega)) ?_
    refine rw_alloc .sq (guard_none rfl) rfl rfl rfl rfl fun g2 => ?_
    refine rw_stA .sq (.inl ⟨_, rfl⟩) (guard_none rfl) rfl rfl rfl rfl rfl rfl rfl rfl rfl Ub rfl ?_
    refine rw_nil ?_
    (repeat refine cw_seq ?_); refine cw_region ?_
    refine Rp rfl rfl rfl rfl ?_
    refine Rp rfl rfl rfl rfl ?_
    refine rw_q rfl rfl rfl (q_ldP rfl rfl (fun _ => rfl) rfl Mm rfl) ?_
    refine rw_bsliceL EOp [((gt h1.l n1).o)] .sq (guard_none rfl) rfl rfl rfl rfl rfl rfl rfl rfl rfl rfl rfl rfl rfl rfl rfl fun x2 x2b => ?_
    refine rw_appendL EOp l1 [((gt h1.l n1).o)] (b := x1b) .sq (fun _ _ => .inl ⟨_, rfl⟩) (guard_none rfl) rfl rfl rfl rfl rfl rfl rfl (fun _ _ => Uo) rfl rfl rfl rfl rfl rfl rfl (reads_ownL (e := 33) (b := x2b) Mm) (by show (l1.length + 1) * 56 ≤ 140737488355328; (try simp only [List.length_append, List.length_cons, List.length_nil]); omega) fun x3 x3b => ?_
    refine Rp rfl rfl rfl rfl ?_
    refine rw_nil ?_
    (repeat refine cw_seq ?_); refine cw_region ?_
    refine rw_q rfl rfl rfl (q_add rfl rfl (fun _ => rfl) rfl (fun _ => rfl) (fun _ => by omega)) ?_
    refine Rp rfl rfl rfl rfl ?_
    refine rw_nil ?_
    refine ⟨⟨(l1 ++ [((gt h1.l n1).o)]), x3, x3b, (n1 + 1)⟩, ⟨hlt0, (by simp only [List.length_append, List.length_cons, List.length_nil]; omega), (by rw [← hf1, drop_gt hlt0]; simp only [history_Ops_L0, cond_true, cond_false] : (history_Ops h1) = (history_Ops_L0 (h1.l.drop (n1 + 1)) (l1 ++ [((gt h1.l n1).o)]))).symm⟩, (by simp only []; omega), Le4⟩
  · skip
    have hge0 : h1.l.length ≤ n1 := by have := of_decide_eq_false hc1; omega
    (repeat refine cw_seq ?_); refine cw_exit ?_
    (repeat refine cw_seq ?_); refine cw_region ?_
    refine Rp rfl rfl rfl rfl ?_
    refine Rp rfl rfl rfl rfl ?_
    refine rw_nil ?_
    (repeat refine cw_seq ?_)
    refine cw_le (le_freezeL EOp 33 x1 x1b l1 Uo) ?_
    have hr1 : (history_Ops h1) = l1 := by rw [← hf1, List.drop_of_length_le hge0]; simp only [history_Ops_L0, cond_true, cond_false]
    refine cw_ret ?_
    rw [hr1]
    exact ⟨x1, _, (.cons (.tmp rfl) .nil), rfl, Sm, .nil _, .nil _⟩

def history_Same (a1 : History) (b1 : History) : Bool :=
  ((decide (a1.l = b1.l)) && (decide (a1.t = b1.t)))
theorem history_Same_spec (y1 : SlV) (y2 : SlV) (a1 : History) (y3 : SlV) (y4 : SlV) (b1 : History) : Does Try.prog 83 [.agg ⟨[y1.val a1.l.length, y2.val a1.t.length]⟩, .agg ⟨[y3.val b1.l.length, y4.val b1.t.length]⟩] [RdL EStep y1 a1.l, RdL EPlace y2 a1.t, RdL EStep y3 b1.l, RdL EPlace y4 b1.t] (fun (_ : Unit) => .bool (history_Same a1 b1)) (fun (_ : Unit) => []) := by
  refine does_of tab_ok Try.func83 rfl Try.ntmps83 Try.results83 rfl inferInstance (fun _ => inferInstance) fun C => ?_
  refine cw_pure (φ := a1.l.length * 88 ≤ 140737488355328) [RdL EStep y1 a1.l] Sm (fun M w h => (allF1 h).len) fun hlen1 => ?_
  refine cw_pure (φ := a1.t.length * 24 ≤ 140737488355328) [RdL EPlace y2 a1.t] Sm (fun M w h => (allF1 h).len) fun hlen2 => ?_
  refine cw_pure (φ := b1.l.length * 88 ≤ 140737488355328) [RdL EStep y3 b1.l] Sm (fun M w h => (allF1 h).len) fun hlen3 => ?_
  refine cw_pure (φ := b1.t.length * 24 ≤ 140737488355328) [RdL EPlace y4 b1.t] Sm (fun M w h => (allF1 h).len) fun hlen4 => ?_
  (repeat refine cw_seq ?_); refine cw_region ?_
  refine rw_box_agg .sq (guard_none rfl) rfl rfl rfl rfl rfl fun g1 => ?_
  refine rw_box_agg .sq (guard_none rfl) rfl rfl rfl rfl rfl fun g2 => ?_
  refine Rp rfl rfl rfl rfl ?_
  refine rw_nil ?_
  (repeat refine cw_seq ?_); refine cw_region ?_
  refine Rp rfl rfl rfl rfl ?_
  refine rw_q rfl rfl rfl (q_ld1 rfl rfl (fun _ => rfl) rfl Mm rfl) ?_
  refine Rp rfl rfl rfl rfl ?_
  refine rw_q rfl rfl rfl (q_ld1 rfl rfl (fun _ => rfl) rfl Mm rfl) ?_
  refine rw_call ((fun y1 a y2 b => slices_Equal_Step_spec' y1 y2 a b) y1 a1.l y3 b1.l) .sq (guard_none rfl) rfl rfl rfl Kr rfl rfl Sm ?_
  intro _
  refine Rp rfl rfl rfl rfl ?_
  refine rw_qg (guard_vt rfl rfl rfl) rfl rfl (q_pev rfl Bt) ?_
  refine rw_qg (guard_vt rfl rfl rfl) rfl rfl (q_pev rfl Bt) ?_
  refine rw_qg (guard_vt rfl rfl rfl) rfl rfl (q_ld1 rfl rfl Bt rfl Mm rfl) ?_
  refine rw_qg (guard_vt rfl rfl rfl) rfl rfl (q_pev rfl Bt) ?_
  refine rw_qg (guard_vt rfl rfl rfl) rfl rfl (q_pev rfl Bt) ?_
  refine rw_qg (guard_vt rfl rfl rfl) rfl rfl (q_ld1 rfl rfl Bt rfl Mm rfl) ?_
  refine rw_callg (fun hG_ => (fun y1 a y2 b => slices_Equal_Place_spec' y1 y2 a b) y2 a1.t y4 b1.t) (fun _ => rfl) .sq (guard_vt rfl rfl rfl) rfl rfl rfl Kr rfl Bt Sm ?_
  refine rw_q rfl rfl rfl (q_pev rfl Bt) ?_
  refine Rp rfl rfl rfl rfl ?_
  refine rw_nil ?_
  (repeat refine cw_seq ?_)
  have hr1 : (history_Same a1 b1) = ((decide (a1.l = b1.l)) && (decide (a1.t = b1.t))) := by simp only [history_Same, cond_true, cond_false]
  refine cw_ret ?_
  rw [hr1]
  exact ⟨(), _, (.cons (.tmp rfl) .nil), rfl, Sm, .nil _, .nil _⟩

def history_Check (h1 : History) : Int :=
  (bif ((((history_Fold (history_Ops h1)).2) == 0) && (!(history_Same ((history_Fold (history_Ops h1)).1) h1))) then 4 else (history_Fold (history_Ops h1)).2)
theorem history_Check_spec (y1 : SlV) (y2 : SlV) (h1 : History) : Does Try.prog 81 [.agg ⟨[y1.val h1.l.length, y2.val h1.t.length]⟩] [RdL EStep y1 h1.l, RdL EPlace y2 h1.t] (fun (_ : Unit) => .int .i64 (history_Check h1)) (fun (_ : Unit) => []) := by
  refine does_of tab_ok Try.func81 rfl Try.ntmps81 Try.results81 rfl inferInstance (fun _ => inferInstance) fun C => ?_
  refine cw_pure (φ := h1.l.length * 88 ≤ 140737488355328) [RdL EStep y1 h1.l] Sm (fun M w h => (allF1 h).len) fun hlen1 => ?_
  refine cw_pure (φ := h1.t.length * 24 ≤ 140737488355328) [RdL EPlace y2 h1.t] Sm (fun M w h => (allF1 h).len) fun hlen2 => ?_
  (repeat refine cw_seq ?_); refine cw_region ?_
  refine rw_box_agg .sq (guard_none rfl) rfl rfl rfl rfl rfl fun g1 => ?_
  refine Rp rfl rfl rfl rfl ?_
  refine rw_nil ?_
  (repeat refine cw_seq ?_); refine cw_region ?_
  refine rw_q rfl rfl rfl (q_ldA rfl rfl (fun _ => rfl) rfl Mm rfl) ?_
  refine rw_call (history_Ops_spec y1 y2 h1) .sq (guard_none rfl) rfl rfl rfl Kr rfl rfl Sm ?_
  intro x1
  refine rw_pure (φ := (history_Ops h1).length * 56 ≤ 140737488355328) [RdL EOp x1 (history_Ops h1)] Sm (fun M w h => (allF1 h).len) fun hlen3 => ?_
  refine rw_call (history_Fold_spec x1 (history_Ops h1)) .sq (guard_none rfl) rfl rfl rfl Kr rfl rfl Sm ?_
  intro x2
  refine rw_pure (φ := (((history_Fold (history_Ops h1)).1).l).length * 88 ≤ 140737488355328) [RdL EStep x2.1 (((history_Fold (history_Ops h1)).1).l)] Sm (fun M w h => (allF1 h).len) fun hlen4 => ?_
  refine rw_pure (φ := (((history_Fold (history_Ops h1)).1).t).length * 24 ≤ 140737488355328) [RdL EPlace x2.2 (((history_Fold (history_Ops h1)).1).t)] Sm (fun M w h => (allF1 h).len) fun hlen5 => ?_
  refine Rp rfl rfl rfl rfl ?_
  refine Rp rfl rfl rfl rfl ?_
  refine Rp rfl rfl rfl rfl ?_
  refine rw_alloc .sq (guard_none rfl) rfl rfl rfl rfl fun g2 => ?_
  refine rw_stA .sq (.inl ⟨_, rfl⟩) (guard_none rfl) rfl rfl rfl rfl rfl rfl rfl rfl rfl Ub rfl ?_
  refine Rp rfl rfl rfl rfl ?_
  refine rw_nil ?_
  (repeat refine cw_seq ?_); refine cw_region ?_
  refine Rp rfl rfl rfl rfl ?_
  refine Rp rfl rfl rfl rfl ?_
  refine Rp rfl rfl rfl rfl ?_
  refine rw_qg (guard_vt rfl rfl rfl) rfl rfl (q_ldA rfl rfl Bt rfl Mm rfl) ?_
  refine rw_qg (guard_vt rfl rfl rfl) rfl rfl (q_ldA rfl rfl Bt rfl Mm rfl) ?_
  refine rw_callg (fun hG_ => history_Same_spec x2.1 x2.2 ((history_Fold (history_Ops h1)).1) y1 y2 h1) (fun _ => rfl) .sq (guard_vt rfl rfl rfl) rfl rfl rfl Kr rfl Bt Sm ?_
  refine rw_qg (guard_vt rfl rfl rfl) rfl rfl (q_pev rfl Bt) ?_
  refine rw_q rfl rfl rfl (q_pev rfl Bt) ?_
  refine rw_nil ?_
  (repeat refine cw_seq ?_); refine cw_cond (b := ((((history_Fold (history_Ops h1)).2) == 0) && (!(history_Same ((history_Fold (history_Ops h1)).1) h1)))) rfl rfl (fun hc1 => ?_) (fun hc1 => ?_)
  · skip
    (repeat refine cw_seq ?_); refine cw_region ?_
    refine Rp rfl rfl rfl rfl ?_
    refine rw_nil ?_
    (repeat refine cw_seq ?_); refine cw_region ?_
    refine Rp rfl rfl rfl rfl ?_
    refine Rp rfl rfl rfl rfl ?_
    refine rw_nil ?_
    (repeat refine cw_seq ?_)
    have hr1 : (history_Check h1) = 4 := by simp only [history_Check, hc1, cond_true, cond_false]
    refine cw_ret ?_
    rw [hr1]
    exact ⟨(), _, (.cons (.tmp rfl) .nil), rfl, Sm, .nil _, .nil _⟩
  · skip
    (repeat refine cw_seq ?_); refine cw_skip ?_
    (repeat refine cw_seq ?_); refine cw_region ?_
    refine Rp rfl rfl rfl rfl ?_
    refine Rp rfl rfl rfl rfl ?_
    refine rw_nil ?_
    (repeat refine cw_seq ?_)
    have hr2 : (history_Check h1) = (history_Fold (history_Ops h1)).2 := by simp only [history_Check, hc1, cond_true, cond_false]
    refine cw_ret ?_
    rw [hr2]
    exact ⟨(), _, (.cons (.tmp rfl) .nil), rfl, Sm, .nil _, .nil _⟩
end Go.Proofs.Ytchdacbjiomplaa
