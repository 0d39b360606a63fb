/- Part of this claim. No condition. -/
import Derived.Test.YtchdacbjiomplaaW8
import Derived.Test.YtchdacbjiomplaaW3
set_option linter.unusedVariables false
set_option linter.unusedSimpArgs false
namespace Go.Proofs.Ytchdacbjiomplaa
open Go Go.Proofs.Ytchdacbjiomplaa.Fw Go.Proofs
def orangeryref_Undone_L0 (s1 : Step) : List Place → Bool → (List Place) → ((List Place) × Int)
  | [], put1, p1 => (bif ((orangeryref_CheckTree p1) != 0) then (([] : List Place), (orangeryref_CheckTree p1)) else (p1, 0))
  | pn1 :: rn1, put1, p1 => (bif ((pn1.node) != s1.o.node) then (orangeryref_Undone_L0 s1 rn1 put1 (p1 ++ [pn1])) else (bif (((s1.was.node != 0) && decide (s1.was.parent ≥ 0)) && (!put1)) then (orangeryref_Undone_L0 s1 rn1 true (p1 ++ [s1.was])) else (orangeryref_Undone_L0 s1 rn1 put1 p1)))
def orangeryref_Undone (t1 : List Place) (s1 : Step) : (List Place) × Int :=
  (bif ((orangeryref_CheckTree t1) != 0) then (([] : List Place), (orangeryref_CheckTree t1)) else (bif ((orangeryref_CheckOp s1.o) != 0) then (([] : List Place), (orangeryref_CheckOp s1.o)) else (bif (!s1.did) then (t1, 0) else (bif (((s1.was.node != 0) && (s1.was.node != s1.o.node)) || (!(decide ((tree_Find t1 s1.o.node) = (⟨s1.o.node, s1.o.parent, s1.o.name⟩ : Place))))) then (([] : List Place), 4) else (orangeryref_Undone_L0 s1 t1 false [])))))
theorem orangeryref_Undone_spec (y1 : SlV) (t1 : List Place) (s1 : Step) : Does Try.prog 36 [.agg ⟨[y1.val t1.length]⟩, .agg ⟨[.int .i64 s1.o.time, .int .i64 s1.o.who, .int .i64 s1.o.node, .int .i64 s1.o.parent, .int .i64 s1.o.name, .int .i64 s1.o.life, .int .i64 s1.o.seq, .bool s1.did, .int .i64 s1.was.node, .int .i64 s1.was.parent, .int .i64 s1.was.name]⟩] [RdL EPlace y1 t1] (fun (X : SlV) => .tuple #[.agg ⟨[X.val ((orangeryref_Undone t1 s1).1).length]⟩, .int .i64 ((orangeryref_Undone t1 s1).2)]) (fun (X : SlV) => [RdL EPlace X ((orangeryref_Undone t1 s1).1)]) := by
  refine does_of tab_ok Try.func36 rfl Try.ntmps36 Try.results36 rfl inferInstance (fun _ => inferInstance) fun C => ?_
  refine cw_pure (φ := t1.length * 24 ≤ 140737488355328) [RdL EPlace y1 t1] Sm (fun M w h => (allF1 h).len) fun hlen1 => ?_
  (repeat refine cw_seq ?_); refine cw_region ?_
  refine rw_box_agg .sq (guard_none rfl) rfl rfl rfl rfl rfl fun g1 => ?_
  refine rw_box_agg .sq (guard_none rfl) rfl rfl rfl rfl rfl fun g2 => ?_
  refine rw_alloc .sq (guard_none rfl) rfl rfl rfl rfl fun g3 => ?_
  refine Rp rfl rfl rfl rfl ?_
  refine rw_nil ?_
  (repeat refine cw_seq ?_); refine cw_region ?_
  refine rw_q rfl rfl rfl (q_ldA rfl rfl (fun _ => rfl) rfl Mm rfl) ?_
  refine rw_call (orangeryref_CheckTree_spec y1 t1) .sq (guard_none rfl) rfl rfl rfl Kr rfl rfl Sm ?_
  intro _
  refine Rp rfl rfl rfl rfl ?_
  refine rw_nil ?_
  (repeat refine cw_seq ?_); refine cw_region ?_
  refine Rp rfl rfl rfl rfl ?_
  refine Rp rfl rfl rfl rfl ?_
  refine rw_nil ?_
  (repeat refine cw_seq ?_); refine cw_cond (b := ((orangeryref_CheckTree t1) != 0)) rfl rfl (fun hc1 => ?_) (fun hc1 => ?_)
  · skip
    have hc1p := bne_iff_ne.1 hc1
    (repeat refine cw_seq ?_); refine cw_region ?_
    refine Rp rfl rfl rfl rfl ?_
    refine Rp rfl rfl rfl rfl ?_
    refine rw_stA .sq (.inl ⟨_, rfl⟩) (guard_none rfl) rfl rfl rfl rfl rfl rfl rfl rfl rfl Ub rfl ?_
    refine Rp rfl rfl rfl rfl ?_
    refine rw_nil ?_
    (repeat refine cw_seq ?_)
    refine cw_fact (F := RdL EPlace ⟨none, 0⟩ ([] : List Place)) [] (.nil _) (fun M w _ => RdL.nil _ _ _ (by omega) M w) ?_
    have hr1 : (orangeryref_Undone t1 s1) = (([] : List Place), (orangeryref_CheckTree t1)) := by simp only [orangeryref_Undone, hc1, cond_true, cond_false]
    refine cw_ret ?_
    rw [hr1]
    exact ⟨(⟨none, 0⟩ : SlV), _, (.cons (.agg rfl rfl Mm rfl) (.cons (.tmp rfl) .nil)), rfl, Sm, .nil _, .nil _⟩
  · skip
    have hc1p := eq_of_bne_false hc1
    (repeat refine cw_seq ?_); refine cw_skip ?_
    (repeat refine cw_seq ?_); refine cw_region ?_
    refine Rp rfl rfl rfl rfl ?_
    refine rw_q rfl rfl rfl (q_ldP rfl rfl (fun _ => rfl) rfl Mm rfl) ?_
    refine rw_call (orangeryref_CheckOp_spec s1.o) .sq (guard_none rfl) rfl rfl rfl Kr rfl rfl Sm ?_
    intro _
    refine Rp rfl rfl rfl rfl ?_
    refine rw_nil ?_
    (repeat refine cw_seq ?_); refine cw_region ?_
    refine Rp rfl rfl rfl rfl ?_
    refine Rp rfl rfl rfl rfl ?_
    refine rw_nil ?_
    (repeat refine cw_seq ?_); refine cw_cond (b := ((orangeryref_CheckOp s1.o) != 0)) rfl rfl (fun hc2 => ?_) (fun hc2 => ?_)
    · skip
      have hc2p := bne_iff_ne.1 hc2
      (repeat refine cw_seq ?_); refine cw_region ?_
      refine Rp rfl rfl rfl rfl ?_
      refine Rp rfl rfl rfl rfl ?_
      refine rw_stA .sq (.inl ⟨_, rfl⟩) (guard_none rfl) rfl rfl rfl rfl rfl rfl rfl rfl rfl Ub rfl ?_
      refine Rp rfl rfl rfl rfl ?_
      refine rw_nil ?_
      (repeat refine cw_seq ?_)
      refine cw_fact (F := RdL EPlace ⟨none, 0⟩ ([] : List Place)) [] (.nil _) (fun M w _ => RdL.nil _ _ _ (by omega) M w) ?_
      have hr2 : (orangeryref_Undone t1 s1) = (([] : List Place), (orangeryref_CheckOp s1.o)) := by simp only [orangeryref_Undone, hc1, hc2, cond_true, cond_false]
      refine cw_ret ?_
      rw [hr2]
      exact ⟨(⟨none, 0⟩ : SlV), _, (.cons (.agg rfl rfl Mm rfl) (.cons (.tmp rfl) .nil)), rfl, Sm, .nil _, .nil _⟩
    · skip
      have hc2p := eq_of_bne_false hc2
      (repeat refine cw_seq ?_); refine cw_skip ?_
      (repeat refine cw_seq ?_); refine cw_region ?_
      refine Rp rfl rfl rfl rfl ?_
      refine rw_q rfl rfl rfl (q_ld1 rfl rfl (fun _ => rfl) rfl Mm rfl) ?_
      refine Rp rfl rfl rfl rfl ?_
      refine rw_nil ?_
      (repeat refine cw_seq ?_); refine cw_cond (b := (!s1.did)) rfl rfl (fun hc3 => ?_) (fun hc3 => ?_)
      · skip
        (repeat refine cw_seq ?_); refine cw_region ?_
        refine rw_q rfl rfl rfl (q_ldA rfl rfl (fun _ => rfl) rfl Mm rfl) ?_
        refine rw_stA .sq (.inl ⟨_, rfl⟩) (guard_none rfl) rfl rfl rfl rfl rfl rfl rfl rfl rfl Ub rfl ?_
        refine Rp rfl rfl rfl rfl ?_
        refine rw_nil ?_
        (repeat refine cw_seq ?_)
        have hr3 : (orangeryref_Undone t1 s1) = (t1, 0) := by simp only [orangeryref_Undone, hc1, hc2, hc3, cond_true, cond_false]
        refine cw_ret ?_
        rw [hr3]
        exact ⟨y1, _, (.cons (.agg rfl rfl Mm rfl) (.cons (.tmp rfl) .nil)), rfl, Sm, .nil _, .nil _⟩
      · skip
        (repeat refine cw_seq ?_); refine cw_skip ?_
        (repeat refine cw_seq ?_); refine cw_regionA (fun _ => some []) ?_
        refine ra_q (.ab (i := 0) (js := []) [1, 2, 3, 4, 5, 6, 7, 8, 9, 10, 11, 12, 13, 14, 15, 16, 17, 18, 19, 20, 21, 22, 23, 24, 25, 26, 27, 28, 29, 30, 31] rfl Kr Kr Kr Kr Kr) (SplitB.all _) (by simp) rfl rfl rfl (q_pev rfl (fun _ => rfl)) ?_
        refine ra_q (.ab (i := 1) (js := []) [2, 3, 4, 5, 6, 7, 8, 9, 10, 11, 12, 13, 14, 15, 16, 17, 18, 19, 20, 21, 22, 23, 24, 25, 26, 27, 28, 29, 30, 31] rfl Kr Kr Kr Kr Kr) (SplitB.all _) (by simp) rfl rfl rfl (q_pev rfl (fun _ => rfl)) ?_
        refine ra_q (.ab (i := 2) (js := []) [3, 4, 5, 6, 7, 8, 9, 10, 11, 12, 13, 14, 15, 16, 17, 18, 19, 20, 21, 22, 23, 24, 25, 26, 27, 28, 29, 30, 31] rfl Kr Kr Kr Kr Kr) (SplitB.all _) (by simp) rfl rfl rfl (q_ld1 rfl rfl (fun _ => rfl) rfl Mm rfl) ?_
        refine ra_q (.ab (i := 3) (js := []) [4, 5, 6, 7, 8, 9, 10, 11, 12, 13, 14, 15, 16, 17, 18, 19, 20, 21, 22, 23, 24, 25, 26, 27, 28, 29, 30, 31] rfl Kr Kr Kr Kr Kr) (SplitB.all _) (by simp) rfl rfl rfl (q_pev rfl (fun _ => rfl)) ?_
        refine ra_q (.ab (i := 4) (js := []) [5, 6, 7, 8, 9, 10, 11, 12, 13, 14, 15, 16, 17, 18, 19, 20, 21, 22, 23, 24, 25, 26, 27, 28, 29, 30, 31] rfl Kr Kr Kr Kr Kr) (SplitB.all _) (by simp) rfl rfl rfl (q_pev rfl (fun _ => rfl)) ?_
        refine ra_qg (.ab (i := 5) (js := [8, 9, 10]) [6, 7, 11, 12, 13, 14, 15, 16, 17, 18, 19, 20, 21, 22, 23, 24, 25, 26, 27, 28, 29, 30, 31] rfl Kr Kr Kr Kr Kr) (SplitB.all _) (by simp) (guard_vt rfl rfl rfl) rfl rfl (q_pev rfl Bt) ?_
        refine ra_qg (.ab (i := 6) (js := [8, 9, 10]) [7, 11, 12, 13, 14, 15, 16, 17, 18, 19, 20, 21, 22, 23, 24, 25, 26, 27, 28, 29, 30, 31] rfl Kr Kr Kr Kr Kr) (SplitB.all _) (by simp) (guard_vt rfl rfl rfl) rfl rfl (q_pev rfl Bt) ?_
        refine ra_qg (.ab (i := 7) (js := [8, 9, 10]) [11, 12, 13, 14, 15, 16, 17, 18, 19, 20, 21, 22, 23, 24, 25, 26, 27, 28, 29, 30, 31] rfl Kr Kr Kr Kr Kr) (SplitB.all _) (by simp) (guard_vt rfl rfl rfl) rfl rfl (q_ld1 rfl rfl Bt rfl Mm rfl) ?_
        refine ra_qg (.ab (i := 8) (js := []) [9, 10, 11, 12, 13, 14, 15, 16, 17, 18, 19, 20, 21, 22, 23, 24, 25, 26, 27, 28, 29, 30, 31] rfl Kr Kr Kr Kr Kr) (SplitB.all _) (by simp) (guard_vt rfl rfl rfl) rfl rfl (q_pev rfl Bt) ?_
        refine ra_qg (.ab (i := 9) (js := []) [10, 11, 12, 13, 14, 15, 16, 17, 18, 19, 20, 21, 22, 23, 24, 25, 26, 27, 28, 29, 30, 31] rfl Kr Kr Kr Kr Kr) (SplitB.all _) (by simp) (guard_vt rfl rfl rfl) rfl rfl (q_pev rfl Bt) ?_
        refine ra_qg (.ab (i := 10) (js := []) [11, 12, 13, 14, 15, 16, 17, 18, 19, 20, 21, 22, 23, 24, 25, 26, 27, 28, 29, 30, 31] rfl Kr Kr Kr Kr Kr) (SplitB.all _) (by simp) (guard_vt rfl rfl rfl) rfl rfl (q_ld1 rfl rfl Bt rfl Mm rfl) ?_
        refine ra_qg (.ab (i := 11) (js := []) [12, 13, 14, 15, 16, 17, 18, 19, 20, 21, 22, 23, 24, 25, 26, 27, 28, 29, 30, 31] rfl Kr Kr Kr Kr Kr) (SplitB.all _) (by simp) (guard_vt rfl rfl rfl) rfl rfl (q_pev rfl Bt) ?_
        refine ra_q (.ab (i := 12) (js := []) [13, 14, 15, 16, 17, 18, 19, 20, 21, 22, 23, 24, 25, 26, 27, 28, 29, 30, 31] rfl Kr Kr Kr Kr Kr) (SplitB.all _) (by simp) rfl rfl rfl (q_pev rfl Bt) ?_
        refine ra_q (.an (i := 13) (js := []) rfl Kr Kr Kr Kr) (SplitB.all _) (by simp) rfl rfl rfl (q_pev rfl (fun _ => rfl)) ?_
        refine ra_qg (.ab (i := 14) (js := [16, 17, 18, 20, 21, 22, 23, 24, 25, 26, 27, 28, 29]) [15, 19, 30, 31] rfl Kr Kr Kr Kr Kr) (SplitB.all _) (by simp) (guard_vf rfl rfl rfl) rfl rfl (q_pev rfl Bt) ?_
        refine ra_qg (.ab (i := 15) (js := [16, 17, 18, 20, 21, 22, 23, 24, 25, 26, 27, 28, 29]) [19, 30, 31] rfl Kr Kr Kr Kr Kr) (SplitB.all _) (by simp) (guard_vf rfl rfl rfl) rfl rfl (q_ld1 rfl rfl Bt rfl Mm rfl) ?_
        refine ra_qg (.ab (i := 16) (js := [20, 21, 22, 23, 24, 25, 26, 27, 28, 29]) [17, 18, 19, 30, 31] rfl Kr Kr Kr Kr Kr) (SplitB.all _) (by simp) (guard_vf rfl rfl rfl) rfl rfl (q_pev rfl Bt) ?_
        refine ra_qg (.ab (i := 17) (js := [20, 21, 22, 23, 24, 25, 26, 27, 28, 29]) [18, 19, 30, 31] rfl Kr Kr Kr Kr Kr) (SplitB.all _) (by simp) (guard_vf rfl rfl rfl) rfl rfl (q_pev rfl Bt) ?_
        refine ra_qg (.ab (i := 18) (js := [20, 21, 22, 23, 24, 25, 26, 27, 28, 29]) [19, 30, 31] rfl Kr Kr Kr Kr Kr) (SplitB.all _) (by simp) (guard_vf rfl rfl rfl) rfl rfl (q_ld1 rfl rfl Bt rfl Mm rfl) ?_
        refine ra_qg (.ab (i := 20) (js := [19, 23, 24, 25, 26, 27, 28]) [21, 22, 29, 30, 31] rfl Kr Kr Kr Kr Kr) (SplitB.all _) (by simp) (guard_vf rfl rfl rfl) rfl rfl (q_pev rfl Bt) ?_
        refine ra_qg (.ab (i := 21) (js := [19, 23, 24, 25, 26, 27, 28]) [22, 29, 30, 31] rfl Kr Kr Kr Kr Kr) (SplitB.all _) (by simp) (guard_vf rfl rfl rfl) rfl rfl (q_pev rfl Bt) ?_
        refine ra_qg (.ab (i := 22) (js := [19, 23, 24, 25, 26, 27, 28]) [29, 30, 31] rfl Kr Kr Kr Kr Kr) (SplitB.all _) (by simp) (guard_vf rfl rfl rfl) rfl rfl (q_ld1 rfl rfl Bt rfl Mm rfl) ?_
        refine ra_qg (.ab (i := 23) (js := [19, 26, 27, 28]) [24, 25, 29, 30, 31] rfl Kr Kr Kr Kr Kr) (SplitB.all _) (by simp) (guard_vf rfl rfl rfl) rfl rfl (q_pev rfl Bt) ?_
        refine ra_qg (.ab (i := 24) (js := [19, 26, 27, 28]) [25, 29, 30, 31] rfl Kr Kr Kr Kr Kr) (SplitB.all _) (by simp) (guard_vf rfl rfl rfl) rfl rfl (q_pev rfl Bt) ?_
        refine ra_qg (.ab (i := 25) (js := [19, 26, 27, 28]) [29, 30, 31] rfl Kr Kr Kr Kr Kr) (SplitB.all _) (by simp) (guard_vf rfl rfl rfl) rfl rfl (q_ld1 rfl rfl Bt rfl Mm rfl) ?_
        refine ra_qg (.ab (i := 26) (js := [19]) [27, 28, 29, 30, 31] rfl Kr Kr Kr Kr Kr) (SplitB.all _) (by simp) (guard_vf rfl rfl rfl) rfl rfl (q_pev rfl Bt) ?_
        refine ra_qg (.ab (i := 27) (js := [19]) [28, 29, 30, 31] rfl Kr Kr Kr Kr Kr) (SplitB.all _) (by simp) (guard_vf rfl rfl rfl) rfl rfl (q_pev rfl Bt) ?_
        refine ra_qg (.ab (i := 28) (js := [19]) [29, 30, 31] rfl Kr Kr Kr Kr Kr) (SplitB.all _) (by simp) (guard_vf rfl rfl rfl) rfl rfl (q_ld1 rfl rfl Bt rfl Mm rfl) ?_
        refine ra_qg (.ab (i := 29) (js := [19]) [30, 31] rfl Kr Kr Kr Kr Kr) (SplitB.all _) (by simp) (guard_vf rfl rfl rfl) rfl rfl (q_pev rfl Bt) ?_
        refine ra_one 19 Kr ?_
        refine rw_callg (fun hG_ => orangeryref_FindIn_spec' y1 t1 s1.o.node) (fun _ => rfl) (.an rfl rfl) (guard_vf rfl rfl rfl) rfl rfl rfl Kr rfl Bt Sm ?_
        refine ra_qg (.an (i := 30) (js := []) rfl Kr Kr Kr Kr) (SplitB.all _) (by simp) (guard_vf rfl rfl rfl) rfl rfl (q_neE eqT_Place (flatEq_Place (tree_Find t1 s1.o.node) (⟨s1.o.node, s1.o.parent, s1.o.name⟩ : Place)) rfl rfl Bt rfl Bt rfl rfl) ?_
        refine ra_q (.an (i := 31) (js := []) rfl Kr Kr Kr Kr) (SplitB.all _) (by simp) rfl rfl rfl (q_pev rfl Bt) ?_
        refine ra_nil Kr ?_
        (repeat refine cw_seq ?_); refine cw_cond (b := (((s1.was.node != 0) && (s1.was.node != s1.o.node)) || (!(decide ((tree_Find t1 s1.o.node) = (⟨s1.o.node, s1.o.parent, s1.o.name⟩ : Place)))))) rfl rfl (fun hc4 => ?_) (fun hc4 => ?_)
        · skip
          (repeat refine cw_seq ?_); refine cw_region ?_
          refine Rp rfl rfl rfl rfl ?_
          refine rw_stA .sq (.inl ⟨_, rfl⟩) (guard_none rfl) rfl rfl rfl rfl rfl rfl rfl rfl rfl Ub rfl ?_
          refine Rp rfl rfl rfl rfl ?_
          refine rw_nil ?_
          (repeat refine cw_seq ?_)
          refine cw_fact (F := RdL EPlace ⟨none, 0⟩ ([] : List Place)) [] (.nil _) (fun M w _ => RdL.nil _ _ _ (by omega) M w) ?_
          have hr4 : (orangeryref_Undone t1 s1) = (([] : List Place), 4) := by simp only [orangeryref_Undone, hc1, hc2, hc3, hc4, cond_true, cond_false]
          refine cw_ret ?_
          rw [hr4]
          exact ⟨(⟨none, 0⟩ : SlV), _, (.cons (.agg rfl rfl Mm rfl) (.cons (.tmp rfl) .nil)), rfl, Sm, .nil _, .nil _⟩
        · skip
          (repeat refine cw_seq ?_); refine cw_skip ?_
          (repeat refine cw_seq ?_); refine cw_region ?_
          refine rw_alloc .sq (guard_none rfl) rfl rfl rfl rfl fun g4 => ?_
          refine rw_nil ?_
          (repeat refine cw_seq ?_); refine cw_region ?_
          refine Rp rfl rfl rfl rfl ?_
          refine rw_nil ?_
          (repeat refine cw_seq ?_); refine cw_region ?_
          refine Rp rfl rfl rfl rfl ?_
          refine rw_q rfl rfl rfl (q_ld1 rfl rfl (fun _ => rfl) rfl Mm rfl) ?_
          refine Rp rfl rfl rfl rfl ?_
          refine Rp rfl rfl rfl rfl ?_
          refine rw_nil ?_
          (repeat refine cw_seq ?_); refine cw_block ?_
          (repeat refine cw_seq ?_); refine cw_loopS [3, 4, 5, 8, 64, 65] [false, true, true, true] (fun (i_ : Bool × Nat × List Place × SlV × Option Nat) => match i_ with | ⟨put1, n1, p1, x1, x1b⟩ => [(9, .v (.bool put1)), (66, .v (.int .i64 (n1 : Int)))]) (fun (i_ : Bool × Nat × List Place × SlV × Option Nat) => match i_ with | ⟨put1, n1, p1, x1, x1b⟩ => [⟨g4, 29, [x1.val p1.length]⟩]) (fun (i_ : Bool × Nat × List Place × SlV × Option Nat) => match i_ with | ⟨put1, n1, p1, x1, x1b⟩ => [ownL EPlace 35 x1 x1b p1]) (fun (i_ : Bool × Nat × List Place × SlV × Option Nat) => match i_ with | ⟨put1, n1, p1, x1, x1b⟩ => []) (fun (i_ : Bool × Nat × List Place × SlV × Option Nat) => match i_ with | ⟨put1, n1, p1, x1, x1b⟩ => (n1 ≤ t1.length) ∧ (p1.length ≤ n1) ∧ (orangeryref_Undone_L0 s1 (t1.drop n1) put1 p1) = (orangeryref_Undone t1 s1)) (fun (i_ : Bool × Nat × List Place × SlV × Option Nat) => match i_ with | ⟨put1, n1, p1, x1, x1b⟩ => t1.length - n1) ⟨false, 0, [], ⟨none, 0⟩, none⟩ (.cons rfl (.cons rfl (.cons rfl (.cons rfl (.cons rfl (.cons rfl (.nil _))))))) (.drop (.keep (.keep (.keep (.nil))))) ⟨Nat.zero_le _, (by first | exact Nat.le_refl _ | exact Nat.zero_le _ | omega), (by simp only [orangeryref_Undone, hc1, hc2, hc3, hc4, cond_true, cond_false] : (orangeryref_Undone t1 s1) = (orangeryref_Undone_L0 s1 t1 false [])).symm⟩ (Le.trans (le_nilL EPlace 35) Le4) ?_
          rintro ⟨put1, n1, p1, x1, x1b⟩ ⟨hkn1, hp1, hf1⟩
          simp only [List.cons_append, List.nil_append]
          (repeat refine cw_seq ?_); refine cw_region ?_
          refine Rp rfl rfl rfl rfl ?_
          refine rw_nil ?_
          (repeat refine cw_seq ?_); refine cw_cond (b := decide ((n1 : Int) < (t1.length : Int))) rfl rfl (fun hc5 => ?_) (fun hc5 => ?_)
          · skip
            have hlt0 : n1 < t1.length := Int.ofNat_lt.1 (of_decide_eq_true hc5)
            (repeat refine cw_seq ?_); refine cw_skip ?_
            (repeat refine cw_seq ?_); refine cw_block ?_
            (repeat refine cw_seq ?_); refine cw_region ?_
            refine rw_q rfl rfl rfl (q_idx EPlace n1 rfl rfl (fun _ => rfl) rfl (fun _ => rfl) rfl rfl rfl Mm rfl (fun _ => rfl) (fun _ => by first | assumption | omega)) ?_
            refine rw_q rfl rfl rfl (q_leA EPlace rfl rfl (fun _ => rfl) rfl rfl Mm (fun _ => by first | assumption | omega)) ?_
            refine rw_alloc .sq (guard_none rfl) rfl rfl rfl rfl fun g5 => ?_
            refine rw_stA .sq (.inl ⟨_, rfl⟩) (guard_none rfl) rfl rfl rfl rfl rfl rfl rfl rfl rfl Ub rfl ?_
            refine rw_nil ?_
            (repeat refine cw_seq ?_); refine cw_block ?_
            (repeat refine cw_seq ?_); refine cw_region ?_
            refine Rp rfl rfl rfl rfl ?_
            refine rw_q rfl rfl rfl (q_ld1 rfl rfl (fun _ => rfl) rfl Mm rfl) ?_
            refine Rp rfl rfl rfl rfl ?_
            refine Rp rfl rfl rfl rfl ?_
            refine rw_q rfl rfl rfl (q_ld1 rfl rfl (fun _ => rfl) rfl Mm rfl) ?_
            refine Rp rfl rfl rfl rfl ?_
            refine Rp rfl rfl rfl rfl ?_
            refine rw_nil ?_
            (repeat refine cw_seq ?_); refine cw_cond (b := (((gt t1 n1).node) != s1.o.node)) rfl rfl (fun hc6 => ?_) (fun hc6 => ?_)
            · skip
              have hc6p := bne_iff_ne.1 hc6
              (repeat refine cw_seq ?_); refine cw_region ?_
              refine Rp rfl rfl rfl rfl ?_
              refine rw_q rfl rfl rfl (q_ld1 rfl rfl (fun _ => rfl) rfl Mm rfl) ?_
              refine rw_q rfl rfl rfl (q_ldA rfl rfl (fun _ => rfl) rfl Mm rfl) ?_
              refine rw_bsliceL EPlace [(gt t1 n1)] .sq (guard_none rfl) rfl rfl rfl rfl rfl rfl rfl rfl rfl rfl rfl rfl rfl rfl rfl fun x2 x2b => ?_
              refine rw_appendL EPlace p1 [(gt t1 n1)] (b := x1b) .sq (fun _ _ => .inl ⟨_, rfl⟩) (guard_none rfl) rfl rfl rfl rfl rfl rfl rfl (fun _ _ => Uo) rfl rfl rfl rfl rfl rfl rfl (reads_ownL (e := 35) (b := x2b) Mm) (by show (p1.length + 1) * 24 ≤ 140737488355328; (try simp only [List.length_append, List.length_cons, List.length_nil]); omega) fun x3 x3b => ?_
              refine Rp rfl rfl rfl rfl ?_
              refine rw_st1 .sq (.inl ⟨_, rfl⟩) (guard_none rfl) rfl rfl rfl rfl rfl rfl rfl rfl rfl Ub rfl ?_
              refine rw_nil ?_
              (repeat refine cw_seq ?_); refine cw_region ?_
              refine rw_q rfl rfl rfl (q_add rfl rfl (fun _ => rfl) rfl (fun _ => rfl) (fun _ => by omega)) ?_
              refine Rp rfl rfl rfl rfl ?_
              refine rw_nil ?_
              refine ⟨⟨put1, (n1 + 1), (p1 ++ [(gt t1 n1)]), x3, x3b⟩, ⟨hlt0, (by simp only [List.length_append, List.length_cons, List.length_nil]; omega), (by rw [← hf1, drop_gt hlt0]; simp only [orangeryref_Undone_L0, hc6, cond_true, cond_false] : (orangeryref_Undone t1 s1) = (orangeryref_Undone_L0 s1 (t1.drop (n1 + 1)) put1 (p1 ++ [(gt t1 n1)]))).symm⟩, (by simp only []; omega), Le4⟩
            · skip
              have hc6p := eq_of_bne_false hc6
              (repeat refine cw_seq ?_); refine cw_region ?_
              refine Rp rfl rfl rfl rfl ?_
              refine Rp rfl rfl rfl rfl ?_
              refine rw_q rfl rfl rfl (q_ld1 rfl rfl (fun _ => rfl) rfl Mm rfl) ?_
              refine Rp rfl rfl rfl rfl ?_
              refine Rp rfl rfl rfl rfl ?_
              refine rw_qg (guard_vt rfl rfl rfl) rfl rfl (q_pev rfl Bt) ?_
              refine rw_qg (guard_vt rfl rfl rfl) rfl rfl (q_pev rfl Bt) ?_
              refine rw_qg (guard_vt rfl rfl rfl) rfl rfl (q_ld1 rfl rfl Bt rfl Mm rfl) ?_
              refine rw_qg (guard_vt rfl rfl rfl) rfl rfl (q_pev rfl Bt) ?_
              refine rw_q rfl rfl rfl (q_pev rfl Bt) ?_
              refine Rp rfl rfl rfl rfl ?_
              refine rw_qg (guard_vt rfl rfl rfl) rfl rfl (q_pev rfl Bt) ?_
              refine rw_qg (guard_vt rfl rfl rfl) rfl rfl (q_pev rfl Bt) ?_
              refine rw_q rfl rfl rfl (q_pev rfl Bt) ?_
              refine Rp rfl rfl rfl rfl ?_
              refine rw_nil ?_
              (repeat refine cw_seq ?_); refine cw_cond (b := (((s1.was.node != 0) && decide (s1.was.parent ≥ 0)) && (!put1))) rfl rfl (fun hc7 => ?_) (fun hc7 => ?_)
              · skip
                (repeat refine cw_seq ?_); refine cw_region ?_
                refine Rp rfl rfl rfl rfl ?_
                refine rw_q rfl rfl rfl (q_ld1 rfl rfl (fun _ => rfl) rfl Mm rfl) ?_
                refine Rp rfl rfl rfl rfl ?_
                refine rw_q rfl rfl rfl (q_ldP rfl rfl (fun _ => rfl) rfl Mm rfl) ?_
                refine rw_bsliceL EPlace [s1.was] .sq (guard_none rfl) rfl rfl rfl rfl rfl rfl rfl rfl rfl rfl rfl rfl rfl rfl rfl fun x4 x4b => ?_
                refine rw_appendL EPlace p1 [s1.was] (b := x1b) .sq (fun _ _ => .inl ⟨_, rfl⟩) (guard_none rfl) rfl rfl rfl rfl rfl rfl rfl (fun _ _ => Uo) rfl rfl rfl rfl rfl rfl rfl (reads_ownL (e := 35) (b := x4b) Mm) (by show (p1.length + 1) * 24 ≤ 140737488355328; (try simp only [List.length_append, List.length_cons, List.length_nil]); omega) fun x5 x5b => ?_
                refine Rp rfl rfl rfl rfl ?_
                refine rw_st1 .sq (.inl ⟨_, rfl⟩) (guard_none rfl) rfl rfl rfl rfl rfl rfl rfl rfl rfl Ub rfl ?_
                refine Rp rfl rfl rfl rfl ?_
                refine rw_nil ?_
                (repeat refine cw_seq ?_); refine cw_region ?_
                refine rw_q rfl rfl rfl (q_add rfl rfl (fun _ => rfl) rfl (fun _ => rfl) (fun _ => by omega)) ?_
                refine Rp rfl rfl rfl rfl ?_
                refine rw_nil ?_
                refine ⟨⟨true, (n1 + 1), (p1 ++ [s1.was]), x5, x5b⟩, ⟨hlt0, (by simp only [List.length_append, List.length_cons, List.length_nil]; omega), (by rw [← hf1, drop_gt hlt0]; simp only [orangeryref_Undone_L0, hc6, hc7, cond_true, cond_false] : (orangeryref_Undone t1 s1) = (orangeryref_Undone_L0 s1 (t1.drop (n1 + 1)) true (p1 ++ [s1.was]))).symm⟩, (by simp only []; omega), Le4⟩
              · skip
                (repeat refine cw_seq ?_); refine cw_skip ?_
                (repeat refine cw_seq ?_); refine cw_region ?_
                refine rw_q rfl rfl rfl (q_add rfl rfl (fun _ => rfl) rfl (fun _ => rfl) (fun _ => by omega)) ?_
                refine Rp rfl rfl rfl rfl ?_
                refine rw_nil ?_
                refine ⟨⟨put1, (n1 + 1), p1, x1, x1b⟩, ⟨hlt0, (by simp only [List.length_append, List.length_cons, List.length_nil]; omega), (by rw [← hf1, drop_gt hlt0]; simp only [orangeryref_Undone_L0, hc6, hc7, cond_true, cond_false] : (orangeryref_Undone t1 s1) = (orangeryref_Undone_L0 s1 (t1.drop (n1 + 1)) put1 p1)).symm⟩, (by simp only []; omega), Le4⟩
          · skip
            have hge0 : t1.length ≤ n1 := by have := of_decide_eq_false hc5; omega
            (repeat refine cw_seq ?_); refine cw_exit ?_
            (repeat refine cw_seq ?_); refine cw_region ?_
            refine rw_q rfl rfl rfl (q_ldA rfl rfl (fun _ => rfl) rfl Mm rfl) ?_
            refine rw_callR (orangeryref_CheckTree_spec x1 p1) .sq (guard_none rfl) rfl rfl rfl Kr rfl rfl (.own Mm (.nil _ _)) ?_
            intro _
            refine Rp rfl rfl rfl rfl ?_
            refine rw_nil ?_
            (repeat refine cw_seq ?_); refine cw_region ?_
            refine Rp rfl rfl rfl rfl ?_
            refine Rp rfl rfl rfl rfl ?_
            refine rw_nil ?_
            (repeat refine cw_seq ?_); refine cw_cond (b := ((orangeryref_CheckTree p1) != 0)) rfl rfl (fun hc8 => ?_) (fun hc8 => ?_)
            · skip
              have hc8p := bne_iff_ne.1 hc8
              (repeat refine cw_seq ?_); refine cw_region ?_
              refine Rp rfl rfl rfl rfl ?_
              refine Rp rfl rfl rfl rfl ?_
              refine rw_stA .sq (.inl ⟨_, rfl⟩) (guard_none rfl) rfl rfl rfl rfl rfl rfl rfl rfl rfl Ub rfl ?_
              refine Rp rfl rfl rfl rfl ?_
              refine rw_nil ?_
              (repeat refine cw_seq ?_)
              refine cw_fact (F := RdL EPlace ⟨none, 0⟩ ([] : List Place)) [] (.nil _) (fun M w _ => RdL.nil _ _ _ (by omega) M w) ?_
              have hr5 : (orangeryref_Undone t1 s1) = (([] : List Place), (orangeryref_CheckTree p1)) := by rw [← hf1, List.drop_of_length_le hge0]; simp only [orangeryref_Undone_L0, hc8, cond_true, cond_false]
              refine cw_ret ?_
              rw [hr5]
              exact ⟨(⟨none, 0⟩ : SlV), _, (.cons (.agg rfl rfl Mm rfl) (.cons (.tmp rfl) .nil)), rfl, Sm, .nil _, .nil _⟩
            · skip
              have hc8p := eq_of_bne_false hc8
              (repeat refine cw_seq ?_); refine cw_skip ?_
              (repeat refine cw_seq ?_); refine cw_region ?_
              refine rw_q rfl rfl rfl (q_ldA rfl rfl (fun _ => rfl) rfl Mm rfl) ?_
              refine rw_stA .sq (.inl ⟨_, rfl⟩) (guard_none rfl) rfl rfl rfl rfl rfl rfl rfl rfl rfl Ub rfl ?_
              refine Rp rfl rfl rfl rfl ?_
              refine rw_nil ?_
              (repeat refine cw_seq ?_)
              refine cw_le (le_freezeL EPlace 35 x1 x1b p1 Uo) ?_
              have hr6 : (orangeryref_Undone t1 s1) = (p1, 0) := by rw [← hf1, List.drop_of_length_le hge0]; simp only [orangeryref_Undone_L0, hc8, cond_true, cond_false]
              refine cw_ret ?_
              rw [hr6]
              exact ⟨x1, _, (.cons (.agg rfl rfl Mm rfl) (.cons (.tmp rfl) .nil)), rfl, Sm, .nil _, .nil _⟩

def orangerylaw_MoveSays (t1 : List Place) (o1 : Op) (s1 : Step) : Bool :=
  ((((((orangerylaw_moved && ((move_Check o1) == (orangeryref_CheckOp o1))) && (((move_Do t1 o1).2.2) == ((orangeryref_Done t1 o1).2.2))) && (decide (((move_Do t1 o1).1) = ((orangeryref_Done t1 o1).1)))) && decide (((move_Do t1 o1).2.1) = ((orangeryref_Done t1 o1).2.1))) && (((move_Undo t1 s1).2) == ((orangeryref_Undone t1 s1).2))) && (decide (((move_Undo t1 s1).1) = ((orangeryref_Undone t1 s1).1))))
theorem orangerylaw_MoveSays_spec (y1 : SlV) (t1 : List Place) (o1 : Op) (s1 : Step) : Does Try.prog 5 [.agg ⟨[y1.val t1.length]⟩, .agg ⟨[.int .i64 o1.time, .int .i64 o1.who, .int .i64 o1.node, .int .i64 o1.parent, .int .i64 o1.name, .int .i64 o1.life, .int .i64 o1.seq]⟩, .agg ⟨[.int .i64 s1.o.time, .int .i64 s1.o.who, .int .i64 s1.o.node, .int .i64 s1.o.parent, .int .i64 s1.o.name, .int .i64 s1.o.life, .int .i64 s1.o.seq, .bool s1.did, .int .i64 s1.was.node, .int .i64 s1.was.parent, .int .i64 s1.was.name]⟩] [RdL EPlace y1 t1] (fun (_ : Unit) => .bool (orangerylaw_MoveSays t1 o1 s1)) (fun (_ : Unit) => []) := by
  refine does_of tab_ok Try.func5 rfl Try.ntmps5 Try.results5 rfl inferInstance (fun _ => inferInstance) fun C => ?_
  refine cw_pure (φ := t1.length * 24 ≤ 140737488355328) [RdL EPlace y1 t1] Sm (fun M w h => (allF1 h).len) fun hlen1 => ?_
  (repeat refine cw_seq ?_); refine cw_region ?_
  refine rw_box_agg .sq (guard_none rfl) rfl rfl rfl rfl rfl fun g1 => ?_
  refine rw_box_agg .sq (guard_none rfl) rfl rfl rfl rfl rfl fun g2 => ?_
  refine rw_box_agg .sq (guard_none rfl) rfl rfl rfl rfl rfl fun g3 => ?_
  refine Rp rfl rfl rfl rfl ?_
  refine rw_nil ?_
  (repeat refine cw_seq ?_); refine cw_region ?_
  refine rw_q rfl rfl rfl (q_ldA rfl rfl (fun _ => rfl) rfl Mm rfl) ?_
  refine rw_q rfl rfl rfl (q_ldA rfl rfl (fun _ => rfl) rfl Mm rfl) ?_
  refine rw_call (move_Do_spec y1 t1 o1) .sq (guard_none rfl) rfl rfl rfl Kr rfl rfl Sm ?_
  intro x1
  refine rw_pure (φ := ((move_Do t1 o1).1).length * 24 ≤ 140737488355328) [RdL EPlace x1 ((move_Do t1 o1).1)] Sm (fun M w h => (allF1 h).len) fun hlen2 => ?_
  refine Rp rfl rfl rfl rfl ?_
  refine Rp rfl rfl rfl rfl ?_
  refine Rp rfl rfl rfl rfl ?_
  refine Rp rfl rfl rfl rfl ?_
  refine rw_alloc .sq (guard_none rfl) rfl rfl rfl rfl fun g4 => ?_
  refine rw_alloc .sq (guard_none rfl) rfl rfl rfl rfl fun g5 => ?_
  refine rw_stA .sq (.inl ⟨_, rfl⟩) (guard_none rfl) rfl rfl rfl rfl rfl rfl rfl rfl rfl Ub rfl ?_
  refine rw_stA .sq (.inl ⟨_, rfl⟩) (guard_none rfl) rfl rfl rfl rfl rfl rfl rfl rfl rfl Ub rfl ?_
  refine Rp rfl rfl rfl rfl ?_
  refine rw_nil ?_
  (repeat refine cw_seq ?_); refine cw_region ?_
  refine rw_q rfl rfl rfl (q_ldA rfl rfl (fun _ => rfl) rfl Mm rfl) ?_
  refine rw_q rfl rfl rfl (q_ldA rfl rfl (fun _ => rfl) rfl Mm rfl) ?_
  refine rw_call (move_Undo_spec y1 t1 s1) .sq (guard_none rfl) rfl rfl rfl Kr rfl rfl Sm ?_
  intro x2
  refine rw_pure (φ := ((move_Undo t1 s1).1).length * 24 ≤ 140737488355328) [RdL EPlace x2 ((move_Undo t1 s1).1)] Sm (fun M w h => (allF1 h).len) fun hlen3 => ?_
  refine Rp rfl rfl rfl rfl ?_
  refine Rp rfl rfl rfl rfl ?_
  refine Rp rfl rfl rfl rfl ?_
  refine rw_alloc .sq (guard_none rfl) rfl rfl rfl rfl fun g6 => ?_
  refine rw_stA .sq (.inl ⟨_, rfl⟩) (guard_none rfl) rfl rfl rfl rfl rfl rfl rfl rfl rfl Ub rfl ?_
  refine Rp rfl rfl rfl rfl ?_
  refine rw_nil ?_
  (repeat refine cw_seq ?_); refine cw_region ?_
  refine rw_q rfl rfl rfl (q_ldA rfl rfl (fun _ => rfl) rfl Mm rfl) ?_
  refine rw_q rfl rfl rfl (q_ldA rfl rfl (fun _ => rfl) rfl Mm rfl) ?_
  refine rw_call (orangeryref_Done_spec y1 t1 o1) .sq (guard_none rfl) rfl rfl rfl Kr rfl rfl Sm ?_
  intro x3
  refine rw_pure (φ := ((orangeryref_Done t1 o1).1).length * 24 ≤ 140737488355328) [RdL EPlace x3 ((orangeryref_Done t1 o1).1)] Sm (fun M w h => (allF1 h).len) fun hlen4 => ?_
  refine Rp rfl rfl rfl rfl ?_
  refine Rp rfl rfl rfl rfl ?_
  refine Rp rfl rfl rfl rfl ?_
  refine Rp rfl rfl rfl rfl ?_
  refine rw_alloc .sq (guard_none rfl) rfl rfl rfl rfl fun g7 => ?_
  refine rw_alloc .sq (guard_none rfl) rfl rfl rfl rfl fun g8 => ?_
  refine rw_stA .sq (.inl ⟨_, rfl⟩) (guard_none rfl) rfl rfl rfl rfl rfl rfl rfl rfl rfl Ub rfl ?_
  refine rw_stA .sq (.inl ⟨_, rfl⟩) (guard_none rfl) rfl rfl rfl rfl rfl rfl rfl rfl rfl Ub rfl ?_
  refine Rp rfl rfl rfl rfl ?_
  refine rw_nil ?_
  (repeat refine cw_seq ?_); refine cw_region ?_
  refine rw_q rfl rfl rfl (q_ldA rfl rfl (fun _ => rfl) rfl Mm rfl) ?_
  refine rw_q rfl rfl rfl (q_ldA rfl rfl (fun _ => rfl) rfl Mm rfl) ?_
  refine rw_call (orangeryref_Undone_spec y1 t1 s1) .sq (guard_none rfl) rfl rfl rfl Kr rfl rfl Sm ?_
  intro x4
  refine rw_pure (φ := ((orangeryref_Undone t1 s1).1).length * 24 ≤ 140737488355328) [RdL EPlace x4 ((orangeryref_Undone t1 s1).1)] Sm (fun M w h => (allF1 h).len) fun hlen5 => ?_
  refine Rp rfl rfl rfl rfl ?_
  refine Rp rfl rfl rfl rfl ?_
  refine Rp rfl rfl rfl rfl ?_
  refine rw_alloc .sq (guard_none rfl) rfl rfl rfl rfl fun g9 => ?_
  refine rw_stA .sq (.inl ⟨_, rfl⟩) (guard_none rfl) rfl rfl rfl rfl rfl rfl rfl rfl rfl Ub rfl ?_
  refine Rp rfl rfl rfl rfl ?_
  refine rw_nil ?_
  (repeat refine cw_seq ?_); refine cw_regionA (fun _ => some []) ?_
  refine ra_one 0 Kr ?_
  refine rw_call (orangerylaw_moved_spec ) (.an rfl rfl) (guard_none rfl) rfl rfl rfl Kr rfl rfl Sm ?_
  intro _
  refine ra_q (.ab (i := 1) (js := []) [2, 3, 4, 5, 6, 7, 8, 9, 10, 11, 12, 13, 14, 15, 16, 17, 18, 19, 20, 21, 22, 23, 24, 25, 26, 27, 28, 29, 30, 31, 32, 33, 34, 35, 36, 37] rfl Kr Kr Kr Kr Kr) (SplitB.all _) (by simp) rfl rfl rfl (q_pev rfl (fun _ => rfl)) ?_
  refine ra_qg (.ab (i := 2) (js := [4]) [3, 5, 6, 7, 8, 9, 10, 11, 12, 13, 14, 15, 16, 17, 18, 19, 20, 21, 22, 23, 24, 25, 26, 27, 28, 29, 30, 31, 32, 33, 34, 35, 36, 37] rfl Kr Kr Kr Kr Kr) (SplitB.all _) (by simp) (guard_vt rfl rfl rfl) rfl rfl (q_ldA rfl rfl Bt rfl Mm rfl) ?_
  refine ra_qg (.ab (i := 4) (js := [3]) [5, 6, 7, 8, 9, 10, 11, 12, 13, 14, 15, 16, 17, 18, 19, 20, 21, 22, 23, 24, 25, 26, 27, 28, 29, 30, 31, 32, 33, 34, 35, 36, 37] rfl Kr Kr Kr Kr Kr) (SplitB.all _) (by simp) (guard_vt rfl rfl rfl) rfl rfl (q_ldA rfl rfl Bt rfl Mm rfl) ?_
  refine ra_one 3 Kr ?_
  refine rw_callg (fun hG_ => move_Check_spec o1) (fun _ => rfl) (.an rfl rfl) (guard_vt rfl rfl rfl) rfl rfl rfl Kr rfl Bt Sm ?_
  refine ra_one 5 Kr ?_
  refine rw_callg (fun hG_ => orangeryref_CheckOp_spec o1) (fun _ => rfl) (.an rfl rfl) (guard_vt rfl rfl rfl) rfl rfl rfl Kr rfl Bt Sm ?_
  refine ra_qg (.ab (i := 6) (js := []) [7, 8, 9, 10, 11, 12, 13, 14, 15, 16, 17, 18, 19, 20, 21, 22, 23, 24, 25, 26, 27, 28, 29, 30, 31, 32, 33, 34, 35, 36, 37] rfl Kr Kr Kr Kr Kr) (SplitB.all _) (by simp) (guard_vt rfl rfl rfl) rfl rfl (q_pev rfl Bt) ?_
  refine ra_q (.ab (i := 7) (js := []) [8, 9, 10, 11, 12, 13, 14, 15, 16, 17, 18, 19, 20, 21, 22, 23, 24, 25, 26, 27, 28, 29, 30, 31, 32, 33, 34, 35, 36, 37] rfl Kr Kr Kr Kr Kr) (SplitB.all _) (by simp) rfl rfl rfl (q_pev rfl Bt) ?_
  refine ra_q (.ab (i := 8) (js := []) [9, 10, 11, 12, 13, 14, 15, 16, 17, 18, 19, 20, 21, 22, 23, 24, 25, 26, 27, 28, 29, 30, 31, 32, 33, 34, 35, 36, 37] rfl Kr Kr Kr Kr Kr) (SplitB.all _) (by simp) rfl rfl rfl (q_pev rfl (fun _ => rfl)) ?_
  refine ra_qg (.ab (i := 9) (js := [10]) [11, 12, 13, 14, 15, 16, 17, 18, 19, 20, 21, 22, 23, 24, 25, 26, 27, 28, 29, 30, 31, 32, 33, 34, 35, 36, 37] rfl Kr Kr Kr Kr Kr) (SplitB.all _) (by simp) (guard_vt rfl rfl rfl) rfl rfl (q_pev rfl Bt) ?_
  refine ra_qg (.ab (i := 10) (js := []) [11, 12, 13, 14, 15, 16, 17, 18, 19, 20, 21, 22, 23, 24, 25, 26, 27, 28, 29, 30, 31, 32, 33, 34, 35, 36, 37] rfl Kr Kr Kr Kr Kr) (SplitB.all _) (by simp) (guard_vt rfl rfl rfl) rfl rfl (q_pev rfl Bt) ?_
  refine ra_qg (.ab (i := 11) (js := []) [12, 13, 14, 15, 16, 17, 18, 19, 20, 21, 22, 23, 24, 25, 26, 27, 28, 29, 30, 31, 32, 33, 34, 35, 36, 37] rfl Kr Kr Kr Kr Kr) (SplitB.all _) (by simp) (guard_vt rfl rfl rfl) rfl rfl (q_pev rfl Bt) ?_
  refine ra_q (.ab (i := 12) (js := []) [13, 14, 15, 16, 17, 18, 19, 20, 21, 22, 23, 24, 25, 26, 27, 28, 29, 30, 31, 32, 33, 34, 35, 36, 37] rfl Kr Kr Kr Kr Kr) (SplitB.all _) (by simp) rfl rfl rfl (q_pev rfl Bt) ?_
  refine ra_q (.ab (i := 13) (js := []) [14, 15, 16, 17, 18, 19, 20, 21, 22, 23, 24, 25, 26, 27, 28, 29, 30, 31, 32, 33, 34, 35, 36, 37] rfl Kr Kr Kr Kr Kr) (SplitB.all _) (by simp) rfl rfl rfl (q_pev rfl (fun _ => rfl)) ?_
  refine ra_qg (.ab (i := 14) (js := [16, 17]) [15, 18, 19, 20, 21, 22, 23, 24, 25, 26, 27, 28, 29, 30, 31, 32, 33, 34, 35, 36, 37] rfl Kr Kr Kr Kr Kr) (SplitB.all _) (by simp) (guard_vt rfl rfl rfl) rfl rfl (q_pev rfl Bt) ?_
  refine ra_qg (.ab (i := 15) (js := [16, 17]) [18, 19, 20, 21, 22, 23, 24, 25, 26, 27, 28, 29, 30, 31, 32, 33, 34, 35, 36, 37] rfl Kr Kr Kr Kr Kr) (SplitB.all _) (by simp) (guard_vt rfl rfl rfl) rfl rfl (q_ld1 rfl rfl Bt rfl Mm rfl) ?_
  refine ra_qg (.ab (i := 16) (js := []) [17, 18, 19, 20, 21, 22, 23, 24, 25, 26, 27, 28, 29, 30, 31, 32, 33, 34, 35, 36, 37] rfl Kr Kr Kr Kr Kr) (SplitB.all _) (by simp) (guard_vt rfl rfl rfl) rfl rfl (q_pev rfl Bt) ?_
  refine ra_qg (.ab (i := 17) (js := []) [18, 19, 20, 21, 22, 23, 24, 25, 26, 27, 28, 29, 30, 31, 32, 33, 34, 35, 36, 37] rfl Kr Kr Kr Kr Kr) (SplitB.all _) (by simp) (guard_vt rfl rfl rfl) rfl rfl (q_ld1 rfl rfl Bt rfl Mm rfl) ?_
  refine ra_one 18 Kr ?_
  refine rw_callg (fun hG_ => (fun y1 a y2 b => slices_Equal_Place_spec' y1 y2 a b) x1 ((move_Do t1 o1).1) x3 ((orangeryref_Done t1 o1).1)) (fun _ => rfl) (.an rfl rfl) (guard_vt rfl rfl rfl) rfl rfl rfl Kr rfl Bt Sm ?_
  refine ra_q (.ab (i := 19) (js := []) [20, 21, 22, 23, 24, 25, 26, 27, 28, 29, 30, 31, 32, 33, 34, 35, 36, 37] rfl Kr Kr Kr Kr Kr) (SplitB.all _) (by simp) rfl rfl rfl (q_pev rfl Bt) ?_
  refine ra_q (.ab (i := 20) (js := []) [21, 22, 23, 24, 25, 26, 27, 28, 29, 30, 31, 32, 33, 34, 35, 36, 37] rfl Kr Kr Kr Kr Kr) (SplitB.all _) (by simp) rfl rfl rfl (q_pev rfl (fun _ => rfl)) ?_
  refine ra_qg (.ab (i := 21) (js := [22]) [23, 24, 25, 26, 27, 28, 29, 30, 31, 32, 33, 34, 35, 36, 37] rfl Kr Kr Kr Kr Kr) (SplitB.all _) (by simp) (guard_vt rfl rfl rfl) rfl rfl (q_ldA rfl rfl Bt rfl Mm rfl) ?_
  refine ra_qg (.ab (i := 22) (js := []) [23, 24, 25, 26, 27, 28, 29, 30, 31, 32, 33, 34, 35, 36, 37] rfl Kr Kr Kr Kr Kr) (SplitB.all _) (by simp) (guard_vt rfl rfl rfl) rfl rfl (q_ldA rfl rfl Bt rfl Mm rfl) ?_
  refine ra_qg (.ab (i := 23) (js := []) [24, 25, 26, 27, 28, 29, 30, 31, 32, 33, 34, 35, 36, 37] rfl Kr Kr Kr Kr Kr) (SplitB.all _) (by simp) (guard_vt rfl rfl rfl) rfl rfl (q_eqE eqT_Step (flatEq_Step ((move_Do t1 o1).2.1) ((orangeryref_Done t1 o1).2.1)) rfl rfl Bt rfl Bt rfl rfl) ?_
  refine ra_q (.ab (i := 24) (js := []) [25, 26, 27, 28, 29, 30, 31, 32, 33, 34, 35, 36, 37] rfl Kr Kr Kr Kr Kr) (SplitB.all _) (by simp) rfl rfl rfl (q_pev rfl Bt) ?_
  refine ra_q (.ab (i := 25) (js := []) [26, 27, 28, 29, 30, 31, 32, 33, 34, 35, 36, 37] rfl Kr Kr Kr Kr Kr) (SplitB.all _) (by simp) rfl rfl rfl (q_pev rfl (fun _ => rfl)) ?_
  refine ra_qg (.ab (i := 26) (js := [27]) [28, 29, 30, 31, 32, 33, 34, 35, 36, 37] rfl Kr Kr Kr Kr Kr) (SplitB.all _) (by simp) (guard_vt rfl rfl rfl) rfl rfl (q_pev rfl Bt) ?_
  refine ra_qg (.ab (i := 27) (js := []) [28, 29, 30, 31, 32, 33, 34, 35, 36, 37] rfl Kr Kr Kr Kr Kr) (SplitB.all _) (by simp) (guard_vt rfl rfl rfl) rfl rfl (q_pev rfl Bt) ?_
  refine ra_qg (.ab (i := 28) (js := []) [29, 30, 31, 32, 33, 34, 35, 36, 37] rfl Kr Kr Kr Kr Kr) (SplitB.all _) (by simp) (guard_vt rfl rfl rfl) rfl rfl (q_pev rfl Bt) ?_
  refine ra_q (.ab (i := 29) (js := []) [30, 31, 32, 33, 34, 35, 36, 37] rfl Kr Kr Kr Kr Kr) (SplitB.all _) (by simp) rfl rfl rfl (q_pev rfl Bt) ?_
  refine ra_q (.an (i := 30) (js := []) rfl Kr Kr Kr Kr) (SplitB.all _) (by simp) rfl rfl rfl (q_pev rfl (fun _ => rfl)) ?_
  refine ra_qg (.ab (i := 31) (js := [33, 34]) [32, 35, 36, 37] rfl Kr Kr Kr Kr Kr) (SplitB.all _) (by simp) (guard_vt rfl rfl rfl) rfl rfl (q_pev rfl Bt) ?_
  refine ra_qg (.ab (i := 32) (js := [33, 34]) [35, 36, 37] rfl Kr Kr Kr Kr Kr) (SplitB.all _) (by simp) (guard_vt rfl rfl rfl) rfl rfl (q_ld1 rfl rfl Bt rfl Mm rfl) ?_
  refine ra_qg (.ab (i := 33) (js := []) [34, 35, 36, 37] rfl Kr Kr Kr Kr Kr) (SplitB.all _) (by simp) (guard_vt rfl rfl rfl) rfl rfl (q_pev rfl Bt) ?_
  refine ra_qg (.ab (i := 34) (js := []) [35, 36, 37] rfl Kr Kr Kr Kr Kr) (SplitB.all _) (by simp) (guard_vt rfl rfl rfl) rfl rfl (q_ld1 rfl rfl Bt rfl Mm rfl) ?_
  refine ra_one 35 Kr ?_
  refine rw_callg (fun hG_ => (fun y1 a y2 b => slices_Equal_Place_spec' y1 y2 a b) x2 ((move_Undo t1 s1).1) x4 ((orangeryref_Undone t1 s1).1)) (fun _ => rfl) (.an rfl rfl) (guard_vt rfl rfl rfl) rfl rfl rfl Kr rfl Bt Sm ?_
  refine ra_q (.an (i := 36) (js := []) rfl Kr Kr Kr Kr) (SplitB.all _) (by simp) rfl rfl rfl (q_pev rfl Bt) ?_
  refine ra_q (.an (i := 37) (js := []) rfl Kr Kr Kr Kr) (SplitB.all _) (by simp) rfl rfl rfl (q_pev rfl (fun _ => rfl)) ?_
  refine ra_nil Kr ?_
  (repeat refine cw_seq ?_)
  have hr1 : (orangerylaw_MoveSays t1 o1 s1) = ((((((orangerylaw_moved && ((move_Check o1) == (orangeryref_CheckOp o1))) && (((move_Do t1 o1).2.2) == ((orangeryref_Done t1 o1).2.2))) && (decide (((move_Do t1 o1).1) = ((orangeryref_Done t1 o1).1)))) && decide (((move_Do t1 o1).2.1) = ((orangeryref_Done t1 o1).2.1))) && (((move_Undo t1 s1).2) == ((orangeryref_Undone t1 s1).2))) && (decide (((move_Undo t1 s1).1) = ((orangeryref_Undone t1 s1).1)))) := by simp only [orangerylaw_MoveSays, cond_true, cond_false]
  refine cw_ret ?_
  rw [hr1]
  exact ⟨(), _, (.cons (.tmp rfl) .nil), rfl, Sm, .nil _, .nil _⟩
end Go.Proofs.Ytchdacbjiomplaa
