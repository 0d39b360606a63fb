/- Part of this claim. No condition. -/
import Derived.Test.YtchdacbjiomplaaW35
import Derived.Test.YtchdacbjiomplaaLCliC
import Derived.Test.YtchdacbjiomplaaW19
import Derived.Test.YtchdacbjiomplaaFx
set_option linter.unusedVariables false
set_option linter.unusedSimpArgs false
namespace Go.Proofs.Ytchdacbjiomplaa
open Go Go.Proofs.Ytchdacbjiomplaa.Fw Go.Proofs
attribute [local irreducible] RdL RdN VarP
def orangeryref_Moved (c1 : Client) (me1 : Int) (node1 : Int) (parent1 : Int) (name1 : Int) : Client × Op × Int :=
  (bif ((orangeryref_CheckClient c1 me1) != 0) then ((⟨0, 0, 0, ([] : List Op), 0, (⟨([] : List Int), ([] : List Place), ([] : List Place)⟩ : View)⟩ : Client), (⟨0, 0, 0, 0, 0, 0, 0⟩ : Op), (orangeryref_CheckClient c1 me1)) else (bif (c1.life == 0) then ((⟨0, 0, 0, ([] : List Op), 0, (⟨([] : List Int), ([] : List Place), ([] : List Place)⟩ : View)⟩ : Client), (⟨0, 0, 0, 0, 0, 0, 0⟩ : Op), 7) else (bif ((((c1.pending.length : Int) == 8) || (c1.time == 10000)) || (c1.seq == 30)) then ((⟨0, 0, 0, ([] : List Op), 0, (⟨([] : List Int), ([] : List Place), ([] : List Place)⟩ : View)⟩ : Client), (⟨0, 0, 0, 0, 0, 0, 0⟩ : Op), 2) else (bif ((orangeryref_CheckOp (⟨(c1.time + 1), me1, node1, parent1, name1, c1.life, (c1.seq + 1)⟩ : Op)) != 0) then ((⟨0, 0, 0, ([] : List Op), 0, (⟨([] : List Int), ([] : List Place), ([] : List Place)⟩ : View)⟩ : Client), (⟨0, 0, 0, 0, 0, 0, 0⟩ : Op), (orangeryref_CheckOp (⟨(c1.time + 1), me1, node1, parent1, name1, c1.life, (c1.seq + 1)⟩ : Op))) else ((⟨c1.life, (c1.time + 1), (c1.seq + 1), ((([] : List Op) ++ c1.pending) ++ [(⟨(c1.time + 1), me1, node1, parent1, name1, c1.life, (c1.seq + 1)⟩ : Op)]), c1.version, c1.v⟩ : Client), (⟨(c1.time + 1), me1, node1, parent1, name1, c1.life, (c1.seq + 1)⟩ : Op), 0)))))
theorem orangeryref_Moved_spec (y1 : SlV) (y2 : SlV) (y3 : SlV) (y4 : SlV) (c1 : Client) (me1 : Int) (node1 : Int) (parent1 : Int) (name1 : Int) : Does Try.prog 96 [.agg ⟨[.int .i64 c1.life, .int .i64 c1.time, .int .i64 c1.seq, y1.val c1.pending.length, .int .i64 c1.version, y2.val c1.v.roots.length, y3.val c1.v.known.length, y4.val c1.v.way.length]⟩, .int .i64 me1, .int .i64 node1, .int .i64 parent1, .int .i64 name1] [RdL EOp y1 c1.pending, RdL EInt y2 c1.v.roots, RdL EPlace y3 c1.v.known, RdL EPlace y4 c1.v.way] (fun (X : SlV × SlV × SlV × SlV) => .tuple #[.agg ⟨[.int .i64 (((orangeryref_Moved c1 me1 node1 parent1 name1).1).life), .int .i64 (((orangeryref_Moved c1 me1 node1 parent1 name1).1).time), .int .i64 (((orangeryref_Moved c1 me1 node1 parent1 name1).1).seq), X.1.val (((orangeryref_Moved c1 me1 node1 parent1 name1).1).pending).length, .int .i64 (((orangeryref_Moved c1 me1 node1 parent1 name1).1).version), X.2.1.val ((((orangeryref_Moved c1 me1 node1 parent1 name1).1).v).roots).length, X.2.2.1.val ((((orangeryref_Moved c1 me1 node1 parent1 name1).1).v).known).length, X.2.2.2.val ((((orangeryref_Moved c1 me1 node1 parent1 name1).1).v).way).length]⟩, .agg ⟨[.int .i64 (((orangeryref_Moved c1 me1 node1 parent1 name1).2.1).time), .int .i64 (((orangeryref_Moved c1 me1 node1 parent1 name1).2.1).who), .int .i64 (((orangeryref_Moved c1 me1 node1 parent1 name1).2.1).node), .int .i64 (((orangeryref_Moved c1 me1 node1 parent1 name1).2.1).parent), .int .i64 (((orangeryref_Moved c1 me1 node1 parent1 name1).2.1).name), .int .i64 (((orangeryref_Moved c1 me1 node1 parent1 name1).2.1).life), .int .i64 (((orangeryref_Moved c1 me1 node1 parent1 name1).2.1).seq)]⟩, .int .i64 ((orangeryref_Moved c1 me1 node1 parent1 name1).2.2)]) (fun (X : SlV × SlV × SlV × SlV) => [RdL EOp X.1 (((orangeryref_Moved c1 me1 node1 parent1 name1).1).pending), RdL EInt X.2.1 ((((orangeryref_Moved c1 me1 node1 parent1 name1).1).v).roots), RdL EPlace X.2.2.1 ((((orangeryref_Moved c1 me1 node1 parent1 name1).1).v).known), RdL EPlace X.2.2.2 ((((orangeryref_Moved c1 me1 node1 parent1 name1).1).v).way)]) := by
  refine does_of tab_ok Try.func96 rfl Try.ntmps96 Try.results96 rfl inferInstance (fun _ => inferInstance) fun C => ?_
  refine cw_pure (φ := c1.pending.length * 56 ≤ 140737488355328) [RdL EOp y1 c1.pending] Sm (fun M w h => (allF1 h).len) fun hlen1 => ?_
  refine cw_pure (φ := c1.v.roots.length * 8 ≤ 140737488355328) [RdL EInt y2 c1.v.roots] Sm (fun M w h => (allF1 h).len) fun hlen2 => ?_
  refine cw_pure (φ := c1.v.known.length * 24 ≤ 140737488355328) [RdL EPlace y3 c1.v.known] Sm (fun M w h => (allF1 h).len) fun hlen3 => ?_
  refine cw_pure (φ := c1.v.way.length * 24 ≤ 140737488355328) [RdL EPlace y4 c1.v.way] Sm (fun M w h => (allF1 h).len) fun hlen4 => ?_
  (repeat refine cw_seq ?_); refine cw_region ?_
  refine rw_box_agg .sq (guard_none rfl) rfl rfl rfl rfl rfl fun g1 => ?_
  refine rw_alloc .sq (guard_none rfl) rfl rfl rfl rfl fun g2 => ?_
  refine rw_alloc .sq (guard_none rfl) rfl rfl rfl rfl fun g3 => ?_
  refine Rp rfl rfl rfl rfl ?_
  refine rw_nil ?_
  (repeat refine cw_seq ?_); refine cw_region ?_
  refine rw_q rfl rfl rfl (q_ldA rfl rfl (fun _ => rfl) rfl Mm rfl) ?_
  refine Rp rfl rfl rfl rfl ?_
  refine rw_call (orangeryref_CheckClient_spec y1 y2 y3 y4 c1 me1) .sq (guard_none rfl) rfl rfl rfl Kr rfl rfl Sm ?_
  intro _
  refine Rp rfl rfl rfl rfl ?_
  refine rw_nil ?_
  (repeat refine cw_seq ?_); refine cw_block ?_
  (repeat refine cw_seq ?_); refine cw_region ?_
  refine Rp rfl rfl rfl rfl ?_
  refine Rp rfl rfl rfl rfl ?_
  refine Rp rfl rfl rfl rfl ?_
  refine rw_nil ?_
  (repeat refine cw_seq ?_); refine cw_cond (b := ((orangeryref_CheckClient c1 me1) != 0)) rfl rfl (fun hc1 => ?_) (fun hc1 => ?_)
  · skip
    have hc1p := bne_iff_ne.1 hc1
    (repeat refine cw_seq ?_); refine cw_skip ?_
    (repeat refine cw_seq ?_); refine cw_region ?_
    refine Rp rfl rfl rfl rfl ?_
    refine Rp rfl rfl rfl rfl ?_
    refine rw_nil ?_
    (repeat refine cw_seq ?_); refine cw_cond (b := ((orangeryref_CheckClient c1 me1) != 0)) rfl rfl (fun hc2 => ?_) (fun hc2 => ?_)
    · skip
      (repeat refine cw_seq ?_); refine cw_region ?_
      refine Rp rfl rfl rfl rfl ?_
      refine Rp rfl rfl rfl rfl ?_
      refine Rp rfl rfl rfl rfl ?_
      refine rw_stA .sq (.inl ⟨_, rfl⟩) (guard_none rfl) rfl rfl rfl rfl rfl rfl rfl rfl rfl Ub rfl ?_
      refine rw_stA .sq (.inl ⟨_, rfl⟩) (guard_none rfl) rfl rfl rfl rfl rfl rfl rfl rfl rfl Ub rfl ?_
      refine Rp rfl rfl rfl rfl ?_
      refine rw_nil ?_
      (repeat refine cw_seq ?_)
      refine cw_fact (F := RdL EOp ⟨none, 0⟩ ([] : List Op)) [] (.nil _) (fun M w _ => RdL.nil _ _ _ (by omega) M w) ?_
      refine cw_fact (F := RdL EInt ⟨none, 0⟩ ([] : List Int)) [] (.nil _) (fun M w _ => RdL.nil _ _ _ (by omega) M w) ?_
      refine cw_fact (F := RdL EPlace ⟨none, 0⟩ ([] : List Place)) [] (.nil _) (fun M w _ => RdL.nil _ _ _ (by omega) M w) ?_
      have hr1 : (orangeryref_Moved c1 me1 node1 parent1 name1) = ((⟨0, 0, 0, ([] : List Op), 0, (⟨([] : List Int), ([] : List Place), ([] : List Place)⟩ : View)⟩ : Client), (⟨0, 0, 0, 0, 0, 0, 0⟩ : Op), (orangeryref_CheckClient c1 me1)) := by simp only [orangeryref_Moved, hc1, cond_true, cond_false]
      refine cw_ret ?_
      rw [hr1]
      exact ⟨⟨(⟨none, 0⟩ : SlV), (⟨none, 0⟩ : SlV), (⟨none, 0⟩ : SlV), (⟨none, 0⟩ : SlV)⟩, _, (.cons (.agg rfl rfl Mm rfl) (.cons (.agg rfl rfl Mm rfl) (.cons (.tmp rfl) .nil))), rfl, Sm, .nil _, .nil _⟩
    · skip
      exact Bool.noConfusion (hc2.symm.trans hc1)
  · skip
    have hc1p := eq_of_bne_false hc1
    have hck := client_Check_ok ((CheckClient_eq c1 me1).symm.trans (eq_of_bne_false hc1))
    (repeat refine cw_seq ?_); refine cw_region ?_
    refine Rp rfl rfl rfl rfl ?_
    refine rw_q rfl rfl rfl (q_ld1 rfl rfl (fun _ => rfl) rfl Mm rfl) ?_
    refine Rp rfl rfl rfl rfl ?_
    refine Rp rfl rfl rfl rfl ?_
    refine rw_nil ?_
    (repeat refine cw_seq ?_); refine cw_cond (b := (c1.life == 0)) rfl rfl (fun hc3 => ?_) (fun hc3 => ?_)
    · skip
      have hc3p := eq_of_beq hc3
      (repeat refine cw_seq ?_); refine cw_region ?_
      refine Rp rfl rfl rfl rfl ?_
      refine rw_nil ?_
      (repeat refine cw_seq ?_); refine cw_region ?_
      refine Rp rfl rfl rfl rfl ?_
      refine Rp rfl rfl rfl rfl ?_
      refine rw_nil ?_
      (repeat refine cw_seq ?_); refine cw_cond (b := ((7 : Int) != 0)) rfl rfl (fun hc4 => ?_) (fun hc4 => ?_)
      · skip
        (repeat refine cw_seq ?_); refine cw_region ?_
        refine Rp rfl rfl rfl rfl ?_
        refine Rp rfl rfl rfl rfl ?_
        refine Rp rfl rfl rfl rfl ?_
        refine rw_stA .sq (.inl ⟨_, rfl⟩) (guard_none rfl) rfl rfl rfl rfl rfl rfl rfl rfl rfl Ub rfl ?_
        refine rw_stA .sq (.inl ⟨_, rfl⟩) (guard_none rfl) rfl rfl rfl rfl rfl rfl rfl rfl rfl Ub rfl ?_
        refine Rp rfl rfl rfl rfl ?_
        refine rw_nil ?_
        (repeat refine cw_seq ?_)
        refine cw_fact (F := RdL EOp ⟨none, 0⟩ ([] : List Op)) [] (.nil _) (fun M w _ => RdL.nil _ _ _ (by omega) M w) ?_
        refine cw_fact (F := RdL EInt ⟨none, 0⟩ ([] : List Int)) [] (.nil _) (fun M w _ => RdL.nil _ _ _ (by omega) M w) ?_
        refine cw_fact (F := RdL EPlace ⟨none, 0⟩ ([] : List Place)) [] (.nil _) (fun M w _ => RdL.nil _ _ _ (by omega) M w) ?_
        have hr2 : (orangeryref_Moved c1 me1 node1 parent1 name1) = ((⟨0, 0, 0, ([] : List Op), 0, (⟨([] : List Int), ([] : List Place), ([] : List Place)⟩ : View)⟩ : Client), (⟨0, 0, 0, 0, 0, 0, 0⟩ : Op), 7) := by simp only [orangeryref_Moved, hc1, hc3, cond_true, cond_false]
        refine cw_ret ?_
        rw [hr2]
        exact ⟨⟨(⟨none, 0⟩ : SlV), (⟨none, 0⟩ : SlV), (⟨none, 0⟩ : SlV), (⟨none, 0⟩ : SlV)⟩, _, (.cons (.agg rfl rfl Mm rfl) (.cons (.agg rfl rfl Mm rfl) (.cons (.tmp rfl) .nil))), rfl, Sm, .nil _, .nil _⟩
      · skip
        exact Bool.noConfusion (hc4.symm.trans (show ((7 : Int) != 0) = true by decide))
    · skip
      have hc3p := ne_of_beq_false hc3
      (repeat refine cw_seq ?_); refine cw_region ?_
      refine Rp rfl rfl rfl rfl ?_
      refine rw_q rfl rfl rfl (q_ld1 rfl rfl (fun _ => rfl) rfl Mm rfl) ?_
      refine Rp rfl rfl rfl rfl ?_
      refine Rp rfl rfl rfl rfl ?_
      refine Rp rfl rfl rfl rfl ?_
      refine rw_qg (guard_vf rfl rfl rfl) rfl rfl (q_pev rfl Bt) ?_
      refine rw_qg (guard_vf rfl rfl rfl) rfl rfl (q_ld1 rfl rfl Bt rfl Mm rfl) ?_
      refine rw_qg (guard_vf rfl rfl rfl) rfl rfl (q_pev rfl Bt) ?_
      refine rw_q rfl rfl rfl (q_pev rfl Bt) ?_
      refine Rp rfl rfl rfl rfl ?_
      refine rw_qg (guard_vf rfl rfl rfl) rfl rfl (q_pev rfl Bt) ?_
      refine rw_qg (guard_vf rfl rfl rfl) rfl rfl (q_ld1 rfl rfl Bt rfl Mm rfl) ?_
      refine rw_qg (guard_vf rfl rfl rfl) rfl rfl (q_pev rfl Bt) ?_
      refine rw_q rfl rfl rfl (q_pev rfl Bt) ?_
      refine Rp rfl rfl rfl rfl ?_
      refine rw_nil ?_
      (repeat refine cw_seq ?_); refine cw_cond (b := ((((c1.pending.length : Int) == 8) || (c1.time == 10000)) || (c1.seq == 30))) rfl rfl (fun hc5 => ?_) (fun hc5 => ?_)
      · skip
        (repeat refine cw_seq ?_); refine cw_region ?_
        refine Rp rfl rfl rfl rfl ?_
        refine rw_nil ?_
        (repeat refine cw_seq ?_); refine cw_region ?_
        refine Rp rfl rfl rfl rfl ?_
        refine Rp rfl rfl rfl rfl ?_
        refine rw_nil ?_
        (repeat refine cw_seq ?_); refine cw_cond (b := ((2 : Int) != 0)) rfl rfl (fun hc6 => ?_) (fun hc6 => ?_)
        · skip
          (repeat refine cw_seq ?_); refine cw_region ?_
          refine Rp rfl rfl rfl rfl ?_
          refine Rp rfl rfl rfl rfl ?_
          refine Rp rfl rfl rfl rfl ?_
          refine rw_stA .sq (.inl ⟨_, rfl⟩) (guard_none rfl) rfl rfl rfl rfl rfl rfl rfl rfl rfl Ub rfl ?_
          refine rw_stA .sq (.inl ⟨_, rfl⟩) (guard_none rfl) rfl rfl rfl rfl rfl rfl rfl rfl rfl Ub rfl ?_
          refine Rp rfl rfl rfl rfl ?_
          refine rw_nil ?_
          (repeat refine cw_seq ?_)
          refine cw_fact (F := RdL EOp ⟨none, 0⟩ ([] : List Op)) [] (.nil _) (fun M w _ => RdL.nil _ _ _ (by omega) M w) ?_
          refine cw_fact (F := RdL EInt ⟨none, 0⟩ ([] : List Int)) [] (.nil _) (fun M w _ => RdL.nil _ _ _ (by omega) M w) ?_
          refine cw_fact (F := RdL EPlace ⟨none, 0⟩ ([] : List Place)) [] (.nil _) (fun M w _ => RdL.nil _ _ _ (by omega) M w) ?_
          have hr3 : (orangeryref_Moved c1 me1 node1 parent1 name1) = ((⟨0, 0, 0, ([] : List Op), 0, (⟨([] : List Int), ([] : List Place), ([] : List Place)⟩ : View)⟩ : Client), (⟨0, 0, 0, 0, 0, 0, 0⟩ : Op), 2) := by simp only [orangeryref_Moved, hc1, hc3, hc5, cond_true, cond_false]
          refine cw_ret ?_
          rw [hr3]
          exact ⟨⟨(⟨none, 0⟩ : SlV), (⟨none, 0⟩ : SlV), (⟨none, 0⟩ : SlV), (⟨none, 0⟩ : SlV)⟩, _, (.cons (.agg rfl rfl Mm rfl) (.cons (.agg rfl rfl Mm rfl) (.cons (.tmp rfl) .nil))), rfl, Sm, .nil _, .nil _⟩
        · skip
          exact Bool.noConfusion (hc6.symm.trans (show ((2 : Int) != 0) = true by decide))
      · skip
        (repeat refine cw_seq ?_); refine cw_skip ?_
        (repeat refine cw_seq ?_); refine cw_region ?_
        refine Rp rfl rfl rfl rfl ?_
        refine Rp rfl rfl rfl rfl ?_
        refine rw_nil ?_
        (repeat refine cw_seq ?_); refine cw_cond (b := ((orangeryref_CheckClient c1 me1) != 0)) rfl rfl (fun hc7 => ?_) (fun hc7 => ?_)
        · skip
          exact Bool.noConfusion (hc7.symm.trans hc1)
        · skip
          (repeat refine cw_seq ?_); refine cw_skip ?_
          (repeat refine cw_seq ?_); refine cw_region ?_
          refine Rp rfl rfl rfl rfl ?_
          refine rw_q rfl rfl rfl (q_ld1 rfl rfl (fun _ => rfl) rfl Mm rfl) ?_
          refine rw_q rfl rfl rfl (q_add rfl rfl (fun _ => rfl) rfl (fun _ => rfl) (fun _ => by omega)) ?_
          refine Rp rfl rfl rfl rfl ?_
          refine Rp rfl rfl rfl rfl ?_
          refine Rp rfl rfl rfl rfl ?_
          refine Rp rfl rfl rfl rfl ?_
          refine Rp rfl rfl rfl rfl ?_
          refine Rp rfl rfl rfl rfl ?_
          refine rw_q rfl rfl rfl (q_ld1 rfl rfl (fun _ => rfl) rfl Mm rfl) ?_
          refine Rp rfl rfl rfl rfl ?_
          refine rw_q rfl rfl rfl (q_ld1 rfl rfl (fun _ => rfl) rfl Mm rfl) ?_
          refine rw_q rfl rfl rfl (q_add rfl rfl (fun _ => rfl) rfl (fun _ => rfl) (fun _ => by omega)) ?_
          refine Rp rfl rfl rfl rfl ?_
          refine rw_alloc .sq (guard_none rfl) rfl rfl rfl rfl fun g4 => ?_
          refine rw_stA .sq (.inl ⟨_, rfl⟩) (guard_none rfl) rfl rfl rfl rfl rfl rfl rfl rfl rfl Ub rfl ?_
          refine rw_nil ?_
          (repeat refine cw_seq ?_); refine cw_region ?_
          refine rw_q rfl rfl rfl (q_ldA rfl rfl (fun _ => rfl) rfl Mm rfl) ?_
          refine rw_call (orangeryref_CheckOp_spec (⟨(c1.time + 1), me1, node1, parent1, name1, c1.life, (c1.seq + 1)⟩ : Op)) .sq (guard_none rfl) rfl rfl rfl Kr rfl rfl Sm ?_
          intro _
          refine Rp rfl rfl rfl rfl ?_
          refine rw_nil ?_
          (repeat refine cw_seq ?_); refine cw_region ?_
          refine Rp rfl rfl rfl rfl ?_
          refine Rp rfl rfl rfl rfl ?_
          refine rw_nil ?_
          (repeat refine cw_seq ?_); refine cw_cond (b := ((orangeryref_CheckOp (⟨(c1.time + 1), me1, node1, parent1, name1, c1.life, (c1.seq + 1)⟩ : Op)) != 0)) rfl rfl (fun hc8 => ?_) (fun hc8 => ?_)
          · skip
            have hc8p := bne_iff_ne.1 hc8
            (repeat refine cw_seq ?_); refine cw_region ?_
            refine Rp rfl rfl rfl rfl ?_
            refine Rp rfl rfl rfl rfl ?_
            refine Rp rfl rfl rfl rfl ?_
            refine rw_stA .sq (.inl ⟨_, rfl⟩) (guard_none rfl) rfl rfl rfl rfl rfl rfl rfl rfl rfl Ub rfl ?_
            refine rw_stA .sq (.inl ⟨_, rfl⟩) (guard_none rfl) rfl rfl rfl rfl rfl rfl rfl rfl rfl Ub rfl ?_
            refine Rp rfl rfl rfl rfl ?_
            refine rw_nil ?_
            (repeat refine cw_seq ?_)
            refine cw_fact (F := RdL EOp ⟨none, 0⟩ ([] : List Op)) [] (.nil _) (fun M w _ => RdL.nil _ _ _ (by omega) M w) ?_
            refine cw_fact (F := RdL EInt ⟨none, 0⟩ ([] : List Int)) [] (.nil _) (fun M w _ => RdL.nil _ _ _ (by omega) M w) ?_
            refine cw_fact (F := RdL EPlace ⟨none, 0⟩ ([] : List Place)) [] (.nil _) (fun M w _ => RdL.nil _ _ _ (by omega) M w) ?_
            have hr4 : (orangeryref_Moved c1 me1 node1 parent1 name1) = ((⟨0, 0, 0, ([] : List Op), 0, (⟨([] : List Int), ([] : List Place), ([] : List Place)⟩ : View)⟩ : Client), (⟨0, 0, 0, 0, 0, 0, 0⟩ : Op), (orangeryref_CheckOp (⟨(c1.time + 1), me1, node1, parent1, name1, c1.life, (c1.seq + 1)⟩ : Op))) := by simp only [orangeryref_Moved, hc1, hc3, hc5, hc8, cond_true, cond_false]
            refine cw_ret ?_
            rw [hr4]
            exact ⟨⟨(⟨none, 0⟩ : SlV), (⟨none, 0⟩ : SlV), (⟨none, 0⟩ : SlV), (⟨none, 0⟩ : SlV)⟩, _, (.cons (.agg rfl rfl Mm rfl) (.cons (.agg rfl rfl Mm rfl) (.cons (.tmp rfl) .nil))), rfl, Sm, .nil _, .nil _⟩
          · skip
            have hc8p := eq_of_bne_false hc8
            (repeat refine cw_seq ?_); refine cw_skip ?_
            (repeat refine cw_seq ?_)
            refine cw_join [5, 10, 11, 12, 14] [true, true, true, false] (fun (i_ : SlV × Option Nat) => match i_ with | ⟨x1, b1⟩ => []) (fun (i_ : SlV × Option Nat) => match i_ with | ⟨x1, b1⟩ => [⟨g1, 109, [.int .i64 c1.life, .int .i64 c1.time, .int .i64 c1.seq, x1.val ((([] : List Op) ++ c1.pending) ++ [(⟨(c1.time + 1), me1, node1, parent1, name1, c1.life, (c1.seq + 1)⟩ : Op)]).length, .int .i64 c1.version, y2.val c1.v.roots.length, y3.val c1.v.known.length, y4.val c1.v.way.length]⟩]) (fun (i_ : SlV × Option Nat) => match i_ with | ⟨x1, b1⟩ => [ownL EOp 33 x1 b1 ((([] : List Op) ++ c1.pending) ++ [(⟨(c1.time + 1), me1, node1, parent1, name1, c1.life, (c1.seq + 1)⟩ : Op)])]) (fun (i_ : SlV × Option Nat) => match i_ with | ⟨x1, b1⟩ => [RdL EInt y2 c1.v.roots, RdL EPlace y3 c1.v.known, RdL EPlace y4 c1.v.way]) (fun _ => True) (.cons rfl (.cons rfl (.cons rfl (.cons rfl (.cons rfl (.nil _)))))) (.keep (.keep (.keep (.drop (.nil))))) ?_ ?_
            · skip
              refine cw_regionA (fun j => match j with | 3 => none | 6 => none | 8 => some [g1] | _ => some []) ?_
              refine ra_q (.ab (i := 1) (js := [0, 4, 5]) [2, 3, 6, 7, 8] rfl Kr Kr Kr Kr Kr) (SplitB.all _) (by simp) rfl rfl rfl (q_pev rfl (fun _ => rfl)) ?_
              refine ra_q (.ab (i := 2) (js := [0, 4, 5]) [3, 6, 7, 8] rfl Kr Kr Kr Kr Kr) (SplitB.all _) (by simp) rfl rfl rfl (q_ld1 rfl rfl (fun _ => rfl) rfl Mm rfl) ?_
              refine ra_two 0 4 Kr ?_ ?_
              · skip
                refine rw_bsliceL EOp ([] : List Op) (.an rfl rfl) (guard_none rfl) rfl rfl rfl rfl rfl rfl rfl rfl rfl rfl rfl rfl rfl rfl rfl fun x2 x2b => ?_
                refine ra_two 3 4 Kr ?_ ?_
                · skip
                  refine rw_appendL EOp ([] : List Op) c1.pending (b := x2b) (.lo (x2b : Option Nat).toList rfl rfl) (fun g h => .inr (by simp [h])) (guard_none rfl) rfl rfl rfl rfl rfl rfl rfl (fun _ _ => Uo) rfl rfl rfl rfl rfl rfl rfl (reads_rdL Mm) (by show (0 + c1.pending.length) * 56 ≤ 140737488355328; (try simp only [List.length_append, List.length_cons, List.length_nil]); omega) fun x3 x3b => ?_
                  refine ra_q (.ab (i := 4) (js := []) [5, 6, 7, 8] rfl Kr Kr Kr Kr Kr) (SplitB.all _) (by simp) rfl rfl rfl (q_ldA rfl rfl (fun _ => rfl) rfl Mm rfl) ?_
                  refine ra_one 5 Kr ?_
                  refine rw_bsliceL EOp [(⟨(c1.time + 1), me1, node1, parent1, name1, c1.life, (c1.seq + 1)⟩ : Op)] (.an rfl rfl) (guard_none rfl) rfl rfl rfl rfl rfl rfl rfl rfl rfl rfl rfl rfl rfl rfl rfl fun x4 x4b => ?_
                  refine ra_one 6 Kr ?_
                  refine rw_appendL EOp (([] : List Op) ++ c1.pending) [(⟨(c1.time + 1), me1, node1, parent1, name1, c1.life, (c1.seq + 1)⟩ : Op)] (b := x3b) (.lo (x3b : Option Nat).toList rfl rfl) (fun g h => .inr (by simp [h])) (guard_none rfl) rfl rfl rfl rfl rfl rfl rfl (fun _ _ => Uo) rfl rfl rfl rfl rfl rfl rfl (reads_ownL (e := 33) (b := x4b) Mm) (by show ((([] : List Op) ++ c1.pending).length + 1) * 56 ≤ 140737488355328; (try simp only [List.length_append, List.length_cons, List.length_nil]); omega) fun x5 x5b => ?_
                  refine ra_q (.an (i := 7) (js := []) rfl Kr Kr Kr Kr) (SplitB.all _) (by simp) rfl rfl rfl (q_pev rfl (fun _ => rfl)) ?_
                  refine ra_one 8 Kr ?_
                  refine rw_st1 (.an rfl rfl) (.inr (by simp)) (guard_none rfl) rfl rfl rfl rfl rfl rfl rfl rfl rfl Ub rfl ?_
                  refine ra_nil Kr ?_
                  refine ⟨⟨x5, x5b⟩, trivial, Le4⟩
                · skip
                  refine ra_now rfl rfl rfl rfl (q_ldA rfl rfl (fun _ => rfl) rfl Mm rfl) ?_
                  refine ra_two 3 5 Kr ?_ ?_
                  · skip
                    refine rw_appendL EOp ([] : List Op) c1.pending (b := x2b) (.lo (x2b : Option Nat).toList rfl rfl) (fun g h => .inr (by simp [h])) (guard_none rfl) rfl rfl rfl rfl rfl rfl rfl (fun _ _ => Uo) rfl rfl rfl rfl rfl rfl rfl (reads_rdL Mm) (by show (0 + c1.pending.length) * 56 ≤ 140737488355328; (try simp only [List.length_append, List.length_cons, List.length_nil]); omega) fun x6 x6b => ?_
                    refine ra_one 5 Kr ?_
                    refine rw_bsliceL EOp [(⟨(c1.time + 1), me1, node1, parent1, name1, c1.life, (c1.seq + 1)⟩ : Op)] (.an rfl rfl) (guard_none rfl) rfl rfl rfl rfl rfl rfl rfl rfl rfl rfl rfl rfl rfl rfl rfl fun x7 x7b => ?_
                    refine ra_one 6 Kr ?_
                    refine rw_appendL EOp (([] : List Op) ++ c1.pending) [(⟨(c1.time + 1), me1, node1, parent1, name1, c1.life, (c1.seq + 1)⟩ : Op)] (b := x6b) (.lo (x6b : Option Nat).toList rfl rfl) (fun g h => .inr (by simp [h])) (guard_none rfl) rfl rfl rfl rfl rfl rfl rfl (fun _ _ => Uo) rfl rfl rfl rfl rfl rfl rfl (reads_ownL (e := 33) (b := x7b) Mm) (by show ((([] : List Op) ++ c1.pending).length + 1) * 56 ≤ 140737488355328; (try simp only [List.length_append, List.length_cons, List.length_nil]); omega) fun x8 x8b => ?_
                    refine ra_q (.an (i := 7) (js := []) rfl Kr Kr Kr Kr) (SplitB.all _) (by simp) rfl rfl rfl (q_pev rfl (fun _ => rfl)) ?_
                    refine ra_one 8 Kr ?_
                    refine rw_st1 (.an rfl rfl) (.inr (by simp)) (guard_none rfl) rfl rfl rfl rfl rfl rfl rfl rfl rfl Ub rfl ?_
                    refine ra_nil Kr ?_
                    refine ⟨⟨x8, x8b⟩, trivial, Le4⟩
                  · skip
                    refine rw_bsliceL EOp [(⟨(c1.time + 1), me1, node1, parent1, name1, c1.life, (c1.seq + 1)⟩ : Op)] (.an rfl rfl) (guard_none rfl) rfl rfl rfl rfl rfl rfl rfl rfl rfl rfl rfl rfl rfl rfl rfl fun x9 x9b => ?_
                    refine ra_one 3 Kr ?_
                    refine rw_appendL EOp ([] : List Op) c1.pending (b := x2b) (.lo (x2b : Option Nat).toList rfl rfl) (fun g h => .inr (by simp [h])) (guard_none rfl) rfl rfl rfl rfl rfl rfl rfl (fun _ _ => Uo) rfl rfl rfl rfl rfl rfl rfl (reads_rdL Mm) (by show (0 + c1.pending.length) * 56 ≤ 140737488355328; (try simp only [List.length_append, List.length_cons, List.length_nil]); omega) fun x10 x10b => ?_
                    refine ra_one 6 Kr ?_
                    refine rw_appendL EOp (([] : List Op) ++ c1.pending) [(⟨(c1.time + 1), me1, node1, parent1, name1, c1.life, (c1.seq + 1)⟩ : Op)] (b := x10b) (.lo (x10b : Option Nat).toList rfl rfl) (fun g h => .inr (by simp [h])) (guard_none rfl) rfl rfl rfl rfl rfl rfl rfl (fun _ _ => Uo) rfl rfl rfl rfl rfl rfl rfl (reads_ownL (e := 33) (b := x9b) Mm) (by show ((([] : List Op) ++ c1.pending).length + 1) * 56 ≤ 140737488355328; (try simp only [List.length_append, List.length_cons, List.length_nil]); omega) fun x11 x11b => ?_
                    refine ra_q (.an (i := 7) (js := []) rfl Kr Kr Kr Kr) (SplitB.all _) (by simp) rfl rfl rfl (q_pev rfl (fun _ => rfl)) ?_
                    refine ra_one 8 Kr ?_
                    refine rw_st1 (.an rfl rfl) (.inr (by simp)) (guard_none rfl) rfl rfl rfl rfl rfl rfl rfl rfl rfl Ub rfl ?_
                    refine ra_nil Kr ?_
                    refine ⟨⟨x11, x11b⟩, trivial, Le4⟩
              · skip
                refine ra_now rfl rfl rfl rfl (q_ldA rfl rfl (fun _ => rfl) rfl Mm rfl) ?_
                refine ra_two 0 5 Kr ?_ ?_
                · skip
                  refine rw_bsliceL EOp ([] : List Op) (.an rfl rfl) (guard_none rfl) rfl rfl rfl rfl rfl rfl rfl rfl rfl rfl rfl rfl rfl rfl rfl fun x12 x12b => ?_
                  refine ra_two 3 5 Kr ?_ ?_
                  · skip
                    refine rw_appendL EOp ([] : List Op) c1.pending (b := x12b) (.lo (x12b : Option Nat).toList rfl rfl) (fun g h => .inr (by simp [h])) (guard_none rfl) rfl rfl rfl rfl rfl rfl rfl (fun _ _ => Uo) rfl rfl rfl rfl rfl rfl rfl (reads_rdL Mm) (by show (0 + c1.pending.length) * 56 ≤ 140737488355328; (try simp only [List.length_append, List.length_cons, List.length_nil]); omega) fun x13 x13b => ?_
                    refine ra_one 5 Kr ?_
                    refine rw_bsliceL EOp [(⟨(c1.time + 1), me1, node1, parent1, name1, c1.life, (c1.seq + 1)⟩ : Op)] (.an rfl rfl) (guard_none rfl) rfl rfl rfl rfl rfl rfl rfl rfl rfl rfl rfl rfl rfl rfl rfl fun x14 x14b => ?_
                    refine ra_one 6 Kr ?_
                    refine rw_appendL EOp (([] : List Op) ++ c1.pending) [(⟨(c1.time + 1), me1, node1, parent1, name1, c1.life, (c1.seq + 1)⟩ : Op)] (b := x13b) (.lo (x13b : Option Nat).toList rfl rfl) (fun g h => .inr (by simp [h])) (guard_none rfl) rfl rfl rfl rfl rfl rfl rfl (fun _ _ => Uo) rfl rfl rfl rfl rfl rfl rfl (reads_ownL (e := 33) (b := x14b) Mm) (by show ((([] : List Op) ++ c1.pending).length + 1) * 56 ≤ 140737488355328; (try simp only [List.length_append, List.length_cons, List.length_nil]); omega) fun x15 x15b => ?_
                    refine ra_q (.an (i := 7) (js := []) rfl Kr Kr Kr Kr) (SplitB.all _) (by simp) rfl rfl rfl (q_pev rfl (fun _ => rfl)) ?_
                    refine ra_one 8 Kr ?_
                    refine rw_st1 (.an rfl rfl) (.inr (by simp)) (guard_none rfl) rfl rfl rfl rfl rfl rfl rfl rfl rfl Ub rfl ?_
                    refine ra_nil Kr ?_
                    refine ⟨⟨x15, x15b⟩, trivial, Le4⟩
                  · skip
                    refine rw_bsliceL EOp [(⟨(c1.time + 1), me1, node1, parent1, name1, c1.life, (c1.seq + 1)⟩ : Op)] (.an rfl rfl) (guard_none rfl) rfl rfl rfl rfl rfl rfl rfl rfl rfl rfl rfl rfl rfl rfl rfl fun x16 x16b => ?_
                    refine ra_one 3 Kr ?_
                    refine rw_appendL EOp ([] : List Op) c1.pending (b := x12b) (.lo (x12b : Option Nat).toList rfl rfl) (fun g h => .inr (by simp [h])) (guard_none rfl) rfl rfl rfl rfl rfl rfl rfl (fun _ _ => Uo) rfl rfl rfl rfl rfl rfl rfl (reads_rdL Mm) (by show (0 + c1.pending.length) * 56 ≤ 140737488355328; (try simp only [List.length_append, List.length_cons, List.length_nil]); omega) fun x17 x17b => ?_
                    refine ra_one 6 Kr ?_
                    refine rw_appendL EOp (([] : List Op) ++ c1.pending) [(⟨(c1.time + 1), me1, node1, parent1, name1, c1.life, (c1.seq + 1)⟩ : Op)] (b := x17b) (.lo (x17b : Option Nat).toList rfl rfl) (fun g h => .inr (by simp [h])) (guard_none rfl) rfl rfl rfl rfl rfl rfl rfl (fun _ _ => Uo) rfl rfl rfl rfl rfl rfl rfl (reads_ownL (e := 33) (b := x16b) Mm) (by show ((([] : List Op) ++ c1.pending).length + 1) * 56 ≤ 140737488355328; (try simp only [List.length_append, List.length_cons, List.length_nil]); omega) fun x18 x18b => ?_
                    refine ra_q (.an (i := 7) (js := []) rfl Kr Kr Kr Kr) (SplitB.all _) (by simp) rfl rfl rfl (q_pev rfl (fun _ => rfl)) ?_
                    refine ra_one 8 Kr ?_
                    refine rw_st1 (.an rfl rfl) (.inr (by simp)) (guard_none rfl) rfl rfl rfl rfl rfl rfl rfl rfl rfl Ub rfl ?_
                    refine ra_nil Kr ?_
                    refine ⟨⟨x18, x18b⟩, trivial, Le4⟩
                · skip
                  refine rw_bsliceL EOp [(⟨(c1.time + 1), me1, node1, parent1, name1, c1.life, (c1.seq + 1)⟩ : Op)] (.an rfl rfl) (guard_none rfl) rfl rfl rfl rfl rfl rfl rfl rfl rfl rfl rfl rfl rfl rfl rfl fun x19 x19b => ?_
                  refine ra_one 0 Kr ?_
                  refine rw_bsliceL EOp ([] : List Op) (.an rfl rfl) (guard_none rfl) rfl rfl rfl rfl rfl rfl rfl rfl rfl rfl rfl rfl rfl rfl rfl fun x20 x20b => ?_
                  refine ra_one 3 Kr ?_
                  refine rw_appendL EOp ([] : List Op) c1.pending (b := x20b) (.lo (x20b : Option Nat).toList rfl rfl) (fun g h => .inr (by simp [h])) (guard_none rfl) rfl rfl rfl rfl rfl rfl rfl (fun _ _ => Uo) rfl rfl rfl rfl rfl rfl rfl (reads_rdL Mm) (by show (0 + c1.pending.length) * 56 ≤ 140737488355328; (try simp only [List.length_append, List.length_cons, List.length_nil]); omega) fun x21 x21b => ?_
                  refine ra_one 6 Kr ?_
                  refine rw_appendL EOp (([] : List Op) ++ c1.pending) [(⟨(c1.time + 1), me1, node1, parent1, name1, c1.life, (c1.seq + 1)⟩ : Op)] (b := x21b) (.lo (x21b : Option Nat).toList rfl rfl) (fun g h => .inr (by simp [h])) (guard_none rfl) rfl rfl rfl rfl rfl rfl rfl (fun _ _ => Uo) rfl rfl rfl rfl rfl rfl rfl (reads_ownL (e := 33) (b := x19b) Mm) (by show ((([] : List Op) ++ c1.pending).length + 1) * 56 ≤ 140737488355328; (try simp only [List.length_append, List.length_cons, List.length_nil]); omega) fun x22 x22b => ?_
                  refine ra_q (.an (i := 7) (js := []) rfl Kr Kr Kr Kr) (SplitB.all _) (by simp) rfl rfl rfl (q_pev rfl (fun _ => rfl)) ?_
                  refine ra_one 8 Kr ?_
                  refine rw_st1 (.an rfl rfl) (.inr (by simp)) (guard_none rfl) rfl rfl rfl rfl rfl rfl rfl rfl rfl Ub rfl ?_
                  refine ra_nil Kr ?_
                  refine ⟨⟨x22, x22b⟩, trivial, Le4⟩
            · skip
              rintro ⟨x1, b1⟩ -
              simp only [List.cons_append, List.nil_append]
              (repeat refine cw_seq ?_); refine cw_region ?_
              refine Rp rfl rfl rfl rfl ?_
              refine rw_q rfl rfl rfl (q_ld1 rfl rfl (fun _ => rfl) rfl Mm rfl) ?_
              refine rw_q rfl rfl rfl (q_add rfl rfl (fun _ => rfl) rfl (fun _ => rfl) (fun _ => by omega)) ?_
              refine Rp rfl rfl rfl rfl ?_
              refine rw_st1 .sq (.inl ⟨_, rfl⟩) (guard_none rfl) rfl rfl rfl rfl rfl rfl rfl rfl rfl Ub rfl ?_
              refine rw_nil ?_
              (repeat refine cw_seq ?_); refine cw_region ?_
              refine Rp rfl rfl rfl rfl ?_
              refine rw_q rfl rfl rfl (q_ld1 rfl rfl (fun _ => rfl) rfl Mm rfl) ?_
              refine rw_q rfl rfl rfl (q_add rfl rfl (fun _ => rfl) rfl (fun _ => rfl) (fun _ => by omega)) ?_
              refine Rp rfl rfl rfl rfl ?_
              refine rw_st1 .sq (.inl ⟨_, rfl⟩) (guard_none rfl) rfl rfl rfl rfl rfl rfl rfl rfl rfl Ub rfl ?_
              refine rw_nil ?_
              (repeat refine cw_seq ?_); refine cw_regionA (fun j => match j with | 2 => some [g2] | 3 => some [g3] | _ => some []) ?_
              refine ra_q (.an (i := 0) (js := [1]) rfl Kr Kr Kr Kr) (SplitB.all _) (by simp) rfl rfl rfl (q_ldA rfl rfl (fun _ => rfl) rfl Mm rfl) ?_
              refine ra_q (.an (i := 1) (js := [2]) rfl Kr Kr Kr Kr) (.keep (.keep (.keep (.drop (SplitB.all _))))) (by intro g hg; simp at hg; simp [hg]) rfl rfl rfl (q_ldA rfl rfl (fun _ => rfl) rfl Mm rfl) ?_
              refine ra_one 2 Kr ?_
              refine rw_stA (.an rfl rfl) (.inr (by simp)) (guard_none rfl) rfl rfl rfl rfl rfl rfl rfl rfl rfl Ub rfl ?_
              refine ra_one 3 Kr ?_
              refine rw_stA (.an rfl rfl) (.inr (by simp)) (guard_none rfl) rfl rfl rfl rfl rfl rfl rfl rfl rfl Ub rfl ?_
              refine ra_q (.an (i := 4) (js := []) rfl Kr Kr Kr Kr) (SplitB.all _) (by simp) rfl rfl rfl (q_pev rfl (fun _ => rfl)) ?_
              refine ra_nil Kr ?_
              (repeat refine cw_seq ?_)
              refine cw_le (le_freezeL EOp 33 x1 b1 ((([] : List Op) ++ c1.pending) ++ [(⟨(c1.time + 1), me1, node1, parent1, name1, c1.life, (c1.seq + 1)⟩ : Op)]) Uo) ?_
              have hr5 : (orangeryref_Moved c1 me1 node1 parent1 name1) = ((⟨c1.life, (c1.time + 1), (c1.seq + 1), ((([] : List Op) ++ c1.pending) ++ [(⟨(c1.time + 1), me1, node1, parent1, name1, c1.life, (c1.seq + 1)⟩ : Op)]), c1.version, c1.v⟩ : Client), (⟨(c1.time + 1), me1, node1, parent1, name1, c1.life, (c1.seq + 1)⟩ : Op), 0) := by simp only [orangeryref_Moved, hc1, hc3, hc5, hc8, cond_true, cond_false]
              refine cw_ret ?_
              rw [hr5]
              exact ⟨⟨x1, y2, y3, y4⟩, _, (.cons (.agg rfl rfl Mm rfl) (.cons (.agg rfl rfl Mm rfl) (.cons (.tmp rfl) .nil))), rfl, Sm, .nil _, .nil _⟩

def orangeryref_HeardOf_L0 (c1 : Client) (m1 : Mail) (roots1 : List Int) (known1 : List Place) (way1 : List Place) : List Op → (List Op) → (Client × Int)
  | [], pending1 => ((⟨c1.life, (if m1.time > c1.time then m1.time else c1.time), c1.seq, pending1, m1.version, (⟨roots1, known1, way1⟩ : View)⟩ : Client), 0)
  | pn1 :: rn1, pending1 => (bif decide ((pn1.seq) > m1.seq) then (orangeryref_HeardOf_L0 c1 m1 roots1 known1 way1 rn1 (pending1 ++ [pn1])) else (orangeryref_HeardOf_L0 c1 m1 roots1 known1 way1 rn1 pending1))
def orangeryref_HeardOf_J1 (c1 : Client) (m1 : Mail) (roots1 : List Int) (known1 : List Place) (way1 : List Place) : Client × Int :=
  (orangeryref_HeardOf_L0 c1 m1 roots1 known1 way1 c1.pending [])
def orangeryref_HeardOf (c1 : Client) (me1 : Int) (m1 : Mail) : Client × Int :=
  (bif ((orangeryref_CheckClient c1 me1) == 0) then (bif (((orangeryref_CheckMail [m1]) == 0) && ((m1.kind == 1) || (m1.who != me1))) then ((⟨0, 0, 0, ([] : List Op), 0, (⟨([] : List Int), ([] : List Place), ([] : List Place)⟩ : View)⟩ : Client), 4) else (bif ((orangeryref_CheckMail [m1]) != 0) then ((⟨0, 0, 0, ([] : List Op), 0, (⟨([] : List Int), ([] : List Place), ([] : List Place)⟩ : View)⟩ : Client), (orangeryref_CheckMail [m1])) else (bif ((((c1.life != m1.life) || decide (c1.version ≥ m1.version)) || decide (c1.seq < m1.seq)) || ((m1.kind == 3) && (m1.frm != c1.version))) then (c1, 0) else (bif (m1.kind == 3) then (bif (((orangeryref_Applied c1.v m1.d).2) != 0) then ((⟨0, 0, 0, ([] : List Op), 0, (⟨([] : List Int), ([] : List Place), ([] : List Place)⟩ : View)⟩ : Client), (orangeryref_Applied c1.v m1.d).2) else (orangeryref_HeardOf_J1 c1 m1 (((orangeryref_Applied c1.v m1.d).1).roots) (((orangeryref_Applied c1.v m1.d).1).known) (((orangeryref_Applied c1.v m1.d).1).way))) else (orangeryref_HeardOf_J1 c1 m1 m1.v.roots m1.v.known m1.v.way))))) else ((⟨0, 0, 0, ([] : List Op), 0, (⟨([] : List Int), ([] : List Place), ([] : List Place)⟩ : View)⟩ : Client), (orangeryref_CheckClient c1 me1)))
theorem orangeryref_HeardOf_spec (y1 : SlV) (y2 : SlV) (y3 : SlV) (y4 : SlV) (c1 : Client) (me1 : Int) (y5 : SlV) (y6 : SlV) (y7 : SlV) (y8 : SlV) (y9 : SlV) (y10 : SlV) (y11 : SlV) (m1 : Mail) : Does Try.prog 101 [.agg ⟨[.int .i64 c1.life, .int .i64 c1.time, .int .i64 c1.seq, y1.val c1.pending.length, .int .i64 c1.version, y2.val c1.v.roots.length, y3.val c1.v.known.length, y4.val c1.v.way.length]⟩, .int .i64 me1, .agg ⟨[.int .i64 m1.kind, .int .i64 m1.who, .int .i64 m1.life, .int .i64 m1.seq, .int .i64 m1.time, .int .i64 m1.version, .int .i64 m1.frm, .int .i64 m1.o.time, .int .i64 m1.o.who, .int .i64 m1.o.node, .int .i64 m1.o.parent, .int .i64 m1.o.name, .int .i64 m1.o.life, .int .i64 m1.o.seq, y5.val m1.v.roots.length, y6.val m1.v.known.length, y7.val m1.v.way.length, y8.val m1.d.gone.length, y9.val m1.d.here.length, y10.val m1.d.wayGone.length, y11.val m1.d.wayHere.length]⟩] [RdL EOp y1 c1.pending, RdL EInt y2 c1.v.roots, RdL EPlace y3 c1.v.known, RdL EPlace y4 c1.v.way, RdL EInt y5 m1.v.roots, RdL EPlace y6 m1.v.known, RdL EPlace y7 m1.v.way, RdL EInt y8 m1.d.gone, RdL EPlace y9 m1.d.here, RdL EInt y10 m1.d.wayGone, RdL EPlace y11 m1.d.wayHere] (fun (X : SlV × SlV × SlV × SlV) => .tuple #[.agg ⟨[.int .i64 (((orangeryref_HeardOf c1 me1 m1).1).life), .int .i64 (((orangeryref_HeardOf c1 me1 m1).1).time), .int .i64 (((orangeryref_HeardOf c1 me1 m1).1).seq), X.1.val (((orangeryref_HeardOf c1 me1 m1).1).pending).length, .int .i64 (((orangeryref_HeardOf c1 me1 m1).1).version), X.2.1.val ((((orangeryref_HeardOf c1 me1 m1).1).v).roots).length, X.2.2.1.val ((((orangeryref_HeardOf c1 me1 m1).1).v).known).length, X.2.2.2.val ((((orangeryref_HeardOf c1 me1 m1).1).v).way).length]⟩, .int .i64 ((orangeryref_HeardOf c1 me1 m1).2)]) (fun (X : SlV × SlV × SlV × SlV) => [RdL EOp X.1 (((orangeryref_HeardOf c1 me1 m1).1).pending), RdL EInt X.2.1 ((((orangeryref_HeardOf c1 me1 m1).1).v).roots), RdL EPlace X.2.2.1 ((((orangeryref_HeardOf c1 me1 m1).1).v).known), RdL EPlace X.2.2.2 ((((orangeryref_HeardOf c1 me1 m1).1).v).way)]) := by
  refine does_of tab_ok Try.func101 rfl Try.ntmps101 Try.results101 rfl inferInstance (fun _ => inferInstance) fun C => ?_
  refine cw_pure (φ := c1.pending.length * 56 ≤ 140737488355328) [RdL EOp y1 c1.pending] Sm (fun M w h => (allF1 h).len) fun hlen1 => ?_
  refine cw_pure (φ := c1.v.roots.length * 8 ≤ 140737488355328) [RdL EInt y2 c1.v.roots] Sm (fun M w h => (allF1 h).len) fun hlen2 => ?_
  refine cw_pure (φ := c1.v.known.length * 24 ≤ 140737488355328) [RdL EPlace y3 c1.v.known] Sm (fun M w h => (allF1 h).len) fun hlen3 => ?_
  refine cw_pure (φ := c1.v.way.length * 24 ≤ 140737488355328) [RdL EPlace y4 c1.v.way] Sm (fun M w h => (allF1 h).len) fun hlen4 => ?_
  refine cw_pure (φ := m1.v.roots.length * 8 ≤ 140737488355328) [RdL EInt y5 m1.v.roots] Sm (fun M w h => (allF1 h).len) fun hlen5 => ?_
  refine cw_pure (φ := m1.v.known.length * 24 ≤ 140737488355328) [RdL EPlace y6 m1.v.known] Sm (fun M w h => (allF1 h).len) fun hlen6 => ?_
  refine cw_pure (φ := m1.v.way.length * 24 ≤ 140737488355328) [RdL EPlace y7 m1.v.way] Sm (fun M w h => (allF1 h).len) fun hlen7 => ?_
  refine cw_pure (φ := m1.d.gone.length * 8 ≤ 140737488355328) [RdL EInt y8 m1.d.gone] Sm (fun M w h => (allF1 h).len) fun hlen8 => ?_
  refine cw_pure (φ := m1.d.here.length * 24 ≤ 140737488355328) [RdL EPlace y9 m1.d.here] Sm (fun M w h => (allF1 h).len) fun hlen9 => ?_
  refine cw_pure (φ := m1.d.wayGone.length * 8 ≤ 140737488355328) [RdL EInt y10 m1.d.wayGone] Sm (fun M w h => (allF1 h).len) fun hlen10 => ?_
  refine cw_pure (φ := m1.d.wayHere.length * 24 ≤ 140737488355328) [RdL EPlace y11 m1.d.wayHere] Sm (fun M w h => (allF1 h).len) fun hlen11 => ?_
  (repeat refine cw_seq ?_); refine cw_region ?_
  refine rw_box_agg .sq (guard_none rfl) rfl rfl rfl rfl rfl fun g1 => ?_
  refine rw_box_agg .sq (guard_none rfl) rfl rfl rfl rfl rfl fun g2 => ?_
  refine rw_alloc .sq (guard_none rfl) rfl rfl rfl rfl fun g3 => ?_
  refine Rp rfl rfl rfl rfl ?_
  refine rw_nil ?_
  (repeat refine cw_seq ?_); refine cw_region ?_
  refine rw_q rfl rfl rfl (q_ldA rfl rfl (fun _ => rfl) rfl Mm rfl) ?_
  refine Rp rfl rfl rfl rfl ?_
  refine rw_call (orangeryref_CheckClient_spec y1 y2 y3 y4 c1 me1) .sq (guard_none rfl) rfl rfl rfl Kr rfl rfl Sm ?_
  intro _
  refine Rp rfl rfl rfl rfl ?_
  refine rw_nil ?_
  (repeat refine cw_seq ?_); refine cw_region ?_
  refine Rp rfl rfl rfl rfl ?_
  refine Rp rfl rfl rfl rfl ?_
  refine rw_nil ?_
  (repeat refine cw_seq ?_); refine cw_cond (b := ((orangeryref_CheckClient c1 me1) == 0)) rfl rfl (fun hc1 => ?_) (fun hc1 => ?_)
  · skip
    have hc1p := eq_of_beq hc1
    (repeat refine cw_seq ?_); refine cw_region ?_
    refine rw_q rfl rfl rfl (q_ldA rfl rfl (fun _ => rfl) rfl Mm rfl) ?_
    refine rw_bsliceL NMail.E [((y5, y6, y7, y8, y9, y10, y11), m1)] .sq (guard_none rfl) rfl rfl rfl rfl rfl rfl rfl rfl rfl rfl rfl rfl rfl (fillL_one rfl rfl) rfl fun x1 x1b => ?_
    refine rw_le (le_freezeL NMail.E 80 x1 x1b [((y5, y6, y7, y8, y9, y10, y11), m1)] Uo) ?_
    refine rw_fact (F := RdN NMail x1 [m1]) [RdL NMail.E x1 [((y5, y6, y7, y8, y9, y10, y11), m1)], RdL EInt y5 m1.v.roots, RdL EPlace y6 m1.v.known, RdL EPlace y7 m1.v.way, RdL EInt y8 m1.d.gone, RdL EPlace y9 m1.d.here, RdL EInt y10 m1.d.wayGone, RdL EPlace y11 m1.d.wayHere] Sm (fun M w h => RdN.of NMail (hs := [((y5, y6, y7, y8, y9, y10, y11), m1)]) rfl (h _ (.head _)) (allP_cons (allF_sub Sm h) (fun p hp => by cases hp))) ?_
    refine rw_call (orangeryref_CheckMail_spec x1 [m1]) .sq (guard_none rfl) rfl rfl rfl Kr rfl rfl Sm ?_
    intro _
    refine Rp rfl rfl rfl rfl ?_
    refine rw_nil ?_
    (repeat refine cw_seq ?_); refine cw_region ?_
    refine Rp rfl rfl rfl rfl ?_
    refine Rp rfl rfl rfl rfl ?_
    refine Rp rfl rfl rfl rfl ?_
    refine rw_qg (guard_vt rfl rfl rfl) rfl rfl (q_pev rfl Bt) ?_
    refine rw_qg (guard_vt rfl rfl rfl) rfl rfl (q_ld1 rfl rfl Bt rfl Mm rfl) ?_
    refine rw_qg (guard_vt rfl rfl rfl) rfl rfl (q_pev rfl Bt) ?_
    refine rw_qg (guard_vt rfl rfl rfl) rfl rfl (q_pev rfl Bt) ?_
    refine rw_qg (guard_of rfl rfl rfl) rfl rfl (q_pev rfl Bt) ?_
    refine rw_qg (guard_of rfl rfl rfl) rfl rfl (q_ld1 rfl rfl Bt rfl Mm rfl) ?_
    refine rw_qg (guard_of rfl rfl rfl) rfl rfl (q_pev rfl Bt) ?_
    refine rw_qg (guard_of rfl rfl rfl) rfl rfl (q_pev rfl Bt) ?_
    refine rw_qg (guard_vt rfl rfl rfl) rfl rfl (q_pev rfl Bt) ?_
    refine rw_q rfl rfl rfl (q_pev rfl Bt) ?_
    refine rw_nil ?_
    (repeat refine cw_seq ?_); refine cw_cond (b := (((orangeryref_CheckMail [m1]) == 0) && ((m1.kind == 1) || (m1.who != me1)))) rfl rfl (fun hc2 => ?_) (fun hc2 => ?_)
    · skip
      (repeat refine cw_seq ?_); refine cw_region ?_
      refine Rp rfl rfl rfl rfl ?_
      refine rw_nil ?_
      (repeat refine cw_seq ?_); refine cw_region ?_
      refine Rp rfl rfl rfl rfl ?_
      refine Rp rfl rfl rfl rfl ?_
      refine rw_nil ?_
      (repeat refine cw_seq ?_); refine cw_cond (b := ((4 : Int) != 0)) rfl rfl (fun hc3 => ?_) (fun hc3 => ?_)
      · skip
        (repeat refine cw_seq ?_); refine cw_region ?_
        refine Rp rfl rfl rfl rfl ?_
        refine Rp rfl rfl rfl rfl ?_
        refine rw_stA .sq (.inl ⟨_, rfl⟩) (guard_none rfl) rfl rfl rfl rfl rfl rfl rfl rfl rfl Ub rfl ?_
        refine Rp rfl rfl rfl rfl ?_
        refine rw_nil ?_
        (repeat refine cw_seq ?_)
        refine cw_fact (F := RdL EOp ⟨none, 0⟩ ([] : List Op)) [] (.nil _) (fun M w _ => RdL.nil _ _ _ (by omega) M w) ?_
        refine cw_fact (F := RdL EInt ⟨none, 0⟩ ([] : List Int)) [] (.nil _) (fun M w _ => RdL.nil _ _ _ (by omega) M w) ?_
        refine cw_fact (F := RdL EPlace ⟨none, 0⟩ ([] : List Place)) [] (.nil _) (fun M w _ => RdL.nil _ _ _ (by omega) M w) ?_
        have hr1 : (orangeryref_HeardOf c1 me1 m1) = ((⟨0, 0, 0, ([] : List Op), 0, (⟨([] : List Int), ([] : List Place), ([] : List Place)⟩ : View)⟩ : Client), 4) := by rw [orangeryref_HeardOf]; (try simp only [hc1, cond_true, cond_false]); (try simp only [hc2, cond_true, cond_false])
        refine cw_ret ?_
        rw [hr1]
        exact ⟨⟨(⟨none, 0⟩ : SlV), (⟨none, 0⟩ : SlV), (⟨none, 0⟩ : SlV), (⟨none, 0⟩ : SlV)⟩, _, (.cons (.agg rfl rfl Mm rfl) (.cons (.tmp rfl) .nil)), rfl, Sm, .nil _, .nil _⟩
      · skip
        exact Bool.noConfusion (hc3.symm.trans (show ((4 : Int) != 0) = true by decide))
    · skip
      (repeat refine cw_seq ?_); refine cw_skip ?_
      (repeat refine cw_seq ?_); refine cw_region ?_
      refine Rp rfl rfl rfl rfl ?_
      refine Rp rfl rfl rfl rfl ?_
      refine rw_nil ?_
      (repeat refine cw_seq ?_); refine cw_cond (b := ((orangeryref_CheckMail [m1]) != 0)) rfl rfl (fun hc4 => ?_) (fun hc4 => ?_)
      · skip
        have hc4p := bne_iff_ne.1 hc4
        (repeat refine cw_seq ?_); refine cw_region ?_
        refine Rp rfl rfl rfl rfl ?_
        refine Rp rfl rfl rfl rfl ?_
        refine rw_stA .sq (.inl ⟨_, rfl⟩) (guard_none rfl) rfl rfl rfl rfl rfl rfl rfl rfl rfl Ub rfl ?_
        refine Rp rfl rfl rfl rfl ?_
        refine rw_nil ?_
        (repeat refine cw_seq ?_)
        refine cw_fact (F := RdL EOp ⟨none, 0⟩ ([] : List Op)) [] (.nil _) (fun M w _ => RdL.nil _ _ _ (by omega) M w) ?_
        refine cw_fact (F := RdL EInt ⟨none, 0⟩ ([] : List Int)) [] (.nil _) (fun M w _ => RdL.nil _ _ _ (by omega) M w) ?_
        refine cw_fact (F := RdL EPlace ⟨none, 0⟩ ([] : List Place)) [] (.nil _) (fun M w _ => RdL.nil _ _ _ (by omega) M w) ?_
        have hr2 : (orangeryref_HeardOf c1 me1 m1) = ((⟨0, 0, 0, ([] : List Op), 0, (⟨([] : List Int), ([] : List Place), ([] : List Place)⟩ : View)⟩ : Client), (orangeryref_CheckMail [m1])) := by rw [orangeryref_HeardOf]; (try simp only [hc1, cond_true, cond_false]); (try simp only [hc2, cond_true, cond_false]); (try simp only [hc4, cond_true, cond_false])
        refine cw_ret ?_
        rw [hr2]
        exact ⟨⟨(⟨none, 0⟩ : SlV), (⟨none, 0⟩ : SlV), (⟨none, 0⟩ : SlV), (⟨none, 0⟩ : SlV)⟩, _, (.cons (.agg rfl rfl Mm rfl) (.cons (.tmp rfl) .nil)), rfl, Sm, .nil _, .nil _⟩
      · skip
        have hc4p := eq_of_bne_false hc4
        (repeat refine cw_seq ?_); refine cw_skip ?_
        (repeat refine cw_seq ?_); refine cw_region ?_
        refine Rp rfl rfl rfl rfl ?_
        refine rw_q rfl rfl rfl (q_ld1 rfl rfl (fun _ => rfl) rfl Mm rfl) ?_
        refine Rp rfl rfl rfl rfl ?_
        refine rw_q rfl rfl rfl (q_ld1 rfl rfl (fun _ => rfl) rfl Mm rfl) ?_
        refine Rp rfl rfl rfl rfl ?_
        refine Rp rfl rfl rfl rfl ?_
        refine rw_qg (guard_vf rfl rfl rfl) rfl rfl (q_pev rfl Bt) ?_
        refine rw_qg (guard_vf rfl rfl rfl) rfl rfl (q_ld1 rfl rfl Bt rfl Mm rfl) ?_
        refine rw_qg (guard_vf rfl rfl rfl) rfl rfl (q_pev rfl Bt) ?_
        refine rw_qg (guard_vf rfl rfl rfl) rfl rfl (q_ld1 rfl rfl Bt rfl Mm rfl) ?_
        refine rw_qg (guard_vf rfl rfl rfl) rfl rfl (q_pev rfl Bt) ?_
        refine rw_q rfl rfl rfl (q_pev rfl Bt) ?_
        refine Rp rfl rfl rfl rfl ?_
        refine rw_qg (guard_vf rfl rfl rfl) rfl rfl (q_pev rfl Bt) ?_
        refine rw_qg (guard_vf rfl rfl rfl) rfl rfl (q_ld1 rfl rfl Bt rfl Mm rfl) ?_
        refine rw_qg (guard_vf rfl rfl rfl) rfl rfl (q_pev rfl Bt) ?_
        refine rw_qg (guard_vf rfl rfl rfl) rfl rfl (q_ld1 rfl rfl Bt rfl Mm rfl) ?_
        refine rw_qg (guard_vf rfl rfl rfl) rfl rfl (q_pev rfl Bt) ?_
        refine rw_q rfl rfl rfl (q_pev rfl Bt) ?_
        refine Rp rfl rfl rfl rfl ?_
        refine rw_qg (guard_vf rfl rfl rfl) rfl rfl (q_pev rfl Bt) ?_
        refine rw_qg (guard_vf rfl rfl rfl) rfl rfl (q_ld1 rfl rfl Bt rfl Mm rfl) ?_
        refine rw_qg (guard_vf rfl rfl rfl) rfl rfl (q_pev rfl Bt) ?_
        refine rw_qg (guard_vf rfl rfl rfl) rfl rfl (q_pev rfl Bt) ?_
        refine rw_qg (guard_ot rfl rfl rfl) rfl rfl (q_pev rfl Bt) ?_
        refine rw_qg (guard_ot rfl rfl rfl) rfl rfl (q_ld1 rfl rfl Bt rfl Mm rfl) ?_
        refine rw_qg (guard_ot rfl rfl rfl) rfl rfl (q_pev rfl Bt) ?_
        refine rw_qg (guard_ot rfl rfl rfl) rfl rfl (q_ld1 rfl rfl Bt rfl Mm rfl) ?_
        refine rw_qg (guard_ot rfl rfl rfl) rfl rfl (q_pev rfl Bt) ?_
        refine rw_qg (guard_vf rfl rfl rfl) rfl rfl (q_pev rfl Bt) ?_
        refine rw_q rfl rfl rfl (q_pev rfl Bt) ?_
        refine rw_nil ?_
        (repeat refine cw_seq ?_); refine cw_cond (b := ((((c1.life != m1.life) || decide (c1.version ≥ m1.version)) || decide (c1.seq < m1.seq)) || ((m1.kind == 3) && (m1.frm != c1.version)))) rfl rfl (fun hc5 => ?_) (fun hc5 => ?_)
        · skip
          (repeat refine cw_seq ?_); refine cw_region ?_
          refine rw_q rfl rfl rfl (q_ldA rfl rfl (fun _ => rfl) rfl Mm rfl) ?_
          refine rw_stA .sq (.inl ⟨_, rfl⟩) (guard_none rfl) rfl rfl rfl rfl rfl rfl rfl rfl rfl Ub rfl ?_
          refine Rp rfl rfl rfl rfl ?_
          refine rw_nil ?_
          (repeat refine cw_seq ?_)
          have hr3 : (orangeryref_HeardOf c1 me1 m1) = (c1, 0) := by rw [orangeryref_HeardOf]; (try simp only [hc1, cond_true, cond_false]); (try simp only [hc2, cond_true, cond_false]); (try simp only [hc4, cond_true, cond_false]); (try simp only [hc5, cond_true, cond_false])
          refine cw_ret ?_
          rw [hr3]
          exact ⟨⟨y1, y2, y3, y4⟩, _, (.cons (.agg rfl rfl Mm rfl) (.cons (.tmp rfl) .nil)), rfl, Sm, .nil _, .nil _⟩
        · skip
          (repeat refine cw_seq ?_); refine cw_skip ?_
          (repeat refine cw_seq ?_); refine cw_region ?_
          refine Rp rfl rfl rfl rfl ?_
          refine rw_q rfl rfl rfl (q_ldP rfl rfl (fun _ => rfl) rfl Mm rfl) ?_
          refine rw_alloc .sq (guard_none rfl) rfl rfl rfl rfl fun g4 => ?_
          refine rw_stA .sq (.inl ⟨_, rfl⟩) (guard_none rfl) rfl rfl rfl rfl rfl rfl rfl rfl rfl Ub rfl ?_
          refine rw_nil ?_
          (repeat refine cw_seq ?_); refine cw_region ?_
          refine Rp rfl rfl rfl rfl ?_
          refine rw_q rfl rfl rfl (q_ld1 rfl rfl (fun _ => rfl) rfl Mm rfl) ?_
          refine Rp rfl rfl rfl rfl ?_
          refine rw_nil ?_
          (repeat refine cw_seq ?_)
          refine cw_join [3, 5, 6, 7, 9] [false, true, true, true] (fun (i_ : List Int × SlV × List Place × SlV × List Place × SlV) => match i_ with | ⟨roots1, x2, known1, x3, way1, x4⟩ => []) (fun (i_ : List Int × SlV × List Place × SlV × List Place × SlV) => match i_ with | ⟨roots1, x2, known1, x3, way1, x4⟩ => [⟨g4, 51, [x2.val roots1.length, x3.val known1.length, x4.val way1.length]⟩]) (fun (i_ : List Int × SlV × List Place × SlV × List Place × SlV) => match i_ with | ⟨roots1, x2, known1, x3, way1, x4⟩ => []) (fun (i_ : List Int × SlV × List Place × SlV × List Place × SlV) => match i_ with | ⟨roots1, x2, known1, x3, way1, x4⟩ => [RdL EInt x2 roots1, RdL EPlace x3 known1, RdL EPlace x4 way1]) (fun (i_ : List Int × SlV × List Place × SlV × List Place × SlV) => match i_ with | ⟨roots1, x2, known1, x3, way1, x4⟩ => (orangeryref_HeardOf_J1 c1 m1 roots1 known1 way1) = (orangeryref_HeardOf c1 me1 m1)) (.cons rfl (.cons rfl (.cons rfl (.cons rfl (.cons rfl (.nil _)))))) (.drop (.keep (.keep (.keep (.nil))))) ?_ ?_
          · skip
            (repeat refine cw_seq ?_); refine cw_cond (b := (m1.kind == 3)) rfl rfl (fun hc6 => ?_) (fun hc6 => ?_)
            · skip
              have hc6p := eq_of_beq hc6
              (repeat refine cw_seq ?_); refine cw_region ?_
              refine Rp rfl rfl rfl rfl ?_
              refine rw_q rfl rfl rfl (q_ldP rfl rfl (fun _ => rfl) rfl Mm rfl) ?_
              refine Rp rfl rfl rfl rfl ?_
              refine rw_q rfl rfl rfl (q_ldP rfl rfl (fun _ => rfl) rfl Mm rfl) ?_
              refine rw_call (orangeryref_Applied_spec y2 y3 y4 c1.v y8 y9 y10 y11 m1.d) .sq (guard_none rfl) rfl rfl rfl Kr rfl rfl Sm ?_
              intro x5
              refine rw_pure (φ := (((orangeryref_Applied c1.v m1.d).1).roots).length * 8 ≤ 140737488355328) [RdL EInt x5.1 (((orangeryref_Applied c1.v m1.d).1).roots)] Sm (fun M w h => (allF1 h).len) fun hlen12 => ?_
              refine rw_pure (φ := (((orangeryref_Applied c1.v m1.d).1).known).length * 24 ≤ 140737488355328) [RdL EPlace x5.2.1 (((orangeryref_Applied c1.v m1.d).1).known)] Sm (fun M w h => (allF1 h).len) fun hlen13 => ?_
              refine rw_pure (φ := (((orangeryref_Applied c1.v m1.d).1).way).length * 24 ≤ 140737488355328) [RdL EPlace x5.2.2 (((orangeryref_Applied c1.v m1.d).1).way)] Sm (fun M w h => (allF1 h).len) fun hlen14 => ?_
              refine Rp rfl rfl rfl rfl ?_
              refine Rp rfl rfl rfl rfl ?_
              refine Rp rfl rfl rfl rfl ?_
              refine rw_stA .sq (.inl ⟨_, rfl⟩) (guard_none rfl) rfl rfl rfl rfl rfl rfl rfl rfl rfl Ub rfl ?_
              refine Rp rfl rfl rfl rfl ?_
              refine rw_nil ?_
              (repeat refine cw_seq ?_); refine cw_region ?_
              refine Rp rfl rfl rfl rfl ?_
              refine Rp rfl rfl rfl rfl ?_
              refine rw_nil ?_
              (repeat refine cw_seq ?_); refine cw_cond (b := (((orangeryref_Applied c1.v m1.d).2) != 0)) rfl rfl (fun hc7 => ?_) (fun hc7 => ?_)
              · skip
                have hc7p := bne_iff_ne.1 hc7
                (repeat refine cw_seq ?_); refine cw_region ?_
                refine Rp rfl rfl rfl rfl ?_
                refine Rp rfl rfl rfl rfl ?_
                refine rw_stA .sq (.inl ⟨_, rfl⟩) (guard_none rfl) rfl rfl rfl rfl rfl rfl rfl rfl rfl Ub rfl ?_
                refine Rp rfl rfl rfl rfl ?_
                refine rw_nil ?_
                (repeat refine cw_seq ?_)
                refine cw_fact (F := RdL EOp ⟨none, 0⟩ ([] : List Op)) [] (.nil _) (fun M w _ => RdL.nil _ _ _ (by omega) M w) ?_
                refine cw_fact (F := RdL EInt ⟨none, 0⟩ ([] : List Int)) [] (.nil _) (fun M w _ => RdL.nil _ _ _ (by omega) M w) ?_
                refine cw_fact (F := RdL EPlace ⟨none, 0⟩ ([] : List Place)) [] (.nil _) (fun M w _ => RdL.nil _ _ _ (by omega) M w) ?_
                have hr4 : (orangeryref_HeardOf c1 me1 m1) = ((⟨0, 0, 0, ([] : List Op), 0, (⟨([] : List Int), ([] : List Place), ([] : List Place)⟩ : View)⟩ : Client), (orangeryref_Applied c1.v m1.d).2) := by rw [orangeryref_HeardOf]; (try simp only [hc1, cond_true, cond_false]); (try simp only [hc2, cond_true, cond_false]); (try simp only [hc4, cond_true, cond_false]); (try simp only [hc5, cond_true, cond_false]); (try simp only [hc6, cond_true, cond_false]); (try simp only [hc7, cond_true, cond_false])
                refine cw_ret ?_
                rw [hr4]
                exact ⟨⟨(⟨none, 0⟩ : SlV), (⟨none, 0⟩ : SlV), (⟨none, 0⟩ : SlV), (⟨none, 0⟩ : SlV)⟩, _, (.cons (.agg rfl rfl Mm rfl) (.cons (.tmp rfl) .nil)), rfl, Sm, .nil _, .nil _⟩
              · skip
                have hc7p := eq_of_bne_false hc7
                (repeat refine cw_seq ?_); refine cw_skip ?_
                refine ⟨⟨((orangeryref_Applied c1.v m1.d).1).roots, x5.1, ((orangeryref_Applied c1.v m1.d).1).known, x5.2.1, ((orangeryref_Applied c1.v m1.d).1).way, x5.2.2⟩, ((by rw [orangeryref_HeardOf]; (try simp only [hc1, cond_true, cond_false]); (try simp only [hc2, cond_true, cond_false]); (try simp only [hc4, cond_true, cond_false]); (try simp only [hc5, cond_true, cond_false]); (try simp only [hc6, cond_true, cond_false]); (try simp only [hc7, cond_true, cond_false]) : (orangeryref_HeardOf c1 me1 m1) = (orangeryref_HeardOf_J1 c1 m1 (((orangeryref_Applied c1.v m1.d).1).roots) (((orangeryref_Applied c1.v m1.d).1).known) (((orangeryref_Applied c1.v m1.d).1).way))).symm), Le4⟩
            · skip
              have hc6p := ne_of_beq_false hc6
              (repeat refine cw_seq ?_); refine cw_skip ?_
              refine ⟨⟨m1.v.roots, y5, m1.v.known, y6, m1.v.way, y7⟩, ((by rw [orangeryref_HeardOf]; (try simp only [hc1, cond_true, cond_false]); (try simp only [hc2, cond_true, cond_false]); (try simp only [hc4, cond_true, cond_false]); (try simp only [hc5, cond_true, cond_false]); (try simp only [hc6, cond_true, cond_false]) : (orangeryref_HeardOf c1 me1 m1) = (orangeryref_HeardOf_J1 c1 m1 m1.v.roots m1.v.known m1.v.way)).symm), Le4⟩
          · skip
            rintro ⟨roots1, x2, known1, x3, way1, x4⟩ hj1
            simp only [List.cons_append, List.nil_append]
            (repeat refine cw_seq ?_); refine cw_region ?_
            refine Rp rfl rfl rfl rfl ?_
            refine rw_q rfl rfl rfl (q_ld1 rfl rfl (fun _ => rfl) rfl Mm rfl) ?_
            refine Rp rfl rfl rfl rfl ?_
            refine rw_q rfl rfl rfl (q_ld1 rfl rfl (fun _ => rfl) rfl Mm rfl) ?_
            refine Rp rfl rfl rfl rfl ?_
            refine rw_q rfl rfl rfl (q_ld1 rfl rfl (fun _ => rfl) rfl Mm rfl) ?_
            refine Rp rfl rfl rfl rfl ?_
            refine rw_q rfl rfl rfl (q_ld1 rfl rfl (fun _ => rfl) rfl Mm rfl) ?_
            refine rw_q rfl rfl rfl (q_max rfl rfl (fun _ => rfl) rfl (fun _ => rfl)) ?_
            refine Rp rfl rfl rfl rfl ?_
            refine rw_q rfl rfl rfl (q_ld1 rfl rfl (fun _ => rfl) rfl Mm rfl) ?_
            refine rw_q rfl rfl rfl (q_ldA rfl rfl (fun _ => rfl) rfl Mm rfl) ?_
            refine Rp rfl rfl rfl rfl ?_
            refine rw_alloc .sq (guard_none rfl) rfl rfl rfl rfl fun g5 => ?_
            refine rw_stA .sq (.inl ⟨_, rfl⟩) (guard_none rfl) rfl rfl rfl rfl rfl rfl rfl rfl rfl Ub rfl ?_
            refine rw_nil ?_
            (repeat refine cw_seq ?_); refine cw_region ?_
            refine Rp rfl rfl rfl rfl ?_
            refine rw_q rfl rfl rfl (q_ld1 rfl rfl (fun _ => rfl) rfl Mm rfl) ?_
            refine Rp rfl rfl rfl rfl ?_
            refine Rp rfl rfl rfl rfl ?_
            refine rw_nil ?_
            (repeat refine cw_seq ?_); refine cw_block ?_
            (repeat refine cw_seq ?_); refine cw_loopS [5, 6, 7, 10, 101, 102] [false, true, true, true, true] (fun (i_ : Nat × List Op × SlV × Option Nat) => match i_ with | ⟨n1, pending1, x6, x6b⟩ => [(103, .v (.int .i64 (n1 : Int)))]) (fun (i_ : Nat × List Op × SlV × Option Nat) => match i_ with | ⟨n1, pending1, x6, x6b⟩ => [⟨g5, 109, [.int .i64 c1.life, .int .i64 (if m1.time > c1.time then m1.time else c1.time), .int .i64 c1.seq, x6.val pending1.length, .int .i64 m1.version, x2.val roots1.length, x3.val known1.length, x4.val way1.length]⟩]) (fun (i_ : Nat × List Op × SlV × Option Nat) => match i_ with | ⟨n1, pending1, x6, x6b⟩ => [ownL EOp 33 x6 x6b pending1]) (fun (i_ : Nat × List Op × SlV × Option Nat) => match i_ with | ⟨n1, pending1, x6, x6b⟩ => []) (fun (i_ : Nat × List Op × SlV × Option Nat) => match i_ with | ⟨n1, pending1, x6, x6b⟩ => (n1 ≤ c1.pending.length) ∧ (pending1.length ≤ n1) ∧ (orangeryref_HeardOf_L0 c1 m1 roots1 known1 way1 (c1.pending.drop n1) pending1) = (orangeryref_HeardOf c1 me1 m1)) (fun (i_ : Nat × List Op × SlV × Option Nat) => match i_ with | ⟨n1, pending1, x6, x6b⟩ => c1.pending.length - n1) ⟨0, [], ⟨none, 0⟩, none⟩ (.cons rfl (.cons rfl (.cons rfl (.cons rfl (.cons rfl (.cons rfl (.nil _))))))) (.drop (.keep (.keep (.keep (.keep (.nil)))))) ⟨Nat.zero_le _, (by first | exact Nat.le_refl _ | exact Nat.zero_le _ | omega), (by rw [← hj1]; simp only [orangeryref_HeardOf_J1, cond_true, cond_false] : (orangeryref_HeardOf c1 me1 m1) = (orangeryref_HeardOf_L0 c1 m1 roots1 known1 way1 c1.pending [])).symm⟩ (Le.trans (le_nilL EOp 33) Le4) ?_
            rintro ⟨n1, pending1, x6, x6b⟩ ⟨hkn1, hpending1, hf1⟩
            simp only [List.cons_append, List.nil_append]
            (repeat refine cw_seq ?_); refine cw_region ?_
            refine Rp rfl rfl rfl rfl ?_
            refine rw_nil ?_
            (repeat refine cw_seq ?_); refine cw_cond (b := decide ((n1 : Int) < (c1.pending.length : Int))) rfl rfl (fun hc8 => ?_) (fun hc8 => ?_)
            · skip
              have hlt0 : n1 < c1.pending.length := Int.ofNat_lt.1 (of_decide_eq_true hc8)
              (repeat refine cw_seq ?_); refine cw_skip ?_
              (repeat refine cw_seq ?_); refine cw_block ?_
              (repeat refine cw_seq ?_); refine cw_region ?_
              refine rw_q rfl rfl rfl (q_idx EOp n1 rfl rfl (fun _ => rfl) rfl (fun _ => rfl) rfl rfl rfl Mm rfl (fun _ => rfl) (fun _ => by first | assumption | omega)) ?_
              refine rw_q rfl rfl rfl (q_leA EOp rfl rfl (fun _ => rfl) rfl rfl Mm (fun _ => by first | assumption | omega)) ?_
              refine rw_alloc .sq (guard_none rfl) rfl rfl rfl rfl fun g6 => ?_
              refine rw_stA .sq (.inl ⟨_, rfl⟩) (guard_none rfl) rfl rfl rfl rfl rfl rfl rfl rfl rfl Ub rfl ?_
              refine rw_nil ?_
              (repeat refine cw_seq ?_); refine cw_region ?_
              refine Rp rfl rfl rfl rfl ?_
              refine rw_q rfl rfl rfl (q_ld1 rfl rfl (fun _ => rfl) rfl Mm rfl) ?_
              refine Rp rfl rfl rfl rfl ?_
              refine rw_q rfl rfl rfl (q_ld1 rfl rfl (fun _ => rfl) rfl Mm rfl) ?_
              refine Rp rfl rfl rfl rfl ?_
              refine rw_nil ?_
              (repeat refine cw_seq ?_); refine cw_cond (b := decide (((gt c1.pending n1).seq) > m1.seq)) rfl rfl (fun hc9 => ?_) (fun hc9 => ?_)
              · skip
                have hc9p := of_decide_eq_true hc9
                (repeat refine cw_seq ?_); refine cw_region ?_
                refine Rp rfl rfl rfl rfl ?_
                refine rw_q rfl rfl rfl (q_ld1 rfl rfl (fun _ => rfl) rfl Mm rfl) ?_
                refine rw_q rfl rfl rfl (q_ldA rfl rfl (fun _ => rfl) rfl Mm rfl) ?_
                refine rw_bsliceL EOp [(gt c1.pending n1)] .sq (guard_none rfl) rfl rfl rfl rfl rfl rfl rfl rfl rfl rfl rfl rfl rfl rfl rfl fun x7 x7b => ?_
                refine rw_appendL EOp pending1 [(gt c1.pending n1)] (b := x6b) .sq (fun _ _ => .inl ⟨_, rfl⟩) (guard_none rfl) rfl rfl rfl rfl rfl rfl rfl (fun _ _ => Uo) rfl rfl rfl rfl rfl rfl rfl (reads_ownL (e := 33) (b := x7b) Mm) (by show (pending1.length + 1) * 56 ≤ 140737488355328; (try simp only [List.length_append, List.length_cons, List.length_nil]); omega) fun x8 x8b => ?_
                refine Rp rfl rfl rfl rfl ?_
                refine rw_st1 .sq (.inl ⟨_, rfl⟩) (guard_none rfl) rfl rfl rfl rfl rfl rfl rfl rfl rfl Ub rfl ?_
                refine rw_nil ?_
                (repeat refine cw_seq ?_); refine cw_region ?_
                refine rw_q rfl rfl rfl (q_add rfl rfl (fun _ => rfl) rfl (fun _ => rfl) (fun _ => by omega)) ?_
                refine Rp rfl rfl rfl rfl ?_
                refine rw_nil ?_
                refine ⟨⟨(n1 + 1), (pending1 ++ [(gt c1.pending n1)]), x8, x8b⟩, ⟨hlt0, (by simp only [List.length_append, List.length_cons, List.length_nil]; omega), (by rw [← hf1, drop_gt hlt0]; simp only [orangeryref_HeardOf_L0]; (try simp only [hc9, cond_true, cond_false]) : (orangeryref_HeardOf c1 me1 m1) = (orangeryref_HeardOf_L0 c1 m1 roots1 known1 way1 (c1.pending.drop (n1 + 1)) (pending1 ++ [(gt c1.pending n1)]))).symm⟩, (by simp only []; omega), Le4⟩
              · skip
                have hc9p := of_decide_eq_false hc9
                (repeat refine cw_seq ?_); refine cw_skip ?_
                (repeat refine cw_seq ?_); refine cw_region ?_
                refine rw_q rfl rfl rfl (q_add rfl rfl (fun _ => rfl) rfl (fun _ => rfl) (fun _ => by omega)) ?_
                refine Rp rfl rfl rfl rfl ?_
                refine rw_nil ?_
                refine ⟨⟨(n1 + 1), pending1, x6, x6b⟩, ⟨hlt0, (by simp only [List.length_append, List.length_cons, List.length_nil]; omega), (by rw [← hf1, drop_gt hlt0]; simp only [orangeryref_HeardOf_L0]; (try simp only [hc9, cond_true, cond_false]) : (orangeryref_HeardOf c1 me1 m1) = (orangeryref_HeardOf_L0 c1 m1 roots1 known1 way1 (c1.pending.drop (n1 + 1)) pending1)).symm⟩, (by simp only []; omega), Le4⟩
            · skip
              have hge0 : c1.pending.length ≤ n1 := by have := of_decide_eq_false hc8; omega
              (repeat refine cw_seq ?_); refine cw_exit ?_
              (repeat refine cw_seq ?_); refine cw_region ?_
              refine rw_q rfl rfl rfl (q_ldA rfl rfl (fun _ => rfl) rfl Mm rfl) ?_
              refine rw_stA .sq (.inl ⟨_, rfl⟩) (guard_none rfl) rfl rfl rfl rfl rfl rfl rfl rfl rfl Ub rfl ?_
              refine Rp rfl rfl rfl rfl ?_
              refine rw_nil ?_
              (repeat refine cw_seq ?_)
              refine cw_le (le_freezeL EOp 33 x6 x6b pending1 Uo) ?_
              have hr5 : (orangeryref_HeardOf c1 me1 m1) = ((⟨c1.life, (if m1.time > c1.time then m1.time else c1.time), c1.seq, pending1, m1.version, (⟨roots1, known1, way1⟩ : View)⟩ : Client), 0) := by rw [← hf1, List.drop_of_length_le hge0]; simp only [orangeryref_HeardOf_L0, cond_true, cond_false]
              refine cw_ret ?_
              rw [hr5]
              exact ⟨⟨x6, x2, x3, x4⟩, _, (.cons (.agg rfl rfl Mm rfl) (.cons (.tmp rfl) .nil)), rfl, Sm, .nil _, .nil _⟩
  · skip
    have hc1p := ne_of_beq_false hc1
    (repeat refine cw_seq ?_); refine cw_skip ?_
    (repeat refine cw_seq ?_); refine cw_region ?_
    refine Rp rfl rfl rfl rfl ?_
    refine Rp rfl rfl rfl rfl ?_
    refine Rp rfl rfl rfl rfl ?_
    refine rw_qg (guard_vt rfl rfl rfl) rfl rfl (q_dead (v := .bool false) hc1) ?_
    refine rw_qg (guard_vt rfl rfl rfl) rfl rfl (q_dead (v := .bool false) hc1) ?_
    refine rw_qg (guard_vt rfl rfl rfl) rfl rfl (q_dead (v := .bool false) hc1) ?_
    refine rw_qg (guard_vt rfl rfl rfl) rfl rfl (q_dead (v := .bool false) hc1) ?_
    refine rw_qg (guard_of rfl rfl rfl) rfl rfl (q_pev rfl Bt) ?_
    refine rw_qg (guard_of rfl rfl rfl) rfl rfl (q_ld1 rfl rfl Bt rfl Mm rfl) ?_
    refine rw_qg (guard_of rfl rfl rfl) rfl rfl (q_pev rfl Bt) ?_
    refine rw_qg (guard_of rfl rfl rfl) rfl rfl (q_pev rfl Bt) ?_
    refine rw_qg (guard_vt rfl rfl rfl) rfl rfl (q_dead (v := .bool false) hc1) ?_
    refine rw_q rfl rfl rfl (q_pev rfl Bt) ?_
    refine rw_nil ?_
    (repeat refine cw_seq ?_); refine cw_cond (b := (((orangeryref_CheckClient c1 me1) == 0) && false)) rfl rfl (fun hc10 => ?_) (fun hc10 => ?_)
    · skip
      exact Bool.noConfusion (hc10.symm.trans ((by simp only [hc1, Bool.and_false, Bool.false_and, Bool.or_true, Bool.true_or, Bool.or_false, Bool.false_or, Bool.and_true, Bool.true_and, Bool.not_true, Bool.not_false]) : (((orangeryref_CheckClient c1 me1) == 0) && false) = false))
    · skip
      (repeat refine cw_seq ?_); refine cw_skip ?_
      (repeat refine cw_seq ?_); refine cw_region ?_
      refine Rp rfl rfl rfl rfl ?_
      refine Rp rfl rfl rfl rfl ?_
      refine rw_nil ?_
      (repeat refine cw_seq ?_); refine cw_cond (b := ((orangeryref_CheckClient c1 me1) != 0)) rfl rfl (fun hc11 => ?_) (fun hc11 => ?_)
      · skip
        (repeat refine cw_seq ?_); refine cw_region ?_
        refine Rp rfl rfl rfl rfl ?_
        refine Rp rfl rfl rfl rfl ?_
        refine rw_stA .sq (.inl ⟨_, rfl⟩) (guard_none rfl) rfl rfl rfl rfl rfl rfl rfl rfl rfl Ub rfl ?_
        refine Rp rfl rfl rfl rfl ?_
        refine rw_nil ?_
        (repeat refine cw_seq ?_)
        refine cw_fact (F := RdL EOp ⟨none, 0⟩ ([] : List Op)) [] (.nil _) (fun M w _ => RdL.nil _ _ _ (by omega) M w) ?_
        refine cw_fact (F := RdL EInt ⟨none, 0⟩ ([] : List Int)) [] (.nil _) (fun M w _ => RdL.nil _ _ _ (by omega) M w) ?_
        refine cw_fact (F := RdL EPlace ⟨none, 0⟩ ([] : List Place)) [] (.nil _) (fun M w _ => RdL.nil _ _ _ (by omega) M w) ?_
        have hr6 : (orangeryref_HeardOf c1 me1 m1) = ((⟨0, 0, 0, ([] : List Op), 0, (⟨([] : List Int), ([] : List Place), ([] : List Place)⟩ : View)⟩ : Client), (orangeryref_CheckClient c1 me1)) := by rw [orangeryref_HeardOf]; (try simp only [hc1, cond_true, cond_false])
        refine cw_ret ?_
        rw [hr6]
        exact ⟨⟨(⟨none, 0⟩ : SlV), (⟨none, 0⟩ : SlV), (⟨none, 0⟩ : SlV), (⟨none, 0⟩ : SlV)⟩, _, (.cons (.agg rfl rfl Mm rfl) (.cons (.tmp rfl) .nil)), rfl, Sm, .nil _, .nil _⟩
      · skip
        exact Bool.noConfusion (hc11.symm.trans (show ((orangeryref_CheckClient c1 me1) != 0) = true by rw [bne, hc1]; rfl))
end Go.Proofs.Ytchdacbjiomplaa
