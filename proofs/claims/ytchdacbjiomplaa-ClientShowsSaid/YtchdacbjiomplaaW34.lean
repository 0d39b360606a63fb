/- Part of this claim. No condition. -/
import Derived.Test.YtchdacbjiomplaaW32
set_option linter.unusedVariables false
set_option linter.unusedSimpArgs false
namespace Go.Proofs.Ytchdacbjiomplaa
open Go Go.Proofs.Ytchdacbjiomplaa.Fw Go.Proofs
attribute [local irreducible] RdL RdN VarP
def orangerylaw_ClientShows (c1 : Client) (me1 : Int) (node1 : Int) (parent1 : Int) (name1 : Int) : Bool :=
  (bif ((!orangerylaw_lives) || (((client_Shows c1 (orangerylaw_at me1 3)).2) != 0)) then orangerylaw_lives else (bif (((tree_Check ((client_Shows c1 (orangerylaw_at me1 3)).1)) != 0) || (((c1.pending.length : Int) == 0) && ((((client_Shows c1 (orangerylaw_at me1 3)).1).length : Int) != ((c1.v.known.length : Int) + (c1.v.way.length : Int))))) then false else (bif (((client_Move c1 (orangerylaw_at me1 3) node1 parent1 name1).2.2) != 0) then true else (bif (((((client_Shows ((client_Move c1 (orangerylaw_at me1 3) node1 parent1 name1).1) (orangerylaw_at me1 3)).2) != 0) || (((tree_Under ((client_Shows c1 (orangerylaw_at me1 3)).1) (((client_Move c1 (orangerylaw_at me1 3) node1 parent1 name1).2.1).parent) (((client_Move c1 (orangerylaw_at me1 3) node1 parent1 name1).2.1).node)).2) != 0)) || (((((client_Move c1 (orangerylaw_at me1 3) node1 parent1 name1).1).pending).length : Int) != ((c1.pending.length : Int) + 1))) then false else (bif (tree_Under ((client_Shows c1 (orangerylaw_at me1 3)).1) (((client_Move c1 (orangerylaw_at me1 3) node1 parent1 name1).2.1).parent) (((client_Move c1 (orangerylaw_at me1 3) node1 parent1 name1).2.1).node)).1 then (decide (((client_Shows c1 (orangerylaw_at me1 3)).1) = ((client_Shows ((client_Move c1 (orangerylaw_at me1 3) node1 parent1 name1).1) (orangerylaw_at me1 3)).1))) else decide ((tree_Find ((client_Shows ((client_Move c1 (orangerylaw_at me1 3) node1 parent1 name1).1) (orangerylaw_at me1 3)).1) (((client_Move c1 (orangerylaw_at me1 3) node1 parent1 name1).2.1).node)) = (⟨((client_Move c1 (orangerylaw_at me1 3) node1 parent1 name1).2.1).node, ((client_Move c1 (orangerylaw_at me1 3) node1 parent1 name1).2.1).parent, ((client_Move c1 (orangerylaw_at me1 3) node1 parent1 name1).2.1).name⟩ : Place)))))))
theorem orangerylaw_ClientShows_spec (y1 : SlV) (y2 : SlV) (y3 : SlV) (y4 : SlV) (c1 : Client) (me1 : Int) (node1 : Int) (parent1 : Int) (name1 : Int) : Does Try.prog 19 [.agg ⟨[.int .i64 c1.life, .int .i64 c1.time, .int .i64 c1.seq, y1.val c1.pending.length, .int .i64 c1.version, y2.val c1.v.roots.length, y3.val c1.v.known.length, y4.val c1.v.way.length]⟩, .int .i64 me1, .int .i64 node1, .int .i64 parent1, .int .i64 name1] [RdL EOp y1 c1.pending, RdL EInt y2 c1.v.roots, RdL EPlace y3 c1.v.known, RdL EPlace y4 c1.v.way] (fun (_ : Unit) => .bool (orangerylaw_ClientShows c1 me1 node1 parent1 name1)) (fun (_ : Unit) => []) := by
  refine does_of tab_ok Try.func19 rfl Try.ntmps19 Try.results19 rfl inferInstance (fun _ => inferInstance) fun C => ?_
  refine cw_pure (φ := c1.pending.length * 56 ≤ 140737488355328) [RdL EOp y1 c1.pending] Sm (fun M w h => (allF1 h).len) fun hlen1 => ?_
  refine cw_pure (φ := c1.v.roots.length * 8 ≤ 140737488355328) [RdL EInt y2 c1.v.roots] Sm (fun M w h => (allF1 h).len) fun hlen2 => ?_
  refine cw_pure (φ := c1.v.known.length * 24 ≤ 140737488355328) [RdL EPlace y3 c1.v.known] Sm (fun M w h => (allF1 h).len) fun hlen3 => ?_
  refine cw_pure (φ := c1.v.way.length * 24 ≤ 140737488355328) [RdL EPlace y4 c1.v.way] Sm (fun M w h => (allF1 h).len) fun hlen4 => ?_
  (repeat refine cw_seq ?_); refine cw_region ?_
  refine rw_box_agg .sq (guard_none rfl) rfl rfl rfl rfl rfl fun g1 => ?_
  refine Rp rfl rfl rfl rfl ?_
  refine rw_nil ?_
  (repeat refine cw_seq ?_); refine cw_region ?_
  refine Rp rfl rfl rfl rfl ?_
  refine rw_call (orangerylaw_at_spec me1 3 (by omega)) .sq (guard_none rfl) rfl rfl rfl Kr rfl rfl Sm ?_
  intro _
  refine Rp rfl rfl rfl rfl ?_
  refine rw_nil ?_
  (repeat refine cw_seq ?_); refine cw_region ?_
  refine rw_q rfl rfl rfl (q_ldA rfl rfl (fun _ => rfl) rfl Mm rfl) ?_
  refine Rp rfl rfl rfl rfl ?_
  refine rw_call (client_Shows_spec y1 y2 y3 y4 c1 (orangerylaw_at me1 3)) .sq (guard_none rfl) rfl rfl rfl Kr rfl rfl Sm ?_
  intro x1
  refine rw_pure (φ := ((client_Shows c1 (orangerylaw_at me1 3)).1).length * 24 ≤ 140737488355328) [RdL EPlace x1 ((client_Shows c1 (orangerylaw_at me1 3)).1)] Sm (fun M w h => (allF1 h).len) fun hlen5 => ?_
  refine Rp rfl rfl rfl rfl ?_
  refine Rp rfl rfl rfl rfl ?_
  refine Rp rfl rfl rfl rfl ?_
  refine rw_alloc .sq (guard_none rfl) rfl rfl rfl rfl fun g2 => ?_
  refine rw_stA .sq (.inl ⟨_, rfl⟩) (guard_none rfl) rfl rfl rfl rfl rfl rfl rfl rfl rfl Ub rfl ?_
  refine Rp rfl rfl rfl rfl ?_
  refine rw_nil ?_
  (repeat refine cw_seq ?_); refine cw_region ?_
  refine rw_call (orangerylaw_lives_spec ) .sq (guard_none rfl) rfl rfl rfl Kr rfl rfl Sm ?_
  intro _
  refine Rp rfl rfl rfl rfl ?_
  refine Rp rfl rfl rfl rfl ?_
  refine rw_qg (guard_vf rfl rfl rfl) rfl rfl (q_pev rfl Bt) ?_
  refine rw_qg (guard_vf rfl rfl rfl) rfl rfl (q_pev rfl Bt) ?_
  refine rw_q rfl rfl rfl (q_pev rfl Bt) ?_
  refine rw_nil ?_
  (repeat refine cw_seq ?_); refine cw_cond (b := ((!orangerylaw_lives) || (((client_Shows c1 (orangerylaw_at me1 3)).2) != 0))) rfl rfl (fun hc1 => ?_) (fun hc1 => ?_)
  · skip
    (repeat refine cw_seq ?_); refine cw_region ?_
    refine rw_call (orangerylaw_lives_spec ) .sq (guard_none rfl) rfl rfl rfl Kr rfl rfl Sm ?_
    intro _
    refine Rp rfl rfl rfl rfl ?_
    refine rw_nil ?_
    (repeat refine cw_seq ?_)
    have hr1 : (orangerylaw_ClientShows c1 me1 node1 parent1 name1) = orangerylaw_lives := by simp only [orangerylaw_ClientShows, hc1, cond_true, cond_false]
    refine cw_ret ?_
    rw [hr1]
    exact ⟨(), _, (.cons (.tmp rfl) .nil), rfl, Sm, .nil _, .nil _⟩
  · skip
    (repeat refine cw_seq ?_); refine cw_skip ?_
    (repeat refine cw_seq ?_); refine cw_region ?_
    refine rw_q rfl rfl rfl (q_ldA rfl rfl (fun _ => rfl) rfl Mm rfl) ?_
    refine rw_call (tree_Check_spec x1 ((client_Shows c1 (orangerylaw_at me1 3)).1)) .sq (guard_none rfl) rfl rfl rfl Kr rfl rfl Sm ?_
    intro _
    refine Rp rfl rfl rfl rfl ?_
    refine Rp rfl rfl rfl rfl ?_
    refine rw_qg (guard_vf rfl rfl rfl) rfl rfl (q_pev rfl Bt) ?_
    refine rw_qg (guard_vf rfl rfl rfl) rfl rfl (q_ld1 rfl rfl Bt rfl Mm rfl) ?_
    refine rw_qg (guard_vf rfl rfl rfl) rfl rfl (q_pev rfl Bt) ?_
    refine rw_qg (guard_vf rfl rfl rfl) rfl rfl (q_pev rfl Bt) ?_
    refine rw_qg (guard_vf rfl rfl rfl) rfl rfl (q_pev rfl Bt) ?_
    refine rw_qg (guard_ot rfl rfl rfl) rfl rfl (q_pev rfl Bt) ?_
    refine rw_qg (guard_ot rfl rfl rfl) rfl rfl (q_ld1 rfl rfl Bt rfl Mm rfl) ?_
    refine rw_qg (guard_ot rfl rfl rfl) rfl rfl (q_pev rfl Bt) ?_
    refine rw_qg (guard_ot rfl rfl rfl) rfl rfl (q_pev rfl Bt) ?_
    refine rw_qg (guard_ot rfl rfl rfl) rfl rfl (q_pev rfl Bt) ?_
    refine rw_qg (guard_ot rfl rfl rfl) rfl rfl (q_ld1 rfl rfl Bt rfl Mm rfl) ?_
    refine rw_qg (guard_ot rfl rfl rfl) rfl rfl (q_pev rfl Bt) ?_
    refine rw_qg (guard_ot rfl rfl rfl) rfl rfl (q_pev rfl Bt) ?_
    refine rw_qg (guard_ot rfl rfl rfl) rfl rfl (q_pev rfl Bt) ?_
    refine rw_qg (guard_ot rfl rfl rfl) rfl rfl (q_ld1 rfl rfl Bt rfl Mm rfl) ?_
    refine rw_qg (guard_ot rfl rfl rfl) rfl rfl (q_pev rfl Bt) ?_
    refine rw_qg (guard_ot rfl rfl rfl) rfl rfl (q_add rfl rfl Bt rfl Bt (by intro h; first | omega | (simp at h; omega))) ?_
    refine rw_qg (guard_ot rfl rfl rfl) rfl rfl (q_pev rfl Bt) ?_
    refine rw_qg (guard_vf rfl rfl rfl) rfl rfl (q_pev rfl Bt) ?_
    refine rw_q rfl rfl rfl (q_pev rfl Bt) ?_
    refine rw_nil ?_
    (repeat refine cw_seq ?_); refine cw_cond (b := (((tree_Check ((client_Shows c1 (orangerylaw_at me1 3)).1)) != 0) || (((c1.pending.length : Int) == 0) && ((((client_Shows c1 (orangerylaw_at me1 3)).1).length : Int) != ((c1.v.known.length : Int) + (c1.v.way.length : Int)))))) rfl rfl (fun hc2 => ?_) (fun hc2 => ?_)
    · skip
      (repeat refine cw_seq ?_); refine cw_region ?_
      refine Rp rfl rfl rfl rfl ?_
      refine rw_nil ?_
      (repeat refine cw_seq ?_)
      have hr2 : (orangerylaw_ClientShows c1 me1 node1 parent1 name1) = false := by simp only [orangerylaw_ClientShows, hc1, hc2, cond_true, cond_false]
      refine cw_ret ?_
      rw [hr2]
      exact ⟨(), _, (.cons (.tmp rfl) .nil), rfl, Sm, .nil _, .nil _⟩
    · skip
      (repeat refine cw_seq ?_); refine cw_skip ?_
      (repeat refine cw_seq ?_); refine cw_region ?_
      refine rw_q rfl rfl rfl (q_ldA rfl rfl (fun _ => rfl) rfl Mm rfl) ?_
      refine Rp rfl rfl rfl rfl ?_
      refine Rp rfl rfl rfl rfl ?_
      refine Rp rfl rfl rfl rfl ?_
      refine Rp rfl rfl rfl rfl ?_
      refine rw_call (client_Move_spec y1 y2 y3 y4 c1 (orangerylaw_at me1 3) node1 parent1 name1) .sq (guard_none rfl) rfl rfl rfl Kr rfl rfl Sm ?_
      intro x2
      refine rw_pure (φ := (((client_Move c1 (orangerylaw_at me1 3) node1 parent1 name1).1).pending).length * 56 ≤ 140737488355328) [RdL EOp x2.1 (((client_Move c1 (orangerylaw_at me1 3) node1 parent1 name1).1).pending)] Sm (fun M w h => (allF1 h).len) fun hlen6 => ?_
      refine rw_pure (φ := ((((client_Move c1 (orangerylaw_at me1 3) node1 parent1 name1).1).v).roots).length * 8 ≤ 140737488355328) [RdL EInt x2.2.1 ((((client_Move c1 (orangerylaw_at me1 3) node1 parent1 name1).1).v).roots)] Sm (fun M w h => (allF1 h).len) fun hlen7 => ?_
      refine rw_pure (φ := ((((client_Move c1 (orangerylaw_at me1 3) node1 parent1 name1).1).v).known).length * 24 ≤ 140737488355328) [RdL EPlace x2.2.2.1 ((((client_Move c1 (orangerylaw_at me1 3) node1 parent1 name1).1).v).known)] Sm (fun M w h => (allF1 h).len) fun hlen8 => ?_
      refine rw_pure (φ := ((((client_Move c1 (orangerylaw_at me1 3) node1 parent1 name1).1).v).way).length * 24 ≤ 140737488355328) [RdL EPlace x2.2.2.2 ((((client_Move c1 (orangerylaw_at me1 3) node1 parent1 name1).1).v).way)] Sm (fun M w h => (allF1 h).len) fun hlen9 => ?_
      refine Rp rfl rfl rfl rfl ?_
      refine Rp rfl rfl rfl rfl ?_
      refine Rp rfl rfl rfl rfl ?_
      refine Rp rfl rfl rfl rfl ?_
      refine rw_alloc .sq (guard_none rfl) rfl rfl rfl rfl fun g3 => ?_
      refine rw_alloc .sq (guard_none rfl) rfl rfl rfl rfl fun g4 => ?_
      refine rw_stA .sq (.inl ⟨_, rfl⟩) (guard_none rfl) rfl rfl rfl rfl rfl rfl rfl rfl rfl Ub rfl ?_
      refine rw_stA .sq (.inl ⟨_, rfl⟩) (guard_none rfl) rfl rfl rfl rfl rfl rfl rfl rfl rfl Ub rfl ?_
      refine Rp rfl rfl rfl rfl ?_
      refine rw_nil ?_
      (repeat refine cw_seq ?_); refine cw_region ?_
      refine Rp rfl rfl rfl rfl ?_
      refine Rp rfl rfl rfl rfl ?_
      refine rw_nil ?_
      (repeat refine cw_seq ?_); refine cw_cond (b := (((client_Move c1 (orangerylaw_at me1 3) node1 parent1 name1).2.2) != 0)) rfl rfl (fun hc3 => ?_) (fun hc3 => ?_)
      · skip
        have hc3p := bne_iff_ne.1 hc3
        (repeat refine cw_seq ?_); refine cw_region ?_
        refine Rp rfl rfl rfl rfl ?_
        refine rw_nil ?_
        (repeat refine cw_seq ?_)
        have hr3 : (orangerylaw_ClientShows c1 me1 node1 parent1 name1) = true := by simp only [orangerylaw_ClientShows, hc1, hc2, hc3, cond_true, cond_false]
        refine cw_ret ?_
        rw [hr3]
        exact ⟨(), _, (.cons (.tmp rfl) .nil), rfl, Sm, .nil _, .nil _⟩
      · skip
        have hc3p := eq_of_bne_false hc3
        (repeat refine cw_seq ?_); refine cw_skip ?_
        (repeat refine cw_seq ?_); refine cw_region ?_
        refine rw_q rfl rfl rfl (q_ldA rfl rfl (fun _ => rfl) rfl Mm rfl) ?_
        refine Rp rfl rfl rfl rfl ?_
        refine rw_call (client_Shows_spec x2.1 x2.2.1 x2.2.2.1 x2.2.2.2 ((client_Move c1 (orangerylaw_at me1 3) node1 parent1 name1).1) (orangerylaw_at me1 3)) .sq (guard_none rfl) rfl rfl rfl Kr rfl rfl Sm ?_
        intro x3
        refine rw_pure (φ := ((client_Shows ((client_Move c1 (orangerylaw_at me1 3) node1 parent1 name1).1) (orangerylaw_at me1 3)).1).length * 24 ≤ 140737488355328) [RdL EPlace x3 ((client_Shows ((client_Move c1 (orangerylaw_at me1 3) node1 parent1 name1).1) (orangerylaw_at me1 3)).1)] Sm (fun M w h => (allF1 h).len) fun hlen10 => ?_
        refine Rp rfl rfl rfl rfl ?_
        refine Rp rfl rfl rfl rfl ?_
        refine Rp rfl rfl rfl rfl ?_
        refine rw_alloc .sq (guard_none rfl) rfl rfl rfl rfl fun g5 => ?_
        refine rw_stA .sq (.inl ⟨_, rfl⟩) (guard_none rfl) rfl rfl rfl rfl rfl rfl rfl rfl rfl Ub rfl ?_
        refine Rp rfl rfl rfl rfl ?_
        refine rw_nil ?_
        (repeat refine cw_seq ?_); refine cw_region ?_
        refine rw_q rfl rfl rfl (q_ldA rfl rfl (fun _ => rfl) rfl Mm rfl) ?_
        refine Rp rfl rfl rfl rfl ?_
        refine rw_q rfl rfl rfl (q_ld1 rfl rfl (fun _ => rfl) rfl Mm rfl) ?_
        refine Rp rfl rfl rfl rfl ?_
        refine rw_q rfl rfl rfl (q_ld1 rfl rfl (fun _ => rfl) rfl Mm rfl) ?_
        refine rw_call (tree_Under_spec x1 ((client_Shows c1 (orangerylaw_at me1 3)).1) (((client_Move c1 (orangerylaw_at me1 3) node1 parent1 name1).2.1).parent) (((client_Move c1 (orangerylaw_at me1 3) node1 parent1 name1).2.1).node)) .sq (guard_none rfl) rfl rfl rfl Kr rfl rfl Sm ?_
        intro _
        refine Rp rfl rfl rfl rfl ?_
        refine Rp rfl rfl rfl rfl ?_
        refine Rp rfl rfl rfl rfl ?_
        refine Rp rfl rfl rfl rfl ?_
        refine Rp rfl rfl rfl rfl ?_
        refine rw_nil ?_
        (repeat refine cw_seq ?_); refine cw_region ?_
        refine Rp rfl rfl rfl rfl ?_
        refine Rp rfl rfl rfl rfl ?_
        refine Rp rfl rfl rfl rfl ?_
        refine rw_qg (guard_vf rfl rfl rfl) rfl rfl (q_pev rfl Bt) ?_
        refine rw_qg (guard_vf rfl rfl rfl) rfl rfl (q_pev rfl Bt) ?_
        refine rw_q rfl rfl rfl (q_pev rfl Bt) ?_
        refine Rp rfl rfl rfl rfl ?_
        refine rw_qg (guard_vf rfl rfl rfl) rfl rfl (q_pev rfl Bt) ?_
        refine rw_qg (guard_vf rfl rfl rfl) rfl rfl (q_ld1 rfl rfl Bt rfl Mm rfl) ?_
        refine rw_qg (guard_vf rfl rfl rfl) rfl rfl (q_pev rfl Bt) ?_
        refine rw_qg (guard_vf rfl rfl rfl) rfl rfl (q_pev rfl Bt) ?_
        refine rw_qg (guard_vf rfl rfl rfl) rfl rfl (q_ld1 rfl rfl Bt rfl Mm rfl) ?_
        refine rw_qg (guard_vf rfl rfl rfl) rfl rfl (q_pev rfl Bt) ?_
        refine rw_qg (guard_vf rfl rfl rfl) rfl rfl (q_add rfl rfl Bt rfl Bt (by intro h; first | omega | (simp at h; omega))) ?_
        refine rw_qg (guard_vf rfl rfl rfl) rfl rfl (q_pev rfl Bt) ?_
        refine rw_q rfl rfl rfl (q_pev rfl Bt) ?_
        refine rw_nil ?_
        (repeat refine cw_seq ?_); refine cw_cond (b := (((((client_Shows ((client_Move c1 (orangerylaw_at me1 3) node1 parent1 name1).1) (orangerylaw_at me1 3)).2) != 0) || (((tree_Under ((client_Shows c1 (orangerylaw_at me1 3)).1) (((client_Move c1 (orangerylaw_at me1 3) node1 parent1 name1).2.1).parent) (((client_Move c1 (orangerylaw_at me1 3) node1 parent1 name1).2.1).node)).2) != 0)) || (((((client_Move c1 (orangerylaw_at me1 3) node1 parent1 name1).1).pending).length : Int) != ((c1.pending.length : Int) + 1)))) rfl rfl (fun hc4 => ?_) (fun hc4 => ?_)
        · skip
          (repeat refine cw_seq ?_); refine cw_region ?_
          refine Rp rfl rfl rfl rfl ?_
          refine rw_nil ?_
          (repeat refine cw_seq ?_)
          have hr4 : (orangerylaw_ClientShows c1 me1 node1 parent1 name1) = false := by simp only [orangerylaw_ClientShows, hc1, hc2, hc3, hc4, cond_true, cond_false]
          refine cw_ret ?_
          rw [hr4]
          exact ⟨(), _, (.cons (.tmp rfl) .nil), rfl, Sm, .nil _, .nil _⟩
        · skip
          (repeat refine cw_seq ?_); refine cw_skip ?_
          (repeat refine cw_seq ?_); refine cw_region ?_
          refine Rp rfl rfl rfl rfl ?_
          refine rw_nil ?_
          (repeat refine cw_seq ?_); refine cw_cond (b := (tree_Under ((client_Shows c1 (orangerylaw_at me1 3)).1) (((client_Move c1 (orangerylaw_at me1 3) node1 parent1 name1).2.1).parent) (((client_Move c1 (orangerylaw_at me1 3) node1 parent1 name1).2.1).node)).1) rfl rfl (fun hc5 => ?_) (fun hc5 => ?_)
          · skip
            (repeat refine cw_seq ?_); refine cw_region ?_
            refine Rp rfl rfl rfl rfl ?_
            refine rw_q rfl rfl rfl (q_ld1 rfl rfl (fun _ => rfl) rfl Mm rfl) ?_
            refine Rp rfl rfl rfl rfl ?_
            refine rw_q rfl rfl rfl (q_ld1 rfl rfl (fun _ => rfl) rfl Mm rfl) ?_
            refine rw_call ((fun y1 a y2 b => slices_Equal_Place_spec' y1 y2 a b) x1 ((client_Shows c1 (orangerylaw_at me1 3)).1) x3 ((client_Shows ((client_Move c1 (orangerylaw_at me1 3) node1 parent1 name1).1) (orangerylaw_at me1 3)).1)) .sq (guard_none rfl) rfl rfl rfl Kr rfl rfl Sm ?_
            intro _
            refine Rp rfl rfl rfl rfl ?_
            refine rw_nil ?_
            (repeat refine cw_seq ?_)
            have hr5 : (orangerylaw_ClientShows c1 me1 node1 parent1 name1) = (decide (((client_Shows c1 (orangerylaw_at me1 3)).1) = ((client_Shows ((client_Move c1 (orangerylaw_at me1 3) node1 parent1 name1).1) (orangerylaw_at me1 3)).1))) := by simp only [orangerylaw_ClientShows, hc1, hc2, hc3, hc4, hc5, cond_true, cond_false]
            refine cw_ret ?_
            rw [hr5]
            exact ⟨(), _, (.cons (.tmp rfl) .nil), rfl, Sm, .nil _, .nil _⟩
          · skip
            (repeat refine cw_seq ?_); refine cw_skip ?_
            (repeat refine cw_seq ?_); refine cw_regionA (fun _ => some []) ?_
            refine ra_q (.ab (i := 0) (js := [1, 2, 4, 5, 6, 7, 8, 9, 10]) [3, 11, 12] rfl Kr Kr Kr Kr Kr) (SplitB.all _) (by simp) rfl rfl rfl (q_ldA rfl rfl (fun _ => rfl) rfl Mm rfl) ?_
            refine ra_q (.ab (i := 1) (js := [4, 5, 6, 7, 8, 9, 10]) [2, 3, 11, 12] rfl Kr Kr Kr Kr Kr) (SplitB.all _) (by simp) rfl rfl rfl (q_pev rfl (fun _ => rfl)) ?_
            refine ra_q (.ab (i := 2) (js := [4, 5, 6, 7, 8, 9, 10]) [3, 11, 12] rfl Kr Kr Kr Kr Kr) (SplitB.all _) (by simp) rfl rfl rfl (q_ld1 rfl rfl (fun _ => rfl) rfl Mm rfl) ?_
            refine ra_q (.ab (i := 4) (js := [3, 6, 7, 8, 9]) [5, 10, 11, 12] rfl Kr Kr Kr Kr Kr) (SplitB.all _) (by simp) rfl rfl rfl (q_pev rfl (fun _ => rfl)) ?_
            refine ra_q (.ab (i := 5) (js := [3, 6, 7, 8, 9]) [10, 11, 12] rfl Kr Kr Kr Kr Kr) (SplitB.all _) (by simp) rfl rfl rfl (q_ld1 rfl rfl (fun _ => rfl) rfl Mm rfl) ?_
            refine ra_q (.ab (i := 6) (js := [3, 8, 9]) [7, 10, 11, 12] rfl Kr Kr Kr Kr Kr) (SplitB.all _) (by simp) rfl rfl rfl (q_pev rfl (fun _ => rfl)) ?_
            refine ra_q (.ab (i := 7) (js := [3, 8, 9]) [10, 11, 12] rfl Kr Kr Kr Kr Kr) (SplitB.all _) (by simp) rfl rfl rfl (q_ld1 rfl rfl (fun _ => rfl) rfl Mm rfl) ?_
            refine ra_q (.ab (i := 8) (js := [3]) [9, 10, 11, 12] rfl Kr Kr Kr Kr Kr) (SplitB.all _) (by simp) rfl rfl rfl (q_pev rfl (fun _ => rfl)) ?_
            refine ra_q (.ab (i := 9) (js := [3]) [10, 11, 12] rfl Kr Kr Kr Kr Kr) (SplitB.all _) (by simp) rfl rfl rfl (q_ld1 rfl rfl (fun _ => rfl) rfl Mm rfl) ?_
            refine ra_q (.an (i := 10) (js := [3]) rfl Kr Kr Kr Kr) (SplitB.all _) (by simp) rfl rfl rfl (q_pev rfl (fun _ => rfl)) ?_
            refine ra_one 3 Kr ?_
            refine rw_call (tree_Find_spec x3 ((client_Shows ((client_Move c1 (orangerylaw_at me1 3) node1 parent1 name1).1) (orangerylaw_at me1 3)).1) (((client_Move c1 (orangerylaw_at me1 3) node1 parent1 name1).2.1).node)) (.an rfl rfl) (guard_none rfl) rfl rfl rfl Kr rfl rfl Sm ?_
            intro _
            refine ra_q (.an (i := 11) (js := []) rfl Kr Kr Kr Kr) (SplitB.all _) (by simp) rfl rfl rfl (q_eqE eqT_Place (flatEq_Place (tree_Find ((client_Shows ((client_Move c1 (orangerylaw_at me1 3) node1 parent1 name1).1) (orangerylaw_at me1 3)).1) (((client_Move c1 (orangerylaw_at me1 3) node1 parent1 name1).2.1).node)) (⟨((client_Move c1 (orangerylaw_at me1 3) node1 parent1 name1).2.1).node, ((client_Move c1 (orangerylaw_at me1 3) node1 parent1 name1).2.1).parent, ((client_Move c1 (orangerylaw_at me1 3) node1 parent1 name1).2.1).name⟩ : Place)) rfl rfl (fun _ => rfl) rfl (fun _ => rfl) rfl rfl) ?_
            refine ra_q (.an (i := 12) (js := []) rfl Kr Kr Kr Kr) (SplitB.all _) (by simp) rfl rfl rfl (q_pev rfl (fun _ => rfl)) ?_
            refine ra_nil Kr ?_
            (repeat refine cw_seq ?_)
            have hr6 : (orangerylaw_ClientShows c1 me1 node1 parent1 name1) = decide ((tree_Find ((client_Shows ((client_Move c1 (orangerylaw_at me1 3) node1 parent1 name1).1) (orangerylaw_at me1 3)).1) (((client_Move c1 (orangerylaw_at me1 3) node1 parent1 name1).2.1).node)) = (⟨((client_Move c1 (orangerylaw_at me1 3) node1 parent1 name1).2.1).node, ((client_Move c1 (orangerylaw_at me1 3) node1 parent1 name1).2.1).parent, ((client_Move c1 (orangerylaw_at me1 3) node1 parent1 name1).2.1).name⟩ : Place)) := by simp only [orangerylaw_ClientShows, hc1, hc2, hc3, hc4, hc5, cond_true, cond_false]
            refine cw_ret ?_
            rw [hr6]
            exact ⟨(), _, (.cons (.tmp rfl) .nil), rfl, Sm, .nil _, .nil _⟩
end Go.Proofs.Ytchdacbjiomplaa
