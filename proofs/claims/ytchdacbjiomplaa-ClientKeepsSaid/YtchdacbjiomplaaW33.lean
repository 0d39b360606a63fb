/- Part of this claim. No condition. -/
import Derived.Test.YtchdacbjiomplaaW32
set_option linter.unusedVariables false
set_option linter.unusedSimpArgs false
namespace Go.Proofs.Ytchdacbjiomplaa
open Go Go.Proofs.Ytchdacbjiomplaa.Fw Go.Proofs
attribute [local irreducible] RdL RdN VarP
def orangerylaw_ClientKeeps_L0 (m1 : Mail) : List Op → Bool
  | [] => true
  | pn1 :: rn1 => (bif decide ((pn1.seq) > m1.seq) then false else (orangerylaw_ClientKeeps_L0 m1 rn1))
def orangerylaw_ClientKeeps (c1 : Client) (me1 : Int) (m1 : Mail) : Bool :=
  (bif ((!orangerylaw_lives) || (((client_Hear c1 me1 m1).2) != 0)) then orangerylaw_lives else (bif (((((((((client_Hear ((client_Hear c1 me1 m1).1) me1 m1).2) != 0) || (!(client_Same ((client_Hear c1 me1 m1).1) ((client_Hear ((client_Hear c1 me1 m1).1) me1 m1).1)))) || ((client_Check ((client_Hear c1 me1 m1).1) me1) != 0)) || decide ((((client_Hear c1 me1 m1).1).version) < c1.version)) || decide ((((client_Hear c1 me1 m1).1).time) < c1.time)) || ((((client_Hear c1 me1 m1).1).life) != c1.life)) || ((((client_Hear c1 me1 m1).1).seq) != c1.seq)) then false else (bif (decide (((c1.pending.length : Int) - ((((client_Hear c1 me1 m1).1).pending).length : Int)) < 0) || (!(decide ((((client_Hear c1 me1 m1).1).pending) = (c1.pending.drop (c1.pending.length - (((client_Hear c1 me1 m1).1).pending).length)))))) then false else (orangerylaw_ClientKeeps_L0 m1 (c1.pending.take (c1.pending.length - (((client_Hear c1 me1 m1).1).pending).length))))))
theorem orangerylaw_ClientKeeps_spec (y1 : SlV) (y2 : SlV) (y3 : SlV) (y4 : SlV) (c1 : Client) (me1 : Int) (y5 : SlV) (y6 : SlV) (y7 : SlV) (y8 : SlV) (y9 : SlV) (y10 : SlV) (y11 : SlV) (m1 : Mail) : Does Try.prog 18 [.agg ⟨[.int .i64 c1.life, .int .i64 c1.time, .int .i64 c1.seq, y1.val c1.pending.length, .int .i64 c1.version, y2.val c1.v.roots.length, y3.val c1.v.known.length, y4.val c1.v.way.length]⟩, .int .i64 me1, .agg ⟨[.int .i64 m1.kind, .int .i64 m1.who, .int .i64 m1.life, .int .i64 m1.seq, .int .i64 m1.time, .int .i64 m1.version, .int .i64 m1.frm, .int .i64 m1.o.time, .int .i64 m1.o.who, .int .i64 m1.o.node, .int .i64 m1.o.parent, .int .i64 m1.o.name, .int .i64 m1.o.life, .int .i64 m1.o.seq, y5.val m1.v.roots.length, y6.val m1.v.known.length, y7.val m1.v.way.length, y8.val m1.d.gone.length, y9.val m1.d.here.length, y10.val m1.d.wayGone.length, y11.val m1.d.wayHere.length]⟩] [RdL EOp y1 c1.pending, RdL EInt y2 c1.v.roots, RdL EPlace y3 c1.v.known, RdL EPlace y4 c1.v.way, RdL EInt y5 m1.v.roots, RdL EPlace y6 m1.v.known, RdL EPlace y7 m1.v.way, RdL EInt y8 m1.d.gone, RdL EPlace y9 m1.d.here, RdL EInt y10 m1.d.wayGone, RdL EPlace y11 m1.d.wayHere] (fun (_ : Unit) => .bool (orangerylaw_ClientKeeps c1 me1 m1)) (fun (_ : Unit) => []) := by
  refine does_of tab_ok Try.func18 rfl Try.ntmps18 Try.results18 rfl inferInstance (fun _ => inferInstance) fun C => ?_
  refine cw_pure (φ := c1.pending.length * 56 ≤ 140737488355328) [RdL EOp y1 c1.pending] Sm (fun M w h => (allF1 h).len) fun hlen1 => ?_
  refine cw_pure (φ := c1.v.roots.length * 8 ≤ 140737488355328) [RdL EInt y2 c1.v.roots] Sm (fun M w h => (allF1 h).len) fun hlen2 => ?_
  refine cw_pure (φ := c1.v.known.length * 24 ≤ 140737488355328) [RdL EPlace y3 c1.v.known] Sm (fun M w h => (allF1 h).len) fun hlen3 => ?_
  refine cw_pure (φ := c1.v.way.length * 24 ≤ 140737488355328) [RdL EPlace y4 c1.v.way] Sm (fun M w h => (allF1 h).len) fun hlen4 => ?_
  refine cw_pure (φ := m1.v.roots.length * 8 ≤ 140737488355328) [RdL EInt y5 m1.v.roots] Sm (fun M w h => (allF1 h).len) fun hlen5 => ?_
  refine cw_pure (φ := m1.v.known.length * 24 ≤ 140737488355328) [RdL EPlace y6 m1.v.known] Sm (fun M w h => (allF1 h).len) fun hlen6 => ?_
  refine cw_pure (φ := m1.v.way.length * 24 ≤ 140737488355328) [RdL EPlace y7 m1.v.way] Sm (fun M w h => (allF1 h).len) fun hlen7 => ?_
  refine cw_pure (φ := m1.d.gone.length * 8 ≤ 140737488355328) [RdL EInt y8 m1.d.gone] Sm (fun M w h => (allF1 h).len) fun hlen8 => ?_
  refine cw_pure (φ := m1.d.here.length * 24 ≤ 140737488355328) [RdL EPlace y9 m1.d.here] Sm (fun M w h => (allF1 h).len) fun hlen9 => ?_
  refine cw_pure (φ := m1.d.wayGone.length * 8 ≤ 140737488355328) [RdL EInt y10 m1.d.wayGone] Sm (fun M w h => (allF1 h).len) fun hlen10 => ?_
  refine cw_pure (φ := m1.d.wayHere.length * 24 ≤ 140737488355328) [RdL EPlace y11 m1.d.wayHere] Sm (fun M w h => (allF1 h).len) fun hlen11 => ?_
  (repeat refine cw_seq ?_); refine cw_region ?_
  refine rw_box_agg .sq (guard_none rfl) rfl rfl rfl rfl rfl fun g1 => ?_
  refine rw_box_agg .sq (guard_none rfl) rfl rfl rfl rfl rfl fun g2 => ?_
  refine Rp rfl rfl rfl rfl ?_
  refine rw_nil ?_
  (repeat refine cw_seq ?_); refine cw_region ?_
  refine rw_q rfl rfl rfl (q_ldA rfl rfl (fun _ => rfl) rfl Mm rfl) ?_
  refine Rp rfl rfl rfl rfl ?_
  refine rw_q rfl rfl rfl (q_ldA rfl rfl (fun _ => rfl) rfl Mm rfl) ?_
  refine rw_call (client_Hear_spec y1 y2 y3 y4 c1 me1 y5 y6 y7 y8 y9 y10 y11 m1) .sq (guard_none rfl) rfl rfl rfl Kr rfl rfl Sm ?_
  intro x1
  refine rw_pure (φ := (((client_Hear c1 me1 m1).1).pending).length * 56 ≤ 140737488355328) [RdL EOp x1.1 (((client_Hear c1 me1 m1).1).pending)] Sm (fun M w h => (allF1 h).len) fun hlen12 => ?_
  refine rw_pure (φ := ((((client_Hear c1 me1 m1).1).v).roots).length * 8 ≤ 140737488355328) [RdL EInt x1.2.1 ((((client_Hear c1 me1 m1).1).v).roots)] Sm (fun M w h => (allF1 h).len) fun hlen13 => ?_
  refine rw_pure (φ := ((((client_Hear c1 me1 m1).1).v).known).length * 24 ≤ 140737488355328) [RdL EPlace x1.2.2.1 ((((client_Hear c1 me1 m1).1).v).known)] Sm (fun M w h => (allF1 h).len) fun hlen14 => ?_
  refine rw_pure (φ := ((((client_Hear c1 me1 m1).1).v).way).length * 24 ≤ 140737488355328) [RdL EPlace x1.2.2.2 ((((client_Hear c1 me1 m1).1).v).way)] Sm (fun M w h => (allF1 h).len) fun hlen15 => ?_
  refine Rp rfl rfl rfl rfl ?_
  refine Rp rfl rfl rfl rfl ?_
  refine Rp rfl rfl rfl rfl ?_
  refine rw_alloc .sq (guard_none rfl) rfl rfl rfl rfl fun g3 => ?_
  refine rw_stA .sq (.inl ⟨_, rfl⟩) (guard_none rfl) rfl rfl rfl rfl rfl rfl rfl rfl rfl Ub rfl ?_
  refine Rp rfl rfl rfl rfl ?_
  refine rw_nil ?_
  (repeat refine cw_seq ?_); refine cw_region ?_
  refine rw_call (orangerylaw_lives_spec ) .sq (guard_none rfl) rfl rfl rfl Kr rfl rfl Sm ?_
  intro _
  refine Rp rfl rfl rfl rfl ?_
  refine Rp rfl rfl rfl rfl ?_
  refine rw_qg (guard_vf rfl rfl rfl) rfl rfl (q_pev rfl Bt) ?_
  refine rw_qg (guard_vf rfl rfl rfl) rfl rfl (q_pev rfl Bt) ?_
  refine rw_q rfl rfl rfl (q_pev rfl Bt) ?_
  refine rw_nil ?_
  (repeat refine cw_seq ?_); refine cw_cond (b := ((!orangerylaw_lives) || (((client_Hear c1 me1 m1).2) != 0))) rfl rfl (fun hc1 => ?_) (fun hc1 => ?_)
  · skip
    (repeat refine cw_seq ?_); refine cw_region ?_
    refine rw_call (orangerylaw_lives_spec ) .sq (guard_none rfl) rfl rfl rfl Kr rfl rfl Sm ?_
    intro _
    refine Rp rfl rfl rfl rfl ?_
    refine rw_nil ?_
    (repeat refine cw_seq ?_)
    have hr1 : (orangerylaw_ClientKeeps c1 me1 m1) = orangerylaw_lives := by simp only [orangerylaw_ClientKeeps, hc1, cond_true, cond_false]
    refine cw_ret ?_
    rw [hr1]
    exact ⟨(), _, (.cons (.tmp rfl) .nil), rfl, Sm, .nil _, .nil _⟩
  · skip
    (repeat refine cw_seq ?_); refine cw_skip ?_
    (repeat refine cw_seq ?_); refine cw_region ?_
    refine rw_q rfl rfl rfl (q_ldA rfl rfl (fun _ => rfl) rfl Mm rfl) ?_
    refine Rp rfl rfl rfl rfl ?_
    refine rw_q rfl rfl rfl (q_ldA rfl rfl (fun _ => rfl) rfl Mm rfl) ?_
    refine rw_call (client_Hear_spec x1.1 x1.2.1 x1.2.2.1 x1.2.2.2 ((client_Hear c1 me1 m1).1) me1 y5 y6 y7 y8 y9 y10 y11 m1) .sq (guard_none rfl) rfl rfl rfl Kr rfl rfl Sm ?_
    intro x2
    refine rw_pure (φ := (((client_Hear ((client_Hear c1 me1 m1).1) me1 m1).1).pending).length * 56 ≤ 140737488355328) [RdL EOp x2.1 (((client_Hear ((client_Hear c1 me1 m1).1) me1 m1).1).pending)] Sm (fun M w h => (allF1 h).len) fun hlen16 => ?_
    refine rw_pure (φ := ((((client_Hear ((client_Hear c1 me1 m1).1) me1 m1).1).v).roots).length * 8 ≤ 140737488355328) [RdL EInt x2.2.1 ((((client_Hear ((client_Hear c1 me1 m1).1) me1 m1).1).v).roots)] Sm (fun M w h => (allF1 h).len) fun hlen17 => ?_
    refine rw_pure (φ := ((((client_Hear ((client_Hear c1 me1 m1).1) me1 m1).1).v).known).length * 24 ≤ 140737488355328) [RdL EPlace x2.2.2.1 ((((client_Hear ((client_Hear c1 me1 m1).1) me1 m1).1).v).known)] Sm (fun M w h => (allF1 h).len) fun hlen18 => ?_
    refine rw_pure (φ := ((((client_Hear ((client_Hear c1 me1 m1).1) me1 m1).1).v).way).length * 24 ≤ 140737488355328) [RdL EPlace x2.2.2.2 ((((client_Hear ((client_Hear c1 me1 m1).1) me1 m1).1).v).way)] Sm (fun M w h => (allF1 h).len) fun hlen19 => ?_
    refine Rp rfl rfl rfl rfl ?_
    refine Rp rfl rfl rfl rfl ?_
    refine Rp rfl rfl rfl rfl ?_
    refine rw_alloc .sq (guard_none rfl) rfl rfl rfl rfl fun g4 => ?_
    refine rw_stA .sq (.inl ⟨_, rfl⟩) (guard_none rfl) rfl rfl rfl rfl rfl rfl rfl rfl rfl Ub rfl ?_
    refine Rp rfl rfl rfl rfl ?_
    refine rw_nil ?_
    (repeat refine cw_seq ?_); refine cw_region ?_
    refine Rp rfl rfl rfl rfl ?_
    refine Rp rfl rfl rfl rfl ?_
    refine Rp rfl rfl rfl rfl ?_
    refine rw_qg (guard_vf rfl rfl rfl) rfl rfl (q_ldA rfl rfl Bt rfl Mm rfl) ?_
    refine rw_qg (guard_vf rfl rfl rfl) rfl rfl (q_ldA rfl rfl Bt rfl Mm rfl) ?_
    refine rw_callg (fun hG_ => client_Same_spec x1.1 x1.2.1 x1.2.2.1 x1.2.2.2 ((client_Hear c1 me1 m1).1) x2.1 x2.2.1 x2.2.2.1 x2.2.2.2 ((client_Hear ((client_Hear c1 me1 m1).1) me1 m1).1)) (fun _ => rfl) .sq (guard_vf rfl rfl rfl) rfl rfl rfl Kr rfl Bt Sm ?_
    refine rw_qg (guard_vf rfl rfl rfl) rfl rfl (q_pev rfl Bt) ?_
    refine rw_q rfl rfl rfl (q_pev rfl Bt) ?_
    refine Rp rfl rfl rfl rfl ?_
    refine rw_qg (guard_vf rfl rfl rfl) rfl rfl (q_ldA rfl rfl Bt rfl Mm rfl) ?_
    refine rw_qg (guard_vf rfl rfl rfl) rfl rfl (q_pev rfl Bt) ?_
    refine rw_callg (fun hG_ => client_Check_spec x1.1 x1.2.1 x1.2.2.1 x1.2.2.2 ((client_Hear c1 me1 m1).1) me1) (fun _ => rfl) .sq (guard_vf rfl rfl rfl) rfl rfl rfl Kr rfl Bt Sm ?_
    refine rw_qg (guard_vf rfl rfl rfl) rfl rfl (q_pev rfl Bt) ?_
    refine rw_q rfl rfl rfl (q_pev rfl Bt) ?_
    refine Rp rfl rfl rfl rfl ?_
    refine rw_qg (guard_vf rfl rfl rfl) rfl rfl (q_pev rfl Bt) ?_
    refine rw_qg (guard_vf rfl rfl rfl) rfl rfl (q_ld1 rfl rfl Bt rfl Mm rfl) ?_
    refine rw_qg (guard_vf rfl rfl rfl) rfl rfl (q_pev rfl Bt) ?_
    refine rw_qg (guard_vf rfl rfl rfl) rfl rfl (q_ld1 rfl rfl Bt rfl Mm rfl) ?_
    refine rw_qg (guard_vf rfl rfl rfl) rfl rfl (q_pev rfl Bt) ?_
    refine rw_q rfl rfl rfl (q_pev rfl Bt) ?_
    refine Rp rfl rfl rfl rfl ?_
    refine rw_qg (guard_vf rfl rfl rfl) rfl rfl (q_pev rfl Bt) ?_
    refine rw_qg (guard_vf rfl rfl rfl) rfl rfl (q_ld1 rfl rfl Bt rfl Mm rfl) ?_
    refine rw_qg (guard_vf rfl rfl rfl) rfl rfl (q_pev rfl Bt) ?_
    refine rw_qg (guard_vf rfl rfl rfl) rfl rfl (q_ld1 rfl rfl Bt rfl Mm rfl) ?_
    refine rw_qg (guard_vf rfl rfl rfl) rfl rfl (q_pev rfl Bt) ?_
    refine rw_q rfl rfl rfl (q_pev rfl Bt) ?_
    refine Rp rfl rfl rfl rfl ?_
    refine rw_qg (guard_vf rfl rfl rfl) rfl rfl (q_pev rfl Bt) ?_
    refine rw_qg (guard_vf rfl rfl rfl) rfl rfl (q_ld1 rfl rfl Bt rfl Mm rfl) ?_
    refine rw_qg (guard_vf rfl rfl rfl) rfl rfl (q_pev rfl Bt) ?_
    refine rw_qg (guard_vf rfl rfl rfl) rfl rfl (q_ld1 rfl rfl Bt rfl Mm rfl) ?_
    refine rw_qg (guard_vf rfl rfl rfl) rfl rfl (q_pev rfl Bt) ?_
    refine rw_q rfl rfl rfl (q_pev rfl Bt) ?_
    refine Rp rfl rfl rfl rfl ?_
    refine rw_qg (guard_vf rfl rfl rfl) rfl rfl (q_pev rfl Bt) ?_
    refine rw_qg (guard_vf rfl rfl rfl) rfl rfl (q_ld1 rfl rfl Bt rfl Mm rfl) ?_
    refine rw_qg (guard_vf rfl rfl rfl) rfl rfl (q_pev rfl Bt) ?_
    refine rw_qg (guard_vf rfl rfl rfl) rfl rfl (q_ld1 rfl rfl Bt rfl Mm rfl) ?_
    refine rw_qg (guard_vf rfl rfl rfl) rfl rfl (q_pev rfl Bt) ?_
    refine rw_q rfl rfl rfl (q_pev rfl Bt) ?_
    refine rw_nil ?_
    (repeat refine cw_seq ?_); refine cw_cond (b := (((((((((client_Hear ((client_Hear c1 me1 m1).1) me1 m1).2) != 0) || (!(client_Same ((client_Hear c1 me1 m1).1) ((client_Hear ((client_Hear c1 me1 m1).1) me1 m1).1)))) || ((client_Check ((client_Hear c1 me1 m1).1) me1) != 0)) || decide ((((client_Hear c1 me1 m1).1).version) < c1.version)) || decide ((((client_Hear c1 me1 m1).1).time) < c1.time)) || ((((client_Hear c1 me1 m1).1).life) != c1.life)) || ((((client_Hear c1 me1 m1).1).seq) != c1.seq))) rfl rfl (fun hc2 => ?_) (fun hc2 => ?_)
    · skip
      (repeat refine cw_seq ?_); refine cw_region ?_
      refine Rp rfl rfl rfl rfl ?_
      refine rw_nil ?_
      (repeat refine cw_seq ?_)
      have hr2 : (orangerylaw_ClientKeeps c1 me1 m1) = false := by simp only [orangerylaw_ClientKeeps, hc1, hc2, cond_true, cond_false]
      refine cw_ret ?_
      rw [hr2]
      exact ⟨(), _, (.cons (.tmp rfl) .nil), rfl, Sm, .nil _, .nil _⟩
    · skip
      (repeat refine cw_seq ?_); refine cw_skip ?_
      (repeat refine cw_seq ?_); refine cw_region ?_
      refine Rp rfl rfl rfl rfl ?_
      refine rw_q rfl rfl rfl (q_ld1 rfl rfl (fun _ => rfl) rfl Mm rfl) ?_
      refine Rp rfl rfl rfl rfl ?_
      refine Rp rfl rfl rfl rfl ?_
      refine rw_q rfl rfl rfl (q_ld1 rfl rfl (fun _ => rfl) rfl Mm rfl) ?_
      refine Rp rfl rfl rfl rfl ?_
      refine rw_q rfl rfl rfl (q_sub rfl rfl (fun _ => rfl) rfl (fun _ => rfl) (fun _ => by omega)) ?_
      refine Rp rfl rfl rfl rfl ?_
      refine rw_nil ?_
      (repeat refine cw_seq ?_); refine cw_regionA (fun _ => some []) ?_
      refine ra_q (.ab (i := 0) (js := []) [1, 2, 3, 4, 5, 6, 7, 8, 9, 10, 11] rfl Kr Kr Kr Kr Kr) (SplitB.all _) (by simp) rfl rfl rfl (q_pev rfl (fun _ => rfl)) ?_
      refine ra_q (.ab (i := 1) (js := []) [2, 3, 4, 5, 6, 7, 8, 9, 10, 11] rfl Kr Kr Kr Kr Kr) (SplitB.all _) (by simp) rfl rfl rfl (q_pev rfl (fun _ => rfl)) ?_
      refine ra_q (.an (i := 2) (js := []) rfl Kr Kr Kr Kr) (SplitB.all _) (by simp) rfl rfl rfl (q_pev rfl (fun _ => rfl)) ?_
      refine ra_qg (.ab (i := 3) (js := [5, 6, 7, 8]) [4, 9, 10, 11] rfl Kr Kr Kr Kr Kr) (SplitB.all _) (by simp) (guard_vf rfl rfl rfl) rfl rfl (q_pev rfl Bt) ?_
      refine ra_qg (.ab (i := 4) (js := [5, 6, 7, 8]) [9, 10, 11] rfl Kr Kr Kr Kr Kr) (SplitB.all _) (by simp) (guard_vf rfl rfl rfl) rfl rfl (q_ld1 rfl rfl Bt rfl Mm rfl) ?_
      refine ra_qg (.ab (i := 5) (js := [7]) [6, 8, 9, 10, 11] rfl Kr Kr Kr Kr Kr) (SplitB.all _) (by simp) (guard_vf rfl rfl rfl) rfl rfl (q_pev rfl Bt) ?_
      refine ra_qg (.ab (i := 6) (js := [7]) [8, 9, 10, 11] rfl Kr Kr Kr Kr Kr) (SplitB.all _) (by simp) (guard_vf rfl rfl rfl) rfl rfl (q_ld1 rfl rfl Bt rfl Mm rfl) ?_
      refine ra_qg (.ab (i := 7) (js := []) [8, 9, 10, 11] rfl Kr Kr Kr Kr Kr) (SplitB.all _) (by simp) (guard_vf rfl rfl rfl) rfl rfl (q_pev rfl Bt) ?_
      refine ra_qg (.ab (i := 8) (js := []) [9, 10, 11] rfl Kr Kr Kr Kr Kr) (SplitB.all _) (by simp) (guard_vf rfl rfl rfl) rfl rfl (q_drop EOp (c1.pending.length - (((client_Hear c1 me1 m1).1).pending).length) rfl rfl Bt rfl Bt rfl rfl (by intro h; first | omega | (simp at h; omega)) (by intro h; first | omega | (simp at h; omega))) ?_
      refine rw_fact (F := RdL EOp (⟨slA y1.a y1.c (c1.pending.length - (((client_Hear c1 me1 m1).1).pending).length) EOp.esz, y1.c - (c1.pending.length - (((client_Hear c1 me1 m1).1).pending).length)⟩ : SlV) (c1.pending.drop (c1.pending.length - (((client_Hear c1 me1 m1).1).pending).length))) [RdL EOp y1 c1.pending] Sm (fun M w h => (allF1 h).drop _ (by omega)) ?_
      refine ra_one 9 Kr ?_
      refine rw_callg (fun hG_ => (fun y1 a y2 b => slices_Equal_Op_spec' y1 y2 a b) x1.1 (((client_Hear c1 me1 m1).1).pending) (⟨slA y1.a y1.c (c1.pending.length - (((client_Hear c1 me1 m1).1).pending).length) EOp.esz, y1.c - (c1.pending.length - (((client_Hear c1 me1 m1).1).pending).length)⟩ : SlV) (c1.pending.drop (c1.pending.length - (((client_Hear c1 me1 m1).1).pending).length))) (fun _ => rfl) (.an rfl rfl) (guard_vf rfl rfl rfl) rfl rfl rfl Kr rfl Bt Sm ?_
      refine ra_qg (.an (i := 10) (js := []) rfl Kr Kr Kr Kr) (SplitB.all _) (by simp) (guard_vf rfl rfl rfl) rfl rfl (q_pev rfl Bt) ?_
      refine ra_q (.an (i := 11) (js := []) rfl Kr Kr Kr Kr) (SplitB.all _) (by simp) rfl rfl rfl (q_pev rfl Bt) ?_
      refine ra_nil Kr ?_
      (repeat refine cw_seq ?_); refine cw_cond (b := (decide (((c1.pending.length : Int) - ((((client_Hear c1 me1 m1).1).pending).length : Int)) < 0) || (!(decide ((((client_Hear c1 me1 m1).1).pending) = (c1.pending.drop (c1.pending.length - (((client_Hear c1 me1 m1).1).pending).length))))))) rfl rfl (fun hc3 => ?_) (fun hc3 => ?_)
      · skip
        (repeat refine cw_seq ?_); refine cw_region ?_
        refine Rp rfl rfl rfl rfl ?_
        refine rw_nil ?_
        (repeat refine cw_seq ?_)
        have hr3 : (orangerylaw_ClientKeeps c1 me1 m1) = false := by simp only [orangerylaw_ClientKeeps, hc1, hc2, hc3, cond_true, cond_false]
        refine cw_ret ?_
        rw [hr3]
        exact ⟨(), _, (.cons (.tmp rfl) .nil), rfl, Sm, .nil _, .nil _⟩
      · skip
        have hn0 := of_decide_eq_false (Bool.or_eq_false_iff.1 hc3).1
        (repeat refine cw_seq ?_); refine cw_skip ?_
        (repeat refine cw_seq ?_); refine cw_region ?_
        refine Rp rfl rfl rfl rfl ?_
        refine rw_q rfl rfl rfl (q_ld1 rfl rfl (fun _ => rfl) rfl Mm rfl) ?_
        refine Rp rfl rfl rfl rfl ?_
        refine rw_q rfl rfl rfl (q_take EOp (c1.pending.length - (((client_Hear c1 me1 m1).1).pending).length) rfl rfl (fun _ => rfl) rfl (fun _ => rfl) rfl rfl Mm (fun _ => by omega) (fun _ => by omega)) ?_
        refine rw_fact (F := RdL EOp y1 (c1.pending.take (c1.pending.length - (((client_Hear c1 me1 m1).1).pending).length))) [RdL EOp y1 c1.pending] Sm (fun M w h => (allF1 h).take _) ?_
        refine Rp rfl rfl rfl rfl ?_
        refine Rp rfl rfl rfl rfl ?_
        refine rw_nil ?_
        (repeat refine cw_seq ?_); refine cw_block ?_
        refine cw_pure (φ := (c1.pending.take (c1.pending.length - (((client_Hear c1 me1 m1).1).pending).length)).length * 56 ≤ 140737488355328) [RdL EOp y1 (c1.pending.take (c1.pending.length - (((client_Hear c1 me1 m1).1).pending).length))] Sm (fun M w h => (allF1 h).len) fun hlen20 => ?_
        (repeat refine cw_seq ?_); refine cw_loopS [5, 6, 98, 99] [true, true, true, true] (fun (n1 : Nat) => [(100, .v (.int .i64 (n1 : Int)))]) (fun (n1 : Nat) => []) (fun (n1 : Nat) => []) (fun (n1 : Nat) => []) (fun (n1 : Nat) => (n1 ≤ (c1.pending.take (c1.pending.length - (((client_Hear c1 me1 m1).1).pending).length)).length) ∧ (orangerylaw_ClientKeeps_L0 m1 ((c1.pending.take (c1.pending.length - (((client_Hear c1 me1 m1).1).pending).length)).drop n1)) = (orangerylaw_ClientKeeps c1 me1 m1)) (fun (n1 : Nat) => (c1.pending.take (c1.pending.length - (((client_Hear c1 me1 m1).1).pending).length)).length - n1) 0 (.cons rfl (.cons rfl (.cons rfl (.cons rfl (.nil _))))) (.keep (.keep (.keep (.keep (.nil))))) ⟨Nat.zero_le _, (by simp only [orangerylaw_ClientKeeps, hc1, hc2, hc3, cond_true, cond_false] : (orangerylaw_ClientKeeps c1 me1 m1) = (orangerylaw_ClientKeeps_L0 m1 (c1.pending.take (c1.pending.length - (((client_Hear c1 me1 m1).1).pending).length)))).symm⟩ Le4 ?_
        rintro n1 ⟨hkn1, hf1⟩
        simp only [List.cons_append, List.nil_append]
        (repeat refine cw_seq ?_); refine cw_region ?_
        refine Rp rfl rfl rfl rfl ?_
        refine rw_nil ?_
        (repeat refine cw_seq ?_); refine cw_cond (b := decide ((n1 : Int) < ((c1.pending.take (c1.pending.length - (((client_Hear c1 me1 m1).1).pending).length)).length : Int))) rfl rfl (fun hc4 => ?_) (fun hc4 => ?_)
        · skip
          have hlt0 : n1 < (c1.pending.take (c1.pending.length - (((client_Hear c1 me1 m1).1).pending).length)).length := Int.ofNat_lt.1 (of_decide_eq_true hc4)
          (repeat refine cw_seq ?_); refine cw_skip ?_
          (repeat refine cw_seq ?_); refine cw_block ?_
          (repeat refine cw_seq ?_); refine cw_region ?_
          refine rw_q rfl rfl rfl (q_idx EOp n1 rfl rfl (fun _ => rfl) rfl (fun _ => rfl) rfl rfl rfl Mm rfl (fun _ => rfl) (fun _ => by first | assumption | omega)) ?_
          refine rw_q rfl rfl rfl (q_leA EOp (l := (c1.pending.take (c1.pending.length - (((client_Hear c1 me1 m1).1).pending).length))) rfl rfl (fun _ => rfl) rfl rfl Mm (fun _ => by first | assumption | omega)) ?_
          refine rw_alloc .sq (guard_none rfl) rfl rfl rfl rfl fun g5 => ?_
          refine rw_stA .sq (.inl ⟨_, rfl⟩) (guard_none rfl) rfl rfl rfl rfl rfl rfl rfl rfl rfl Ub rfl ?_
          refine rw_nil ?_
          (repeat refine cw_seq ?_); refine cw_region ?_
          refine Rp rfl rfl rfl rfl ?_
          refine rw_q rfl rfl rfl (q_ld1 rfl rfl (fun _ => rfl) rfl Mm rfl) ?_
          refine Rp rfl rfl rfl rfl ?_
          refine rw_q rfl rfl rfl (q_ld1 rfl rfl (fun _ => rfl) rfl Mm rfl) ?_
          refine Rp rfl rfl rfl rfl ?_
          refine rw_nil ?_
          (repeat refine cw_seq ?_); refine cw_cond (b := decide (((gt (c1.pending.take (c1.pending.length - (((client_Hear c1 me1 m1).1).pending).length)) n1).seq) > m1.seq)) rfl rfl (fun hc5 => ?_) (fun hc5 => ?_)
          · skip
            have hc5p := of_decide_eq_true hc5
            (repeat refine cw_seq ?_); refine cw_region ?_
            refine Rp rfl rfl rfl rfl ?_
            refine rw_nil ?_
            (repeat refine cw_seq ?_)
            have hr4 : (orangerylaw_ClientKeeps c1 me1 m1) = false := by rw [← hf1, drop_gt hlt0]; simp only [orangerylaw_ClientKeeps_L0, hc5, cond_true, cond_false]
            refine cw_ret ?_
            rw [hr4]
            exact ⟨(), _, (.cons (.tmp rfl) .nil), rfl, Sm, .nil _, .nil _⟩
          · skip
            have hc5p := of_decide_eq_false hc5
            (repeat refine cw_seq ?_); refine cw_skip ?_
            (repeat refine cw_seq ?_); refine cw_region ?_
            refine rw_q rfl rfl rfl (q_add rfl rfl (fun _ => rfl) rfl (fun _ => rfl) (fun _ => by omega)) ?_
            refine Rp rfl rfl rfl rfl ?_
            refine rw_nil ?_
            refine ⟨(n1 + 1), ⟨hlt0, (by rw [← hf1, drop_gt hlt0]; simp only [orangerylaw_ClientKeeps_L0, hc5, cond_true, cond_false] : (orangerylaw_ClientKeeps c1 me1 m1) = (orangerylaw_ClientKeeps_L0 m1 ((c1.pending.take (c1.pending.length - (((client_Hear c1 me1 m1).1).pending).length)).drop (n1 + 1)))).symm⟩, (by simp only []; omega), Le4⟩
        · skip
          have hge0 : (c1.pending.take (c1.pending.length - (((client_Hear c1 me1 m1).1).pending).length)).length ≤ n1 := by have := of_decide_eq_false hc4; omega
          (repeat refine cw_seq ?_); refine cw_exit ?_
          (repeat refine cw_seq ?_); refine cw_region ?_
          refine Rp rfl rfl rfl rfl ?_
          refine rw_nil ?_
          (repeat refine cw_seq ?_)
          have hr5 : (orangerylaw_ClientKeeps c1 me1 m1) = true := by rw [← hf1, List.drop_of_length_le hge0]; simp only [orangerylaw_ClientKeeps_L0, cond_true, cond_false]
          refine cw_ret ?_
          rw [hr5]
          exact ⟨(), _, (.cons (.tmp rfl) .nil), rfl, Sm, .nil _, .nil _⟩
end Go.Proofs.Ytchdacbjiomplaa
