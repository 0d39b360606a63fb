/- Part of this claim. No condition. -/
import Derived.Test.YtchdacbjiomplaaW36
set_option linter.unusedVariables false
set_option linter.unusedSimpArgs false
namespace Go.Proofs.Ytchdacbjiomplaa
open Go Go.Proofs.Ytchdacbjiomplaa.Fw Go.Proofs
attribute [local irreducible] RdL RdN VarP
def orangerylaw_ClientHears (c1 : Client) (me1 : Int) (m1 : Mail) : Bool :=
  ((orangerylaw_lives && (((client_Hear c1 me1 m1).2) == ((orangeryref_HeardOf c1 me1 m1).2))) && (orangeryref_SameClient ((client_Hear c1 me1 m1).1) ((orangeryref_HeardOf c1 me1 m1).1)))
theorem orangerylaw_ClientHears_spec (y1 : SlV) (y2 : SlV) (y3 : SlV) (y4 : SlV) (c1 : Client) (me1 : Int) (y5 : SlV) (y6 : SlV) (y7 : SlV) (y8 : SlV) (y9 : SlV) (y10 : SlV) (y11 : SlV) (m1 : Mail) : Does Try.prog 21 [.agg ⟨[.int .i64 c1.life, .int .i64 c1.time, .int .i64 c1.seq, y1.val c1.pending.length, .int .i64 c1.version, y2.val c1.v.roots.length, y3.val c1.v.known.length, y4.val c1.v.way.length]⟩, .int .i64 me1, .agg ⟨[.int .i64 m1.kind, .int .i64 m1.who, .int .i64 m1.life, .int .i64 m1.seq, .int .i64 m1.time, .int .i64 m1.version, .int .i64 m1.frm, .int .i64 m1.o.time, .int .i64 m1.o.who, .int .i64 m1.o.node, .int .i64 m1.o.parent, .int .i64 m1.o.name, .int .i64 m1.o.life, .int .i64 m1.o.seq, y5.val m1.v.roots.length, y6.val m1.v.known.length, y7.val m1.v.way.length, y8.val m1.d.gone.length, y9.val m1.d.here.length, y10.val m1.d.wayGone.length, y11.val m1.d.wayHere.length]⟩] [RdL EOp y1 c1.pending, RdL EInt y2 c1.v.roots, RdL EPlace y3 c1.v.known, RdL EPlace y4 c1.v.way, RdL EInt y5 m1.v.roots, RdL EPlace y6 m1.v.known, RdL EPlace y7 m1.v.way, RdL EInt y8 m1.d.gone, RdL EPlace y9 m1.d.here, RdL EInt y10 m1.d.wayGone, RdL EPlace y11 m1.d.wayHere] (fun (_ : Unit) => .bool (orangerylaw_ClientHears c1 me1 m1)) (fun (_ : Unit) => []) := by
  refine does_of tab_ok Try.func21 rfl Try.ntmps21 Try.results21 rfl inferInstance (fun _ => inferInstance) fun C => ?_
  refine cw_pure (φ := c1.pending.length * 56 ≤ 140737488355328) [RdL EOp y1 c1.pending] Sm (fun M w h => (allF1 h).len) fun hlen1 => ?_
  refine cw_pure (φ := c1.v.roots.length * 8 ≤ 140737488355328) [RdL EInt y2 c1.v.roots] Sm (fun M w h => (allF1 h).len) fun hlen2 => ?_
  refine cw_pure (φ := c1.v.known.length * 24 ≤ 140737488355328) [RdL EPlace y3 c1.v.known] Sm (fun M w h => (allF1 h).len) fun hlen3 => ?_
  refine cw_pure (φ := c1.v.way.length * 24 ≤ 140737488355328) [RdL EPlace y4 c1.v.way] Sm (fun M w h => (allF1 h).len) fun hlen4 => ?_
  refine cw_pure (φ := m1.v.roots.length * 8 ≤ 140737488355328) [RdL EInt y5 m1.v.roots] Sm (fun M w h => (allF1 h).len) fun hlen5 => ?_
  refine cw_pure (φ := m1.v.known.length * 24 ≤ 140737488355328) [RdL EPlace y6 m1.v.known] Sm (fun M w h => (allF1 h).len) fun hlen6 => ?_
  refine cw_pure (φ := m1.v.way.length * 24 ≤ 140737488355328) [RdL EPlace y7 m1.v.way] Sm (fun M w h => (allF1 h).len) fun hlen7 => ?_
  refine cw_pure (φ := m1.d.gone.length * 8 ≤ 140737488355328) [RdL EInt y8 m1.d.gone] Sm (fun M w h => (allF1 h).len) fun hlen8 => ?_
  refine cw_pure (φ := m1.d.here.length * 24 ≤ 140737488355328) [RdL EPlace y9 m1.d.here] Sm (fun M w h => (allF1 h).len) fun hlen9 => ?_
  refine cw_pure (φ := m1.d.wayGone.length * 8 ≤ 140737488355328) [RdL EInt y10 m1.d.wayGone] Sm (fun M w h => (allF1 h).len) fun hlen10 => ?_
  refine cw_pure (φ := m1.d.wayHere.length * 24 ≤ 140737488355328) [RdL EPlace y11 m1.d.wayHere] Sm (fun M w h => (allF1 h).len) fun hlen11 => ?_
  (repeat refine cw_seq ?_); refine cw_region ?_
  refine rw_box_agg .sq (guard_none rfl) rfl rfl rfl rfl rfl fun g1 => ?_
  refine rw_box_agg .sq (guard_none rfl) rfl rfl rfl rfl rfl fun g2 => ?_
  refine Rp rfl rfl rfl rfl ?_
  refine rw_nil ?_
  (repeat refine cw_seq ?_); refine cw_region ?_
  refine rw_q rfl rfl rfl (q_ldA rfl rfl (fun _ => rfl) rfl Mm rfl) ?_
  refine Rp rfl rfl rfl rfl ?_
  refine rw_q rfl rfl rfl (q_ldA rfl rfl (fun _ => rfl) rfl Mm rfl) ?_
  refine rw_call (client_Hear_spec y1 y2 y3 y4 c1 me1 y5 y6 y7 y8 y9 y10 y11 m1) .sq (guard_none rfl) rfl rfl rfl Kr rfl rfl Sm ?_
  intro x1
  refine rw_pure (φ := (((client_Hear c1 me1 m1).1).pending).length * 56 ≤ 140737488355328) [RdL EOp x1.1 (((client_Hear c1 me1 m1).1).pending)] Sm (fun M w h => (allF1 h).len) fun hlen12 => ?_
  refine rw_pure (φ := ((((client_Hear c1 me1 m1).1).v).roots).length * 8 ≤ 140737488355328) [RdL EInt x1.2.1 ((((client_Hear c1 me1 m1).1).v).roots)] Sm (fun M w h => (allF1 h).len) fun hlen13 => ?_
  refine rw_pure (φ := ((((client_Hear c1 me1 m1).1).v).known).length * 24 ≤ 140737488355328) [RdL EPlace x1.2.2.1 ((((client_Hear c1 me1 m1).1).v).known)] Sm (fun M w h => (allF1 h).len) fun hlen14 => ?_
  refine rw_pure (φ := ((((client_Hear c1 me1 m1).1).v).way).length * 24 ≤ 140737488355328) [RdL EPlace x1.2.2.2 ((((client_Hear c1 me1 m1).1).v).way)] Sm (fun M w h => (allF1 h).len) fun hlen15 => ?_
  refine Rp rfl rfl rfl rfl ?_
  refine Rp rfl rfl rfl rfl ?_
  refine Rp rfl rfl rfl rfl ?_
  refine rw_alloc .sq (guard_none rfl) rfl rfl rfl rfl fun g3 => ?_
  refine rw_stA .sq (.inl ⟨_, rfl⟩) (guard_none rfl) rfl rfl rfl rfl rfl rfl rfl rfl rfl Ub rfl ?_
  refine Rp rfl rfl rfl rfl ?_
  refine rw_nil ?_
  (repeat refine cw_seq ?_); refine cw_region ?_
  refine rw_q rfl rfl rfl (q_ldA rfl rfl (fun _ => rfl) rfl Mm rfl) ?_
  refine Rp rfl rfl rfl rfl ?_
  refine rw_q rfl rfl rfl (q_ldA rfl rfl (fun _ => rfl) rfl Mm rfl) ?_
  refine rw_call (orangeryref_HeardOf_spec y1 y2 y3 y4 c1 me1 y5 y6 y7 y8 y9 y10 y11 m1) .sq (guard_none rfl) rfl rfl rfl Kr rfl rfl Sm ?_
  intro x2
  refine rw_pure (φ := (((orangeryref_HeardOf c1 me1 m1).1).pending).length * 56 ≤ 140737488355328) [RdL EOp x2.1 (((orangeryref_HeardOf c1 me1 m1).1).pending)] Sm (fun M w h => (allF1 h).len) fun hlen16 => ?_
  refine rw_pure (φ := ((((orangeryref_HeardOf c1 me1 m1).1).v).roots).length * 8 ≤ 140737488355328) [RdL EInt x2.2.1 ((((orangeryref_HeardOf c1 me1 m1).1).v).roots)] Sm (fun M w h => (allF1 h).len) fun hlen17 => ?_
  refine rw_pure (φ := ((((orangeryref_HeardOf c1 me1 m1).1).v).known).length * 24 ≤ 140737488355328) [RdL EPlace x2.2.2.1 ((((orangeryref_HeardOf c1 me1 m1).1).v).known)] Sm (fun M w h => (allF1 h).len) fun hlen18 => ?_
  refine rw_pure (φ := ((((orangeryref_HeardOf c1 me1 m1).1).v).way).length * 24 ≤ 140737488355328) [RdL EPlace x2.2.2.2 ((((orangeryref_HeardOf c1 me1 m1).1).v).way)] Sm (fun M w h => (allF1 h).len) fun hlen19 => ?_
  refine Rp rfl rfl rfl rfl ?_
  refine Rp rfl rfl rfl rfl ?_
  refine Rp rfl rfl rfl rfl ?_
  refine rw_alloc .sq (guard_none rfl) rfl rfl rfl rfl fun g4 => ?_
  refine rw_stA .sq (.inl ⟨_, rfl⟩) (guard_none rfl) rfl rfl rfl rfl rfl rfl rfl rfl rfl Ub rfl ?_
  refine Rp rfl rfl rfl rfl ?_
  refine rw_nil ?_
  (repeat refine cw_seq ?_); refine cw_region ?_
  refine rw_call (orangerylaw_lives_spec ) .sq (guard_none rfl) rfl rfl rfl Kr rfl rfl Sm ?_
  intro _
  refine Rp rfl rfl rfl rfl ?_
  refine rw_qg (guard_vt rfl rfl rfl) rfl rfl (q_pev rfl Bt) ?_
  refine rw_qg (guard_vt rfl rfl rfl) rfl rfl (q_pev rfl Bt) ?_
  refine rw_qg (guard_vt rfl rfl rfl) rfl rfl (q_pev rfl Bt) ?_
  refine rw_q rfl rfl rfl (q_pev rfl Bt) ?_
  refine Rp rfl rfl rfl rfl ?_
  refine rw_qg (guard_vt rfl rfl rfl) rfl rfl (q_ldA rfl rfl Bt rfl Mm rfl) ?_
  refine rw_qg (guard_vt rfl rfl rfl) rfl rfl (q_ldA rfl rfl Bt rfl Mm rfl) ?_
  refine rw_callg (fun hG_ => orangeryref_SameClient_spec x1.1 x1.2.1 x1.2.2.1 x1.2.2.2 ((client_Hear c1 me1 m1).1) x2.1 x2.2.1 x2.2.2.1 x2.2.2.2 ((orangeryref_HeardOf c1 me1 m1).1)) (fun _ => rfl) .sq (guard_vt rfl rfl rfl) rfl rfl rfl Kr rfl Bt Sm ?_
  refine rw_q rfl rfl rfl (q_pev rfl Bt) ?_
  refine Rp rfl rfl rfl rfl ?_
  refine rw_nil ?_
  (repeat refine cw_seq ?_)
  have hr1 : (orangerylaw_ClientHears c1 me1 m1) = ((orangerylaw_lives && (((client_Hear c1 me1 m1).2) == ((orangeryref_HeardOf c1 me1 m1).2))) && (orangeryref_SameClient ((client_Hear c1 me1 m1).1) ((orangeryref_HeardOf c1 me1 m1).1))) := by simp only [orangerylaw_ClientHears, cond_true, cond_false]
  refine cw_ret ?_
  rw [hr1]
  exact ⟨(), _, (.cons (.tmp rfl) .nil), rfl, Sm, .nil _, .nil _⟩
end Go.Proofs.Ytchdacbjiomplaa
