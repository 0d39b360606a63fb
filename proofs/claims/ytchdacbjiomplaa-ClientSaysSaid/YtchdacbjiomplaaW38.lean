/- Part of this claim. No condition. -/
import Derived.Test.YtchdacbjiomplaaW37
import Derived.Test.YtchdacbjiomplaaW19
set_option linter.unusedVariables false
set_option linter.unusedSimpArgs false
namespace Go.Proofs.Ytchdacbjiomplaa
open Go Go.Proofs.Ytchdacbjiomplaa.Fw Go.Proofs
attribute [local irreducible] RdL RdN VarP
def orangerylaw_ClientSays (c1 : Client) (me1 : Int) (node1 : Int) (parent1 : Int) (name1 : Int) (d1 : Client) : Bool :=
  (((((((((orangerylaw_lives && ((client_Check c1 me1) == (orangeryref_CheckClient c1 me1))) && ((client_Same c1 d1) == (orangeryref_SameClient c1 d1))) && (((client_Move c1 me1 node1 parent1 name1).2.2) == ((orangeryref_Moved c1 me1 node1 parent1 name1).2.2))) && decide (((client_Move c1 me1 node1 parent1 name1).2.1) = ((orangeryref_Moved c1 me1 node1 parent1 name1).2.1))) && (orangeryref_SameClient ((client_Move c1 me1 node1 parent1 name1).1) ((orangeryref_Moved c1 me1 node1 parent1 name1).1))) && (((client_Shows c1 me1).2) == ((orangeryref_ShownBy c1 me1).2))) && (decide (((client_Shows c1 me1).1) = ((orangeryref_ShownBy c1 me1).1)))) && (((client_Begin node1 parent1).2) == ((orangeryref_Begun node1 parent1).2))) && (orangeryref_SameClient ((client_Begin node1 parent1).1) ((orangeryref_Begun node1 parent1).1)))
theorem orangerylaw_ClientSays_spec (y1 : SlV) (y2 : SlV) (y3 : SlV) (y4 : SlV) (c1 : Client) (me1 : Int) (node1 : Int) (parent1 : Int) (name1 : Int) (y5 : SlV) (y6 : SlV) (y7 : SlV) (y8 : SlV) (d1 : Client) : Does Try.prog 20 [.agg ⟨[.int .i64 c1.life, .int .i64 c1.time, .int .i64 c1.seq, y1.val c1.pending.length, .int .i64 c1.version, y2.val c1.v.roots.length, y3.val c1.v.known.length, y4.val c1.v.way.length]⟩, .int .i64 me1, .int .i64 node1, .int .i64 parent1, .int .i64 name1, .agg ⟨[.int .i64 d1.life, .int .i64 d1.time, .int .i64 d1.seq, y5.val d1.pending.length, .int .i64 d1.version, y6.val d1.v.roots.length, y7.val d1.v.known.length, y8.val d1.v.way.length]⟩] [RdL EOp y1 c1.pending, RdL EInt y2 c1.v.roots, RdL EPlace y3 c1.v.known, RdL EPlace y4 c1.v.way, RdL EOp y5 d1.pending, RdL EInt y6 d1.v.roots, RdL EPlace y7 d1.v.known, RdL EPlace y8 d1.v.way] (fun (_ : Unit) => .bool (orangerylaw_ClientSays c1 me1 node1 parent1 name1 d1)) (fun (_ : Unit) => []) := by
  refine does_of tab_ok Try.func20 rfl Try.ntmps20 Try.results20 rfl inferInstance (fun _ => inferInstance) fun C => ?_
  refine cw_pure (φ := c1.pending.length * 56 ≤ 140737488355328) [RdL EOp y1 c1.pending] Sm (fun M w h => (allF1 h).len) fun hlen1 => ?_
  refine cw_pure (φ := c1.v.roots.length * 8 ≤ 140737488355328) [RdL EInt y2 c1.v.roots] Sm (fun M w h => (allF1 h).len) fun hlen2 => ?_
  refine cw_pure (φ := c1.v.known.length * 24 ≤ 140737488355328) [RdL EPlace y3 c1.v.known] Sm (fun M w h => (allF1 h).len) fun hlen3 => ?_
  refine cw_pure (φ := c1.v.way.length * 24 ≤ 140737488355328) [RdL EPlace y4 c1.v.way] Sm (fun M w h => (allF1 h).len) fun hlen4 => ?_
  refine cw_pure (φ := d1.pending.length * 56 ≤ 140737488355328) [RdL EOp y5 d1.pending] Sm (fun M w h => (allF1 h).len) fun hlen5 => ?_
  refine cw_pure (φ := d1.v.roots.length * 8 ≤ 140737488355328) [RdL EInt y6 d1.v.roots] Sm (fun M w h => (allF1 h).len) fun hlen6 => ?_
  refine cw_pure (φ := d1.v.known.length * 24 ≤ 140737488355328) [RdL EPlace y7 d1.v.known] Sm (fun M w h => (allF1 h).len) fun hlen7 => ?_
  refine cw_pure (φ := d1.v.way.length * 24 ≤ 140737488355328) [RdL EPlace y8 d1.v.way] Sm (fun M w h => (allF1 h).len) fun hlen8 => ?_
  (repeat refine cw_seq ?_); refine cw_region ?_
  refine rw_box_agg .sq (guard_none rfl) rfl rfl rfl rfl rfl fun g1 => ?_
  refine rw_box_agg .sq (guard_none rfl) rfl rfl rfl rfl rfl fun g2 => ?_
  refine Rp rfl rfl rfl rfl ?_
  refine rw_nil ?_
  (repeat refine cw_seq ?_); refine cw_region ?_
  refine rw_q rfl rfl rfl (q_ldA rfl rfl (fun _ => rfl) rfl Mm rfl) ?_
  refine Rp rfl rfl rfl rfl ?_
  refine Rp rfl rfl rfl rfl ?_
  refine Rp rfl rfl rfl rfl ?_
  refine Rp rfl rfl rfl rfl ?_
  refine rw_call (client_Move_spec y1 y2 y3 y4 c1 me1 node1 parent1 name1) .sq (guard_none rfl) rfl rfl rfl Kr rfl rfl Sm ?_
  intro x1
  refine rw_pure (φ := (((client_Move c1 me1 node1 parent1 name1).1).pending).length * 56 ≤ 140737488355328) [RdL EOp x1.1 (((client_Move c1 me1 node1 parent1 name1).1).pending)] Sm (fun M w h => (allF1 h).len) fun hlen9 => ?_
  refine rw_pure (φ := ((((client_Move c1 me1 node1 parent1 name1).1).v).roots).length * 8 ≤ 140737488355328) [RdL EInt x1.2.1 ((((client_Move c1 me1 node1 parent1 name1).1).v).roots)] Sm (fun M w h => (allF1 h).len) fun hlen10 => ?_
  refine rw_pure (φ := ((((client_Move c1 me1 node1 parent1 name1).1).v).known).length * 24 ≤ 140737488355328) [RdL EPlace x1.2.2.1 ((((client_Move c1 me1 node1 parent1 name1).1).v).known)] Sm (fun M w h => (allF1 h).len) fun hlen11 => ?_
  refine rw_pure (φ := ((((client_Move c1 me1 node1 parent1 name1).1).v).way).length * 24 ≤ 140737488355328) [RdL EPlace x1.2.2.2 ((((client_Move c1 me1 node1 parent1 name1).1).v).way)] Sm (fun M w h => (allF1 h).len) fun hlen12 => ?_
  refine Rp rfl rfl rfl rfl ?_
  refine Rp rfl rfl rfl rfl ?_
  refine Rp rfl rfl rfl rfl ?_
  refine Rp rfl rfl rfl rfl ?_
  refine rw_alloc .sq (guard_none rfl) rfl rfl rfl rfl fun g3 => ?_
  refine rw_alloc .sq (guard_none rfl) rfl rfl rfl rfl fun g4 => ?_
  refine rw_stA .sq (.inl ⟨_, rfl⟩) (guard_none rfl) rfl rfl rfl rfl rfl rfl rfl rfl rfl Ub rfl ?_
  refine rw_stA .sq (.inl ⟨_, rfl⟩) (guard_none rfl) rfl rfl rfl rfl rfl rfl rfl rfl rfl Ub rfl ?_
  refine Rp rfl rfl rfl rfl ?_
  refine rw_nil ?_
  (repeat refine cw_seq ?_); refine cw_region ?_
  refine rw_q rfl rfl rfl (q_ldA rfl rfl (fun _ => rfl) rfl Mm rfl) ?_
  refine Rp rfl rfl rfl rfl ?_
  refine rw_call (client_Shows_spec y1 y2 y3 y4 c1 me1) .sq (guard_none rfl) rfl rfl rfl Kr rfl rfl Sm ?_
  intro x2
  refine rw_pure (φ := ((client_Shows c1 me1).1).length * 24 ≤ 140737488355328) [RdL EPlace x2 ((client_Shows c1 me1).1)] Sm (fun M w h => (allF1 h).len) fun hlen13 => ?_
  refine Rp rfl rfl rfl rfl ?_
  refine Rp rfl rfl rfl rfl ?_
  refine Rp rfl rfl rfl rfl ?_
  refine rw_alloc .sq (guard_none rfl) rfl rfl rfl rfl fun g5 => ?_
  refine rw_stA .sq (.inl ⟨_, rfl⟩) (guard_none rfl) rfl rfl rfl rfl rfl rfl rfl rfl rfl Ub rfl ?_
  refine Rp rfl rfl rfl rfl ?_
  refine rw_nil ?_
  (repeat refine cw_seq ?_); refine cw_region ?_
  refine Rp rfl rfl rfl rfl ?_
  refine Rp rfl rfl rfl rfl ?_
  refine rw_call (client_Begin_spec node1 parent1) .sq (guard_none rfl) rfl rfl rfl Kr rfl rfl Sm ?_
  intro x3
  refine rw_pure (φ := (((client_Begin node1 parent1).1).pending).length * 56 ≤ 140737488355328) [RdL EOp x3.1 (((client_Begin node1 parent1).1).pending)] Sm (fun M w h => (allF1 h).len) fun hlen14 => ?_
  refine rw_pure (φ := ((((client_Begin node1 parent1).1).v).roots).length * 8 ≤ 140737488355328) [RdL EInt x3.2.1 ((((client_Begin node1 parent1).1).v).roots)] Sm (fun M w h => (allF1 h).len) fun hlen15 => ?_
  refine rw_pure (φ := ((((client_Begin node1 parent1).1).v).known).length * 24 ≤ 140737488355328) [RdL EPlace x3.2.2.1 ((((client_Begin node1 parent1).1).v).known)] Sm (fun M w h => (allF1 h).len) fun hlen16 => ?_
  refine rw_pure (φ := ((((client_Begin node1 parent1).1).v).way).length * 24 ≤ 140737488355328) [RdL EPlace x3.2.2.2 ((((client_Begin node1 parent1).1).v).way)] Sm (fun M w h => (allF1 h).len) fun hlen17 => ?_
  refine Rp rfl rfl rfl rfl ?_
  refine Rp rfl rfl rfl rfl ?_
  refine Rp rfl rfl rfl rfl ?_
  refine rw_alloc .sq (guard_none rfl) rfl rfl rfl rfl fun g6 => ?_
  refine rw_stA .sq (.inl ⟨_, rfl⟩) (guard_none rfl) rfl rfl rfl rfl rfl rfl rfl rfl rfl Ub rfl ?_
  refine Rp rfl rfl rfl rfl ?_
  refine rw_nil ?_
  (repeat refine cw_seq ?_); refine cw_region ?_
  refine rw_q rfl rfl rfl (q_ldA rfl rfl (fun _ => rfl) rfl Mm rfl) ?_
  refine Rp rfl rfl rfl rfl ?_
  refine Rp rfl rfl rfl rfl ?_
  refine Rp rfl rfl rfl rfl ?_
  refine Rp rfl rfl rfl rfl ?_
  refine rw_call (orangeryref_Moved_spec y1 y2 y3 y4 c1 me1 node1 parent1 name1) .sq (guard_none rfl) rfl rfl rfl Kr rfl rfl Sm ?_
  intro x4
  refine rw_pure (φ := (((orangeryref_Moved c1 me1 node1 parent1 name1).1).pending).length * 56 ≤ 140737488355328) [RdL EOp x4.1 (((orangeryref_Moved c1 me1 node1 parent1 name1).1).pending)] Sm (fun M w h => (allF1 h).len) fun hlen18 => ?_
  refine rw_pure (φ := ((((orangeryref_Moved c1 me1 node1 parent1 name1).1).v).roots).length * 8 ≤ 140737488355328) [RdL EInt x4.2.1 ((((orangeryref_Moved c1 me1 node1 parent1 name1).1).v).roots)] Sm (fun M w h => (allF1 h).len) fun hlen19 => ?_
  refine rw_pure (φ := ((((orangeryref_Moved c1 me1 node1 parent1 name1).1).v).known).length * 24 ≤ 140737488355328) [RdL EPlace x4.2.2.1 ((((orangeryref_Moved c1 me1 node1 parent1 name1).1).v).known)] Sm (fun M w h => (allF1 h).len) fun hlen20 => ?_
  refine rw_pure (φ := ((((orangeryref_Moved c1 me1 node1 parent1 name1).1).v).way).length * 24 ≤ 140737488355328) [RdL EPlace x4.2.2.2 ((((orangeryref_Moved c1 me1 node1 parent1 name1).1).v).way)] Sm (fun M w h => (allF1 h).len) fun hlen21 => ?_
  refine Rp rfl rfl rfl rfl ?_
  refine Rp rfl rfl rfl rfl ?_
  refine Rp rfl rfl rfl rfl ?_
  refine Rp rfl rfl rfl rfl ?_
  refine rw_alloc .sq (guard_none rfl) rfl rfl rfl rfl fun g7 => ?_
  refine rw_alloc .sq (guard_none rfl) rfl rfl rfl rfl fun g8 => ?_
  refine rw_stA .sq (.inl ⟨_, rfl⟩) (guard_none rfl) rfl rfl rfl rfl rfl rfl rfl rfl rfl Ub rfl ?_
  refine rw_stA .sq (.inl ⟨_, rfl⟩) (guard_none rfl) rfl rfl rfl rfl rfl rfl rfl rfl rfl Ub rfl ?_
  refine Rp rfl rfl rfl rfl ?_
  refine rw_nil ?_
  (repeat refine cw_seq ?_); refine cw_region ?_
  refine rw_q rfl rfl rfl (q_ldA rfl rfl (fun _ => rfl) rfl Mm rfl) ?_
  refine Rp rfl rfl rfl rfl ?_
  refine rw_call (orangeryref_ShownBy_spec y1 y2 y3 y4 c1 me1) .sq (guard_none rfl) rfl rfl rfl Kr rfl rfl Sm ?_
  intro x5
  refine rw_pure (φ := ((orangeryref_ShownBy c1 me1).1).length * 24 ≤ 140737488355328) [RdL EPlace x5 ((orangeryref_ShownBy c1 me1).1)] Sm (fun M w h => (allF1 h).len) fun hlen22 => ?_
  refine Rp rfl rfl rfl rfl ?_
  refine Rp rfl rfl rfl rfl ?_
  refine Rp rfl rfl rfl rfl ?_
  refine rw_alloc .sq (guard_none rfl) rfl rfl rfl rfl fun g9 => ?_
  refine rw_stA .sq (.inl ⟨_, rfl⟩) (guard_none rfl) rfl rfl rfl rfl rfl rfl rfl rfl rfl Ub rfl ?_
  refine Rp rfl rfl rfl rfl ?_
  refine rw_nil ?_
  (repeat refine cw_seq ?_); refine cw_region ?_
  refine Rp rfl rfl rfl rfl ?_
  refine Rp rfl rfl rfl rfl ?_
  refine rw_call (orangeryref_Begun_spec node1 parent1) .sq (guard_none rfl) rfl rfl rfl Kr rfl rfl Sm ?_
  intro x6
  refine rw_pure (φ := (((orangeryref_Begun node1 parent1).1).pending).length * 56 ≤ 140737488355328) [RdL EOp x6.1 (((orangeryref_Begun node1 parent1).1).pending)] Sm (fun M w h => (allF1 h).len) fun hlen23 => ?_
  refine rw_pure (φ := ((((orangeryref_Begun node1 parent1).1).v).roots).length * 8 ≤ 140737488355328) [RdL EInt x6.2.1 ((((orangeryref_Begun node1 parent1).1).v).roots)] Sm (fun M w h => (allF1 h).len) fun hlen24 => ?_
  refine rw_pure (φ := ((((orangeryref_Begun node1 parent1).1).v).known).length * 24 ≤ 140737488355328) [RdL EPlace x6.2.2.1 ((((orangeryref_Begun node1 parent1).1).v).known)] Sm (fun M w h => (allF1 h).len) fun hlen25 => ?_
  refine rw_pure (φ := ((((orangeryref_Begun node1 parent1).1).v).way).length * 24 ≤ 140737488355328) [RdL EPlace x6.2.2.2 ((((orangeryref_Begun node1 parent1).1).v).way)] Sm (fun M w h => (allF1 h).len) fun hlen26 => ?_
  refine Rp rfl rfl rfl rfl ?_
  refine Rp rfl rfl rfl rfl ?_
  refine Rp rfl rfl rfl rfl ?_
  refine rw_alloc .sq (guard_none rfl) rfl rfl rfl rfl fun g10 => ?_
  refine rw_stA .sq (.inl ⟨_, rfl⟩) (guard_none rfl) rfl rfl rfl rfl rfl rfl rfl rfl rfl Ub rfl ?_
  refine Rp rfl rfl rfl rfl ?_
  refine rw_nil ?_
  (repeat refine cw_seq ?_); refine cw_regionA (fun _ => some []) ?_
  refine ra_one 0 Kr ?_
  refine rw_call (orangerylaw_lives_spec ) (.an rfl rfl) (guard_none rfl) rfl rfl rfl Kr rfl rfl Sm ?_
  intro _
  refine ra_q (.ab (i := 1) (js := []) [2, 3, 4, 5, 6, 7, 8, 9, 10, 11, 12, 13, 14, 15, 16, 17, 18, 19, 20, 21, 22, 23, 24, 25, 26, 27, 28, 29, 30, 31, 32, 33, 34, 35, 36, 37, 38, 39, 40, 41, 42, 43, 44, 45, 46, 47, 48, 49, 50, 51, 52, 53, 54, 55, 56] rfl Kr Kr Kr Kr Kr) (SplitB.all _) (by simp) rfl rfl rfl (q_pev rfl (fun _ => rfl)) ?_
  refine ra_qg (.ab (i := 2) (js := [3, 5, 6]) [4, 7, 8, 9, 10, 11, 12, 13, 14, 15, 16, 17, 18, 19, 20, 21, 22, 23, 24, 25, 26, 27, 28, 29, 30, 31, 32, 33, 34, 35, 36, 37, 38, 39, 40, 41, 42, 43, 44, 45, 46, 47, 48, 49, 50, 51, 52, 53, 54, 55, 56] rfl Kr Kr Kr Kr Kr) (SplitB.all _) (by simp) (guard_vt rfl rfl rfl) rfl rfl (q_ldA rfl rfl Bt rfl Mm rfl) ?_
  refine ra_qg (.ab (i := 3) (js := [5, 6]) [4, 7, 8, 9, 10, 11, 12, 13, 14, 15, 16, 17, 18, 19, 20, 21, 22, 23, 24, 25, 26, 27, 28, 29, 30, 31, 32, 33, 34, 35, 36, 37, 38, 39, 40, 41, 42, 43, 44, 45, 46, 47, 48, 49, 50, 51, 52, 53, 54, 55, 56] rfl Kr Kr Kr Kr Kr) (SplitB.all _) (by simp) (guard_vt rfl rfl rfl) rfl rfl (q_pev rfl Bt) ?_
  refine ra_qg (.ab (i := 5) (js := [4, 6]) [7, 8, 9, 10, 11, 12, 13, 14, 15, 16, 17, 18, 19, 20, 21, 22, 23, 24, 25, 26, 27, 28, 29, 30, 31, 32, 33, 34, 35, 36, 37, 38, 39, 40, 41, 42, 43, 44, 45, 46, 47, 48, 49, 50, 51, 52, 53, 54, 55, 56] rfl Kr Kr Kr Kr Kr) (SplitB.all _) (by simp) (guard_vt rfl rfl rfl) rfl rfl (q_ldA rfl rfl Bt rfl Mm rfl) ?_
  refine ra_qg (.ab (i := 6) (js := [4]) [7, 8, 9, 10, 11, 12, 13, 14, 15, 16, 17, 18, 19, 20, 21, 22, 23, 24, 25, 26, 27, 28, 29, 30, 31, 32, 33, 34, 35, 36, 37, 38, 39, 40, 41, 42, 43, 44, 45, 46, 47, 48, 49, 50, 51, 52, 53, 54, 55, 56] rfl Kr Kr Kr Kr Kr) (SplitB.all _) (by simp) (guard_vt rfl rfl rfl) rfl rfl (q_pev rfl Bt) ?_
  refine ra_one 4 Kr ?_
  refine rw_callg (fun hG_ => client_Check_spec y1 y2 y3 y4 c1 me1) (fun _ => rfl) (.an rfl rfl) (guard_vt rfl rfl rfl) rfl rfl rfl Kr rfl Bt Sm ?_
  refine ra_one 7 Kr ?_
  refine rw_callg (fun hG_ => orangeryref_CheckClient_spec y1 y2 y3 y4 c1 me1) (fun _ => rfl) (.an rfl rfl) (guard_vt rfl rfl rfl) rfl rfl rfl Kr rfl Bt Sm ?_
  refine ra_qg (.ab (i := 8) (js := []) [9, 10, 11, 12, 13, 14, 15, 16, 17, 18, 19, 20, 21, 22, 23, 24, 25, 26, 27, 28, 29, 30, 31, 32, 33, 34, 35, 36, 37, 38, 39, 40, 41, 42, 43, 44, 45, 46, 47, 48, 49, 50, 51, 52, 53, 54, 55, 56] rfl Kr Kr Kr Kr Kr) (SplitB.all _) (by simp) (guard_vt rfl rfl rfl) rfl rfl (q_pev rfl Bt) ?_
  refine ra_q (.ab (i := 9) (js := []) [10, 11, 12, 13, 14, 15, 16, 17, 18, 19, 20, 21, 22, 23, 24, 25, 26, 27, 28, 29, 30, 31, 32, 33, 34, 35, 36, 37, 38, 39, 40, 41, 42, 43, 44, 45, 46, 47, 48, 49, 50, 51, 52, 53, 54, 55, 56] rfl Kr Kr Kr Kr Kr) (SplitB.all _) (by simp) rfl rfl rfl (q_pev rfl Bt) ?_
  refine ra_q (.ab (i := 10) (js := []) [11, 12, 13, 14, 15, 16, 17, 18, 19, 20, 21, 22, 23, 24, 25, 26, 27, 28, 29, 30, 31, 32, 33, 34, 35, 36, 37, 38, 39, 40, 41, 42, 43, 44, 45, 46, 47, 48, 49, 50, 51, 52, 53, 54, 55, 56] rfl Kr Kr Kr Kr Kr) (SplitB.all _) (by simp) rfl rfl rfl (q_pev rfl (fun _ => rfl)) ?_
  refine ra_qg (.ab (i := 11) (js := [12, 14, 15]) [13, 16, 17, 18, 19, 20, 21, 22, 23, 24, 25, 26, 27, 28, 29, 30, 31, 32, 33, 34, 35, 36, 37, 38, 39, 40, 41, 42, 43, 44, 45, 46, 47, 48, 49, 50, 51, 52, 53, 54, 55, 56] rfl Kr Kr Kr Kr Kr) (SplitB.all _) (by simp) (guard_vt rfl rfl rfl) rfl rfl (q_ldA rfl rfl Bt rfl Mm rfl) ?_
  refine ra_qg (.ab (i := 12) (js := [14, 15]) [13, 16, 17, 18, 19, 20, 21, 22, 23, 24, 25, 26, 27, 28, 29, 30, 31, 32, 33, 34, 35, 36, 37, 38, 39, 40, 41, 42, 43, 44, 45, 46, 47, 48, 49, 50, 51, 52, 53, 54, 55, 56] rfl Kr Kr Kr Kr Kr) (SplitB.all _) (by simp) (guard_vt rfl rfl rfl) rfl rfl (q_ldA rfl rfl Bt rfl Mm rfl) ?_
  refine ra_qg (.ab (i := 14) (js := [13, 15]) [16, 17, 18, 19, 20, 21, 22, 23, 24, 25, 26, 27, 28, 29, 30, 31, 32, 33, 34, 35, 36, 37, 38, 39, 40, 41, 42, 43, 44, 45, 46, 47, 48, 49, 50, 51, 52, 53, 54, 55, 56] rfl Kr Kr Kr Kr Kr) (SplitB.all _) (by simp) (guard_vt rfl rfl rfl) rfl rfl (q_ldA rfl rfl Bt rfl Mm rfl) ?_
  refine ra_qg (.ab (i := 15) (js := [13]) [16, 17, 18, 19, 20, 21, 22, 23, 24, 25, 26, 27, 28, 29, 30, 31, 32, 33, 34, 35, 36, 37, 38, 39, 40, 41, 42, 43, 44, 45, 46, 47, 48, 49, 50, 51, 52, 53, 54, 55, 56] rfl Kr Kr Kr Kr Kr) (SplitB.all _) (by simp) (guard_vt rfl rfl rfl) rfl rfl (q_ldA rfl rfl Bt rfl Mm rfl) ?_
  refine ra_one 13 Kr ?_
  refine rw_callg (fun hG_ => client_Same_spec y1 y2 y3 y4 c1 y5 y6 y7 y8 d1) (fun _ => rfl) (.an rfl rfl) (guard_vt rfl rfl rfl) rfl rfl rfl Kr rfl Bt Sm ?_
  refine ra_one 16 Kr ?_
  refine rw_callg (fun hG_ => orangeryref_SameClient_spec y1 y2 y3 y4 c1 y5 y6 y7 y8 d1) (fun _ => rfl) (.an rfl rfl) (guard_vt rfl rfl rfl) rfl rfl rfl Kr rfl Bt Sm ?_
  refine ra_qg (.ab (i := 17) (js := []) [18, 19, 20, 21, 22, 23, 24, 25, 26, 27, 28, 29, 30, 31, 32, 33, 34, 35, 36, 37, 38, 39, 40, 41, 42, 43, 44, 45, 46, 47, 48, 49, 50, 51, 52, 53, 54, 55, 56] rfl Kr Kr Kr Kr Kr) (SplitB.all _) (by simp) (guard_vt rfl rfl rfl) rfl rfl (q_eqb und_4 rfl rfl Bt rfl Bt) ?_
  refine ra_q (.ab (i := 18) (js := []) [19, 20, 21, 22, 23, 24, 25, 26, 27, 28, 29, 30, 31, 32, 33, 34, 35, 36, 37, 38, 39, 40, 41, 42, 43, 44, 45, 46, 47, 48, 49, 50, 51, 52, 53, 54, 55, 56] rfl Kr Kr Kr Kr Kr) (SplitB.all _) (by simp) rfl rfl rfl (q_pev rfl Bt) ?_
  refine ra_q (.ab (i := 19) (js := []) [20, 21, 22, 23, 24, 25, 26, 27, 28, 29, 30, 31, 32, 33, 34, 35, 36, 37, 38, 39, 40, 41, 42, 43, 44, 45, 46, 47, 48, 49, 50, 51, 52, 53, 54, 55, 56] rfl Kr Kr Kr Kr Kr) (SplitB.all _) (by simp) rfl rfl rfl (q_pev rfl (fun _ => rfl)) ?_
  refine ra_qg (.ab (i := 20) (js := [21]) [22, 23, 24, 25, 26, 27, 28, 29, 30, 31, 32, 33, 34, 35, 36, 37, 38, 39, 40, 41, 42, 43, 44, 45, 46, 47, 48, 49, 50, 51, 52, 53, 54, 55, 56] rfl Kr Kr Kr Kr Kr) (SplitB.all _) (by simp) (guard_vt rfl rfl rfl) rfl rfl (q_pev rfl Bt) ?_
  refine ra_qg (.ab (i := 21) (js := []) [22, 23, 24, 25, 26, 27, 28, 29, 30, 31, 32, 33, 34, 35, 36, 37, 38, 39, 40, 41, 42, 43, 44, 45, 46, 47, 48, 49, 50, 51, 52, 53, 54, 55, 56] rfl Kr Kr Kr Kr Kr) (SplitB.all _) (by simp) (guard_vt rfl rfl rfl) rfl rfl (q_pev rfl Bt) ?_
  refine ra_qg (.ab (i := 22) (js := []) [23, 24, 25, 26, 27, 28, 29, 30, 31, 32, 33, 34, 35, 36, 37, 38, 39, 40, 41, 42, 43, 44, 45, 46, 47, 48, 49, 50, 51, 52, 53, 54, 55, 56] rfl Kr Kr Kr Kr Kr) (SplitB.all _) (by simp) (guard_vt rfl rfl rfl) rfl rfl (q_pev rfl Bt) ?_
  refine ra_q (.ab (i := 23) (js := []) [24, 25, 26, 27, 28, 29, 30, 31, 32, 33, 34, 35, 36, 37, 38, 39, 40, 41, 42, 43, 44, 45, 46, 47, 48, 49, 50, 51, 52, 53, 54, 55, 56] rfl Kr Kr Kr Kr Kr) (SplitB.all _) (by simp) rfl rfl rfl (q_pev rfl Bt) ?_
  refine ra_q (.ab (i := 24) (js := []) [25, 26, 27, 28, 29, 30, 31, 32, 33, 34, 35, 36, 37, 38, 39, 40, 41, 42, 43, 44, 45, 46, 47, 48, 49, 50, 51, 52, 53, 54, 55, 56] rfl Kr Kr Kr Kr Kr) (SplitB.all _) (by simp) rfl rfl rfl (q_pev rfl (fun _ => rfl)) ?_
  refine ra_qg (.ab (i := 25) (js := [26]) [27, 28, 29, 30, 31, 32, 33, 34, 35, 36, 37, 38, 39, 40, 41, 42, 43, 44, 45, 46, 47, 48, 49, 50, 51, 52, 53, 54, 55, 56] rfl Kr Kr Kr Kr Kr) (SplitB.all _) (by simp) (guard_vt rfl rfl rfl) rfl rfl (q_ldA rfl rfl Bt rfl Mm rfl) ?_
  refine ra_qg (.ab (i := 26) (js := []) [27, 28, 29, 30, 31, 32, 33, 34, 35, 36, 37, 38, 39, 40, 41, 42, 43, 44, 45, 46, 47, 48, 49, 50, 51, 52, 53, 54, 55, 56] rfl Kr Kr Kr Kr Kr) (SplitB.all _) (by simp) (guard_vt rfl rfl rfl) rfl rfl (q_ldA rfl rfl Bt rfl Mm rfl) ?_
  refine ra_qg (.ab (i := 27) (js := []) [28, 29, 30, 31, 32, 33, 34, 35, 36, 37, 38, 39, 40, 41, 42, 43, 44, 45, 46, 47, 48, 49, 50, 51, 52, 53, 54, 55, 56] rfl Kr Kr Kr Kr Kr) (SplitB.all _) (by simp) (guard_vt rfl rfl rfl) rfl rfl (q_eqE eqT_Op (flatEq_Op ((client_Move c1 me1 node1 parent1 name1).2.1) ((orangeryref_Moved c1 me1 node1 parent1 name1).2.1)) rfl rfl Bt rfl Bt rfl rfl) ?_
  refine ra_q (.ab (i := 28) (js := []) [29, 30, 31, 32, 33, 34, 35, 36, 37, 38, 39, 40, 41, 42, 43, 44, 45, 46, 47, 48, 49, 50, 51, 52, 53, 54, 55, 56] rfl Kr Kr Kr Kr Kr) (SplitB.all _) (by simp) rfl rfl rfl (q_pev rfl Bt) ?_
  refine ra_q (.ab (i := 29) (js := []) [30, 31, 32, 33, 34, 35, 36, 37, 38, 39, 40, 41, 42, 43, 44, 45, 46, 47, 48, 49, 50, 51, 52, 53, 54, 55, 56] rfl Kr Kr Kr Kr Kr) (SplitB.all _) (by simp) rfl rfl rfl (q_pev rfl (fun _ => rfl)) ?_
  refine ra_qg (.ab (i := 30) (js := [31]) [32, 33, 34, 35, 36, 37, 38, 39, 40, 41, 42, 43, 44, 45, 46, 47, 48, 49, 50, 51, 52, 53, 54, 55, 56] rfl Kr Kr Kr Kr Kr) (SplitB.all _) (by simp) (guard_vt rfl rfl rfl) rfl rfl (q_ldA rfl rfl Bt rfl Mm rfl) ?_
  refine ra_qg (.ab (i := 31) (js := []) [32, 33, 34, 35, 36, 37, 38, 39, 40, 41, 42, 43, 44, 45, 46, 47, 48, 49, 50, 51, 52, 53, 54, 55, 56] rfl Kr Kr Kr Kr Kr) (SplitB.all _) (by simp) (guard_vt rfl rfl rfl) rfl rfl (q_ldA rfl rfl Bt rfl Mm rfl) ?_
  refine ra_one 32 Kr ?_
  refine rw_callg (fun hG_ => orangeryref_SameClient_spec x1.1 x1.2.1 x1.2.2.1 x1.2.2.2 ((client_Move c1 me1 node1 parent1 name1).1) x4.1 x4.2.1 x4.2.2.1 x4.2.2.2 ((orangeryref_Moved c1 me1 node1 parent1 name1).1)) (fun _ => rfl) (.an rfl rfl) (guard_vt rfl rfl rfl) rfl rfl rfl Kr rfl Bt Sm ?_
  refine ra_q (.ab (i := 33) (js := []) [34, 35, 36, 37, 38, 39, 40, 41, 42, 43, 44, 45, 46, 47, 48, 49, 50, 51, 52, 53, 54, 55, 56] rfl Kr Kr Kr Kr Kr) (SplitB.all _) (by simp) rfl rfl rfl (q_pev rfl Bt) ?_
  refine ra_q (.ab (i := 34) (js := []) [35, 36, 37, 38, 39, 40, 41, 42, 43, 44, 45, 46, 47, 48, 49, 50, 51, 52, 53, 54, 55, 56] rfl Kr Kr Kr Kr Kr) (SplitB.all _) (by simp) rfl rfl rfl (q_pev rfl (fun _ => rfl)) ?_
  refine ra_qg (.ab (i := 35) (js := [36]) [37, 38, 39, 40, 41, 42, 43, 44, 45, 46, 47, 48, 49, 50, 51, 52, 53, 54, 55, 56] rfl Kr Kr Kr Kr Kr) (SplitB.all _) (by simp) (guard_vt rfl rfl rfl) rfl rfl (q_pev rfl Bt) ?_
  refine ra_qg (.ab (i := 36) (js := []) [37, 38, 39, 40, 41, 42, 43, 44, 45, 46, 47, 48, 49, 50, 51, 52, 53, 54, 55, 56] rfl Kr Kr Kr Kr Kr) (SplitB.all _) (by simp) (guard_vt rfl rfl rfl) rfl rfl (q_pev rfl Bt) ?_
  refine ra_qg (.ab (i := 37) (js := []) [38, 39, 40, 41, 42, 43, 44, 45, 46, 47, 48, 49, 50, 51, 52, 53, 54, 55, 56] rfl Kr Kr Kr Kr Kr) (SplitB.all _) (by simp) (guard_vt rfl rfl rfl) rfl rfl (q_pev rfl Bt) ?_
  refine ra_q (.ab (i := 38) (js := []) [39, 40, 41, 42, 43, 44, 45, 46, 47, 48, 49, 50, 51, 52, 53, 54, 55, 56] rfl Kr Kr Kr Kr Kr) (SplitB.all _) (by simp) rfl rfl rfl (q_pev rfl Bt) ?_
  refine ra_q (.ab (i := 39) (js := []) [40, 41, 42, 43, 44, 45, 46, 47, 48, 49, 50, 51, 52, 53, 54, 55, 56] rfl Kr Kr Kr Kr Kr) (SplitB.all _) (by simp) rfl rfl rfl (q_pev rfl (fun _ => rfl)) ?_
  refine ra_qg (.ab (i := 40) (js := [42, 43]) [41, 44, 45, 46, 47, 48, 49, 50, 51, 52, 53, 54, 55, 56] rfl Kr Kr Kr Kr Kr) (SplitB.all _) (by simp) (guard_vt rfl rfl rfl) rfl rfl (q_pev rfl Bt) ?_
  refine ra_qg (.ab (i := 41) (js := [42, 43]) [44, 45, 46, 47, 48, 49, 50, 51, 52, 53, 54, 55, 56] rfl Kr Kr Kr Kr Kr) (SplitB.all _) (by simp) (guard_vt rfl rfl rfl) rfl rfl (q_ld1 rfl rfl Bt rfl Mm rfl) ?_
  refine ra_qg (.ab (i := 42) (js := []) [43, 44, 45, 46, 47, 48, 49, 50, 51, 52, 53, 54, 55, 56] rfl Kr Kr Kr Kr Kr) (SplitB.all _) (by simp) (guard_vt rfl rfl rfl) rfl rfl (q_pev rfl Bt) ?_
  refine ra_qg (.ab (i := 43) (js := []) [44, 45, 46, 47, 48, 49, 50, 51, 52, 53, 54, 55, 56] rfl Kr Kr Kr Kr Kr) (SplitB.all _) (by simp) (guard_vt rfl rfl rfl) rfl rfl (q_ld1 rfl rfl Bt rfl Mm rfl) ?_
  refine ra_one 44 Kr ?_
  refine rw_callg (fun hG_ => (fun y1 a y2 b => slices_Equal_Place_spec' y1 y2 a b) x2 ((client_Shows c1 me1).1) x5 ((orangeryref_ShownBy c1 me1).1)) (fun _ => rfl) (.an rfl rfl) (guard_vt rfl rfl rfl) rfl rfl rfl Kr rfl Bt Sm ?_
  refine ra_q (.ab (i := 45) (js := []) [46, 47, 48, 49, 50, 51, 52, 53, 54, 55, 56] rfl Kr Kr Kr Kr Kr) (SplitB.all _) (by simp) rfl rfl rfl (q_pev rfl Bt) ?_
  refine ra_q (.ab (i := 46) (js := []) [47, 48, 49, 50, 51, 52, 53, 54, 55, 56] rfl Kr Kr Kr Kr Kr) (SplitB.all _) (by simp) rfl rfl rfl (q_pev rfl (fun _ => rfl)) ?_
  refine ra_qg (.ab (i := 47) (js := [48]) [49, 50, 51, 52, 53, 54, 55, 56] rfl Kr Kr Kr Kr Kr) (SplitB.all _) (by simp) (guard_vt rfl rfl rfl) rfl rfl (q_pev rfl Bt) ?_
  refine ra_qg (.ab (i := 48) (js := []) [49, 50, 51, 52, 53, 54, 55, 56] rfl Kr Kr Kr Kr Kr) (SplitB.all _) (by simp) (guard_vt rfl rfl rfl) rfl rfl (q_pev rfl Bt) ?_
  refine ra_qg (.ab (i := 49) (js := []) [50, 51, 52, 53, 54, 55, 56] rfl Kr Kr Kr Kr Kr) (SplitB.all _) (by simp) (guard_vt rfl rfl rfl) rfl rfl (q_pev rfl Bt) ?_
  refine ra_q (.ab (i := 50) (js := []) [51, 52, 53, 54, 55, 56] rfl Kr Kr Kr Kr Kr) (SplitB.all _) (by simp) rfl rfl rfl (q_pev rfl Bt) ?_
  refine ra_q (.an (i := 51) (js := []) rfl Kr Kr Kr Kr) (SplitB.all _) (by simp) rfl rfl rfl (q_pev rfl (fun _ => rfl)) ?_
  refine ra_qg (.ab (i := 52) (js := [53]) [54, 55, 56] rfl Kr Kr Kr Kr Kr) (SplitB.all _) (by simp) (guard_vt rfl rfl rfl) rfl rfl (q_ldA rfl rfl Bt rfl Mm rfl) ?_
  refine ra_qg (.ab (i := 53) (js := []) [54, 55, 56] rfl Kr Kr Kr Kr Kr) (SplitB.all _) (by simp) (guard_vt rfl rfl rfl) rfl rfl (q_ldA rfl rfl Bt rfl Mm rfl) ?_
  refine ra_one 54 Kr ?_
  refine rw_callg (fun hG_ => orangeryref_SameClient_spec x3.1 x3.2.1 x3.2.2.1 x3.2.2.2 ((client_Begin node1 parent1).1) x6.1 x6.2.1 x6.2.2.1 x6.2.2.2 ((orangeryref_Begun node1 parent1).1)) (fun _ => rfl) (.an rfl rfl) (guard_vt rfl rfl rfl) rfl rfl rfl Kr rfl Bt Sm ?_
  refine ra_q (.an (i := 55) (js := []) rfl Kr Kr Kr Kr) (SplitB.all _) (by simp) rfl rfl rfl (q_pev rfl Bt) ?_
  refine ra_q (.an (i := 56) (js := []) rfl Kr Kr Kr Kr) (SplitB.all _) (by simp) rfl rfl rfl (q_pev rfl (fun _ => rfl)) ?_
  refine ra_nil Kr ?_
  (repeat refine cw_seq ?_)
  have hr1 : (orangerylaw_ClientSays c1 me1 node1 parent1 name1 d1) = (((((((((orangerylaw_lives && ((client_Check c1 me1) == (orangeryref_CheckClient c1 me1))) && ((client_Same c1 d1) == (orangeryref_SameClient c1 d1))) && (((client_Move c1 me1 node1 parent1 name1).2.2) == ((orangeryref_Moved c1 me1 node1 parent1 name1).2.2))) && decide (((client_Move c1 me1 node1 parent1 name1).2.1) = ((orangeryref_Moved c1 me1 node1 parent1 name1).2.1))) && (orangeryref_SameClient ((client_Move c1 me1 node1 parent1 name1).1) ((orangeryref_Moved c1 me1 node1 parent1 name1).1))) && (((client_Shows c1 me1).2) == ((orangeryref_ShownBy c1 me1).2))) && (decide (((client_Shows c1 me1).1) = ((orangeryref_ShownBy c1 me1).1)))) && (((client_Begin node1 parent1).2) == ((orangeryref_Begun node1 parent1).2))) && (orangeryref_SameClient ((client_Begin node1 parent1).1) ((orangeryref_Begun node1 parent1).1))) := by simp only [orangerylaw_ClientSays, cond_true, cond_false]
  refine cw_ret ?_
  rw [hr1]
  exact ⟨(), _, (.cons (.tmp rfl) .nil), rfl, Sm, .nil _, .nil _⟩
end Go.Proofs.Ytchdacbjiomplaa
