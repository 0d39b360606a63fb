/- Part of this claim. No condition. -/
import Derived.Test.YtchdacbjiomplaaW2
set_option linter.unusedVariables false
set_option linter.unusedSimpArgs false
namespace Go.Proofs.Ytchdacbjiomplaa
open Go Go.Proofs.Ytchdacbjiomplaa.Fw Go.Proofs
def orangerylaw_small  : List Place :=
  [(⟨1, 0, 5⟩ : Place), (⟨2, 1, 7⟩ : Place), (⟨3, 1, 6⟩ : Place), (⟨4, 2, 0⟩ : Place)]
theorem orangerylaw_small_spec  : Does Try.prog 123 [] [] (fun (X : SlV) => .agg ⟨[X.val (orangerylaw_small).length]⟩) (fun (X : SlV) => [RdL EPlace X (orangerylaw_small)]) := by
  refine does_of tab_ok Try.func123 rfl Try.ntmps123 Try.results123 rfl inferInstance (fun _ => inferInstance) fun C => ?_
  (repeat refine cw_seq ?_); refine cw_region ?_
  refine rw_alloc .sq (guard_none rfl) rfl rfl rfl rfl fun g1 => ?_
  refine rw_nil ?_
  (repeat refine cw_seq ?_); refine cw_region ?_
  refine Rp rfl rfl rfl rfl ?_
  refine Rp rfl rfl rfl rfl ?_
  refine Rp rfl rfl rfl rfl ?_
  refine Rp rfl rfl rfl rfl ?_
  refine rw_bsliceL EPlace [(⟨1, 0, 5⟩ : Place), (⟨2, 1, 7⟩ : Place), (⟨3, 1, 6⟩ : Place), (⟨4, 2, 0⟩ : Place)] .sq (guard_none rfl) rfl rfl rfl rfl rfl rfl rfl rfl rfl rfl rfl rfl rfl rfl rfl fun x1 x1b => ?_
  refine Rp rfl rfl rfl rfl ?_
  refine rw_stA .sq (.inl ⟨_, rfl⟩) (guard_none rfl) rfl rfl rfl rfl rfl rfl rfl rfl rfl Ub rfl ?_
  refine rw_nil ?_
  (repeat refine cw_seq ?_)
  refine cw_le (le_freezeL EPlace 35 x1 x1b [(⟨1, 0, 5⟩ : Place), (⟨2, 1, 7⟩ : Place), (⟨3, 1, 6⟩ : Place), (⟨4, 2, 0⟩ : Place)] Uo) ?_
  have hr1 : (orangerylaw_small) = [(⟨1, 0, 5⟩ : Place), (⟨2, 1, 7⟩ : Place), (⟨3, 1, 6⟩ : Place), (⟨4, 2, 0⟩ : Place)] := by simp only [orangerylaw_small, cond_true, cond_false]
  refine cw_ret ?_
  rw [hr1]
  exact ⟨x1, _, (.cons (.agg rfl rfl Mm rfl) .nil), rfl, Sm, .nil _, .nil _⟩

def orangerylaw_op (time1 : Int) (who1 : Int) (node1 : Int) (parent1 : Int) : Op :=
  (⟨time1, who1, node1, parent1, 0, 1, time1⟩ : Op)
theorem orangerylaw_op_spec (time1 : Int) (who1 : Int) (node1 : Int) (parent1 : Int) : Does Try.prog 124 [.int .i64 time1, .int .i64 who1, .int .i64 node1, .int .i64 parent1] [] (fun (_ : Unit) => .agg ⟨[.int .i64 ((orangerylaw_op time1 who1 node1 parent1).time), .int .i64 ((orangerylaw_op time1 who1 node1 parent1).who), .int .i64 ((orangerylaw_op time1 who1 node1 parent1).node), .int .i64 ((orangerylaw_op time1 who1 node1 parent1).parent), .int .i64 ((orangerylaw_op time1 who1 node1 parent1).name), .int .i64 ((orangerylaw_op time1 who1 node1 parent1).life), .int .i64 ((orangerylaw_op time1 who1 node1 parent1).seq)]⟩) (fun (_ : Unit) => []) := by
  refine does_of tab_ok Try.func124 rfl Try.ntmps124 Try.results124 rfl inferInstance (fun _ => inferInstance) fun C => ?_
  (repeat refine cw_seq ?_); refine cw_region ?_
  refine rw_alloc .sq (guard_none rfl) rfl rfl rfl rfl fun g1 => ?_
  refine rw_nil ?_
  (repeat refine cw_seq ?_); refine cw_region ?_
  refine Rp rfl rfl rfl rfl ?_
  refine Rp rfl rfl rfl rfl ?_
  refine Rp rfl rfl rfl rfl ?_
  refine Rp rfl rfl rfl rfl ?_
  refine Rp rfl rfl rfl rfl ?_
  refine Rp rfl rfl rfl rfl ?_
  refine Rp rfl rfl rfl rfl ?_
  refine rw_stA .sq (.inl ⟨_, rfl⟩) (guard_none rfl) rfl rfl rfl rfl rfl rfl rfl rfl rfl Ub rfl ?_
  refine rw_nil ?_
  (repeat refine cw_seq ?_)
  have hr1 : (orangerylaw_op time1 who1 node1 parent1) = (⟨time1, who1, node1, parent1, 0, 1, time1⟩ : Op) := by simp only [orangerylaw_op, cond_true, cond_false]
  refine cw_ret ?_
  rw [hr1]
  exact ⟨(), _, (.cons (.agg rfl rfl Mm rfl) .nil), rfl, Sm, .nil _, .nil _⟩

def orangerylaw_moved  : Bool :=
  ((((((((((((((((move_Do orangerylaw_small (orangerylaw_op 1 0 2 3)).2.2) == 0) && (((move_Undo ((move_Do orangerylaw_small (orangerylaw_op 1 0 2 3)).1) ((move_Do orangerylaw_small (orangerylaw_op 1 0 2 3)).2.1)).2) == 0)) && (((move_Do orangerylaw_small (orangerylaw_op 1 0 1 4)).2.2) == 0)) && (((move_Do orangerylaw_small (orangerylaw_op 1 0 9 0)).2.2) == 0)) && (((move_Undo ((move_Do orangerylaw_small (orangerylaw_op 1 0 9 0)).1) ((move_Do orangerylaw_small (orangerylaw_op 1 0 9 0)).2.1)).2) == 0)) && ((move_Do orangerylaw_small (orangerylaw_op 1 0 2 3)).2.1).did) && (((((move_Do orangerylaw_small (orangerylaw_op 1 0 2 3)).2.1).was).parent) == 1)) && (((tree_Find ((move_Do orangerylaw_small (orangerylaw_op 1 0 2 3)).1) 2).parent) == 3)) && (decide (((move_Undo ((move_Do orangerylaw_small (orangerylaw_op 1 0 2 3)).1) ((move_Do orangerylaw_small (orangerylaw_op 1 0 2 3)).2.1)).1) = orangerylaw_small))) && (!(((move_Do orangerylaw_small (orangerylaw_op 1 0 1 4)).2.1).did))) && (decide (((move_Do orangerylaw_small (orangerylaw_op 1 0 1 4)).1) = orangerylaw_small))) && ((((move_Do orangerylaw_small (orangerylaw_op 1 0 9 0)).1).length : Int) == 5)) && (decide (((move_Undo ((move_Do orangerylaw_small (orangerylaw_op 1 0 9 0)).1) ((move_Do orangerylaw_small (orangerylaw_op 1 0 9 0)).2.1)).1) = orangerylaw_small))) && ((move_Check (orangerylaw_op 1 0 16 0)) == 3))
theorem orangerylaw_moved_spec  : Does Try.prog 29 [] [] (fun (_ : Unit) => .bool (orangerylaw_moved)) (fun (_ : Unit) => []) := by
  refine does_of tab_ok Try.func29 rfl Try.ntmps29 Try.results29 rfl inferInstance (fun _ => inferInstance) fun C => ?_
  (repeat refine cw_seq ?_); refine cw_region ?_
  refine Rp rfl rfl rfl rfl ?_
  refine rw_nil ?_
  (repeat refine cw_seq ?_); refine cw_region ?_
  refine rw_call (orangerylaw_small_spec ) .sq (guard_none rfl) rfl rfl rfl Kr rfl rfl Sm ?_
  intro x1
  refine rw_pure (φ := orangerylaw_small.length * 24 ≤ 140737488355328) [RdL EPlace x1 orangerylaw_small] Sm (fun M w h => (allF1 h).len) fun hlen1 => ?_
  refine rw_call (orangerylaw_op_spec 1 0 2 3) .sq (guard_none rfl) rfl rfl rfl Kr rfl rfl Sm ?_
  intro _
  refine rw_call (move_Do_spec x1 orangerylaw_small (orangerylaw_op 1 0 2 3)) .sq (guard_none rfl) rfl rfl rfl Kr rfl rfl Sm ?_
  intro x2
  refine rw_pure (φ := ((move_Do orangerylaw_small (orangerylaw_op 1 0 2 3)).1).length * 24 ≤ 140737488355328) [RdL EPlace x2 ((move_Do orangerylaw_small (orangerylaw_op 1 0 2 3)).1)] Sm (fun M w h => (allF1 h).len) fun hlen2 => ?_
  refine Rp rfl rfl rfl rfl ?_
  refine Rp rfl rfl rfl rfl ?_
  refine Rp rfl rfl rfl rfl ?_
  refine Rp rfl rfl rfl rfl ?_
  refine rw_alloc .sq (guard_none rfl) rfl rfl rfl rfl fun g1 => ?_
  refine rw_alloc .sq (guard_none rfl) rfl rfl rfl rfl fun g2 => ?_
  refine rw_stA .sq (.inl ⟨_, rfl⟩) (guard_none rfl) rfl rfl rfl rfl rfl rfl rfl rfl rfl Ub rfl ?_
  refine rw_stA .sq (.inl ⟨_, rfl⟩) (guard_none rfl) rfl rfl rfl rfl rfl rfl rfl rfl rfl Ub rfl ?_
  refine Rp rfl rfl rfl rfl ?_
  refine rw_nil ?_
  (repeat refine cw_seq ?_); refine cw_region ?_
  refine rw_q rfl rfl rfl (q_ldA rfl rfl (fun _ => rfl) rfl Mm rfl) ?_
  refine rw_q rfl rfl rfl (q_ldA rfl rfl (fun _ => rfl) rfl Mm rfl) ?_
  refine rw_call (move_Undo_spec x2 ((move_Do orangerylaw_small (orangerylaw_op 1 0 2 3)).1) ((move_Do orangerylaw_small (orangerylaw_op 1 0 2 3)).2.1)) .sq (guard_none rfl) rfl rfl rfl Kr rfl rfl Sm ?_
  intro x3
  refine rw_pure (φ := ((move_Undo ((move_Do orangerylaw_small (orangerylaw_op 1 0 2 3)).1) ((move_Do orangerylaw_small (orangerylaw_op 1 0 2 3)).2.1)).1).length * 24 ≤ 140737488355328) [RdL EPlace x3 ((move_Undo ((move_Do orangerylaw_small (orangerylaw_op 1 0 2 3)).1) ((move_Do orangerylaw_small (orangerylaw_op 1 0 2 3)).2.1)).1)] Sm (fun M w h => (allF1 h).len) fun hlen3 => ?_
  refine Rp rfl rfl rfl rfl ?_
  refine Rp rfl rfl rfl rfl ?_
  refine Rp rfl rfl rfl rfl ?_
  refine rw_alloc .sq (guard_none rfl) rfl rfl rfl rfl fun g3 => ?_
  refine rw_stA .sq (.inl ⟨_, rfl⟩) (guard_none rfl) rfl rfl rfl rfl rfl rfl rfl rfl rfl Ub rfl ?_
  refine Rp rfl rfl rfl rfl ?_
  refine rw_nil ?_
  (repeat refine cw_seq ?_); refine cw_region ?_
  refine rw_call (orangerylaw_small_spec ) .sq (guard_none rfl) rfl rfl rfl Kr rfl rfl Sm ?_
  intro x4
  refine rw_pure (φ := orangerylaw_small.length * 24 ≤ 140737488355328) [RdL EPlace x4 orangerylaw_small] Sm (fun M w h => (allF1 h).len) fun hlen4 => ?_
  refine rw_call (orangerylaw_op_spec 1 0 1 4) .sq (guard_none rfl) rfl rfl rfl Kr rfl rfl Sm ?_
  intro _
  refine rw_call (move_Do_spec x4 orangerylaw_small (orangerylaw_op 1 0 1 4)) .sq (guard_none rfl) rfl rfl rfl Kr rfl rfl Sm ?_
  intro x5
  refine rw_pure (φ := ((move_Do orangerylaw_small (orangerylaw_op 1 0 1 4)).1).length * 24 ≤ 140737488355328) [RdL EPlace x5 ((move_Do orangerylaw_small (orangerylaw_op 1 0 1 4)).1)] Sm (fun M w h => (allF1 h).len) fun hlen5 => ?_
  refine Rp rfl rfl rfl rfl ?_
  refine Rp rfl rfl rfl rfl ?_
  refine Rp rfl rfl rfl rfl ?_
  refine Rp rfl rfl rfl rfl ?_
  refine rw_alloc .sq (guard_none rfl) rfl rfl rfl rfl fun g4 => ?_
  refine rw_alloc .sq (guard_none rfl) rfl rfl rfl rfl fun g5 => ?_
  refine rw_stA .sq (.inl ⟨_, rfl⟩) (guard_none rfl) rfl rfl rfl rfl rfl rfl rfl rfl rfl Ub rfl ?_
  refine rw_stA .sq (.inl ⟨_, rfl⟩) (guard_none rfl) rfl rfl rfl rfl rfl rfl rfl rfl rfl Ub rfl ?_
  refine Rp rfl rfl rfl rfl ?_
  refine rw_nil ?_
  (repeat refine cw_seq ?_); refine cw_region ?_
  refine rw_call (orangerylaw_small_spec ) .sq (guard_none rfl) rfl rfl rfl Kr rfl rfl Sm ?_
  intro x6
  refine rw_pure (φ := orangerylaw_small.length * 24 ≤ 140737488355328) [RdL EPlace x6 orangerylaw_small] Sm (fun M w h => (allF1 h).len) fun hlen6 => ?_
  refine rw_call (orangerylaw_op_spec 1 0 9 0) .sq (guard_none rfl) rfl rfl rfl Kr rfl rfl Sm ?_
  intro _
  refine rw_call (move_Do_spec x6 orangerylaw_small (orangerylaw_op 1 0 9 0)) .sq (guard_none rfl) rfl rfl rfl Kr rfl rfl Sm ?_
  intro x7
  refine rw_pure (φ := ((move_Do orangerylaw_small (orangerylaw_op 1 0 9 0)).1).length * 24 ≤ 140737488355328) [RdL EPlace x7 ((move_Do orangerylaw_small (orangerylaw_op 1 0 9 0)).1)] Sm (fun M w h => (allF1 h).len) fun hlen7 => ?_
  refine Rp rfl rfl rfl rfl ?_
  refine Rp rfl rfl rfl rfl ?_
  refine Rp rfl rfl rfl rfl ?_
  refine Rp rfl rfl rfl rfl ?_
  refine rw_alloc .sq (guard_none rfl) rfl rfl rfl rfl fun g6 => ?_
  refine rw_alloc .sq (guard_none rfl) rfl rfl rfl rfl fun g7 => ?_
  refine rw_stA .sq (.inl ⟨_, rfl⟩) (guard_none rfl) rfl rfl rfl rfl rfl rfl rfl rfl rfl Ub rfl ?_
  refine rw_stA .sq (.inl ⟨_, rfl⟩) (guard_none rfl) rfl rfl rfl rfl rfl rfl rfl rfl rfl Ub rfl ?_
  refine Rp rfl rfl rfl rfl ?_
  refine rw_nil ?_
  (repeat refine cw_seq ?_); refine cw_region ?_
  refine rw_q rfl rfl rfl (q_ldA rfl rfl (fun _ => rfl) rfl Mm rfl) ?_
  refine rw_q rfl rfl rfl (q_ldA rfl rfl (fun _ => rfl) rfl Mm rfl) ?_
  refine rw_call (move_Undo_spec x7 ((move_Do orangerylaw_small (orangerylaw_op 1 0 9 0)).1) ((move_Do orangerylaw_small (orangerylaw_op 1 0 9 0)).2.1)) .sq (guard_none rfl) rfl rfl rfl Kr rfl rfl Sm ?_
  intro x8
  refine rw_pure (φ := ((move_Undo ((move_Do orangerylaw_small (orangerylaw_op 1 0 9 0)).1) ((move_Do orangerylaw_small (orangerylaw_op 1 0 9 0)).2.1)).1).length * 24 ≤ 140737488355328) [RdL EPlace x8 ((move_Undo ((move_Do orangerylaw_small (orangerylaw_op 1 0 9 0)).1) ((move_Do orangerylaw_small (orangerylaw_op 1 0 9 0)).2.1)).1)] Sm (fun M w h => (allF1 h).len) fun hlen8 => ?_
  refine Rp rfl rfl rfl rfl ?_
  refine Rp rfl rfl rfl rfl ?_
  refine Rp rfl rfl rfl rfl ?_
  refine rw_alloc .sq (guard_none rfl) rfl rfl rfl rfl fun g8 => ?_
  refine rw_stA .sq (.inl ⟨_, rfl⟩) (guard_none rfl) rfl rfl rfl rfl rfl rfl rfl rfl rfl Ub rfl ?_
  refine Rp rfl rfl rfl rfl ?_
  refine rw_nil ?_
  (repeat refine cw_seq ?_); refine cw_regionA (fun _ => some []) ?_
  refine ra_q (.ab (i := 0) (js := []) [1, 2, 3, 4, 5, 6, 7, 8, 9, 10, 11, 12, 13, 14, 15, 16, 17, 18, 19, 20, 21, 22, 23, 24, 25, 26, 27, 28, 29, 30, 31, 32, 33, 34, 35, 36, 37, 38, 39, 40, 41, 42, 43, 44, 45, 46, 47, 48, 49, 50, 51, 52, 53, 54, 55, 56, 57, 58, 59, 60, 61, 62, 63, 64, 65, 66, 67, 68, 69, 70, 71] rfl Kr Kr Kr Kr Kr) (SplitB.all _) (by simp) rfl rfl rfl (q_pev rfl (fun _ => rfl)) ?_
  refine ra_q (.ab (i := 1) (js := []) [2, 3, 4, 5, 6, 7, 8, 9, 10, 11, 12, 13, 14, 15, 16, 17, 18, 19, 20, 21, 22, 23, 24, 25, 26, 27, 28, 29, 30, 31, 32, 33, 34, 35, 36, 37, 38, 39, 40, 41, 42, 43, 44, 45, 46, 47, 48, 49, 50, 51, 52, 53, 54, 55, 56, 57, 58, 59, 60, 61, 62, 63, 64, 65, 66, 67, 68, 69, 70, 71] rfl Kr Kr Kr Kr Kr) (SplitB.all _) (by simp) rfl rfl rfl (q_pev rfl (fun _ => rfl)) ?_
  refine ra_q (.ab (i := 2) (js := []) [3, 4, 5, 6, 7, 8, 9, 10, 11, 12, 13, 14, 15, 16, 17, 18, 19, 20, 21, 22, 23, 24, 25, 26, 27, 28, 29, 30, 31, 32, 33, 34, 35, 36, 37, 38, 39, 40, 41, 42, 43, 44, 45, 46, 47, 48, 49, 50, 51, 52, 53, 54, 55, 56, 57, 58, 59, 60, 61, 62, 63, 64, 65, 66, 67, 68, 69, 70, 71] rfl Kr Kr Kr Kr Kr) (SplitB.all _) (by simp) rfl rfl rfl (q_pev rfl (fun _ => rfl)) ?_
  refine ra_qg (.ab (i := 3) (js := []) [4, 5, 6, 7, 8, 9, 10, 11, 12, 13, 14, 15, 16, 17, 18, 19, 20, 21, 22, 23, 24, 25, 26, 27, 28, 29, 30, 31, 32, 33, 34, 35, 36, 37, 38, 39, 40, 41, 42, 43, 44, 45, 46, 47, 48, 49, 50, 51, 52, 53, 54, 55, 56, 57, 58, 59, 60, 61, 62, 63, 64, 65, 66, 67, 68, 69, 70, 71] rfl Kr Kr Kr Kr Kr) (SplitB.all _) (by simp) (guard_vt rfl rfl rfl) rfl rfl (q_pev rfl Bt) ?_
  refine ra_qg (.ab (i := 4) (js := []) [5, 6, 7, 8, 9, 10, 11, 12, 13, 14, 15, 16, 17, 18, 19, 20, 21, 22, 23, 24, 25, 26, 27, 28, 29, 30, 31, 32, 33, 34, 35, 36, 37, 38, 39, 40, 41, 42, 43, 44, 45, 46, 47, 48, 49, 50, 51, 52, 53, 54, 55, 56, 57, 58, 59, 60, 61, 62, 63, 64, 65, 66, 67, 68, 69, 70, 71] rfl Kr Kr Kr Kr Kr) (SplitB.all _) (by simp) (guard_vt rfl rfl rfl) rfl rfl (q_pev rfl Bt) ?_
  refine ra_q (.ab (i := 5) (js := []) [6, 7, 8, 9, 10, 11, 12, 13, 14, 15, 16, 17, 18, 19, 20, 21, 22, 23, 24, 25, 26, 27, 28, 29, 30, 31, 32, 33, 34, 35, 36, 37, 38, 39, 40, 41, 42, 43, 44, 45, 46, 47, 48, 49, 50, 51, 52, 53, 54, 55, 56, 57, 58, 59, 60, 61, 62, 63, 64, 65, 66, 67, 68, 69, 70, 71] rfl Kr Kr Kr Kr Kr) (SplitB.all _) (by simp) rfl rfl rfl (q_pev rfl Bt) ?_
  refine ra_q (.ab (i := 6) (js := []) [7, 8, 9, 10, 11, 12, 13, 14, 15, 16, 17, 18, 19, 20, 21, 22, 23, 24, 25, 26, 27, 28, 29, 30, 31, 32, 33, 34, 35, 36, 37, 38, 39, 40, 41, 42, 43, 44, 45, 46, 47, 48, 49, 50, 51, 52, 53, 54, 55, 56, 57, 58, 59, 60, 61, 62, 63, 64, 65, 66, 67, 68, 69, 70, 71] rfl Kr Kr Kr Kr Kr) (SplitB.all _) (by simp) rfl rfl rfl (q_pev rfl (fun _ => rfl)) ?_
  refine ra_qg (.ab (i := 7) (js := []) [8, 9, 10, 11, 12, 13, 14, 15, 16, 17, 18, 19, 20, 21, 22, 23, 24, 25, 26, 27, 28, 29, 30, 31, 32, 33, 34, 35, 36, 37, 38, 39, 40, 41, 42, 43, 44, 45, 46, 47, 48, 49, 50, 51, 52, 53, 54, 55, 56, 57, 58, 59, 60, 61, 62, 63, 64, 65, 66, 67, 68, 69, 70, 71] rfl Kr Kr Kr Kr Kr) (SplitB.all _) (by simp) (guard_vt rfl rfl rfl) rfl rfl (q_pev rfl Bt) ?_
  refine ra_qg (.ab (i := 8) (js := []) [9, 10, 11, 12, 13, 14, 15, 16, 17, 18, 19, 20, 21, 22, 23, 24, 25, 26, 27, 28, 29, 30, 31, 32, 33, 34, 35, 36, 37, 38, 39, 40, 41, 42, 43, 44, 45, 46, 47, 48, 49, 50, 51, 52, 53, 54, 55, 56, 57, 58, 59, 60, 61, 62, 63, 64, 65, 66, 67, 68, 69, 70, 71] rfl Kr Kr Kr Kr Kr) (SplitB.all _) (by simp) (guard_vt rfl rfl rfl) rfl rfl (q_pev rfl Bt) ?_
  refine ra_q (.ab (i := 9) (js := []) [10, 11, 12, 13, 14, 15, 16, 17, 18, 19, 20, 21, 22, 23, 24, 25, 26, 27, 28, 29, 30, 31, 32, 33, 34, 35, 36, 37, 38, 39, 40, 41, 42, 43, 44, 45, 46, 47, 48, 49, 50, 51, 52, 53, 54, 55, 56, 57, 58, 59, 60, 61, 62, 63, 64, 65, 66, 67, 68, 69, 70, 71] rfl Kr Kr Kr Kr Kr) (SplitB.all _) (by simp) rfl rfl rfl (q_pev rfl Bt) ?_
  refine ra_q (.ab (i := 10) (js := []) [11, 12, 13, 14, 15, 16, 17, 18, 19, 20, 21, 22, 23, 24, 25, 26, 27, 28, 29, 30, 31, 32, 33, 34, 35, 36, 37, 38, 39, 40, 41, 42, 43, 44, 45, 46, 47, 48, 49, 50, 51, 52, 53, 54, 55, 56, 57, 58, 59, 60, 61, 62, 63, 64, 65, 66, 67, 68, 69, 70, 71] rfl Kr Kr Kr Kr Kr) (SplitB.all _) (by simp) rfl rfl rfl (q_pev rfl (fun _ => rfl)) ?_
  refine ra_qg (.ab (i := 11) (js := []) [12, 13, 14, 15, 16, 17, 18, 19, 20, 21, 22, 23, 24, 25, 26, 27, 28, 29, 30, 31, 32, 33, 34, 35, 36, 37, 38, 39, 40, 41, 42, 43, 44, 45, 46, 47, 48, 49, 50, 51, 52, 53, 54, 55, 56, 57, 58, 59, 60, 61, 62, 63, 64, 65, 66, 67, 68, 69, 70, 71] rfl Kr Kr Kr Kr Kr) (SplitB.all _) (by simp) (guard_vt rfl rfl rfl) rfl rfl (q_pev rfl Bt) ?_
  refine ra_qg (.ab (i := 12) (js := []) [13, 14, 15, 16, 17, 18, 19, 20, 21, 22, 23, 24, 25, 26, 27, 28, 29, 30, 31, 32, 33, 34, 35, 36, 37, 38, 39, 40, 41, 42, 43, 44, 45, 46, 47, 48, 49, 50, 51, 52, 53, 54, 55, 56, 57, 58, 59, 60, 61, 62, 63, 64, 65, 66, 67, 68, 69, 70, 71] rfl Kr Kr Kr Kr Kr) (SplitB.all _) (by simp) (guard_vt rfl rfl rfl) rfl rfl (q_pev rfl Bt) ?_
  refine ra_q (.ab (i := 13) (js := []) [14, 15, 16, 17, 18, 19, 20, 21, 22, 23, 24, 25, 26, 27, 28, 29, 30, 31, 32, 33, 34, 35, 36, 37, 38, 39, 40, 41, 42, 43, 44, 45, 46, 47, 48, 49, 50, 51, 52, 53, 54, 55, 56, 57, 58, 59, 60, 61, 62, 63, 64, 65, 66, 67, 68, 69, 70, 71] rfl Kr Kr Kr Kr Kr) (SplitB.all _) (by simp) rfl rfl rfl (q_pev rfl Bt) ?_
  refine ra_q (.ab (i := 14) (js := []) [15, 16, 17, 18, 19, 20, 21, 22, 23, 24, 25, 26, 27, 28, 29, 30, 31, 32, 33, 34, 35, 36, 37, 38, 39, 40, 41, 42, 43, 44, 45, 46, 47, 48, 49, 50, 51, 52, 53, 54, 55, 56, 57, 58, 59, 60, 61, 62, 63, 64, 65, 66, 67, 68, 69, 70, 71] rfl Kr Kr Kr Kr Kr) (SplitB.all _) (by simp) rfl rfl rfl (q_pev rfl (fun _ => rfl)) ?_
  refine ra_qg (.ab (i := 15) (js := []) [16, 17, 18, 19, 20, 21, 22, 23, 24, 25, 26, 27, 28, 29, 30, 31, 32, 33, 34, 35, 36, 37, 38, 39, 40, 41, 42, 43, 44, 45, 46, 47, 48, 49, 50, 51, 52, 53, 54, 55, 56, 57, 58, 59, 60, 61, 62, 63, 64, 65, 66, 67, 68, 69, 70, 71] rfl Kr Kr Kr Kr Kr) (SplitB.all _) (by simp) (guard_vt rfl rfl rfl) rfl rfl (q_pev rfl Bt) ?_
  refine ra_qg (.ab (i := 16) (js := []) [17, 18, 19, 20, 21, 22, 23, 24, 25, 26, 27, 28, 29, 30, 31, 32, 33, 34, 35, 36, 37, 38, 39, 40, 41, 42, 43, 44, 45, 46, 47, 48, 49, 50, 51, 52, 53, 54, 55, 56, 57, 58, 59, 60, 61, 62, 63, 64, 65, 66, 67, 68, 69, 70, 71] rfl Kr Kr Kr Kr Kr) (SplitB.all _) (by simp) (guard_vt rfl rfl rfl) rfl rfl (q_pev rfl Bt) ?_
  refine ra_q (.ab (i := 17) (js := []) [18, 19, 20, 21, 22, 23, 24, 25, 26, 27, 28, 29, 30, 31, 32, 33, 34, 35, 36, 37, 38, 39, 40, 41, 42, 43, 44, 45, 46, 47, 48, 49, 50, 51, 52, 53, 54, 55, 56, 57, 58, 59, 60, 61, 62, 63, 64, 65, 66, 67, 68, 69, 70, 71] rfl Kr Kr Kr Kr Kr) (SplitB.all _) (by simp) rfl rfl rfl (q_pev rfl Bt) ?_
  refine ra_q (.ab (i := 18) (js := []) [19, 20, 21, 22, 23, 24, 25, 26, 27, 28, 29, 30, 31, 32, 33, 34, 35, 36, 37, 38, 39, 40, 41, 42, 43, 44, 45, 46, 47, 48, 49, 50, 51, 52, 53, 54, 55, 56, 57, 58, 59, 60, 61, 62, 63, 64, 65, 66, 67, 68, 69, 70, 71] rfl Kr Kr Kr Kr Kr) (SplitB.all _) (by simp) rfl rfl rfl (q_pev rfl (fun _ => rfl)) ?_
  refine ra_qg (.ab (i := 19) (js := []) [20, 21, 22, 23, 24, 25, 26, 27, 28, 29, 30, 31, 32, 33, 34, 35, 36, 37, 38, 39, 40, 41, 42, 43, 44, 45, 46, 47, 48, 49, 50, 51, 52, 53, 54, 55, 56, 57, 58, 59, 60, 61, 62, 63, 64, 65, 66, 67, 68, 69, 70, 71] rfl Kr Kr Kr Kr Kr) (SplitB.all _) (by simp) (guard_vt rfl rfl rfl) rfl rfl (q_pev rfl Bt) ?_
  refine ra_qg (.ab (i := 20) (js := []) [21, 22, 23, 24, 25, 26, 27, 28, 29, 30, 31, 32, 33, 34, 35, 36, 37, 38, 39, 40, 41, 42, 43, 44, 45, 46, 47, 48, 49, 50, 51, 52, 53, 54, 55, 56, 57, 58, 59, 60, 61, 62, 63, 64, 65, 66, 67, 68, 69, 70, 71] rfl Kr Kr Kr Kr Kr) (SplitB.all _) (by simp) (guard_vt rfl rfl rfl) rfl rfl (q_ld1 rfl rfl Bt rfl Mm rfl) ?_
  refine ra_q (.ab (i := 21) (js := []) [22, 23, 24, 25, 26, 27, 28, 29, 30, 31, 32, 33, 34, 35, 36, 37, 38, 39, 40, 41, 42, 43, 44, 45, 46, 47, 48, 49, 50, 51, 52, 53, 54, 55, 56, 57, 58, 59, 60, 61, 62, 63, 64, 65, 66, 67, 68, 69, 70, 71] rfl Kr Kr Kr Kr Kr) (SplitB.all _) (by simp) rfl rfl rfl (q_pev rfl Bt) ?_
  refine ra_q (.ab (i := 22) (js := []) [23, 24, 25, 26, 27, 28, 29, 30, 31, 32, 33, 34, 35, 36, 37, 38, 39, 40, 41, 42, 43, 44, 45, 46, 47, 48, 49, 50, 51, 52, 53, 54, 55, 56, 57, 58, 59, 60, 61, 62, 63, 64, 65, 66, 67, 68, 69, 70, 71] rfl Kr Kr Kr Kr Kr) (SplitB.all _) (by simp) rfl rfl rfl (q_pev rfl (fun _ => rfl)) ?_
  refine ra_qg (.ab (i := 23) (js := []) [24, 25, 26, 27, 28, 29, 30, 31, 32, 33, 34, 35, 36, 37, 38, 39, 40, 41, 42, 43, 44, 45, 46, 47, 48, 49, 50, 51, 52, 53, 54, 55, 56, 57, 58, 59, 60, 61, 62, 63, 64, 65, 66, 67, 68, 69, 70, 71] rfl Kr Kr Kr Kr Kr) (SplitB.all _) (by simp) (guard_vt rfl rfl rfl) rfl rfl (q_pev rfl Bt) ?_
  refine ra_qg (.ab (i := 24) (js := []) [25, 26, 27, 28, 29, 30, 31, 32, 33, 34, 35, 36, 37, 38, 39, 40, 41, 42, 43, 44, 45, 46, 47, 48, 49, 50, 51, 52, 53, 54, 55, 56, 57, 58, 59, 60, 61, 62, 63, 64, 65, 66, 67, 68, 69, 70, 71] rfl Kr Kr Kr Kr Kr) (SplitB.all _) (by simp) (guard_vt rfl rfl rfl) rfl rfl (q_pev rfl Bt) ?_
  refine ra_qg (.ab (i := 25) (js := []) [26, 27, 28, 29, 30, 31, 32, 33, 34, 35, 36, 37, 38, 39, 40, 41, 42, 43, 44, 45, 46, 47, 48, 49, 50, 51, 52, 53, 54, 55, 56, 57, 58, 59, 60, 61, 62, 63, 64, 65, 66, 67, 68, 69, 70, 71] rfl Kr Kr Kr Kr Kr) (SplitB.all _) (by simp) (guard_vt rfl rfl rfl) rfl rfl (q_ld1 rfl rfl Bt rfl Mm rfl) ?_
  refine ra_qg (.ab (i := 26) (js := []) [27, 28, 29, 30, 31, 32, 33, 34, 35, 36, 37, 38, 39, 40, 41, 42, 43, 44, 45, 46, 47, 48, 49, 50, 51, 52, 53, 54, 55, 56, 57, 58, 59, 60, 61, 62, 63, 64, 65, 66, 67, 68, 69, 70, 71] rfl Kr Kr Kr Kr Kr) (SplitB.all _) (by simp) (guard_vt rfl rfl rfl) rfl rfl (q_pev rfl Bt) ?_
  refine ra_q (.ab (i := 27) (js := []) [28, 29, 30, 31, 32, 33, 34, 35, 36, 37, 38, 39, 40, 41, 42, 43, 44, 45, 46, 47, 48, 49, 50, 51, 52, 53, 54, 55, 56, 57, 58, 59, 60, 61, 62, 63, 64, 65, 66, 67, 68, 69, 70, 71] rfl Kr Kr Kr Kr Kr) (SplitB.all _) (by simp) rfl rfl rfl (q_pev rfl Bt) ?_
  refine ra_q (.ab (i := 28) (js := []) [29, 30, 31, 32, 33, 34, 35, 36, 37, 38, 39, 40, 41, 42, 43, 44, 45, 46, 47, 48, 49, 50, 51, 52, 53, 54, 55, 56, 57, 58, 59, 60, 61, 62, 63, 64, 65, 66, 67, 68, 69, 70, 71] rfl Kr Kr Kr Kr Kr) (SplitB.all _) (by simp) rfl rfl rfl (q_pev rfl (fun _ => rfl)) ?_
  refine ra_qg (.ab (i := 29) (js := []) [30, 31, 32, 33, 34, 35, 36, 37, 38, 39, 40, 41, 42, 43, 44, 45, 46, 47, 48, 49, 50, 51, 52, 53, 54, 55, 56, 57, 58, 59, 60, 61, 62, 63, 64, 65, 66, 67, 68, 69, 70, 71] rfl Kr Kr Kr Kr Kr) (SplitB.all _) (by simp) (guard_vt rfl rfl rfl) rfl rfl (q_ldA rfl rfl Bt rfl Mm rfl) ?_
  refine ra_one 30 Kr ?_
  refine rw_callg (fun hG_ => tree_Find_spec x2 ((move_Do orangerylaw_small (orangerylaw_op 1 0 2 3)).1) 2) (fun _ => rfl) (.an rfl rfl) (guard_vt rfl rfl rfl) rfl rfl rfl Kr rfl Bt Sm ?_
  refine ra_qg (.ab (i := 31) (js := []) [32, 33, 34, 35, 36, 37, 38, 39, 40, 41, 42, 43, 44, 45, 46, 47, 48, 49, 50, 51, 52, 53, 54, 55, 56, 57, 58, 59, 60, 61, 62, 63, 64, 65, 66, 67, 68, 69, 70, 71] rfl Kr Kr Kr Kr Kr) (SplitB.all _) (by simp) (guard_vt rfl rfl rfl) rfl rfl (q_pev rfl Bt) ?_
  refine ra_qg (.ab (i := 32) (js := []) [33, 34, 35, 36, 37, 38, 39, 40, 41, 42, 43, 44, 45, 46, 47, 48, 49, 50, 51, 52, 53, 54, 55, 56, 57, 58, 59, 60, 61, 62, 63, 64, 65, 66, 67, 68, 69, 70, 71] rfl Kr Kr Kr Kr Kr) (SplitB.all _) (by simp) (guard_vt rfl rfl rfl) rfl rfl (q_pev rfl Bt) ?_
  refine ra_q (.ab (i := 33) (js := []) [34, 35, 36, 37, 38, 39, 40, 41, 42, 43, 44, 45, 46, 47, 48, 49, 50, 51, 52, 53, 54, 55, 56, 57, 58, 59, 60, 61, 62, 63, 64, 65, 66, 67, 68, 69, 70, 71] rfl Kr Kr Kr Kr Kr) (SplitB.all _) (by simp) rfl rfl rfl (q_pev rfl Bt) ?_
  refine ra_q (.ab (i := 34) (js := []) [35, 36, 37, 38, 39, 40, 41, 42, 43, 44, 45, 46, 47, 48, 49, 50, 51, 52, 53, 54, 55, 56, 57, 58, 59, 60, 61, 62, 63, 64, 65, 66, 67, 68, 69, 70, 71] rfl Kr Kr Kr Kr Kr) (SplitB.all _) (by simp) rfl rfl rfl (q_pev rfl (fun _ => rfl)) ?_
  refine ra_qg (.ab (i := 35) (js := [37, 38]) [36, 39, 40, 41, 42, 43, 44, 45, 46, 47, 48, 49, 50, 51, 52, 53, 54, 55, 56, 57, 58, 59, 60, 61, 62, 63, 64, 65, 66, 67, 68, 69, 70, 71] rfl Kr Kr Kr Kr Kr) (SplitB.all _) (by simp) (guard_vt rfl rfl rfl) rfl rfl (q_pev rfl Bt) ?_
  refine ra_qg (.ab (i := 36) (js := [37, 38]) [39, 40, 41, 42, 43, 44, 45, 46, 47, 48, 49, 50, 51, 52, 53, 54, 55, 56, 57, 58, 59, 60, 61, 62, 63, 64, 65, 66, 67, 68, 69, 70, 71] rfl Kr Kr Kr Kr Kr) (SplitB.all _) (by simp) (guard_vt rfl rfl rfl) rfl rfl (q_ld1 rfl rfl Bt rfl Mm rfl) ?_
  refine ra_one 37 Kr ?_
  refine rw_split (.an rfl rfl) (guard_vt rfl rfl rfl) (fun hg1 => ?_) (fun hg1 => absurd hg1 (by decide +kernel))
  refine rw_call (orangerylaw_small_spec ) (.an rfl rfl) (guard_is (guard_vt rfl rfl rfl) hg1) rfl rfl rfl Kr rfl rfl Sm ?_
  intro x9
  refine rw_pure (φ := orangerylaw_small.length * 24 ≤ 140737488355328) [RdL EPlace x9 orangerylaw_small] Sm (fun M w h => (allF1 h).len) fun hlen9 => ?_
  refine ra_qg (.ab (i := 38) (js := []) [39, 40, 41, 42, 43, 44, 45, 46, 47, 48, 49, 50, 51, 52, 53, 54, 55, 56, 57, 58, 59, 60, 61, 62, 63, 64, 65, 66, 67, 68, 69, 70, 71] rfl Kr Kr Kr Kr Kr) (SplitB.all _) (by simp) (guard_vt rfl rfl rfl) rfl rfl (q_pev rfl Bt) ?_
  refine ra_one 39 Kr ?_
  refine rw_call ((fun y1 a y2 b => slices_Equal_Place_spec' y1 y2 a b) x3 ((move_Undo ((move_Do orangerylaw_small (orangerylaw_op 1 0 2 3)).1) ((move_Do orangerylaw_small (orangerylaw_op 1 0 2 3)).2.1)).1) x9 orangerylaw_small) (.an rfl rfl) (guard_is (guard_vt rfl rfl rfl) hg1) rfl rfl rfl Kr rfl (by first | rfl | assumption | (simp only [hg1, Bool.and_true, Bool.true_and, Bool.and_self, Bool.not_false, Bool.not_true]; done) | simp_all) Sm ?_
  intro _
  refine ra_q (.ab (i := 40) (js := []) [41, 42, 43, 44, 45, 46, 47, 48, 49, 50, 51, 52, 53, 54, 55, 56, 57, 58, 59, 60, 61, 62, 63, 64, 65, 66, 67, 68, 69, 70, 71] rfl Kr Kr Kr Kr Kr) (SplitB.all _) (by simp) rfl rfl rfl (q_pev rfl Bt) ?_
  refine ra_q (.ab (i := 41) (js := []) [42, 43, 44, 45, 46, 47, 48, 49, 50, 51, 52, 53, 54, 55, 56, 57, 58, 59, 60, 61, 62, 63, 64, 65, 66, 67, 68, 69, 70, 71] rfl Kr Kr Kr Kr Kr) (SplitB.all _) (by simp) rfl rfl rfl (q_pev rfl (fun _ => rfl)) ?_
  refine ra_qg (.ab (i := 42) (js := []) [43, 44, 45, 46, 47, 48, 49, 50, 51, 52, 53, 54, 55, 56, 57, 58, 59, 60, 61, 62, 63, 64, 65, 66, 67, 68, 69, 70, 71] rfl Kr Kr Kr Kr Kr) (SplitB.all _) (by simp) (guard_vt rfl rfl rfl) rfl rfl (q_pev rfl Bt) ?_
  refine ra_qg (.ab (i := 43) (js := []) [44, 45, 46, 47, 48, 49, 50, 51, 52, 53, 54, 55, 56, 57, 58, 59, 60, 61, 62, 63, 64, 65, 66, 67, 68, 69, 70, 71] rfl Kr Kr Kr Kr Kr) (SplitB.all _) (by simp) (guard_vt rfl rfl rfl) rfl rfl (q_ld1 rfl rfl Bt rfl Mm rfl) ?_
  refine ra_qg (.ab (i := 44) (js := []) [45, 46, 47, 48, 49, 50, 51, 52, 53, 54, 55, 56, 57, 58, 59, 60, 61, 62, 63, 64, 65, 66, 67, 68, 69, 70, 71] rfl Kr Kr Kr Kr Kr) (SplitB.all _) (by simp) (guard_vt rfl rfl rfl) rfl rfl (q_pev rfl Bt) ?_
  refine ra_q (.ab (i := 45) (js := []) [46, 47, 48, 49, 50, 51, 52, 53, 54, 55, 56, 57, 58, 59, 60, 61, 62, 63, 64, 65, 66, 67, 68, 69, 70, 71] rfl Kr Kr Kr Kr Kr) (SplitB.all _) (by simp) rfl rfl rfl (q_pev rfl Bt) ?_
  refine ra_q (.ab (i := 46) (js := []) [47, 48, 49, 50, 51, 52, 53, 54, 55, 56, 57, 58, 59, 60, 61, 62, 63, 64, 65, 66, 67, 68, 69, 70, 71] rfl Kr Kr Kr Kr Kr) (SplitB.all _) (by simp) rfl rfl rfl (q_pev rfl (fun _ => rfl)) ?_
  refine ra_qg (.ab (i := 47) (js := [49, 50]) [48, 51, 52, 53, 54, 55, 56, 57, 58, 59, 60, 61, 62, 63, 64, 65, 66, 67, 68, 69, 70, 71] rfl Kr Kr Kr Kr Kr) (SplitB.all _) (by simp) (guard_vt rfl rfl rfl) rfl rfl (q_pev rfl Bt) ?_
  refine ra_qg (.ab (i := 48) (js := [49, 50]) [51, 52, 53, 54, 55, 56, 57, 58, 59, 60, 61, 62, 63, 64, 65, 66, 67, 68, 69, 70, 71] rfl Kr Kr Kr Kr Kr) (SplitB.all _) (by simp) (guard_vt rfl rfl rfl) rfl rfl (q_ld1 rfl rfl Bt rfl Mm rfl) ?_
  refine ra_one 49 Kr ?_
  refine rw_split (.an rfl rfl) (guard_vt rfl rfl rfl) (fun hg2 => ?_) (fun hg2 => absurd hg2 (by decide +kernel))
  refine rw_call (orangerylaw_small_spec ) (.an rfl rfl) (guard_is (guard_vt rfl rfl rfl) hg2) rfl rfl rfl Kr rfl rfl Sm ?_
  intro x10
  refine rw_pure (φ := orangerylaw_small.length * 24 ≤ 140737488355328) [RdL EPlace x10 orangerylaw_small] Sm (fun M w h => (allF1 h).len) fun hlen10 => ?_
  refine ra_qg (.ab (i := 50) (js := []) [51, 52, 53, 54, 55, 56, 57, 58, 59, 60, 61, 62, 63, 64, 65, 66, 67, 68, 69, 70, 71] rfl Kr Kr Kr Kr Kr) (SplitB.all _) (by simp) (guard_vt rfl rfl rfl) rfl rfl (q_pev rfl Bt) ?_
  refine ra_one 51 Kr ?_
  refine rw_call ((fun y1 a y2 b => slices_Equal_Place_spec' y1 y2 a b) x5 ((move_Do orangerylaw_small (orangerylaw_op 1 0 1 4)).1) x10 orangerylaw_small) (.an rfl rfl) (guard_is (guard_vt rfl rfl rfl) hg2) rfl rfl rfl Kr rfl (by first | rfl | assumption | (simp only [hg1, hg2, Bool.and_true, Bool.true_and, Bool.and_self, Bool.not_false, Bool.not_true]; done) | simp_all) Sm ?_
  intro _
  refine ra_q (.ab (i := 52) (js := []) [53, 54, 55, 56, 57, 58, 59, 60, 61, 62, 63, 64, 65, 66, 67, 68, 69, 70, 71] rfl Kr Kr Kr Kr Kr) (SplitB.all _) (by simp) rfl rfl rfl (q_pev rfl Bt) ?_
  refine ra_q (.ab (i := 53) (js := []) [54, 55, 56, 57, 58, 59, 60, 61, 62, 63, 64, 65, 66, 67, 68, 69, 70, 71] rfl Kr Kr Kr Kr Kr) (SplitB.all _) (by simp) rfl rfl rfl (q_pev rfl (fun _ => rfl)) ?_
  refine ra_qg (.ab (i := 54) (js := []) [55, 56, 57, 58, 59, 60, 61, 62, 63, 64, 65, 66, 67, 68, 69, 70, 71] rfl Kr Kr Kr Kr Kr) (SplitB.all _) (by simp) (guard_vt rfl rfl rfl) rfl rfl (q_pev rfl Bt) ?_
  refine ra_qg (.ab (i := 55) (js := []) [56, 57, 58, 59, 60, 61, 62, 63, 64, 65, 66, 67, 68, 69, 70, 71] rfl Kr Kr Kr Kr Kr) (SplitB.all _) (by simp) (guard_vt rfl rfl rfl) rfl rfl (q_ld1 rfl rfl Bt rfl Mm rfl) ?_
  refine ra_qg (.ab (i := 56) (js := []) [57, 58, 59, 60, 61, 62, 63, 64, 65, 66, 67, 68, 69, 70, 71] rfl Kr Kr Kr Kr Kr) (SplitB.all _) (by simp) (guard_vt rfl rfl rfl) rfl rfl (q_pev rfl Bt) ?_
  refine ra_qg (.ab (i := 57) (js := []) [58, 59, 60, 61, 62, 63, 64, 65, 66, 67, 68, 69, 70, 71] rfl Kr Kr Kr Kr Kr) (SplitB.all _) (by simp) (guard_vt rfl rfl rfl) rfl rfl (q_pev rfl Bt) ?_
  refine ra_q (.ab (i := 58) (js := []) [59, 60, 61, 62, 63, 64, 65, 66, 67, 68, 69, 70, 71] rfl Kr Kr Kr Kr Kr) (SplitB.all _) (by simp) rfl rfl rfl (q_pev rfl Bt) ?_
  refine ra_q (.ab (i := 59) (js := []) [60, 61, 62, 63, 64, 65, 66, 67, 68, 69, 70, 71] rfl Kr Kr Kr Kr Kr) (SplitB.all _) (by simp) rfl rfl rfl (q_pev rfl (fun _ => rfl)) ?_
  refine ra_qg (.ab (i := 60) (js := [62, 63]) [61, 64, 65, 66, 67, 68, 69, 70, 71] rfl Kr Kr Kr Kr Kr) (SplitB.all _) (by simp) (guard_vt rfl rfl rfl) rfl rfl (q_pev rfl Bt) ?_
  refine ra_qg (.ab (i := 61) (js := [62, 63]) [64, 65, 66, 67, 68, 69, 70, 71] rfl Kr Kr Kr Kr Kr) (SplitB.all _) (by simp) (guard_vt rfl rfl rfl) rfl rfl (q_ld1 rfl rfl Bt rfl Mm rfl) ?_
  refine ra_one 62 Kr ?_
  refine rw_split (.an rfl rfl) (guard_vt rfl rfl rfl) (fun hg3 => ?_) (fun hg3 => absurd hg3 (by decide +kernel))
  refine rw_call (orangerylaw_small_spec ) (.an rfl rfl) (guard_is (guard_vt rfl rfl rfl) hg3) rfl rfl rfl Kr rfl rfl Sm ?_
  intro x11
  refine rw_pure (φ := orangerylaw_small.length * 24 ≤ 140737488355328) [RdL EPlace x11 orangerylaw_small] Sm (fun M w h => (allF1 h).len) fun hlen11 => ?_
  refine ra_qg (.ab (i := 63) (js := []) [64, 65, 66, 67, 68, 69, 70, 71] rfl Kr Kr Kr Kr Kr) (SplitB.all _) (by simp) (guard_vt rfl rfl rfl) rfl rfl (q_pev rfl Bt) ?_
  refine ra_one 64 Kr ?_
  refine rw_call ((fun y1 a y2 b => slices_Equal_Place_spec' y1 y2 a b) x8 ((move_Undo ((move_Do orangerylaw_small (orangerylaw_op 1 0 9 0)).1) ((move_Do orangerylaw_small (orangerylaw_op 1 0 9 0)).2.1)).1) x11 orangerylaw_small) (.an rfl rfl) (guard_is (guard_vt rfl rfl rfl) hg3) rfl rfl rfl Kr rfl (by first | rfl | assumption | (simp only [hg1, hg2, hg3, Bool.and_true, Bool.true_and, Bool.and_self, Bool.not_false, Bool.not_true]; done) | simp_all) Sm ?_
  intro _
  refine ra_q (.ab (i := 65) (js := []) [66, 67, 68, 69, 70, 71] rfl Kr Kr Kr Kr Kr) (SplitB.all _) (by simp) rfl rfl rfl (q_pev rfl Bt) ?_
  refine ra_q (.an (i := 66) (js := []) rfl Kr Kr Kr Kr) (SplitB.all _) (by simp) rfl rfl rfl (q_pev rfl (fun _ => rfl)) ?_
  refine ra_one 67 Kr ?_
  refine rw_callg (fun hG_ => orangerylaw_op_spec 1 0 16 0) (fun _ => rfl) (.an rfl rfl) (guard_vt rfl rfl rfl) rfl rfl rfl Kr rfl Bt Sm ?_
  refine ra_one 68 Kr ?_
  refine rw_callg (fun hG_ => move_Check_spec (orangerylaw_op 1 0 16 0)) (fun _ => rfl) (.an rfl rfl) (guard_vt rfl rfl rfl) rfl rfl rfl Kr rfl Bt Sm ?_
  refine ra_qg (.an (i := 69) (js := []) rfl Kr Kr Kr Kr) (SplitB.all _) (by simp) (guard_vt rfl rfl rfl) rfl rfl (q_pev rfl Bt) ?_
  refine ra_q (.an (i := 70) (js := []) rfl Kr Kr Kr Kr) (SplitB.all _) (by simp) rfl rfl rfl (q_pev rfl Bt) ?_
  refine ra_q (.an (i := 71) (js := []) rfl Kr Kr Kr Kr) (SplitB.all _) (by simp) rfl rfl rfl (q_pev rfl (fun _ => rfl)) ?_
  refine ra_nil Kr ?_
  (repeat refine cw_seq ?_)
  have hr1 : (orangerylaw_moved) = ((((((((((((((((move_Do orangerylaw_small (orangerylaw_op 1 0 2 3)).2.2) == 0) && (((move_Undo ((move_Do orangerylaw_small (orangerylaw_op 1 0 2 3)).1) ((move_Do orangerylaw_small (orangerylaw_op 1 0 2 3)).2.1)).2) == 0)) && (((move_Do orangerylaw_small (orangerylaw_op 1 0 1 4)).2.2) == 0)) && (((move_Do orangerylaw_small (orangerylaw_op 1 0 9 0)).2.2) == 0)) && (((move_Undo ((move_Do orangerylaw_small (orangerylaw_op 1 0 9 0)).1) ((move_Do orangerylaw_small (orangerylaw_op 1 0 9 0)).2.1)).2) == 0)) && ((move_Do orangerylaw_small (orangerylaw_op 1 0 2 3)).2.1).did) && (((((move_Do orangerylaw_small (orangerylaw_op 1 0 2 3)).2.1).was).parent) == 1)) && (((tree_Find ((move_Do orangerylaw_small (orangerylaw_op 1 0 2 3)).1) 2).parent) == 3)) && (decide (((move_Undo ((move_Do orangerylaw_small (orangerylaw_op 1 0 2 3)).1) ((move_Do orangerylaw_small (orangerylaw_op 1 0 2 3)).2.1)).1) = orangerylaw_small))) && (!(((move_Do orangerylaw_small (orangerylaw_op 1 0 1 4)).2.1).did))) && (decide (((move_Do orangerylaw_small (orangerylaw_op 1 0 1 4)).1) = orangerylaw_small))) && ((((move_Do orangerylaw_small (orangerylaw_op 1 0 9 0)).1).length : Int) == 5)) && (decide (((move_Undo ((move_Do orangerylaw_small (orangerylaw_op 1 0 9 0)).1) ((move_Do orangerylaw_small (orangerylaw_op 1 0 9 0)).2.1)).1) = orangerylaw_small))) && ((move_Check (orangerylaw_op 1 0 16 0)) == 3)) := by simp only [orangerylaw_moved, hg1, hg2, hg3, cond_true, cond_false]
  refine cw_ret ?_
  rw [hr1]
  exact ⟨(), _, (.cons (.tmp rfl) .nil), rfl, Sm, .nil _, .nil _⟩

def orangerylaw_MoveUndone_L0 (t1 : List Place) (o1 : Op) : Nat → Nat → Bool
  | 0, n1 => ((((move_Undo ((move_Do t1 o1).1) ((move_Do t1 o1).2.1)).2) == 0) && (decide (((move_Undo ((move_Do t1 o1).1) ((move_Do t1 o1).2.1)).1) = t1)))
  | fn1 + 1, n1 => (bif ((((n1 : Int) != o1.node) && (!(decide ((tree_Find ((move_Do t1 o1).1) (n1 : Int)) = (tree_Find t1 (n1 : Int)))))) || ((((n1 : Int) == o1.node) && ((move_Do t1 o1).2.1).did) && (!(decide ((tree_Find ((move_Do t1 o1).1) (n1 : Int)) = (⟨(n1 : Int), o1.parent, o1.name⟩ : Place)))))) then false else (orangerylaw_MoveUndone_L0 t1 o1 fn1 (n1 + 1)))
def orangerylaw_MoveUndone (t1 : List Place) (o1 : Op) : Bool :=
  (bif ((!orangerylaw_moved) || (((move_Do t1 o1).2.2) != 0)) then orangerylaw_moved else (bif ((((((tree_Under t1 o1.parent o1.node).2) != 0) || (((move_Do t1 o1).2.1).did == (tree_Under t1 o1.parent o1.node).1)) || (!(decide ((((move_Do t1 o1).2.1).o) = o1)))) || ((tree_Check ((move_Do t1 o1).1)) != 0)) then false else (orangerylaw_MoveUndone_L0 t1 o1 (16 - 1) 1)))
theorem orangerylaw_MoveUndone_spec (y1 : SlV) (t1 : List Place) (o1 : Op) : Does Try.prog 4 [.agg ⟨[y1.val t1.length]⟩, .agg ⟨[.int .i64 o1.time, .int .i64 o1.who, .int .i64 o1.node, .int .i64 o1.parent, .int .i64 o1.name, .int .i64 o1.life, .int .i64 o1.seq]⟩] [RdL EPlace y1 t1] (fun (_ : Unit) => .bool (orangerylaw_MoveUndone t1 o1)) (fun (_ : Unit) => []) := by
  refine does_of tab_ok Try.func4 rfl Try.ntmps4 Try.results4 rfl inferInstance (fun _ => inferInstance) fun C => ?_
  refine cw_pure (φ := t1.length * 24 ≤ 140737488355328) [RdL EPlace y1 t1] Sm (fun M w h => (allF1 h).len) fun hlen1 => ?_
  (repeat refine cw_seq ?_); refine cw_region ?_
  refine rw_box_agg .sq (guard_none rfl) rfl rfl rfl rfl rfl fun g1 => ?_
  refine rw_box_agg .sq (guard_none rfl) rfl rfl rfl rfl rfl fun g2 => ?_
  refine Rp rfl rfl rfl rfl ?_
  refine rw_nil ?_
  (repeat refine cw_seq ?_); refine cw_region ?_
  refine rw_q rfl rfl rfl (q_ldA rfl rfl (fun _ => rfl) rfl Mm rfl) ?_
  refine rw_q rfl rfl rfl (q_ldA rfl rfl (fun _ => rfl) rfl Mm rfl) ?_
  refine rw_call (move_Do_spec y1 t1 o1) .sq (guard_none rfl) rfl rfl rfl Kr rfl rfl Sm ?_
  intro x1
  refine rw_pure (φ := ((move_Do t1 o1).1).length * 24 ≤ 140737488355328) [RdL EPlace x1 ((move_Do t1 o1).1)] Sm (fun M w h => (allF1 h).len) fun hlen2 => ?_
  refine Rp rfl rfl rfl rfl ?_
  refine Rp rfl rfl rfl rfl ?_
  refine Rp rfl rfl rfl rfl ?_
  refine Rp rfl rfl rfl rfl ?_
  refine rw_alloc .sq (guard_none rfl) rfl rfl rfl rfl fun g3 => ?_
  refine rw_alloc .sq (guard_none rfl) rfl rfl rfl rfl fun g4 => ?_
  refine rw_stA .sq (.inl ⟨_, rfl⟩) (guard_none rfl) rfl rfl rfl rfl rfl rfl rfl rfl rfl Ub rfl ?_
  refine rw_stA .sq (.inl ⟨_, rfl⟩) (guard_none rfl) rfl rfl rfl rfl rfl rfl rfl rfl rfl Ub rfl ?_
  refine Rp rfl rfl rfl rfl ?_
  refine rw_nil ?_
  (repeat refine cw_seq ?_); refine cw_region ?_
  refine rw_call (orangerylaw_moved_spec ) .sq (guard_none rfl) rfl rfl rfl Kr rfl rfl Sm ?_
  intro _
  refine Rp rfl rfl rfl rfl ?_
  refine Rp rfl rfl rfl rfl ?_
  refine rw_qg (guard_vf rfl rfl rfl) rfl rfl (q_pev rfl Bt) ?_
  refine rw_qg (guard_vf rfl rfl rfl) rfl rfl (q_pev rfl Bt) ?_
  refine rw_q rfl rfl rfl (q_pev rfl Bt) ?_
  refine rw_nil ?_
  (repeat refine cw_seq ?_); refine cw_cond (b := ((!orangerylaw_moved) || (((move_Do t1 o1).2.2) != 0))) rfl rfl (fun hc1 => ?_) (fun hc1 => ?_)
  · skip
    (repeat refine cw_seq ?_); refine cw_region ?_
    refine rw_call (orangerylaw_moved_spec ) .sq (guard_none rfl) rfl rfl rfl Kr rfl rfl Sm ?_
    intro _
    refine Rp rfl rfl rfl rfl ?_
    refine rw_nil ?_
    (repeat refine cw_seq ?_)
    have hr1 : (orangerylaw_MoveUndone t1 o1) = orangerylaw_moved := by simp only [orangerylaw_MoveUndone, hc1, cond_true, cond_false]
    refine cw_ret ?_
    rw [hr1]
    exact ⟨(), _, (.cons (.tmp rfl) .nil), rfl, Sm, .nil _, .nil _⟩
  · skip
    (repeat refine cw_seq ?_); refine cw_skip ?_
    (repeat refine cw_seq ?_); refine cw_region ?_
    refine rw_q rfl rfl rfl (q_ldA rfl rfl (fun _ => rfl) rfl Mm rfl) ?_
    refine Rp rfl rfl rfl rfl ?_
    refine rw_q rfl rfl rfl (q_ld1 rfl rfl (fun _ => rfl) rfl Mm rfl) ?_
    refine Rp rfl rfl rfl rfl ?_
    refine rw_q rfl rfl rfl (q_ld1 rfl rfl (fun _ => rfl) rfl Mm rfl) ?_
    refine rw_call (tree_Under_spec y1 t1 o1.parent o1.node) .sq (guard_none rfl) rfl rfl rfl Kr rfl rfl Sm ?_
    intro _
    refine Rp rfl rfl rfl rfl ?_
    refine Rp rfl rfl rfl rfl ?_
    refine Rp rfl rfl rfl rfl ?_
    refine Rp rfl rfl rfl rfl ?_
    refine Rp rfl rfl rfl rfl ?_
    refine rw_nil ?_
    (repeat refine cw_seq ?_); refine cw_region ?_
    refine Rp rfl rfl rfl rfl ?_
    refine Rp rfl rfl rfl rfl ?_
    refine Rp rfl rfl rfl rfl ?_
    refine rw_qg (guard_vf rfl rfl rfl) rfl rfl (q_pev rfl Bt) ?_
    refine rw_qg (guard_vf rfl rfl rfl) rfl rfl (q_ld1 rfl rfl Bt rfl Mm rfl) ?_
    refine rw_qg (guard_vf rfl rfl rfl) rfl rfl (q_pev rfl Bt) ?_
    refine rw_qg (guard_vf rfl rfl rfl) rfl rfl (q_eqb und_4 rfl rfl Bt rfl Bt) ?_
    refine rw_q rfl rfl rfl (q_pev rfl Bt) ?_
    refine Rp rfl rfl rfl rfl ?_
    refine rw_qg (guard_vf rfl rfl rfl) rfl rfl (q_pev rfl Bt) ?_
    refine rw_qg (guard_vf rfl rfl rfl) rfl rfl (q_ldP rfl rfl Bt rfl Mm rfl) ?_
    refine rw_qg (guard_vf rfl rfl rfl) rfl rfl (q_ldA rfl rfl Bt rfl Mm rfl) ?_
    refine rw_qg (guard_vf rfl rfl rfl) rfl rfl (q_neE eqT_Op (flatEq_Op (((move_Do t1 o1).2.1).o) o1) rfl rfl Bt rfl Bt rfl rfl) ?_
    refine rw_q rfl rfl rfl (q_pev rfl Bt) ?_
    refine Rp rfl rfl rfl rfl ?_
    refine rw_qg (guard_vf rfl rfl rfl) rfl rfl (q_ldA rfl rfl Bt rfl Mm rfl) ?_
    refine rw_callg (fun hG_ => tree_Check_spec x1 ((move_Do t1 o1).1)) (fun _ => rfl) .sq (guard_vf rfl rfl rfl) rfl rfl rfl Kr rfl Bt Sm ?_
    refine rw_qg (guard_vf rfl rfl rfl) rfl rfl (q_pev rfl Bt) ?_
    refine rw_q rfl rfl rfl (q_pev rfl Bt) ?_
    refine rw_nil ?_
    (repeat refine cw_seq ?_); refine cw_cond (b := ((((((tree_Under t1 o1.parent o1.node).2) != 0) || (((move_Do t1 o1).2.1).did == (tree_Under t1 o1.parent o1.node).1)) || (!(decide ((((move_Do t1 o1).2.1).o) = o1)))) || ((tree_Check ((move_Do t1 o1).1)) != 0))) rfl rfl (fun hc2 => ?_) (fun hc2 => ?_)
    · skip
      (repeat refine cw_seq ?_); refine cw_region ?_
      refine Rp rfl rfl rfl rfl ?_
      refine rw_nil ?_
      (repeat refine cw_seq ?_)
      have hr2 : (orangerylaw_MoveUndone t1 o1) = false := by simp only [orangerylaw_MoveUndone, hc1, hc2, cond_true, cond_false]
      refine cw_ret ?_
      rw [hr2]
      exact ⟨(), _, (.cons (.tmp rfl) .nil), rfl, Sm, .nil _, .nil _⟩
    · skip
      (repeat refine cw_seq ?_); refine cw_skip ?_
      (repeat refine cw_seq ?_); refine cw_region ?_
      refine Rp rfl rfl rfl rfl ?_
      refine rw_nil ?_
      (repeat refine cw_seq ?_); refine cw_block ?_
      (repeat refine cw_seq ?_); refine cw_loopS [2, 3, 4, 5, 6, 7] [true, true, true, true] (fun (n1 : Nat) => [(9, .v (.int .i64 (n1 : Int)))]) (fun (n1 : Nat) => []) (fun (n1 : Nat) => []) (fun (n1 : Nat) => []) (fun (n1 : Nat) => (n1 ≤ 16) ∧ (orangerylaw_MoveUndone_L0 t1 o1 (16 - n1) n1) = (orangerylaw_MoveUndone t1 o1)) (fun (n1 : Nat) => 16 - n1) 1 (.cons rfl (.cons rfl (.cons rfl (.cons rfl (.cons rfl (.cons rfl (.nil _))))))) (.keep (.keep (.keep (.keep (.nil))))) ⟨(by omega), (by simp only [orangerylaw_MoveUndone, hc1, hc2, cond_true, cond_false] : (orangerylaw_MoveUndone t1 o1) = (orangerylaw_MoveUndone_L0 t1 o1 (16 - 1) 1)).symm⟩ Le4 ?_
      rintro n1 ⟨hkn1, hf1⟩
      simp only [List.cons_append, List.nil_append]
      (repeat refine cw_seq ?_); refine cw_region ?_
      refine Rp rfl rfl rfl rfl ?_
      refine Rp rfl rfl rfl rfl ?_
      refine rw_nil ?_
      (repeat refine cw_seq ?_); refine cw_cond (b := decide ((n1 : Int) < 16)) rfl rfl (fun hc3 => ?_) (fun hc3 => ?_)
      · skip
        have hlt0 : n1 < 16 := by have := of_decide_eq_true hc3; omega
        have hlt0_ : 16 - n1 = (16 - (n1 + 1)) + 1 := by omega
        (repeat refine cw_seq ?_); refine cw_skip ?_
        (repeat refine cw_seq ?_); refine cw_block ?_
        (repeat refine cw_seq ?_); refine cw_region ?_
        refine rw_q rfl rfl rfl (q_ldA rfl rfl (fun _ => rfl) rfl Mm rfl) ?_
        refine Rp rfl rfl rfl rfl ?_
        refine rw_call (tree_Find_spec x1 ((move_Do t1 o1).1) (n1 : Int)) .sq (guard_none rfl) rfl rfl rfl Kr rfl rfl Sm ?_
        intro _
        refine rw_alloc .sq (guard_none rfl) rfl rfl rfl rfl fun g5 => ?_
        refine rw_stA .sq (.inl ⟨_, rfl⟩) (guard_none rfl) rfl rfl rfl rfl rfl rfl rfl rfl rfl Ub rfl ?_
        refine rw_nil ?_
        (repeat refine cw_seq ?_); refine cw_regionA (fun _ => some []) ?_
        refine ra_q (.ab (i := 0) (js := [1, 2]) [3, 4, 5, 6, 7, 8, 9, 10, 11, 12, 13, 14, 15, 16, 17, 18, 19, 20, 21, 22, 23, 24, 25, 26, 27, 28, 29, 30] rfl Kr Kr Kr Kr Kr) (SplitB.all _) (by simp) rfl rfl rfl (q_pev rfl (fun _ => rfl)) ?_
        refine ra_q (.ab (i := 1) (js := []) [2, 3, 4, 5, 6, 7, 8, 9, 10, 11, 12, 13, 14, 15, 16, 17, 18, 19, 20, 21, 22, 23, 24, 25, 26, 27, 28, 29, 30] rfl Kr Kr Kr Kr Kr) (SplitB.all _) (by simp) rfl rfl rfl (q_pev rfl (fun _ => rfl)) ?_
        refine ra_q (.ab (i := 2) (js := []) [3, 4, 5, 6, 7, 8, 9, 10, 11, 12, 13, 14, 15, 16, 17, 18, 19, 20, 21, 22, 23, 24, 25, 26, 27, 28, 29, 30] rfl Kr Kr Kr Kr Kr) (SplitB.all _) (by simp) rfl rfl rfl (q_ld1 rfl rfl (fun _ => rfl) rfl Mm rfl) ?_
        refine ra_q (.ab (i := 3) (js := []) [4, 5, 6, 7, 8, 9, 10, 11, 12, 13, 14, 15, 16, 17, 18, 19, 20, 21, 22, 23, 24, 25, 26, 27, 28, 29, 30] rfl Kr Kr Kr Kr Kr) (SplitB.all _) (by simp) rfl rfl rfl (q_pev rfl (fun _ => rfl)) ?_
        refine ra_q (.ab (i := 4) (js := []) [5, 6, 7, 8, 9, 10, 11, 12, 13, 14, 15, 16, 17, 18, 19, 20, 21, 22, 23, 24, 25, 26, 27, 28, 29, 30] rfl Kr Kr Kr Kr Kr) (SplitB.all _) (by simp) rfl rfl rfl (q_pev rfl (fun _ => rfl)) ?_
        refine ra_qg (.ab (i := 5) (js := [6, 7, 8]) [9, 10, 11, 12, 13, 14, 15, 16, 17, 18, 19, 20, 21, 22, 23, 24, 25, 26, 27, 28, 29, 30] rfl Kr Kr Kr Kr Kr) (SplitB.all _) (by simp) (guard_vt rfl rfl rfl) rfl rfl (q_ldA rfl rfl Bt rfl Mm rfl) ?_
        refine ra_qg (.ab (i := 6) (js := [7]) [8, 9, 10, 11, 12, 13, 14, 15, 16, 17, 18, 19, 20, 21, 22, 23, 24, 25, 26, 27, 28, 29, 30] rfl Kr Kr Kr Kr Kr) (SplitB.all _) (by simp) (guard_vt rfl rfl rfl) rfl rfl (q_ldA rfl rfl Bt rfl Mm rfl) ?_
        refine ra_qg (.ab (i := 7) (js := []) [8, 9, 10, 11, 12, 13, 14, 15, 16, 17, 18, 19, 20, 21, 22, 23, 24, 25, 26, 27, 28, 29, 30] rfl Kr Kr Kr Kr Kr) (SplitB.all _) (by simp) (guard_vt rfl rfl rfl) rfl rfl (q_pev rfl Bt) ?_
        refine ra_one 8 Kr ?_
        refine rw_callg (fun hG_ => tree_Find_spec y1 t1 (n1 : Int)) (fun _ => rfl) (.an rfl rfl) (guard_vt rfl rfl rfl) rfl rfl rfl Kr rfl Bt Sm ?_
        refine ra_qg (.ab (i := 9) (js := []) [10, 11, 12, 13, 14, 15, 16, 17, 18, 19, 20, 21, 22, 23, 24, 25, 26, 27, 28, 29, 30] rfl Kr Kr Kr Kr Kr) (SplitB.all _) (by simp) (guard_vt rfl rfl rfl) rfl rfl (q_neE eqT_Place (flatEq_Place (tree_Find ((move_Do t1 o1).1) (n1 : Int)) (tree_Find t1 (n1 : Int))) rfl rfl Bt rfl Bt rfl rfl) ?_
        refine ra_q (.ab (i := 10) (js := []) [11, 12, 13, 14, 15, 16, 17, 18, 19, 20, 21, 22, 23, 24, 25, 26, 27, 28, 29, 30] rfl Kr Kr Kr Kr Kr) (SplitB.all _) (by simp) rfl rfl rfl (q_pev rfl Bt) ?_
        refine ra_q (.ab (i := 11) (js := []) [12, 13, 14, 15, 16, 17, 18, 19, 20, 21, 22, 23, 24, 25, 26, 27, 28, 29, 30] rfl Kr Kr Kr Kr Kr) (SplitB.all _) (by simp) rfl rfl rfl (q_pev rfl (fun _ => rfl)) ?_
        refine ra_qg (.ab (i := 12) (js := [13, 14]) [15, 16, 17, 18, 19, 20, 21, 22, 23, 24, 25, 26, 27, 28, 29, 30] rfl Kr Kr Kr Kr Kr) (SplitB.all _) (by simp) (guard_vf rfl rfl rfl) rfl rfl (q_pev rfl Bt) ?_
        refine ra_qg (.ab (i := 13) (js := []) [14, 15, 16, 17, 18, 19, 20, 21, 22, 23, 24, 25, 26, 27, 28, 29, 30] rfl Kr Kr Kr Kr Kr) (SplitB.all _) (by simp) (guard_vf rfl rfl rfl) rfl rfl (q_pev rfl Bt) ?_
        refine ra_qg (.ab (i := 14) (js := []) [15, 16, 17, 18, 19, 20, 21, 22, 23, 24, 25, 26, 27, 28, 29, 30] rfl Kr Kr Kr Kr Kr) (SplitB.all _) (by simp) (guard_vf rfl rfl rfl) rfl rfl (q_ld1 rfl rfl Bt rfl Mm rfl) ?_
        refine ra_qg (.ab (i := 15) (js := []) [16, 17, 18, 19, 20, 21, 22, 23, 24, 25, 26, 27, 28, 29, 30] rfl Kr Kr Kr Kr Kr) (SplitB.all _) (by simp) (guard_vf rfl rfl rfl) rfl rfl (q_pev rfl Bt) ?_
        refine ra_qg (.ab (i := 16) (js := []) [17, 18, 19, 20, 21, 22, 23, 24, 25, 26, 27, 28, 29, 30] rfl Kr Kr Kr Kr Kr) (SplitB.all _) (by simp) (guard_vf rfl rfl rfl) rfl rfl (q_pev rfl Bt) ?_
        refine ra_qg (.ab (i := 17) (js := []) [18, 19, 20, 21, 22, 23, 24, 25, 26, 27, 28, 29, 30] rfl Kr Kr Kr Kr Kr) (SplitB.all _) (by simp) (guard_ot rfl rfl rfl) rfl rfl (q_pev rfl Bt) ?_
        refine ra_qg (.ab (i := 18) (js := []) [19, 20, 21, 22, 23, 24, 25, 26, 27, 28, 29, 30] rfl Kr Kr Kr Kr Kr) (SplitB.all _) (by simp) (guard_ot rfl rfl rfl) rfl rfl (q_ld1 rfl rfl Bt rfl Mm rfl) ?_
        refine ra_qg (.ab (i := 19) (js := []) [20, 21, 22, 23, 24, 25, 26, 27, 28, 29, 30] rfl Kr Kr Kr Kr Kr) (SplitB.all _) (by simp) (guard_vf rfl rfl rfl) rfl rfl (q_pev rfl Bt) ?_
        refine ra_qg (.ab (i := 20) (js := []) [21, 22, 23, 24, 25, 26, 27, 28, 29, 30] rfl Kr Kr Kr Kr Kr) (SplitB.all _) (by simp) (guard_vf rfl rfl rfl) rfl rfl (q_pev rfl Bt) ?_
        refine ra_qg (.ab (i := 21) (js := [22, 23, 24, 25, 26, 27]) [28, 29, 30] rfl Kr Kr Kr Kr Kr) (SplitB.all _) (by simp) (guard_ot rfl rfl rfl) rfl rfl (q_ldA rfl rfl Bt rfl Mm rfl) ?_
        refine ra_qg (.ab (i := 22) (js := [23, 24, 25, 26]) [27, 28, 29, 30] rfl Kr Kr Kr Kr Kr) (SplitB.all _) (by simp) (guard_ot rfl rfl rfl) rfl rfl (q_pev rfl Bt) ?_
        refine ra_qg (.ab (i := 23) (js := [25, 26]) [24, 27, 28, 29, 30] rfl Kr Kr Kr Kr Kr) (SplitB.all _) (by simp) (guard_ot rfl rfl rfl) rfl rfl (q_pev rfl Bt) ?_
        refine ra_qg (.ab (i := 24) (js := [25, 26]) [27, 28, 29, 30] rfl Kr Kr Kr Kr Kr) (SplitB.all _) (by simp) (guard_ot rfl rfl rfl) rfl rfl (q_ld1 rfl rfl Bt rfl Mm rfl) ?_
        refine ra_qg (.ab (i := 25) (js := []) [26, 27, 28, 29, 30] rfl Kr Kr Kr Kr Kr) (SplitB.all _) (by simp) (guard_ot rfl rfl rfl) rfl rfl (q_pev rfl Bt) ?_
        refine ra_qg (.ab (i := 26) (js := []) [27, 28, 29, 30] rfl Kr Kr Kr Kr Kr) (SplitB.all _) (by simp) (guard_ot rfl rfl rfl) rfl rfl (q_ld1 rfl rfl Bt rfl Mm rfl) ?_
        refine ra_qg (.ab (i := 27) (js := []) [28, 29, 30] rfl Kr Kr Kr Kr Kr) (SplitB.all _) (by simp) (guard_ot rfl rfl rfl) rfl rfl (q_pev rfl Bt) ?_
        refine ra_qg (.ab (i := 28) (js := []) [29, 30] rfl Kr Kr Kr Kr Kr) (SplitB.all _) (by simp) (guard_ot rfl rfl rfl) rfl rfl (q_neE eqT_Place (flatEq_Place (tree_Find ((move_Do t1 o1).1) (n1 : Int)) (⟨(n1 : Int), o1.parent, o1.name⟩ : Place)) rfl rfl Bt rfl Bt rfl rfl) ?_
        refine ra_qg (.an (i := 29) (js := []) rfl Kr Kr Kr Kr) (SplitB.all _) (by simp) (guard_vf rfl rfl rfl) rfl rfl (q_pev rfl Bt) ?_
        refine ra_q (.an (i := 30) (js := []) rfl Kr Kr Kr Kr) (SplitB.all _) (by simp) rfl rfl rfl (q_pev rfl Bt) ?_
        refine ra_nil Kr ?_
        (repeat refine cw_seq ?_); refine cw_cond (b := ((((n1 : Int) != o1.node) && (!(decide ((tree_Find ((move_Do t1 o1).1) (n1 : Int)) = (tree_Find t1 (n1 : Int)))))) || ((((n1 : Int) == o1.node) && ((move_Do t1 o1).2.1).did) && (!(decide ((tree_Find ((move_Do t1 o1).1) (n1 : Int)) = (⟨(n1 : Int), o1.parent, o1.name⟩ : Place))))))) rfl rfl (fun hc4 => ?_) (fun hc4 => ?_)
        · skip
          (repeat refine cw_seq ?_); refine cw_region ?_
          refine Rp rfl rfl rfl rfl ?_
          refine rw_nil ?_
          (repeat refine cw_seq ?_)
          have hr3 : (orangerylaw_MoveUndone t1 o1) = false := by rw [← hf1]; (conv => lhs; rw [hlt0_]); simp only [orangerylaw_MoveUndone_L0, hc4, cond_true, cond_false]
          refine cw_ret ?_
          rw [hr3]
          exact ⟨(), _, (.cons (.tmp rfl) .nil), rfl, Sm, .nil _, .nil _⟩
        · skip
          (repeat refine cw_seq ?_); refine cw_skip ?_
          (repeat refine cw_seq ?_); refine cw_region ?_
          refine Rp rfl rfl rfl rfl ?_
          refine rw_q rfl rfl rfl (q_add rfl rfl (fun _ => rfl) rfl (fun _ => rfl) (fun _ => by omega)) ?_
          refine Rp rfl rfl rfl rfl ?_
          refine rw_nil ?_
          refine ⟨(n1 + 1), ⟨hlt0, (by rw [← hf1]; (conv => lhs; rw [hlt0_]); simp only [orangerylaw_MoveUndone_L0, hc4, cond_true, cond_false] : (orangerylaw_MoveUndone t1 o1) = (orangerylaw_MoveUndone_L0 t1 o1 (16 - (n1 + 1)) (n1 + 1))).symm⟩, (by simp only []; omega), Le4⟩
      · skip
        have hge0 : 16 ≤ n1 := by have := of_decide_eq_false hc3; omega
        have hge0_ : 16 - n1 = 0 := by omega
        (repeat refine cw_seq ?_); refine cw_exit ?_
        (repeat refine cw_seq ?_); refine cw_region ?_
        refine rw_q rfl rfl rfl (q_ldA rfl rfl (fun _ => rfl) rfl Mm rfl) ?_
        refine rw_q rfl rfl rfl (q_ldA rfl rfl (fun _ => rfl) rfl Mm rfl) ?_
        refine rw_call (move_Undo_spec x1 ((move_Do t1 o1).1) ((move_Do t1 o1).2.1)) .sq (guard_none rfl) rfl rfl rfl Kr rfl rfl Sm ?_
        intro x2
        refine rw_pure (φ := ((move_Undo ((move_Do t1 o1).1) ((move_Do t1 o1).2.1)).1).length * 24 ≤ 140737488355328) [RdL EPlace x2 ((move_Undo ((move_Do t1 o1).1) ((move_Do t1 o1).2.1)).1)] Sm (fun M w h => (allF1 h).len) fun hlen3 => ?_
        refine Rp rfl rfl rfl rfl ?_
        refine Rp rfl rfl rfl rfl ?_
        refine Rp rfl rfl rfl rfl ?_
        refine rw_alloc .sq (guard_none rfl) rfl rfl rfl rfl fun g6 => ?_
        refine rw_stA .sq (.inl ⟨_, rfl⟩) (guard_none rfl) rfl rfl rfl rfl rfl rfl rfl rfl rfl Ub rfl ?_
        refine Rp rfl rfl rfl rfl ?_
        refine rw_nil ?_
        (repeat refine cw_seq ?_); refine cw_region ?_
        refine Rp rfl rfl rfl rfl ?_
        refine Rp rfl rfl rfl rfl ?_
        refine Rp rfl rfl rfl rfl ?_
        refine rw_qg (guard_vt rfl rfl rfl) rfl rfl (q_pev rfl Bt) ?_
        refine rw_qg (guard_vt rfl rfl rfl) rfl rfl (q_ld1 rfl rfl Bt rfl Mm rfl) ?_
        refine rw_qg (guard_vt rfl rfl rfl) rfl rfl (q_pev rfl Bt) ?_
        refine rw_qg (guard_vt rfl rfl rfl) rfl rfl (q_ld1 rfl rfl Bt rfl Mm rfl) ?_
        refine rw_callg (fun hG_ => (fun y1 a y2 b => slices_Equal_Place_spec' y1 y2 a b) x2 ((move_Undo ((move_Do t1 o1).1) ((move_Do t1 o1).2.1)).1) y1 t1) (fun _ => rfl) .sq (guard_vt rfl rfl rfl) rfl rfl rfl Kr rfl Bt Sm ?_
        refine rw_q rfl rfl rfl (q_pev rfl Bt) ?_
        refine Rp rfl rfl rfl rfl ?_
        refine rw_nil ?_
        (repeat refine cw_seq ?_)
        have hr4 : (orangerylaw_MoveUndone t1 o1) = ((((move_Undo ((move_Do t1 o1).1) ((move_Do t1 o1).2.1)).2) == 0) && (decide (((move_Undo ((move_Do t1 o1).1) ((move_Do t1 o1).2.1)).1) = t1))) := by rw [← hf1, hge0_]; simp only [orangerylaw_MoveUndone_L0, cond_true, cond_false]
        refine cw_ret ?_
        rw [hr4]
        exact ⟨(), _, (.cons (.tmp rfl) .nil), rfl, Sm, .nil _, .nil _⟩
end Go.Proofs.Ytchdacbjiomplaa
