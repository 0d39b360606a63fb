/- Part of this claim. No condition. -/
import Derived.Test.YtchdacbjiomplaaW2
set_option linter.unusedVariables false
set_option linter.unusedSimpArgs false
namespace Go.Proofs.Ytchdacbjiomplaa
open Go Go.Proofs.Ytchdacbjiomplaa.Fw Go.Proofs
def orangerylaw_small  : List Place :=
  [(⟨1, 0, 5⟩ : Place), (⟨2, 1, 7⟩ : Place), (⟨3, 1, 6⟩ : Place), (⟨4, 2, 0⟩ : Place)]
theorem orangerylaw_small_spec  : Does Try.prog 123 [] [] (fun (X : SlV) => .agg ⟨[X.val (orangerylaw_small).length]⟩) (fun (X : SlV) => [RdL EPlace X (orangerylaw_small)]) := by
  refine does_of tab_ok Try.func123 rfl Try.ntmps123 Try.results123 rfl inferInstance (fun _ => inferInstance) fun C => ?_
  (repeat refine cw_seq ?_); refine cw_region ?_
  refine rw_alloc .sq (guard_none rfl) rfl rfl rfl rfl fun g1 => ?_
  refine rw_nil ?_
  (repeat refine cw_seq ?_); refine cw_region ?_
  refine Rp rfl rfl rfl rfl ?_
  refine Rp rfl rfl rfl rfl ?_
  refine Rp rfl rfl rfl rfl ?_
  refine Rp rfl rfl rfl rfl ?_
  refine rw_bsliceL EPlace [(⟨1, 0, 5⟩ : Place), (⟨2, 1, 7⟩ : Place), (⟨3, 1, 6⟩ : Place), (⟨4, 2, 0⟩ : Place)] .sq (guard_none rfl) rfl rfl rfl rfl rfl rfl rfl rfl rfl rfl rfl rfl rfl rfl rfl fun x1 x1b => ?_
  refine Rp rfl rfl rfl rfl ?_
  refine rw_stA .sq (.inl ⟨_, rfl⟩) (guard_none rfl) rfl rfl rfl rfl rfl rfl rfl rfl rfl Ub rfl ?_
  refine rw_nil ?_
  (repeat refine cw_seq ?_)
  refine cw_le (le_freezeL EPlace 35 x1 x1b [(⟨1, 0, 5⟩ : Place), (⟨2, 1, 7⟩ : Place), (⟨3, 1, 6⟩ : Place), (⟨4, 2, 0⟩ : Place)] Uo) ?_
  have hr1 : (orangerylaw_small) = [(⟨1, 0, 5⟩ : Place), (⟨2, 1, 7⟩ : Place), (⟨3, 1, 6⟩ : Place), (⟨4, 2, 0⟩ : Place)] := by simp only [orangerylaw_small, cond_true, cond_false]
  refine cw_ret ?_
  rw [hr1]
  exact ⟨x1, _, (.cons (.agg rfl rfl Mm rfl) .nil), rfl, Sm, .nil _, .nil _⟩

def orangerylaw_op (time1 : Int) (who1 : Int) (node1 : Int) (parent1 : Int) : Op :=
  (⟨time1, who1, node1, parent1, 0, 1, time1⟩ : Op)
theorem orangerylaw_op_spec (time1 : Int) (who1 : Int) (node1 : Int) (parent1 : Int) : Does Try.prog 124 [.int .i64 time1, .int .i64 who1, .int .i64 node1, .int .i64 parent1] [] (fun (_ : Unit) => .agg ⟨[.int .i64 ((orangerylaw_op time1 who1 node1 parent1).time), .int .i64 ((orangerylaw_op time1 who1 node1 parent1).who), .int .i64 ((orangerylaw_op time1 who1 node1 parent1).node), .int .i64 ((orangerylaw_op time1 who1 node1 parent1).parent), .int .i64 ((orangerylaw_op time1 who1 node1 parent1).name), .int .i64 ((orangerylaw_op time1 who1 node1 parent1).life), .int .i64 ((orangerylaw_op time1 who1 node1 parent1).seq)]⟩) (fun (_ : Unit) => []) := by
  refine does_of tab_ok Try.func124 rfl Try.ntmps124 Try.results124 rfl inferInstance (fun _ => inferInstance) fun C => ?_
  (repeat refine cw_seq ?_); refine cw_region ?_
  refine rw_alloc .sq (guard_none rfl) rfl rfl rfl rfl fun g1 => ?_
  refine rw_nil ?_
  (repeat refine cw_seq ?_); refine cw_region ?_
  refine Rp rfl rfl rfl rfl ?_
  refine Rp rfl rfl rfl rfl ?_
  refine Rp rfl rfl rfl rfl ?_
  refine Rp rfl rfl rfl rfl ?_
  refine Rp rfl rfl rfl rfl ?_
  refine Rp rfl rfl rfl rfl ?_
  refine Rp rfl rfl rfl rfl ?_
  refine rw_stA .sq (.inl ⟨_, rfl⟩) (guard_none rfl) rfl rfl rfl rfl rfl rfl rfl rfl rfl Ub rfl ?_
  refine rw_nil ?_
  (repeat refine cw_seq ?_)
  have hr1 : (orangerylaw_op time1 who1 node1 parent1) = (⟨time1, who1, node1, parent1, 0, 1, time1⟩ : Op) := by simp only [orangerylaw_op, cond_true, cond_false]
  refine cw_ret ?_
  rw [hr1]
  exact ⟨(), _, (.cons (.agg rfl rfl Mm rfl) .nil), rfl, Sm, .nil _, .nil _⟩
end Go.Proofs.Ytchdacbjiomplaa
