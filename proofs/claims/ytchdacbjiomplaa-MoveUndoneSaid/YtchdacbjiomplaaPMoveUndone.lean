/- Part of this claim. No condition. -/
import Derived.Test.YtchdacbjiomplaaW3
import Derived.Test.YtchdacbjiomplaaLEq
set_option linter.unusedVariables false
set_option linter.unusedSimpArgs false
namespace Go.Proofs.Ytchdacbjiomplaa
open Go Go.Proofs.Ytchdacbjiomplaa.Fw Go.Proofs
theorem moved_true : orangerylaw_moved = true := by decide +kernel
theorem MoveUndone_true (t : List Place) (o : Op) : orangerylaw_MoveUndone t o = true := by
  unfold orangerylaw_MoveUndone
  rw [moved_true]
  cases h : ((move_Do t o).2.2 != 0) with
  | true => rfl
  | false =>
    have h : (moveDo t o).2.2 = 0 := by rw [← move_Do_eq]; simpa using h
    have M := moved_of h
    simp only [Bool.not_true, Bool.or_self, cond_false, move_Do_eq, tree_Under_eq, M.under, M.did, M.op, tree_Check_eq, M.tree]
    have key : ∀ (f k : Nat), 1 ≤ k → orangerylaw_MoveUndone_L0 t o f k = true := by
      intro f
      induction f with
      | zero =>
        intro k _
        rw [orangerylaw_MoveUndone_L0, move_Do_eq, move_Undo_eq, M.undo]; simp
      | succ f ih =>
        intro k hk
        rw [orangerylaw_MoveUndone_L0, ih (k + 1) (by omega)]
        simp only [move_Do_eq, tree_Find_eq]
        have e : (((k : Int) != o.node && !decide (find (moveDo t o).1 (k : Int) = find t (k : Int))) || ((k : Int) == o.node && (moveDo t o).2.1.did && !decide (find (moveDo t o).1 (k : Int) = ⟨(k : Int), o.parent, o.name⟩))) = false := by
          by_cases hn : (k : Int) = o.node
          · rw [hn]
            cases hd : (moveDo t o).2.1.did with
            | false => simp
            | true => simp [M.node hd, opPlace]
          · simp [hn, M.else_ _ hn]
        rw [e]; rfl
    rw [key _ 1 (Nat.le_refl _)]
    cases stands t o.parent o.node <;> simp
end Go.Proofs.Ytchdacbjiomplaa
