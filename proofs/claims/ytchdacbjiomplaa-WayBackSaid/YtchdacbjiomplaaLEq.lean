/- Part of this claim. No condition. -/
import Derived.Test.YtchdacbjiomplaaLMoveB
set_option linter.unusedVariables false
set_option linter.unusedSimpArgs false
namespace Go.Proofs.Ytchdacbjiomplaa
open Go Go.Proofs.Ytchdacbjiomplaa.Fw Go.Proofs
/-! ### What the code computes, in plain words -/
theorem tree_place_eq (p : Place) : tree_place p = place p := rfl
theorem tree_Find_eq : ∀ (l : List Place) (n : Int), tree_Find l n = find l n
  | [], _ => rfl
  | p :: r, n => by
    have ih := tree_Find_eq r n
    unfold tree_Find at ih ⊢
    rw [tree_Find_L0, find, ih]
theorem tree_Stands_eq (l : List Place) (nd top : Int) : tree_Stands l nd top = stands l nd top := by
  have key : ∀ (f : Nat) (nd : Int), tree_Stands_L0 l top f nd = standsF l top f nd := by
    intro f
    induction f with
    | zero => intro nd; rfl
    | succ f ih => intro nd; rw [tree_Stands_L0, standsF, tree_Find_eq, ih]
  unfold tree_Stands stands
  exact key _ nd
theorem tree_Check_L1_eq (t : List Place) : ∀ l : List Place, tree_Check_L1 t l = chk2 t l
  | [] => rfl
  | p :: r => by rw [tree_Check_L1, chk2, tree_Stands_eq, tree_Check_L1_eq t r]
theorem tree_Check_eq (t : List Place) : tree_Check t = checkT t := by
  have key : ∀ (r : List Place) (k : Nat), r = t.drop k → tree_Check_L0 t r k = bif chk1 t (t.length - k) k != 0 then chk1 t (t.length - k) k else chk2 t t := by
    intro r
    induction r with
    | nil =>
      intro k hr
      have : t.length - k = 0 := by have := congrArg List.length hr; simp at this; omega
      rw [tree_Check_L0, this, chk1, tree_Check_L1_eq]; rfl
    | cons p r ih =>
      intro k hr
      have hk : k < t.length := by have := congrArg List.length hr; simp at this; omega
      rw [drop_gt hk] at hr
      obtain ⟨rfl, hr'⟩ := List.cons.inj hr
      rw [tree_Check_L0, show t.length - k = (t.length - (k + 1)) + 1 by omega, chk1, tree_place_eq, ih (k + 1) hr']
      cases h1 : place (gt t k) != 0 with
      | true => simp only [cond_true, h1]
      | false =>
        simp only [cond_false]
        cases h2 : (decide ((k : Int) > 0) && decide ((gt t (k - 1)).node ≥ (gt t k).node)) <;> rfl
  unfold tree_Check checkT
  exact key t 0 rfl
theorem tree_Put_eq (l : List Place) (p : Place) : tree_Put l p = putT l p := by
  have key : ∀ (r : List Place) (d : Bool) (acc : List Place), tree_Put_L0 p r d acc = acc ++ put p d r := by
    intro r
    induction r with
    | nil => intro d acc; rw [tree_Put_L0, put]; cases d <;> simp
    | cons q r ih =>
      intro d acc
      rw [tree_Put_L0, put]
      cases h1 : (!d && decide (q.node ≥ p.node)) <;> cases h2 : q.node != p.node <;> simp only [cond_true, cond_false, ih, List.append_assoc, List.cons_append, List.nil_append]
  unfold tree_Put putT
  exact (key l _ []).trans (List.nil_append _)
theorem tree_Copy_eq (l : List Place) : tree_Copy l = l := rfl
theorem tree_Under_eq (l : List Place) (a b : Int) : tree_Under l a b = under l a b := by
  unfold tree_Under under
  rw [tree_Check_eq, tree_Stands_eq]
theorem move_Check_eq (o : Op) : move_Check o = chkO o := rfl
theorem move_Do_eq (l : List Place) (o : Op) : move_Do l o = moveDo l o := by
  unfold move_Do moveDo
  rw [tree_Check_eq, tree_Stands_eq, move_Check_eq, tree_Copy_eq, tree_Put_eq, tree_Find_eq]
  rfl
theorem move_Undo_eq (l : List Place) (s : Step) : move_Undo l s = moveUndo l s := by
  unfold move_Undo moveUndo wasOf
  simp only [tree_Check_eq, move_Check_eq, tree_Copy_eq, tree_Put_eq, tree_Find_eq]
  cases s.was.node == 0 <;> rfl
end Go.Proofs.Ytchdacbjiomplaa
