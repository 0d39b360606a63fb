/- Part of this claim. No condition. -/
import Derived.Test.YtchdacbjiomplaaLSays
set_option linter.unusedVariables false
set_option linter.unusedSimpArgs false
namespace Go.Proofs.Ytchdacbjiomplaa
open Go Go.Proofs.Ytchdacbjiomplaa.Fw Go.Proofs
/-! ### What the document does with an operation -/
theorem CheckOp_rk {o : Op} (h : orangeryref_CheckOp o = 0) : 0 ≤ (⟨o.time, o.who⟩ : Stamp).time ∧ (⟨o.time, o.who⟩ : Stamp).time ≤ 10000 ∧ 0 ≤ (⟨o.time, o.who⟩ : Stamp).who ∧ (⟨o.time, o.who⟩ : Stamp).who ≤ 2 := by
  rw [CheckOp_eq] at h; have := chkO_ok h; simp only; omega
theorem tree_par {t : List Place} (h : IsTree t) : ∀ p ∈ t, 0 ≤ p.parent ∧ p.parent ≤ 16 := fun p hp => by have := plc_ok (h.ok p hp); omega
theorem tree_node {t : List Place} (h : IsTree t) : ∀ p ∈ t, 0 ≤ p.node ∧ p.node < 16 := fun p hp => by have := plc_ok (h.ok p hp); omega
theorem done_move {t : List Place} (h : IsTree t) {o : Op} (ho : orangeryref_CheckOp o = 0) : orangeryref_done t o = ((moveDo t o).1, (moveDo t o).2.1) := by
  rw [CheckOp_eq] at ho
  rw [done_eq h ho, moveDo_eq ((checkT_iff t).2 h) ho]
  cases stands t o.parent o.node <;> rfl
theorem done_tree {t : List Place} (h : IsTree t) {o : Op} (ho : orangeryref_CheckOp o = 0) : IsTree (orangeryref_done t o).1 := by
  rw [done_move h ho]
  rw [CheckOp_eq] at ho
  exact (checkT_iff _).1 (moved_of (moveDo_ok0 ((checkT_iff t).2 h) ho)).tree
theorem tree_nil : IsTree [] := (checkT_iff []).1 rfl
end Go.Proofs.Ytchdacbjiomplaa
