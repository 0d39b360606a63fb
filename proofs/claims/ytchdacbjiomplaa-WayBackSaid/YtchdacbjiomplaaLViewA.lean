/- Part of this claim. No condition. -/
import Derived.Test.YtchdacbjiomplaaLEq
import Derived.Test.YtchdacbjiomplaaW12b
set_option linter.unusedVariables false
set_option linter.unusedSimpArgs false
namespace Go.Proofs.Ytchdacbjiomplaa
open Go Go.Proofs.Ytchdacbjiomplaa.Fw Go.Proofs
theorem All_L0_eq : ∀ (m l : List Place), view_All_L0 m l = m.foldl putT l
  | [], _ => rfl
  | p :: r, l => by rw [view_All_L0, tree_Put_eq, All_L0_eq r]; rfl
theorem All_eq (v : View) : view_All v = v.way.foldl putT v.known := All_L0_eq _ _
theorem Same_comm (a b : View) : view_Same a b = view_Same b a := by
  unfold view_Same
  simp only [eq_comm]
theorem view_Check_eq (v : View) : view_Check v = bif view_Roots v.roots != 0 then view_Roots v.roots else bif checkT v.known != 0 then checkT v.known else bif checkT v.way != 0 then checkT v.way else
    bif ((view_Of (view_All v) v.roots).2 == 0 && !(view_Same (view_Of (view_All v) v.roots).1 v)) then 4 else (view_Of (view_All v) v.roots).2 := by
  unfold view_Check view_Check_U0_0 view_Check_U0_1 view_Check_U0_2
  rw [tree_Check_eq, tree_Check_eq]
theorem Same_refl (v : View) : view_Same v v = true := by simp [view_Same]
theorem Same_iff (v w : View) : view_Same v w = true ↔ v = w := by
  obtain ⟨a, b, c⟩ := v; obtain ⟨d, e, f⟩ := w
  simp [view_Same, and_assoc]
end Go.Proofs.Ytchdacbjiomplaa
