/- Part of this claim. No condition. -/
import Derived.Test.YtchdacbjiomplaaLCliC
set_option linter.unusedVariables false
set_option linter.unusedSimpArgs false
namespace Go.Proofs.Ytchdacbjiomplaa
open Go Go.Proofs.Ytchdacbjiomplaa.Fw Go.Proofs
theorem tree_len {t : List Place} (h : IsTree t) : t.length ≤ 15 := checkT_len ((checkT_iff t).2 h)
theorem cli_op {c : Client} {me : Int} (h : IsCli c me) {i : Nat} (hi : i < c.pending.length) : orangeryref_CheckOp (gt c.pending i) = 0 := by
  rw [CheckOp_eq]; exact (h.pend i hi).ok
end Go.Proofs.Ytchdacbjiomplaa
