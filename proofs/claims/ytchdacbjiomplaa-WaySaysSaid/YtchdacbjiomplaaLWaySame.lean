/- Part of this claim. No condition. -/
import Derived.Test.YtchdacbjiomplaaW31
import Derived.Test.YtchdacbjiomplaaLV
set_option linter.unusedVariables false
set_option linter.unusedSimpArgs false

namespace Go.Proofs.Ytchdacbjiomplaa
open Go Go.Proofs.Ytchdacbjiomplaa.Fw Go.Proofs
theorem delta_Same_iff (a b : Delta) : delta_Same a b = true ↔ a = b := by
  obtain ⟨a1, a2, a3, a4⟩ := a; obtain ⟨b1, b2, b3, b4⟩ := b
  simp [delta_Same, and_assoc]
theorem way_same_iff (a b : Mail) : way_same a b = true ↔ a = b := by
  obtain ⟨a1, a2, a3, a4, a5, a6, a7, a8, a9, a10⟩ := a
  obtain ⟨b1, b2, b3, b4, b5, b6, b7, b8, b9, b10⟩ := b
  simp only [way_same, Bool.and_eq_true, beq_iff_eq, decide_eq_true_eq, Same_iff, delta_Same_iff, Mail.mk.injEq, and_assoc]
end Go.Proofs.Ytchdacbjiomplaa
