/- Part of this claim. No condition. -/
import Derived.Test.YtchdacbjiomplaaW48
set_option linter.unusedVariables false
set_option linter.unusedSimpArgs false
namespace Go.Proofs.Ytchdacbjiomplaa
open Go Go.Proofs.Ytchdacbjiomplaa.Fw Go.Proofs
theorem accepted_true : orangerylaw_accepted = true := by decide +kernel
end Go.Proofs.Ytchdacbjiomplaa
