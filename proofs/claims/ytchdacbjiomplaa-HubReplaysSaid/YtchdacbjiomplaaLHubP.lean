/- Part of this claim. No condition. -/
import Derived.Test.YtchdacbjiomplaaW58
import Derived.Test.YtchdacbjiomplaaLHubS
set_option linter.unusedVariables false
set_option linter.unusedSimpArgs false
namespace Go.Proofs.Ytchdacbjiomplaa
open Go Go.Proofs.Ytchdacbjiomplaa.Fw Go.Proofs
theorem HubReplays_true (l : List Rec) : orangerylaw_HubReplays l = true := by
  unfold orangerylaw_HubReplays
  rw [accepted_true, HubOf_eq, SameHub_eq, hub_Same_refl]; simp
end Go.Proofs.Ytchdacbjiomplaa
