/- Part of this claim. No condition. -/
import Derived.Test.YtchdacbjiomplaaW59
import Derived.Test.YtchdacbjiomplaaLHubS
set_option linter.unusedVariables false
set_option linter.unusedSimpArgs false
namespace Go.Proofs.Ytchdacbjiomplaa
open Go Go.Proofs.Ytchdacbjiomplaa.Fw Go.Proofs
theorem HubSays_true (h : Hub) (r : Rec) (g : Hub) (who : Int) : orangerylaw_HubSays h r g who = true := by
  unfold orangerylaw_HubSays
  rw [accepted_true, CheckHub_eq, SameHub_eq, SameHub_eq, SameHub_eq, Nexted_eq, FreshHub_eq, hub_Same_refl, hub_Same_refl, Seen_eq]
  have e1 : (((!true) || (hub_Check h != hub_Check h)) || (!(hub_Same h g == hub_Same h g))) = false := by simp
  have e2 : ((((((!true) || (hub_Check h != hub_Check h)) || (!(hub_Same h g == hub_Same h g))) || (!true)) || ((hub_Next h r).2 != (hub_Next h r).2)) || (!true)) = false := by simp
  rw [e2, e1]
  simp only [cond_false]
  unfold hub_Sees
  simp only [SameView_eq]
  cases h1 : (hub_Check h != 0) with
  | true =>
    have hz : (hub_Check h == 0) = false := by rw [bne] at h1; simpa using h1
    rw [hz]
    simp [Same_refl]
  | false =>
    have h0 := eq_of_bne_false h1
    have hz : (hub_Check h == 0) = true := by rw [h0]; rfl
    rw [hz]
    simp only [Bool.true_and, cond_false]
    cases h2 : (decide (who < 0) || decide (who > 2)) with
    | true =>
      have e3 : (decide (who < 0) || decide (who ≥ 3)) = true := by
        simp only [Bool.or_eq_true, decide_eq_true_eq] at h2 ⊢; omega
      rw [e3]; simp [Same_refl]
    | false =>
      have e3 : (decide (who < 0) || decide (who ≥ 3)) = false := by
        simp only [Bool.or_eq_false_iff, decide_eq_false_iff_not] at h2 ⊢; omega
      rw [e3]; simp [Same_refl]
end Go.Proofs.Ytchdacbjiomplaa
