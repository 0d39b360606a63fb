/- Part of this claim. No condition. -/
import Derived.Test.YtchdacbjiomplaaTData
import Derived.Test.YtchdacbjiomplaaFx
set_option linter.unusedVariables false
set_option linter.unusedSimpArgs false
namespace Go.Proofs.Ytchdacbjiomplaa
open Go Go.Proofs.Ytchdacbjiomplaa.Fw Go.Proofs
instance (γ : Nat → SlV) (l : List (List Place)) : Stab (FactsG NPlaces γ l) := stabFG NPlaces γ l
instance (γ : Nat → SlV) (l : List (List Op)) : Stab (FactsG NOps γ l) := stabFG NOps γ l
instance (γ : Nat → SlV) (l : List Peer) : Stab (FactsG NPeer γ l) := stabFG NPeer γ l
instance (γ : Nat → SlV × SlV × SlV × SlV × SlV × SlV × SlV) (l : List Mail) : Stab (FactsG NMail γ l) := stabFG NMail γ l
instance (γ : Nat → SlV) (l : List Rec) : Stab (FactsG NRec γ l) := stabFG NRec γ l
end Go.Proofs.Ytchdacbjiomplaa
