/- Part of this claim. No condition. -/
import Derived.Test.YtchdacbjiomplaaW57
import Derived.Test.YtchdacbjiomplaaW48
set_option linter.unusedVariables false
set_option linter.unusedSimpArgs false
set_option maxHeartbeats 2000000
namespace Go.Proofs.Ytchdacbjiomplaa
open Go Go.Proofs.Ytchdacbjiomplaa.Fw Go.Proofs
attribute [local irreducible] RdL RdN VarP RW CW
def orangerylaw_HubReplays (l1 : List Rec) : Bool :=
  ((orangerylaw_accepted && (((hub_Replay l1).2) == ((orangeryref_HubOf l1).2))) && (orangeryref_SameHub ((hub_Replay l1).1) ((orangeryref_HubOf l1).1)))
theorem orangerylaw_HubReplays_spec (y1 : SlV) (l1 : List Rec) : Does Try.prog 25 [y1.val l1.length] [RdN NRec y1 l1] (fun (_ : Unit) => .bool (orangerylaw_HubReplays l1)) (fun (_ : Unit) => []) := by
  refine does_of tab_ok Try.func25 rfl Try.ntmps25 Try.results25 rfl inferInstance (fun _ => inferInstance) fun C => ?_
  refine Pn NRec y1 l1 104 fun hlen1 => ?_
  refine Tx ?_
  refine Cl (hub_Replay_spec y1 l1) fun x1 => ?_
  refine Pr EStep x1.1 ((((hub_Replay l1).1).h).l) 88 fun hlen2 => ?_
  refine Pr EPlace x1.2.1 ((((hub_Replay l1).1).h).t) 24 fun hlen3 => ?_
  refine Pm NPeer x1.2.2 (((hub_Replay l1).1).peers) 40 fun hlen4 => ?_
  refine Tx ?_
  refine Al fun g1 => ?_
  refine Tx ?_
  refine Cl (orangeryref_HubOf_spec y1 l1) fun x2 => ?_
  refine Pr EStep x2.1 ((((orangeryref_HubOf l1).1).h).l) 88 fun hlen5 => ?_
  refine Pr EPlace x2.2.1 ((((orangeryref_HubOf l1).1).h).t) 24 fun hlen6 => ?_
  refine Pm NPeer x2.2.2 (((orangeryref_HubOf l1).1).peers) 40 fun hlen7 => ?_
  refine Tx ?_
  refine Al fun g2 => ?_
  refine Tx ?_
  refine Cl (orangerylaw_accepted_spec ) fun _ => ?_
  refine Tx ?_
  refine rw_callg (fun hG_ => orangeryref_SameHub_spec x1.1 x1.2.1 x1.2.2 ((hub_Replay l1).1) x2.1 x2.2.1 x2.2.2 ((orangeryref_HubOf l1).1)) (fun _ => rfl) .sq (guard_vt rfl rfl rfl) rfl rfl rfl Kr rfl Bt Sm ?_
  refine Tx ?_
  have hr1 : (orangerylaw_HubReplays l1) = ((orangerylaw_accepted && (((hub_Replay l1).2) == ((orangeryref_HubOf l1).2))) && (orangeryref_SameHub ((hub_Replay l1).1) ((orangeryref_HubOf l1).1))) := by simp only [orangerylaw_HubReplays, Bool.true_and, Bool.and_true, Bool.false_or, Bool.or_false, Bool.false_and, Bool.and_false, Bool.true_or, Bool.or_true, Bool.not_true, Bool.not_false, cond_true, cond_false]
  refine cw_ret ?_; rw [hr1]; exact Re () (Vt Vn)
end Go.Proofs.Ytchdacbjiomplaa
