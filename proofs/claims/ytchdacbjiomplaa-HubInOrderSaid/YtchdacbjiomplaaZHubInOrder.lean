/- PROVED: what a client did in a life is accepted in order, each once, and only while it lives that life. No condition beyond the given statement's own. -/
import Derived.Test.YtchdacbjiomplaaRows
import Derived.ProofKit
import Derived.OpenShut
import Derived.SizedLaws
import Derived.Test.YtchdacbjiomplaaHead
import Derived.Test.YtchdacbjiomplaaTT
import Derived.Test.YtchdacbjiomplaaLHubJ
namespace Go.Proofs.Ytchdacbjiomplaa
namespace hubInOrder
open Go Go.ChangeShapes Go.WideShapes Go.ChangeAt Go.RowKit Go.Proofs.Ytchdacbjiomplaa.Fw

theorem own : ownKnob Try.prog.godebug = none := own_knob

set_option maxRecDepth 100000 in
theorem lifted (os : Os) (started : os.Started) (H : Type) (enc : TypeId × Value → H) :
    ReturnsInHanded {} Try.checked os 23 .any (Rows.hubInOrderSpec.pre6 enc Try.prog Try.f23 Rows.hubInOrderRow.domain false) (Rows.hubInOrderSpec.post enc Try.prog Try.f23 false true false false) := by
  refine returnsInHanded_of_change_sized (C := Try.checked) own started (by as_aux_lemma => kernel_rfl) Try.func23
    (ChangeSpec.witness6 (enc := enc) (C := Try.checked) false ⟨#[], #[.slice none 0 0], []⟩ 8 (by as_aux_lemma => kernel_rfl) (by as_aux_lemma => kernel_rfl) (by as_aux_lemma => kernel_rfl) (by as_aux_lemma => kernel_rfl)) ?_
  intro W base args ds gs before hval0 hW hcnd hsize _
  have hval : ∀ (j : Nat) t v, Try.f23.params[j]? = some t → args[j]? = some v → Value.okWide Try.prog W .any base t v := hval0
  have hW' := hW
  obtain ⟨p, q, hA0, hV, rfl, hfz, hnd⟩ := hW
  have hA : DataW.TrodAll enc Try.prog W 0 (fun _ => true) true Try.f23.params.toList args.toList ds p := hA0
  rw [Try.params23] at hA hval
  obtain ⟨v0, vs0, d0, ds0, p0, q0, e0, ed0, ep0, hd0, hA0⟩ := trodAll_cons hA
  obtain ⟨e1, ed1, ep1⟩ := trodAll_nil hA0
  subst e1; subst ed1; subst ep1
  have hargs : args = #[v0] := by cases args; simp_all
  subst hargs; subst ed0; subst ep0
  obtain ⟨rfl, rfl⟩ := trodVars_none hV
  rw [Try.params23] at hsize
  have hsz : (DataW.weightsEach Try.prog [128] [d0]).all (· ≤ reachBytes) = true := hsize
  simp only [DataW.weightsEach, List.all_append, Bool.and_eq_true] at hsz
  obtain ⟨a0, s0, rfl, hf0⟩ := Opens.one opens_t128 (.inr (.inr ⟨_, Try.underlying128⟩)) (hval 0 128 v0 rfl rfl) hd0 hsz.1
  clear hA0 hval0
  refine law_step laid_out rfl Try.underlying4 (by as_aux_lemma => kernel_rfl) (by as_aux_lemma => kernel_rfl) hW' rfl ?_
  have hpre : ∀ F ∈ ([RdN NRec s0 a0] : List Pred), Stab F ∧ F (fun _ => False) W := by
    intro F hF
    simp only [List.mem_cons, List.not_mem_nil, or_false] at hF
    rcases hF with rfl
    · exact ⟨inferInstance, hf0 _ (.head _)⟩
  have hc := orangerylaw_HubInOrder_spec s0 a0
  rw [HubInOrder_true] at hc
  refine (hc.calls W hpre).mono ?_
  rintro e W2 ⟨_, he, hb, _⟩
  exact ⟨he, hb⟩

set_option maxRecDepth 100000 in
set_option maxHeartbeats 4000000 in
theorem joined : joinedFacts Try.prog 23 Try.f23 Rows.hubInOrderSpec Rows.hubInOrderRow = true := by
  unfold joinedFacts
  iterate 31 (refine both_true ?_ (by first | with_reducible exact head_enter | with_reducible exact stops_heard | with_reducible exact laid_out | with_reducible exact maps_rowed | (rw [head_make]; rfl) | (rw [head_lifts]; rfl) | (rw [plain_keys]; rfl) | (as_aux_lemma => kernel_rfl)))
  as_aux_lemma => kernel_rfl

theorem over : Rows.hubInOrderRow.holds Try.pinned (OpenSpec.ofChange Rows.hubInOrderSpec) :=
  OpenClaim.holds_of_wide 23 Try.f23 rfl rfl rfl rfl rfl rfl rfl ⟨rfl, rfl, rfl, rfl, rfl⟩ rfl rfl rfl rfl rfl (by as_aux_lemma => kernel_rfl) Try.func23 joined
    (of_decide_eq_true (by kernel_rfl)) (by unfold Func.isWrapper; first | (rw [if_pos (by decide +kernel)]; kernel_rfl) | (rw [if_neg (by decide +kernel)]; exact ⟨rfl, rfl⟩))
    (fun os started H enc _ => lifted os started H enc)

/-- The given statement. -/
theorem proved : Rows.HubInOrderSaid := over
#print axioms proved
end hubInOrder
end Go.Proofs.Ytchdacbjiomplaa
