/- PROVED: a view of what a view holds is the same view; it is a view; known and way are apart; who is known has all their kids known. No condition beyond the given statement's own. -/
import Derived.Test.YtchdacbjiomplaaRows
import Derived.ProofKit
import Derived.OpenShut
import Derived.SizedLaws
import Derived.Test.YtchdacbjiomplaaHead
import Derived.Test.YtchdacbjiomplaaTT
import Derived.Test.YtchdacbjiomplaaLVaT
namespace Go.Proofs.Ytchdacbjiomplaa
namespace viewAgain
open Go Go.ChangeShapes Go.WideShapes Go.ChangeAt Go.RowKit Go.Proofs.Ytchdacbjiomplaa.Fw

theorem own : ownKnob Try.prog.godebug = none := own_knob

set_option maxRecDepth 100000 in
theorem lifted (os : Os) (started : os.Started) (H : Type) (enc : TypeId × Value → H) :
    ReturnsInHanded {} Try.checked os 22 .any (Rows.viewAgainSpec.pre6 enc Try.prog Try.f22 Rows.viewAgainRow.domain false) (Rows.viewAgainSpec.post enc Try.prog Try.f22 false true false false) := by
  refine returnsInHanded_of_change_sized (C := Try.checked) own started (by as_aux_lemma => kernel_rfl) Try.func22
    (ChangeSpec.witness6 (enc := enc) (C := Try.checked) false ⟨#[], #[.agg #[.slice none 0 0], .slice none 0 0], []⟩ 8 (by as_aux_lemma => kernel_rfl) (by as_aux_lemma => kernel_rfl) (by as_aux_lemma => kernel_rfl) (by as_aux_lemma => kernel_rfl)) ?_
  intro W base args ds gs before hval0 hW hcnd hsize _
  have hval : ∀ (j : Nat) t v, Try.f22.params[j]? = some t → args[j]? = some v → Value.okWide Try.prog W .any base t v := hval0
  have hW' := hW
  obtain ⟨p, q, hA0, hV, rfl, hfz, hnd⟩ := hW
  have hA : DataW.TrodAll enc Try.prog W 0 (fun _ => true) true Try.f22.params.toList args.toList ds p := hA0
  rw [Try.params22] at hA hval
  obtain ⟨v0, vs0, d0, ds0, p0, q0, e0, ed0, ep0, hd0, hA0⟩ := trodAll_cons hA
  obtain ⟨v1, vs1, d1, ds1, p1, q1, e1, ed1, ep1, hd1, hA1⟩ := trodAll_cons hA0
  obtain ⟨e2, ed2, ep2⟩ := trodAll_nil hA1
  subst e2; subst ed2; subst ep2
  subst e1; subst ed1; subst ep1
  have hargs : args = #[v0, v1] := by cases args; simp_all
  subst hargs; subst ed0; subst ep0
  obtain ⟨rfl, rfl⟩ := trodVars_none hV
  rw [Try.params22] at hsize
  have hsz : (DataW.weightsEach Try.prog [29, 24] [d0, d1]).all (· ≤ reachBytes) = true := hsize
  simp only [DataW.weightsEach, List.all_append, Bool.and_eq_true] at hsz
  obtain ⟨a0, s0, rfl, hf0⟩ := Opens.agg opens_t29 Try.underlying29 (hval 0 29 v0 rfl rfl) hd0 hsz.1
  obtain ⟨a1, s1, rfl, hf1⟩ := Opens.one opens_t24 (.inr (.inr ⟨_, Try.underlying24⟩)) (hval 1 24 v1 rfl rfl) hd1 hsz.2.1
  clear hA0 hval0
  refine law_step laid_out rfl Try.underlying4 (by as_aux_lemma => kernel_rfl) (by as_aux_lemma => kernel_rfl) hW' rfl ?_
  have hpre : ∀ F ∈ ([RdL EPlace s0 a0, RdL EInt s1 a1] : List Pred), Stab F ∧ F (fun _ => False) W := by
    intro F hF
    simp only [List.mem_cons, List.not_mem_nil, or_false] at hF
    rcases hF with rfl | rfl
    · exact ⟨inferInstance, hf0 _ (.head _)⟩
    · exact ⟨inferInstance, hf1 _ (.head _)⟩
  have hc := orangerylaw_ViewAgain_spec s0 a0 s1 a1
  rw [ViewAgain_true] at hc
  refine (hc.calls W hpre).mono ?_
  rintro e W2 ⟨_, he, hb, _⟩
  exact ⟨he, hb⟩

set_option maxRecDepth 100000 in
set_option maxHeartbeats 4000000 in
theorem joined : joinedFacts Try.prog 22 Try.f22 Rows.viewAgainSpec Rows.viewAgainRow = true := by
  unfold joinedFacts
  iterate 31 (refine both_true ?_ (by first | with_reducible exact head_enter | with_reducible exact stops_heard | with_reducible exact laid_out | with_reducible exact maps_rowed | (rw [head_make]; rfl) | (rw [head_lifts]; rfl) | (rw [plain_keys]; rfl) | (as_aux_lemma => kernel_rfl)))
  as_aux_lemma => kernel_rfl

theorem over : Rows.viewAgainRow.holds Try.pinned (OpenSpec.ofChange Rows.viewAgainSpec) :=
  OpenClaim.holds_of_wide 22 Try.f22 rfl rfl rfl rfl rfl rfl rfl ⟨rfl, rfl, rfl, rfl, rfl⟩ rfl rfl rfl rfl rfl (by as_aux_lemma => kernel_rfl) Try.func22 joined
    (of_decide_eq_true (by kernel_rfl)) (by unfold Func.isWrapper; first | (rw [if_pos (by decide +kernel)]; kernel_rfl) | (rw [if_neg (by decide +kernel)]; exact ⟨rfl, rfl⟩))
    (fun os started H enc _ => lifted os started H enc)

/-- The given statement. -/
theorem proved : Rows.ViewAgainSaid := over
#print axioms proved
end viewAgain
end Go.Proofs.Ytchdacbjiomplaa
