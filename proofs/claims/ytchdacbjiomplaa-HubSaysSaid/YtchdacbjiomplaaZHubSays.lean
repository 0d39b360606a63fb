/- PROVED: any hub is checked, held against another one, asked what anybody is to see, and any record makes of it what the document says, errors too. No condition beyond the given statement's own. -/
import Derived.Test.YtchdacbjiomplaaRows
import Derived.ProofKit
import Derived.OpenShut
import Derived.SizedLaws
import Derived.Test.YtchdacbjiomplaaHead
import Derived.Test.YtchdacbjiomplaaTT
import Derived.Test.YtchdacbjiomplaaLHubT
namespace Go.Proofs.Ytchdacbjiomplaa
namespace hubSays
open Go Go.ChangeShapes Go.WideShapes Go.ChangeAt Go.RowKit Go.Proofs.Ytchdacbjiomplaa.Fw

theorem own : ownKnob Try.prog.godebug = none := own_knob

set_option maxRecDepth 100000 in
theorem lifted (os : Os) (started : os.Started) (H : Type) (enc : TypeId × Value → H) :
    ReturnsInHanded {} Try.checked os 24 .any (Rows.hubSaysSpec.pre6 enc Try.prog Try.f24 Rows.hubSaysRow.domain false) (Rows.hubSaysSpec.post enc Try.prog Try.f24 false true false false) := by
  refine returnsInHanded_of_change_sized (C := Try.checked) own started (by as_aux_lemma => kernel_rfl) Try.func24
    (ChangeSpec.witness6 (enc := enc) (C := Try.checked) false ⟨#[], #[.agg #[.slice none 0 0, .slice none 0 0, .int .i64 0, .slice none 0 0], .agg #[.int .i64 0, .int .i64 0, .int .i64 0, .slice none 0 0, .int .i64 0, .int .i64 0, .int .i64 0, .int .i64 0, .int .i64 0, .int .i64 0, .int .i64 0], .agg #[.slice none 0 0, .slice none 0 0, .int .i64 0, .slice none 0 0], .int .i64 0], []⟩ 8 (by as_aux_lemma => kernel_rfl) (by as_aux_lemma => kernel_rfl) (by as_aux_lemma => kernel_rfl) (by as_aux_lemma => kernel_rfl)) ?_
  intro W base args ds gs before hval0 hW hcnd hsize _
  have hval : ∀ (j : Nat) t v, Try.f24.params[j]? = some t → args[j]? = some v → Value.okWide Try.prog W .any base t v := hval0
  have hW' := hW
  obtain ⟨p, q, hA0, hV, rfl, hfz, hnd⟩ := hW
  have hA : DataW.TrodAll enc Try.prog W 0 (fun _ => true) true Try.f24.params.toList args.toList ds p := hA0
  rw [Try.params24] at hA hval
  obtain ⟨v0, vs0, d0, ds0, p0, q0, e0, ed0, ep0, hd0, hA0⟩ := trodAll_cons hA
  obtain ⟨v1, vs1, d1, ds1, p1, q1, e1, ed1, ep1, hd1, hA1⟩ := trodAll_cons hA0
  obtain ⟨v2, vs2, d2, ds2, p2, q2, e2, ed2, ep2, hd2, hA2⟩ := trodAll_cons hA1
  obtain ⟨v3, vs3, d3, ds3, p3, q3, e3, ed3, ep3, hd3, hA3⟩ := trodAll_cons hA2
  obtain ⟨e4, ed4, ep4⟩ := trodAll_nil hA3
  subst e4; subst ed4; subst ep4
  subst e3; subst ed3; subst ep3
  subst e2; subst ed2; subst ep2
  subst e1; subst ed1; subst ep1
  have hargs : args = #[v0, v1, v2, v3] := by cases args; simp_all
  subst hargs; subst ed0; subst ep0
  obtain ⟨rfl, rfl⟩ := trodVars_none hV
  rw [Try.params24] at hsize
  have hsz : (DataW.weightsEach Try.prog [131, 136, 131, 3] [d0, d1, d2, d3]).all (· ≤ reachBytes) = true := hsize
  simp only [DataW.weightsEach, List.all_append, Bool.and_eq_true] at hsz
  obtain ⟨a0, s0, rfl, hf0⟩ := Opens.agg opens_t131 Try.underlying131 (hval 0 131 v0 rfl rfl) hd0 hsz.1
  obtain ⟨a1, s1, rfl, hf1⟩ := Opens.agg opens_t136 Try.underlying136 (hval 1 136 v1 rfl rfl) hd1 hsz.2.1
  obtain ⟨a2, s2, rfl, hf2⟩ := Opens.agg opens_t131 Try.underlying131 (hval 2 131 v2 rfl rfl) hd2 hsz.2.2.1
  obtain ⟨a3, s3, rfl, hf3⟩ := Opens.one opens_t3 (.inl ⟨_, Try.underlying3⟩) (hval 3 3 v3 rfl rfl) hd3 hsz.2.2.2.1
  clear hA0 hval0
  refine law_step laid_out rfl Try.underlying4 (by as_aux_lemma => kernel_rfl) (by as_aux_lemma => kernel_rfl) hW' rfl ?_
  have hpre : ∀ F ∈ ([RdL EStep s0.1 a0.h.l, RdL EPlace s0.2.1 a0.h.t, RdN NPeer s0.2.2 a0.peers, RdL EInt s1 a1.roots, RdL EStep s2.1 a2.h.l, RdL EPlace s2.2.1 a2.h.t, RdN NPeer s2.2.2 a2.peers] : List Pred), Stab F ∧ F (fun _ => False) W := by
    intro F hF
    simp only [List.mem_cons, List.not_mem_nil, or_false] at hF
    rcases hF with rfl | rfl | rfl | rfl | rfl | rfl | rfl
    · exact ⟨inferInstance, hf0 _ (.head _)⟩
    · exact ⟨inferInstance, hf0 _ (.tail _ (.head _))⟩
    · exact ⟨inferInstance, hf0 _ (.tail _ (.tail _ (.head _)))⟩
    · exact ⟨inferInstance, hf1 _ (.head _)⟩
    · exact ⟨inferInstance, hf2 _ (.head _)⟩
    · exact ⟨inferInstance, hf2 _ (.tail _ (.head _))⟩
    · exact ⟨inferInstance, hf2 _ (.tail _ (.tail _ (.head _)))⟩
  have hc := orangerylaw_HubSays_spec s0.1 s0.2.1 s0.2.2 a0 s1 a1 s2.1 s2.2.1 s2.2.2 a2 a3
  rw [HubSays_true] at hc
  refine (hc.calls W hpre).mono ?_
  rintro e W2 ⟨_, he, hb, _⟩
  exact ⟨he, hb⟩

set_option maxRecDepth 100000 in
set_option maxHeartbeats 4000000 in
theorem joined : joinedFacts Try.prog 24 Try.f24 Rows.hubSaysSpec Rows.hubSaysRow = true := by
  unfold joinedFacts
  iterate 31 (refine both_true ?_ (by first | with_reducible exact head_enter | with_reducible exact stops_heard | with_reducible exact laid_out | with_reducible exact maps_rowed | (rw [head_make]; rfl) | (rw [head_lifts]; rfl) | (rw [plain_keys]; rfl) | (as_aux_lemma => kernel_rfl)))
  as_aux_lemma => kernel_rfl

theorem over : Rows.hubSaysRow.holds Try.pinned (OpenSpec.ofChange Rows.hubSaysSpec) :=
  OpenClaim.holds_of_wide 24 Try.f24 rfl rfl rfl rfl rfl rfl rfl ⟨rfl, rfl, rfl, rfl, rfl⟩ rfl rfl rfl rfl rfl (by as_aux_lemma => kernel_rfl) Try.func24 joined
    (of_decide_eq_true (by kernel_rfl)) (by unfold Func.isWrapper; first | (rw [if_pos (by decide +kernel)]; kernel_rfl) | (rw [if_neg (by decide +kernel)]; exact ⟨rfl, rfl⟩))
    (fun os started H enc _ => lifted os started H enc)

/-- The given statement. -/
theorem proved : Rows.HubSaysSaid := over
#print axioms proved
end hubSays
end Go.Proofs.Ytchdacbjiomplaa
