/- PROVED: any client is checked, held against another one, begins, moves any node, shows what it knows, as the document says, errors too. No condition beyond the given statement's own. -/
import Derived.Test.YtchdacbjiomplaaRows
import Derived.ProofKit
import Derived.OpenShut
import Derived.SizedLaws
import Derived.Test.YtchdacbjiomplaaHead
import Derived.Test.YtchdacbjiomplaaTOpen2
import Derived.Test.YtchdacbjiomplaaLCliF
namespace Go.Proofs.Ytchdacbjiomplaa
namespace clientSays
open Go Go.ChangeShapes Go.WideShapes Go.ChangeAt Go.RowKit Go.Proofs.Ytchdacbjiomplaa.Fw

theorem own : ownKnob Try.prog.godebug = none := own_knob

set_option maxRecDepth 100000 in
theorem lifted (os : Os) (started : os.Started) (H : Type) (enc : TypeId × Value → H) :
    ReturnsInHanded {} Try.checked os 20 .any (Rows.clientSaysSpec.pre6 enc Try.prog Try.f20 Rows.clientSaysRow.domain false) (Rows.clientSaysSpec.post enc Try.prog Try.f20 false true false false) := by
  refine returnsInHanded_of_change_sized (C := Try.checked) own started (by as_aux_lemma => kernel_rfl) Try.func20
    (ChangeSpec.witness6 (enc := enc) (C := Try.checked) false ⟨#[], #[.agg #[.int .i64 0, .int .i64 0, .int .i64 0, .slice none 0 0, .int .i64 0, .slice none 0 0, .slice none 0 0, .slice none 0 0], .int .i64 0, .int .i64 0, .int .i64 0, .int .i64 0, .agg #[.int .i64 0, .int .i64 0, .int .i64 0, .slice none 0 0, .int .i64 0, .slice none 0 0, .slice none 0 0, .slice none 0 0]], []⟩ 8 (by as_aux_lemma => kernel_rfl) (by as_aux_lemma => kernel_rfl) (by as_aux_lemma => kernel_rfl) (by as_aux_lemma => kernel_rfl)) ?_
  intro W base args ds gs before hval0 hW hcnd hsize _
  have hval : ∀ (j : Nat) t v, Try.f20.params[j]? = some t → args[j]? = some v → Value.okWide Try.prog W .any base t v := hval0
  have hW' := hW
  obtain ⟨p, q, hA0, hV, rfl, hfz, hnd⟩ := hW
  have hA : DataW.TrodAll enc Try.prog W 0 (fun _ => true) true Try.f20.params.toList args.toList ds p := hA0
  rw [Try.params20] at hA hval
  obtain ⟨v0, vs0, d0, ds0, p0, q0, e0, ed0, ep0, hd0, hA0⟩ := trodAll_cons hA
  obtain ⟨v1, vs1, d1, ds1, p1, q1, e1, ed1, ep1, hd1, hA1⟩ := trodAll_cons hA0
  obtain ⟨v2, vs2, d2, ds2, p2, q2, e2, ed2, ep2, hd2, hA2⟩ := trodAll_cons hA1
  obtain ⟨v3, vs3, d3, ds3, p3, q3, e3, ed3, ep3, hd3, hA3⟩ := trodAll_cons hA2
  obtain ⟨v4, vs4, d4, ds4, p4, q4, e4, ed4, ep4, hd4, hA4⟩ := trodAll_cons hA3
  obtain ⟨v5, vs5, d5, ds5, p5, q5, e5, ed5, ep5, hd5, hA5⟩ := trodAll_cons hA4
  obtain ⟨e6, ed6, ep6⟩ := trodAll_nil hA5
  subst e6; subst ed6; subst ep6
  subst e5; subst ed5; subst ep5
  subst e4; subst ed4; subst ep4
  subst e3; subst ed3; subst ep3
  subst e2; subst ed2; subst ep2
  subst e1; subst ed1; subst ep1
  have hargs : args = #[v0, v1, v2, v3, v4, v5] := by cases args; simp_all
  subst hargs; subst ed0; subst ep0
  obtain ⟨rfl, rfl⟩ := trodVars_none hV
  rw [Try.params20] at hsize
  have hsz : (DataW.weightsEach Try.prog [109, 3, 3, 3, 3, 109] [d0, d1, d2, d3, d4, d5]).all (· ≤ reachBytes) = true := hsize
  simp only [DataW.weightsEach, List.all_append, Bool.and_eq_true] at hsz
  obtain ⟨a0, s0, rfl, hf0⟩ := Opens.agg opens_t109 Try.underlying109 (hval 0 109 v0 rfl rfl) hd0 hsz.1
  obtain ⟨a1, s1, rfl, hf1⟩ := Opens.one opens_t3 (.inl ⟨_, Try.underlying3⟩) (hval 1 3 v1 rfl rfl) hd1 hsz.2.1
  obtain ⟨a2, s2, rfl, hf2⟩ := Opens.one opens_t3 (.inl ⟨_, Try.underlying3⟩) (hval 2 3 v2 rfl rfl) hd2 hsz.2.2.1
  obtain ⟨a3, s3, rfl, hf3⟩ := Opens.one opens_t3 (.inl ⟨_, Try.underlying3⟩) (hval 3 3 v3 rfl rfl) hd3 hsz.2.2.2.1
  obtain ⟨a4, s4, rfl, hf4⟩ := Opens.one opens_t3 (.inl ⟨_, Try.underlying3⟩) (hval 4 3 v4 rfl rfl) hd4 hsz.2.2.2.2.1
  obtain ⟨a5, s5, rfl, hf5⟩ := Opens.agg opens_t109 Try.underlying109 (hval 5 109 v5 rfl rfl) hd5 hsz.2.2.2.2.2.1
  clear hA0 hval0
  refine law_step laid_out rfl Try.underlying4 (by as_aux_lemma => kernel_rfl) (by as_aux_lemma => kernel_rfl) hW' rfl ?_
  have hpre : ∀ F ∈ ([RdL EOp s0.1 a0.pending, RdL EInt s0.2.1 a0.v.roots, RdL EPlace s0.2.2.1 a0.v.known, RdL EPlace s0.2.2.2 a0.v.way, RdL EOp s5.1 a5.pending, RdL EInt s5.2.1 a5.v.roots, RdL EPlace s5.2.2.1 a5.v.known, RdL EPlace s5.2.2.2 a5.v.way] : List Pred), Stab F ∧ F (fun _ => False) W := by
    intro F hF
    simp only [List.mem_cons, List.not_mem_nil, or_false] at hF
    rcases hF with rfl | rfl | rfl | rfl | rfl | rfl | rfl | rfl
    · exact ⟨inferInstance, hf0 _ (.head _)⟩
    · exact ⟨inferInstance, hf0 _ (.tail _ (.head _))⟩
    · exact ⟨inferInstance, hf0 _ (.tail _ (.tail _ (.head _)))⟩
    · exact ⟨inferInstance, hf0 _ (.tail _ (.tail _ (.tail _ (.head _))))⟩
    · exact ⟨inferInstance, hf5 _ (.head _)⟩
    · exact ⟨inferInstance, hf5 _ (.tail _ (.head _))⟩
    · exact ⟨inferInstance, hf5 _ (.tail _ (.tail _ (.head _)))⟩
    · exact ⟨inferInstance, hf5 _ (.tail _ (.tail _ (.tail _ (.head _))))⟩
  have hc := orangerylaw_ClientSays_spec s0.1 s0.2.1 s0.2.2.1 s0.2.2.2 a0 a1 a2 a3 a4 s5.1 s5.2.1 s5.2.2.1 s5.2.2.2 a5
  rw [ClientSays_true] at hc
  refine (hc.calls W hpre).mono ?_
  rintro e W2 ⟨_, he, hb, _⟩
  exact ⟨he, hb⟩

set_option maxRecDepth 100000 in
set_option maxHeartbeats 4000000 in
theorem joined : joinedFacts Try.prog 20 Try.f20 Rows.clientSaysSpec Rows.clientSaysRow = true := by
  unfold joinedFacts
  iterate 31 (refine both_true ?_ (by first | with_reducible exact head_enter | with_reducible exact stops_heard | with_reducible exact laid_out | with_reducible exact maps_rowed | (rw [head_make]; rfl) | (rw [head_lifts]; rfl) | (rw [plain_keys]; rfl) | (as_aux_lemma => kernel_rfl)))
  as_aux_lemma => kernel_rfl

theorem over : Rows.clientSaysRow.holds Try.pinned (OpenSpec.ofChange Rows.clientSaysSpec) :=
  OpenClaim.holds_of_wide 20 Try.f20 rfl rfl rfl rfl rfl rfl rfl ⟨rfl, rfl, rfl, rfl, rfl⟩ rfl rfl rfl rfl rfl (by as_aux_lemma => kernel_rfl) Try.func20 joined
    (of_decide_eq_true (by kernel_rfl)) (by unfold Func.isWrapper; first | (rw [if_pos (by decide +kernel)]; kernel_rfl) | (rw [if_neg (by decide +kernel)]; exact ⟨rfl, rfl⟩))
    (fun os started H enc _ => lifted os started H enc)

/-- The given statement. -/
theorem proved : Rows.ClientSaysSaid := over
#print axioms proved
end clientSays
end Go.Proofs.Ytchdacbjiomplaa
