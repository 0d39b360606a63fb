/- PROVED: any script does to any world, happening by happening, what the document says, errors too. No condition beyond the given statement's own. -/
import Derived.Test.YtkjccbdeaflekaaGreatDoorCards
import Derived.Test.YtkjccbdeaflekaaGreatDoorTie
import Derived.SevenTiedAt
import Derived.Lay
import Derived.Stop.Joined
import Derived.ProofKit
import Derived.OpenShut
import Derived.SizedLaws
import Derived.Test.YtkjccbdeaflekaaGreatDoorHead
import Derived.Test.YtkjccbdeaflekaaGreatDoorR13
import Derived.Test.YtkjccbdeaflekaaGreatDoorR15
namespace Go.Proofs.YtkjccbdeaflekaaGreatDoor
namespace worldRuns
open Go Go.ChangeShapes Go.WideShapes Go.ChangeAt Go.RowKit Go.Proofs.YtkjccbdeaflekaaGreatDoor.Fw

theorem own : ownKnob Tryz.prog.godebug = none := own_knob

set_option maxHeartbeats 4000000 in
set_option maxRecDepth 100000 in
theorem lifted (os : Os) (started : os.Started) (H : Type) (enc : TypeId × Value → H) :
    ReturnsInHanded {} Tryz.checked os 3 .any (fun w args => (Rows.worldRunsSpec.pre enc Tryz.prog Tryz.f3 Rows.worldRunsRow.domain false w args ∧ laidMetH Tryz.prog Rows.worldRunsRow.laid w) ∧ sizedMet enc Tryz.prog Tryz.f3 (OpenSpec.ofChange Rows.worldRunsSpec) false w args) (Rows.worldRunsSpec.post enc Tryz.prog Tryz.f3 false true false false) := by
  refine wrapped (C := Tryz.checked) own started (by as_aux_lemma => kernel_rfl) Tryz.func3
    (ChangeSpec.witness_shaped (enc := enc) (C := Tryz.checked) (os := os) (X := fun w _ => laidMetH Tryz.prog Rows.worldRunsRow.laid w) false (World.laidAll Tryz.prog os Rows.worldRunsRow.laid) #[.agg #[.slice none 0 0, .slice none 0 0, .int .i64 0, .slice none 0 0, .slice none 0 0, .slice none 0 0, .bool false, .slice none 0 0, .slice none 0 0], .slice none 0 0] 8 (World.laidAll_os _ _ _)
      (World.shaped_of_ZipB (by as_aux_lemma => kernel_rfl) (by as_aux_lemma => kernel_rfl)) (by as_aux_lemma => kernel_rfl) (by as_aux_lemma => kernel_rfl) (by as_aux_lemma => kernel_rfl)
      (by rw [MakeChecks.laidMetH_plain _ _ _ (by as_aux_lemma => kernel_rfl)]; exact laidMet_laidAll _ (by as_aux_lemma => kernel_rfl) (by as_aux_lemma => kernel_rfl))) ?_
  intro W base args ds gs before hval0 hW hcnd hsize hL hsh
  have hval : ∀ (j : Nat) t v, Tryz.f3.params[j]? = some t → args[j]? = some v → Value.okWide Tryz.prog W .any base t v := hval0
  have hW' := hW
  obtain ⟨p, q, hA0, hV, rfl, hfz, hnd⟩ := hW
  have hA : DataW.TrodAll enc Tryz.prog W 0 (fun _ => true) true Tryz.f3.params.toList args.toList ds p := hA0
  rw [Tryz.params3] at hA hval
  obtain ⟨v0, vs0, d0, ds0, p0, q0, e0, ed0, ep0, hd0, hA0⟩ := trodAll_cons hA
  obtain ⟨v1, vs1, d1, ds1, p1, q1, e1, ed1, ep1, hd1, hA1⟩ := trodAll_cons hA0
  obtain ⟨e2, ed2, ep2⟩ := trodAll_nil hA1
  subst e2; subst ed2; subst ep2
  subst e1; subst ed1; subst ep1
  have hargs : args = #[v0, v1] := by cases args; simp_all
  subst hargs; subst ed0; subst ep0
  obtain ⟨rfl, rfl⟩ := trodVars_none hV
  rw [Tryz.params3] at hsize
  have hsz : (DataW.weightsEach Tryz.prog [37, 38] [d0, d1]).all (· ≤ reachBytes) = true := hsize
  simp only [DataW.weightsEach, List.all_append, Bool.and_eq_true] at hsz
  obtain ⟨a0, s0, rfl, hf0⟩ := Opens.agg opens_t37 Tryz.underlying37 (hval 0 37 v0 rfl rfl) hd0 hsz.1
  obtain ⟨a1, s1, rfl, hf1⟩ := Opens.one opens_t38 (.inr (.inr ⟨_, Tryz.underlying38⟩)) (hval 1 38 v1 rfl rfl) hd1 hsz.2.1
  clear hA0 hval0
  refine law_step laid_out rfl Tryz.underlying4 (by as_aux_lemma => kernel_rfl) (by as_aux_lemma => kernel_rfl) hW' rfl ?_
  have hpre : ∀ F ∈ ([RdL EStep s0.1 a0.h.h.l, RdL EPlace s0.2.1 a0.h.h.t, RdN NPeer s0.2.2.1 a0.h.peers, RdL EByte s0.2.2.2.1 a0.d.safe, RdL EByte s0.2.2.2.2.1 a0.d.wait, RdN NClient s0.2.2.2.2.2.1 a0.c, RdN NMail s0.2.2.2.2.2.2 a0.mail, RdN NHap s1 a1, LibP Tryz.prog] : List Pred), Stab F ∧ F (fun _ => False) W := by
    intro F hF
    simp only [List.mem_cons, List.not_mem_nil, or_false] at hF
    rcases hF with rfl | rfl | rfl | rfl | rfl | rfl | rfl | rfl | rfl
    · exact ⟨inferInstance, hf0 _ (.head _)⟩
    · exact ⟨inferInstance, hf0 _ (.tail _ (.head _))⟩
    · exact ⟨inferInstance, hf0 _ (.tail _ (.tail _ (.head _)))⟩
    · exact ⟨inferInstance, hf0 _ (.tail _ (.tail _ (.tail _ (.head _))))⟩
    · exact ⟨inferInstance, hf0 _ (.tail _ (.tail _ (.tail _ (.tail _ (.head _)))))⟩
    · exact ⟨inferInstance, hf0 _ (.tail _ (.tail _ (.tail _ (.tail _ (.tail _ (.head _))))))⟩
    · exact ⟨inferInstance, hf0 _ (.tail _ (.tail _ (.tail _ (.tail _ (.tail _ (.tail _ (.head _)))))))⟩
    · exact ⟨inferInstance, hf1 _ (.head _)⟩
    · exact ⟨inferInstance, DE hL hsh⟩
  have hc := t8 s0.1 s0.2.1 s0.2.2.1 s0.2.2.2.1 s0.2.2.2.2.1 s0.2.2.2.2.2.1 s0.2.2.2.2.2.2 a0 s1 a1
  rw [Bs] at hc
  refine (hc.calls W hpre).mono ?_
  rintro e W2 ⟨_, he, hb, _⟩
  exact ⟨he, hb⟩

set_option maxRecDepth 100000 in
set_option maxHeartbeats 4000000 in
theorem joined : joinedFacts Tryz.prog 3 Tryz.f3 Rows.worldRunsSpec Rows.worldRunsRow = true := by
  unfold joinedFacts
  iterate 31 (refine both_true ?_ (by first | with_reducible exact head_enter | with_reducible exact stops_heard | with_reducible exact laid_out | with_reducible exact maps_rowed | (rw [head_make]; rfl) | (rw [head_lifts]; rfl) | (rw [plain_keys]; rfl) | (as_aux_lemma => kernel_rfl)))
  as_aux_lemma => kernel_rfl

theorem over : Rows.worldRunsRow.holds Tryz.pinned (OpenSpec.ofChange Rows.worldRunsSpec) :=
  OpenClaim.holds_of_wide 3 Tryz.f3 rfl rfl rfl rfl rfl rfl rfl ⟨rfl, rfl, rfl, rfl, rfl⟩ rfl rfl rfl rfl rfl (by as_aux_lemma => kernel_rfl) Tryz.func3 joined
    (of_decide_eq_true (by kernel_rfl)) (by unfold Func.isWrapper; first | (rw [if_pos (by decide +kernel)]; kernel_rfl) | (rw [if_neg (by decide +kernel)]; exact ⟨rfl, rfl⟩))
    (fun os started H enc _ => lifted os started H enc)

/-- The given statement. -/
theorem proved : Rows.WorldRunsCardSaid :=
  Claim7.holds_tied_plain_at .later [] [.data, .data, .data, .data, .sentinel, .sentinel, .pinned] true (true, "b511acc97878c561733fabbe88ba21788b6cd08f82e09a3e00101e0fc4720dff") true over (fun _ h => by cases h) (by kernel_rfl) (fun _ h => by cases h) worldRuns_row_tie rfl ⟨rfl, rfl⟩ (by kernel_rfl) rfl
    (fun f fn hf hfn => by
      obtain rfl : f = 3 := Option.some.inj ((show Tryz.prog.funcNamed "orangery/orangerylaw.WorldRuns" = some 3 by kernel_rfl).symm.trans hf) |>.symm
      obtain rfl : fn = Tryz.f3 := (Option.some.inj (Tryz.func3.symm.trans hfn)).symm
      exact ⟨by kernel_rfl, fun j t ht => by
        rw [Tryz.params3] at ht
        have hm : t ∈ [37, 38] := by simpa using Array.mem_of_getElem? ht
        have hall : ([37, 38].all fun u => !Tryz.prog.wantsStandIn u) = true := by kernel_rfl
        have := List.all_eq_true.1 hall t hm
        have h5 : Tryz.prog.wantsStandIn t = false := by simpa using this
        exact h5⟩)
    (by kernel_rfl)
#print axioms proved
end worldRuns
end Go.Proofs.YtkjccbdeaflekaaGreatDoor
