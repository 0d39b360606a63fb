/- PROVED: where all is heard nothing is pending, and each client sees what is to be seen, as long as there is room. No condition beyond the given statement's own. -/
import Derived.Test.YtkjccbdeaflekaaGreatDoorCards
import Derived.Test.YtkjccbdeaflekaaGreatDoorTie
import Derived.SevenTiedAt
import Derived.Lay
import Derived.Stop.Joined
import Derived.ProofKit
import Derived.OpenShut
import Derived.SizedLaws
import Derived.Test.YtkjccbdeaflekaaGreatDoorHead
import Derived.Test.YtkjccbdeaflekaaGreatDoorK1
import Derived.Test.YtkjccbdeaflekaaGreatDoorK2
import Derived.Test.YtkjccbdeaflekaaGreatDoorK3
import Derived.Test.YtkjccbdeaflekaaGreatDoorK4
import Derived.Test.YtkjccbdeaflekaaGreatDoorK5
import Derived.Test.YtkjccbdeaflekaaGreatDoorK6
import Derived.Test.YtkjccbdeaflekaaGreatDoorK7
import Derived.Test.YtkjccbdeaflekaaGreatDoorK8
import Derived.Test.YtkjccbdeaflekaaGreatDoorK9
import Derived.Test.YtkjccbdeaflekaaGreatDoorK10
import Derived.Test.YtkjccbdeaflekaaGreatDoorK11
import Derived.Test.YtkjccbdeaflekaaGreatDoorK12
namespace Go.Proofs.YtkjccbdeaflekaaGreatDoor
namespace storyCalm
open Go Go.ChangeShapes Go.WideShapes Go.ChangeAt Go.RowKit Go.Proofs.YtkjccbdeaflekaaGreatDoor.Fw

theorem own : ownKnob Tryz.prog.godebug = none := own_knob

set_option maxHeartbeats 4000000 in
set_option maxRecDepth 100000 in
theorem lifted (os : Os) (started : os.Started) (H : Type) (enc : TypeId × Value → H) :
    ReturnsInHanded {} Tryz.checked os 5 .any (fun w args => (Rows.storyCalmSpec.pre enc Tryz.prog Tryz.f5 Rows.storyCalmRow.domain false w args ∧ laidMetH Tryz.prog Rows.storyCalmRow.laid w) ∧ sizedMet enc Tryz.prog Tryz.f5 (OpenSpec.ofChange Rows.storyCalmSpec) false w args) (Rows.storyCalmSpec.post enc Tryz.prog Tryz.f5 false true false false) := by
  refine wrapped (C := Tryz.checked) own started (by as_aux_lemma => kernel_rfl) Tryz.func5
    (ChangeSpec.witness_shaped (enc := enc) (C := Tryz.checked) (os := os) (X := fun w _ => laidMetH Tryz.prog Rows.storyCalmRow.laid w) false (World.laidAll Tryz.prog os Rows.storyCalmRow.laid) #[.slice none 0 0] 8 (World.laidAll_os _ _ _)
      (World.shaped_of_ZipB (by as_aux_lemma => kernel_rfl) (by as_aux_lemma => kernel_rfl)) (by as_aux_lemma => kernel_rfl) (by as_aux_lemma => kernel_rfl) (by as_aux_lemma => kernel_rfl)
      (by rw [MakeChecks.laidMetH_plain _ _ _ (by as_aux_lemma => kernel_rfl)]; exact laidMet_laidAll _ (by as_aux_lemma => kernel_rfl) (by as_aux_lemma => kernel_rfl))) ?_
  intro W base args ds gs before hval0 hW hcnd hsize hL hsh
  have hval : ∀ (j : Nat) t v, Tryz.f5.params[j]? = some t → args[j]? = some v → Value.okWide Tryz.prog W .any base t v := hval0
  have hW' := hW
  obtain ⟨p, q, hA0, hV, rfl, hfz, hnd⟩ := hW
  have hA : DataW.TrodAll enc Tryz.prog W 0 (fun _ => true) true Tryz.f5.params.toList args.toList ds p := hA0
  rw [Tryz.params5] at hA hval
  obtain ⟨v0, vs0, d0, ds0, p0, q0, e0, ed0, ep0, hd0, hA0⟩ := trodAll_cons hA
  obtain ⟨e1, ed1, ep1⟩ := trodAll_nil hA0
  subst e1; subst ed1; subst ep1
  have hargs : args = #[v0] := by cases args; simp_all
  subst hargs; subst ed0; subst ep0
  obtain ⟨rfl, rfl⟩ := trodVars_none hV
  rw [Tryz.params5] at hsize
  have hsz : (DataW.weightsEach Tryz.prog [38] [d0]).all (· ≤ reachBytes) = true := hsize
  simp only [DataW.weightsEach, List.all_append, Bool.and_eq_true] at hsz
  obtain ⟨a0, s0, rfl, hf0⟩ := Opens.one opens_t38 (.inr (.inr ⟨_, Tryz.underlying38⟩)) (hval 0 38 v0 rfl rfl) hd0 hsz.1
  clear hA0 hval0
  refine law_step laid_out rfl Tryz.underlying4 (by as_aux_lemma => kernel_rfl) (by as_aux_lemma => kernel_rfl) hW' rfl ?_
  have hpre : ∀ F ∈ ([RdN NHap s0 a0, LibP Tryz.prog] : List Pred), Stab F ∧ F (fun _ => False) W := by
    intro F hF
    simp only [List.mem_cons, List.not_mem_nil, or_false] at hF
    rcases hF with rfl | rfl
    · exact ⟨inferInstance, hf0 _ (.head _)⟩
    · exact ⟨inferInstance, xf hL hsh⟩
  have hc := oL s0 a0
  rw [vk] at hc
  refine (hc.calls W hpre).mono ?_
  rintro e W2 ⟨_, he, hb, _⟩
  exact ⟨he, hb⟩

set_option maxRecDepth 100000 in
set_option maxHeartbeats 4000000 in
theorem joined : joinedFacts Tryz.prog 5 Tryz.f5 Rows.storyCalmSpec Rows.storyCalmRow = true := by
  unfold joinedFacts
  iterate 31 (refine both_true ?_ (by first | with_reducible exact head_enter | with_reducible exact stops_heard | with_reducible exact laid_out | with_reducible exact maps_rowed | (rw [head_make]; rfl) | (rw [head_lifts]; rfl) | (rw [plain_keys]; rfl) | (as_aux_lemma => kernel_rfl)))
  as_aux_lemma => kernel_rfl

theorem over : Rows.storyCalmRow.holds Tryz.pinned (OpenSpec.ofChange Rows.storyCalmSpec) :=
  OpenClaim.holds_of_wide 5 Tryz.f5 rfl rfl rfl rfl rfl rfl rfl ⟨rfl, rfl, rfl, rfl, rfl⟩ rfl rfl rfl rfl rfl (by as_aux_lemma => kernel_rfl) Tryz.func5 joined
    (of_decide_eq_true (by kernel_rfl)) (by unfold Func.isWrapper; first | (rw [if_pos (by decide +kernel)]; kernel_rfl) | (rw [if_neg (by decide +kernel)]; exact ⟨rfl, rfl⟩))
    (fun os started H enc _ => lifted os started H enc)

/-- The given statement. -/
theorem proved : Rows.StoryCalmCardSaid :=
  Claim7.holds_tied_plain_at .later [] [.data, .data, .data, .data, .sentinel, .sentinel, .pinned] true (true, "b511acc97878c561733fabbe88ba21788b6cd08f82e09a3e00101e0fc4720dff") true over (fun _ h => by cases h) (by kernel_rfl) (fun _ h => by cases h) storyCalm_row_tie rfl ⟨rfl, rfl⟩ (by kernel_rfl) rfl
    (fun f fn hf hfn => by
      obtain rfl : f = 5 := Option.some.inj ((show Tryz.prog.funcNamed "orangery/orangerylaw.StoryCalm" = some 5 by kernel_rfl).symm.trans hf) |>.symm
      obtain rfl : fn = Tryz.f5 := (Option.some.inj (Tryz.func5.symm.trans hfn)).symm
      exact ⟨by kernel_rfl, fun j t ht => by
        rw [Tryz.params5] at ht
        have hm : t ∈ [38] := by simpa using Array.mem_of_getElem? ht
        have hall : ([38].all fun u => !Tryz.prog.wantsStandIn u) = true := by kernel_rfl
        have := List.all_eq_true.1 hall t hm
        have h5 : Tryz.prog.wantsStandIn t = false := by simpa using this
        exact h5⟩)
    (by kernel_rfl)
#print axioms proved
end storyCalm
end Go.Proofs.YtkjccbdeaflekaaGreatDoor
