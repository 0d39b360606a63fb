/- PROVED: what a client did is accepted once at most, in its order. No condition beyond the given statement's own. -/
import Derived.Test.YtpkaloknohpleaaGreatDoorCards
import Derived.Test.YtpkaloknohpleaaGreatDoorTie
import Derived.SevenTiedAt
import Derived.Lay
import Derived.Stop.Joined
import Derived.ProofKit
import Derived.OpenShut
import Derived.SizedLaws
import Derived.Test.YtpkaloknohpleaaGreatDoorHead
import Derived.Test.YtpkaloknohpleaaGreatDoorC1
import Derived.Test.YtpkaloknohpleaaGreatDoorC2
import Derived.Test.YtpkaloknohpleaaGreatDoorC3
import Derived.Test.YtpkaloknohpleaaGreatDoorC4
import Derived.Test.YtpkaloknohpleaaGreatDoorC5
import Derived.Test.YtpkaloknohpleaaGreatDoorC6
import Derived.Test.YtpkaloknohpleaaGreatDoorC7
import Derived.Test.YtpkaloknohpleaaGreatDoorC8
import Derived.Test.YtpkaloknohpleaaGreatDoorC9
import Derived.Test.YtpkaloknohpleaaGreatDoorC10
import Derived.Test.YtpkaloknohpleaaGreatDoorC11
import Derived.Test.YtpkaloknohpleaaGreatDoorC12
import Derived.Test.YtpkaloknohpleaaGreatDoorC13
import Derived.Test.YtpkaloknohpleaaGreatDoorCXTO
import Derived.Test.YtpkaloknohpleaaGreatDoorCXO
namespace Go.Proofs.YtpkaloknohpleaaGreatDoor
namespace storyOnce
open Go Go.ChangeShapes Go.WideShapes Go.ChangeAt Go.RowKit Go.Proofs.YtpkaloknohpleaaGreatDoor.Fw

theorem own : ownKnob Tryz.prog.godebug = none := own_knob

set_option maxRecDepth 100000 in
theorem lifted (os : Os) (started : os.Started) (H : Type) (enc : TypeId × Value → H) :
    ReturnsInHanded {} Tryz.checked os 5 .any (fun w args => (Rows.storyOnceSpec.pre enc Tryz.prog Tryz.f5 Rows.storyOnceRow.domain false w args ∧ laidMetH Tryz.prog Rows.storyOnceRow.laid w) ∧ sizedMet enc Tryz.prog Tryz.f5 (OpenSpec.ofChange Rows.storyOnceSpec) false w args) (Rows.storyOnceSpec.post enc Tryz.prog Tryz.f5 false true false false) := by
  refine wrapped (C := Tryz.checked) own started (by as_aux_lemma => kernel_rfl) Tryz.func5
    (ChangeSpec.witness_shaped (enc := enc) (C := Tryz.checked) (os := os) (X := fun w _ => laidMetH Tryz.prog Rows.storyOnceRow.laid w) false (World.laidAll Tryz.prog os Rows.storyOnceRow.laid) #[.slice none 0 0] 8 (World.laidAll_os _ _ _)
      (World.shaped_of_ZipB (by as_aux_lemma => kernel_rfl) (by as_aux_lemma => kernel_rfl)) (by as_aux_lemma => kernel_rfl) (by as_aux_lemma => kernel_rfl) (by as_aux_lemma => kernel_rfl)
      (by rw [MakeChecks.laidMetH_plain _ _ _ (by as_aux_lemma => kernel_rfl)]; exact laidMet_laidAll _ (by as_aux_lemma => kernel_rfl) (by as_aux_lemma => kernel_rfl))) ?_
  intro W base args ds gs before hval0 hW hcnd hsize hL hsh
  have hval : ∀ (j : Nat) t v, Tryz.f5.params[j]? = some t → args[j]? = some v → Value.okWide Tryz.prog W .any base t v := hval0
  have hW' := hW
  obtain ⟨p, q, hA0, hV, rfl, hfz, hnd⟩ := hW
  have hA : DataW.TrodAll enc Tryz.prog W 0 (fun _ => true) true Tryz.f5.params.toList args.toList ds p := hA0
  rw [Tryz.params5] at hA hval
  obtain ⟨v0, vs0, d0, ds0, p0, q0, e0, ed0, ep0, hd0, hA0⟩ := trodAll_cons hA
  obtain ⟨e1, ed1, ep1⟩ := trodAll_nil hA0
  subst e1; subst ed1; subst ep1
  have hargs : args = #[v0] := by cases args; simp_all
  subst hargs; subst ed0; subst ep0
  obtain ⟨rfl, rfl⟩ := trodVars_none hV
  rw [Tryz.params5] at hsize
  have hsz : (DataW.weightsEach Tryz.prog [22] [d0]).all (· ≤ reachBytes) = true := hsize
  simp only [DataW.weightsEach, List.all_append, Bool.and_eq_true] at hsz
  obtain ⟨a0, s0, rfl, hf0⟩ := Opens.one opens_t22 (.inr (.inr ⟨_, Tryz.underlying22⟩)) (hval 0 22 v0 rfl rfl) hd0 hsz.1
  clear hA0 hval0
  refine law_step laid_out rfl Tryz.underlying4 (by as_aux_lemma => kernel_rfl) (by as_aux_lemma => kernel_rfl) hW' rfl ?_
  have hpre : ∀ F ∈ ([RdN NHap s0 a0, LibP Tryz.prog] : List Pred), Stab F ∧ F (fun _ => False) W := by
    intro F hF
    simp only [List.mem_cons, List.not_mem_nil, or_false] at hF
    rcases hF with rfl | rfl
    · exact ⟨inferInstance, hf0 _ (.head _)⟩
    · exact ⟨inferInstance, vV hL hsh⟩
  have hc := oy s0 a0
  rw [un] at hc
  refine (hc.calls W hpre).mono ?_
  rintro e W2 ⟨_, he, hb, _⟩
  exact ⟨he, hb⟩

set_option maxRecDepth 100000 in
set_option maxHeartbeats 4000000 in
theorem joined : joinedFacts Tryz.prog 5 Tryz.f5 Rows.storyOnceSpec Rows.storyOnceRow = true := by
  unfold joinedFacts
  iterate 31 (refine both_true ?_ (by first | with_reducible exact head_enter | with_reducible exact stops_heard | with_reducible exact laid_out | with_reducible exact maps_rowed | (rw [head_make]; rfl) | (rw [head_lifts]; rfl) | (rw [plain_keys]; rfl) | (as_aux_lemma => kernel_rfl)))
  as_aux_lemma => kernel_rfl

theorem over : Rows.storyOnceRow.holds Tryz.pinned (OpenSpec.ofChange Rows.storyOnceSpec) :=
  OpenClaim.holds_of_wide 5 Tryz.f5 rfl rfl rfl rfl rfl rfl rfl ⟨rfl, rfl, rfl, rfl, rfl⟩ rfl rfl rfl rfl rfl (by as_aux_lemma => kernel_rfl) Tryz.func5 joined
    (of_decide_eq_true (by kernel_rfl)) (by unfold Func.isWrapper; first | (rw [if_pos (by decide +kernel)]; kernel_rfl) | (rw [if_neg (by decide +kernel)]; exact ⟨rfl, rfl⟩))
    (fun os started H enc _ => lifted os started H enc)

/-- The given statement. -/
theorem proved : Rows.StoryOnceCardSaid :=
  Claim7.holds_tied_plain_at .later [] [.data, .data, .data, .data, .sentinel, .sentinel, .pinned] true (true, "38609dfd9591d0d0aa3b720bdbc6c39407bd99e8a6d5766142e2bec977ab3d12") true over (fun _ h => by cases h) (by kernel_rfl) (fun _ h => by cases h) storyOnce_row_tie rfl ⟨rfl, rfl⟩ (by kernel_rfl) rfl
    (fun f fn hf hfn => by
      obtain rfl : f = 5 := Option.some.inj ((show Tryz.prog.funcNamed "orangery/orangerylaw.StoryOnce" = some 5 by kernel_rfl).symm.trans hf) |>.symm
      obtain rfl : fn = Tryz.f5 := (Option.some.inj (Tryz.func5.symm.trans hfn)).symm
      exact ⟨by kernel_rfl, fun j t ht => by
        rw [Tryz.params5] at ht
        have hm : t ∈ [22] := by simpa using Array.mem_of_getElem? ht
        have hall : ([22].all fun u => !Tryz.prog.wantsStandIn u) = true := by kernel_rfl
        have := List.all_eq_true.1 hall t hm
        have h5 : Tryz.prog.wantsStandIn t = false := by simpa using this
        exact h5⟩)
    (by kernel_rfl)
#print axioms proved
end storyOnce
end Go.Proofs.YtpkaloknohpleaaGreatDoor
