/- PROVED: what a client does it shows at once; the hub knows nothing of it as yet. No condition beyond the given statement's own. -/
import Derived.Test.YtgkggkgdceapgaaGreatDoorCards
import Derived.Test.YtgkggkgdceapgaaGreatDoorTie
import Derived.SevenTiedAt
import Derived.Lay
import Derived.Stop.Joined
import Derived.ProofKit
import Derived.OpenShut
import Derived.SizedLaws
import Derived.Test.YtgkggkgdceapgaaGreatDoorHead
import Derived.Test.YtgkggkgdceapgaaGreatDoorB1
import Derived.Test.YtgkggkgdceapgaaGreatDoorB2
import Derived.Test.YtgkggkgdceapgaaGreatDoorB3
import Derived.Test.YtgkggkgdceapgaaGreatDoorB4
import Derived.Test.YtgkggkgdceapgaaGreatDoorB5
import Derived.Test.YtgkggkgdceapgaaGreatDoorB6
import Derived.Test.YtgkggkgdceapgaaGreatDoorB7
import Derived.Test.YtgkggkgdceapgaaGreatDoorB8
import Derived.Test.YtgkggkgdceapgaaGreatDoorB9
import Derived.Test.YtgkggkgdceapgaaGreatDoorB10
import Derived.Test.YtgkggkgdceapgaaGreatDoorB11
import Derived.Test.YtgkggkgdceapgaaGreatDoorB12
import Derived.Test.YtgkggkgdceapgaaGreatDoorB13
import Derived.Test.YtgkggkgdceapgaaGreatDoorBXTAK
import Derived.Test.YtgkggkgdceapgaaGreatDoorBXA
namespace Go.Proofs.YtgkggkgdceapgaaGreatDoor
namespace worldAhead
open Go Go.ChangeShapes Go.WideShapes Go.ChangeAt Go.RowKit Go.Proofs.YtgkggkgdceapgaaGreatDoor.Fw

theorem own : ownKnob Tryz.prog.godebug = none := own_knob

set_option maxRecDepth 100000 in
theorem lifted (os : Os) (started : os.Started) (H : Type) (enc : TypeId × Value → H) :
    ReturnsInHanded {} Tryz.checked os 7 .any (fun w args => (Rows.worldAheadSpec.pre enc Tryz.prog Tryz.f7 Rows.worldAheadRow.domain false w args ∧ laidMetH Tryz.prog Rows.worldAheadRow.laid w) ∧ sizedMet enc Tryz.prog Tryz.f7 (OpenSpec.ofChange Rows.worldAheadSpec) false w args) (Rows.worldAheadSpec.post enc Tryz.prog Tryz.f7 false true false false) := by
  refine wrapped (C := Tryz.checked) own started (by as_aux_lemma => kernel_rfl) Tryz.func7
    (ChangeSpec.witness_shaped (enc := enc) (C := Tryz.checked) (os := os) (X := fun w _ => laidMetH Tryz.prog Rows.worldAheadRow.laid w) false (World.laidAll Tryz.prog os Rows.worldAheadRow.laid) #[.agg #[.slice none 0 0, .slice none 0 0, .int .i64 0, .slice none 0 0, .slice none 0 0, .slice none 0 0, .bool false, .slice none 0 0, .slice none 0 0], .int .i64 0, .int .i64 0, .int .i64 0, .int .i64 0] 8 (World.laidAll_os _ _ _)
      (World.shaped_of_ZipB (by as_aux_lemma => kernel_rfl) (by as_aux_lemma => kernel_rfl)) (by as_aux_lemma => kernel_rfl) (by as_aux_lemma => kernel_rfl) (by as_aux_lemma => kernel_rfl)
      (by rw [MakeChecks.laidMetH_plain _ _ _ (by as_aux_lemma => kernel_rfl)]; exact laidMet_laidAll _ (by as_aux_lemma => kernel_rfl) (by as_aux_lemma => kernel_rfl))) ?_
  intro W base args ds gs before hval0 hW hcnd hsize hL hsh
  have hval : ∀ (j : Nat) t v, Tryz.f7.params[j]? = some t → args[j]? = some v → Value.okWide Tryz.prog W .any base t v := hval0
  have hW' := hW
  obtain ⟨p, q, hA0, hV, rfl, hfz, hnd⟩ := hW
  have hA : DataW.TrodAll enc Tryz.prog W 0 (fun _ => true) true Tryz.f7.params.toList args.toList ds p := hA0
  rw [Tryz.params7] at hA hval
  obtain ⟨v0, vs0, d0, ds0, p0, q0, e0, ed0, ep0, hd0, hA0⟩ := trodAll_cons hA
  obtain ⟨v1, vs1, d1, ds1, p1, q1, e1, ed1, ep1, hd1, hA1⟩ := trodAll_cons hA0
  obtain ⟨v2, vs2, d2, ds2, p2, q2, e2, ed2, ep2, hd2, hA2⟩ := trodAll_cons hA1
  obtain ⟨v3, vs3, d3, ds3, p3, q3, e3, ed3, ep3, hd3, hA3⟩ := trodAll_cons hA2
  obtain ⟨v4, vs4, d4, ds4, p4, q4, e4, ed4, ep4, hd4, hA4⟩ := trodAll_cons hA3
  obtain ⟨e5, ed5, ep5⟩ := trodAll_nil hA4
  subst e5; subst ed5; subst ep5
  subst e4; subst ed4; subst ep4
  subst e3; subst ed3; subst ep3
  subst e2; subst ed2; subst ep2
  subst e1; subst ed1; subst ep1
  have hargs : args = #[v0, v1, v2, v3, v4] := by cases args; simp_all
  subst hargs; subst ed0; subst ep0
  obtain ⟨rfl, rfl⟩ := trodVars_none hV
  rw [Tryz.params7] at hsize
  have hsz : (DataW.weightsEach Tryz.prog [37, 3, 3, 3, 3] [d0, d1, d2, d3, d4]).all (· ≤ reachBytes) = true := hsize
  simp only [DataW.weightsEach, List.all_append, Bool.and_eq_true] at hsz
  obtain ⟨a0, s0, rfl, hf0⟩ := Opens.agg opens_t37 Tryz.underlying37 (hval 0 37 v0 rfl rfl) hd0 hsz.1
  obtain ⟨a1, s1, rfl, hf1⟩ := Opens.one eF (.inl ⟨_, Tryz.underlying3⟩) (hval 1 3 v1 rfl rfl) hd1 hsz.2.1
  obtain ⟨a2, s2, rfl, hf2⟩ := Opens.one eF (.inl ⟨_, Tryz.underlying3⟩) (hval 2 3 v2 rfl rfl) hd2 hsz.2.2.1
  obtain ⟨a3, s3, rfl, hf3⟩ := Opens.one eF (.inl ⟨_, Tryz.underlying3⟩) (hval 3 3 v3 rfl rfl) hd3 hsz.2.2.2.1
  obtain ⟨a4, s4, rfl, hf4⟩ := Opens.one eF (.inl ⟨_, Tryz.underlying3⟩) (hval 4 3 v4 rfl rfl) hd4 hsz.2.2.2.2.1
  clear hA0 hval0
  refine law_step laid_out rfl Tryz.underlying4 (by as_aux_lemma => kernel_rfl) (by as_aux_lemma => kernel_rfl) hW' rfl ?_
  have hpre : ∀ F ∈ ([RdL EStep s0.1 a0.h.h.l, RdL EPlace s0.2.1 a0.h.h.t, RdN NPeer s0.2.2.1 a0.h.peers, RdL EByte s0.2.2.2.1 a0.d.safe, RdL EByte s0.2.2.2.2.1 a0.d.wait, RdN NClient s0.2.2.2.2.2.1 a0.c, RdN NMail s0.2.2.2.2.2.2 a0.mail, LibP Tryz.prog] : List Pred), Stab F ∧ F (fun _ => False) W := by
    intro F hF
    simp only [List.mem_cons, List.not_mem_nil, or_false] at hF
    rcases hF with rfl | rfl | rfl | rfl | rfl | rfl | rfl | rfl
    · exact ⟨inferInstance, hf0 _ (.head _)⟩
    · exact ⟨inferInstance, hf0 _ (.tail _ (.head _))⟩
    · exact ⟨inferInstance, hf0 _ (.tail _ (.tail _ (.head _)))⟩
    · exact ⟨inferInstance, hf0 _ (.tail _ (.tail _ (.tail _ (.head _))))⟩
    · exact ⟨inferInstance, hf0 _ (.tail _ (.tail _ (.tail _ (.tail _ (.head _)))))⟩
    · exact ⟨inferInstance, hf0 _ (.tail _ (.tail _ (.tail _ (.tail _ (.tail _ (.head _))))))⟩
    · exact ⟨inferInstance, hf0 _ (.tail _ (.tail _ (.tail _ (.tail _ (.tail _ (.tail _ (.head _)))))))⟩
    · exact ⟨inferInstance, xa hL hsh⟩
  have hc := nZ s0.1 s0.2.1 s0.2.2.1 s0.2.2.2.1 s0.2.2.2.2.1 s0.2.2.2.2.2.1 s0.2.2.2.2.2.2 a0 a1 a2 a3 a4
  rw [uT] at hc
  refine (hc.calls W hpre).mono ?_
  rintro e W2 ⟨_, he, hb, _⟩
  exact ⟨he, hb⟩

set_option maxRecDepth 100000 in
set_option maxHeartbeats 4000000 in
theorem joined : joinedFacts Tryz.prog 7 Tryz.f7 Rows.worldAheadSpec Rows.worldAheadRow = true := by
  unfold joinedFacts
  iterate 31 (refine both_true ?_ (by first | with_reducible exact head_enter | with_reducible exact stops_heard | with_reducible exact laid_out | with_reducible exact maps_rowed | (rw [head_make]; rfl) | (rw [head_lifts]; rfl) | (rw [plain_keys]; rfl) | (as_aux_lemma => kernel_rfl)))
  as_aux_lemma => kernel_rfl

theorem over : Rows.worldAheadRow.holds Tryz.pinned (OpenSpec.ofChange Rows.worldAheadSpec) :=
  OpenClaim.holds_of_wide 7 Tryz.f7 rfl rfl rfl rfl rfl rfl rfl ⟨rfl, rfl, rfl, rfl, rfl⟩ rfl rfl rfl rfl rfl (by as_aux_lemma => kernel_rfl) Tryz.func7 joined
    (of_decide_eq_true (by kernel_rfl)) (by unfold Func.isWrapper; first | (rw [if_pos (by decide +kernel)]; kernel_rfl) | (rw [if_neg (by decide +kernel)]; exact ⟨rfl, rfl⟩))
    (fun os started H enc _ => lifted os started H enc)

/-- The given statement. -/
theorem proved : Rows.WorldAheadCardSaid :=
  Claim7.holds_tied_plain_at .later [] [.data, .data, .data, .data, .sentinel, .sentinel, .pinned] true (true, "6a1279a22a02e63429dff5165ef15c74059904ff22408555226000ec35544305") true over (fun _ h => by cases h) (by kernel_rfl) (fun _ h => by cases h) worldAhead_row_tie rfl ⟨rfl, rfl⟩ (by kernel_rfl) rfl
    (fun f fn hf hfn => by
      obtain rfl : f = 7 := Option.some.inj ((show Tryz.prog.funcNamed "orangery/orangerylaw.WorldAhead" = some 7 by kernel_rfl).symm.trans hf) |>.symm
      obtain rfl : fn = Tryz.f7 := (Option.some.inj (Tryz.func7.symm.trans hfn)).symm
      exact ⟨by kernel_rfl, fun j t ht => by
        rw [Tryz.params7] at ht
        have hm : t ∈ [37, 3, 3, 3, 3] := by simpa using Array.mem_of_getElem? ht
        have hall : ([37, 3, 3, 3, 3].all fun u => !Tryz.prog.wantsStandIn u) = true := by kernel_rfl
        have := List.all_eq_true.1 hall t hm
        have h5 : Tryz.prog.wantsStandIn t = false := by simpa using this
        exact h5⟩)
    (by kernel_rfl)
#print axioms proved
end worldAhead
end Go.Proofs.YtgkggkgdceapgaaGreatDoor
