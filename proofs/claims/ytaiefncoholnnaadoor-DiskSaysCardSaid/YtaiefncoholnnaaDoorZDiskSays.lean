/- PROVED: Any disk is checked, has any record put, is synced, crashes, recovers, as the document says, errors too. No condition beyond the given statement's own. -/
import Derived.Test.YtaiefncoholnnaaDoorCards
import Derived.Test.YtaiefncoholnnaaDoorTie
import Derived.SevenTiedAt
import Derived.Lay
import Derived.Stop.Joined
import Derived.ProofKit
import Derived.OpenShut
import Derived.SizedLaws
import Derived.Test.YtaiefncoholnnaaDoorHead
import Derived.Test.YtaiefncoholnnaaDoorTOpen4
import Derived.Test.YtaiefncoholnnaaDoorLDiskD
namespace Go.Proofs.YtaiefncoholnnaaDoor
namespace diskSays
open Go Go.ChangeShapes Go.WideShapes Go.ChangeAt Go.RowKit Go.Proofs.YtaiefncoholnnaaDoor.Fw

theorem own : ownKnob Tryd.prog.godebug = none := own_knob

set_option maxRecDepth 100000 in
theorem lifted (os : Os) (started : os.Started) (H : Type) (enc : TypeId × Value → H) :
    ReturnsInHanded {} Tryd.checked os 6 .any (fun w args => (Rows.diskSaysSpec.pre enc Tryd.prog Tryd.f6 Rows.diskSaysRow.domain false w args ∧ laidMetH Tryd.prog Rows.diskSaysRow.laid w) ∧ sizedMet enc Tryd.prog Tryd.f6 (OpenSpec.ofChange Rows.diskSaysSpec) false w args) (Rows.diskSaysSpec.post enc Tryd.prog Tryd.f6 false true false false) := by
  refine wrapped (C := Tryd.checked) own started (by as_aux_lemma => kernel_rfl) Tryd.func6
    (ChangeSpec.witness_shaped (enc := enc) (C := Tryd.checked) (os := os) (X := fun w _ => laidMetH Tryd.prog Rows.diskSaysRow.laid w) false (World.laidAll Tryd.prog os Rows.diskSaysRow.laid) #[.agg #[.slice none 0 0, .slice none 0 0], .agg #[.int .i64 0, .int .i64 0, .int .i64 0, .slice none 0 0, .int .i64 0, .int .i64 0, .int .i64 0, .int .i64 0, .int .i64 0, .int .i64 0, .int .i64 0], .int .i64 0, .agg #[.slice none 0 0, .slice none 0 0]] 8 (World.laidAll_os _ _ _)
      (World.shaped_of_ZipB (by as_aux_lemma => kernel_rfl) (by as_aux_lemma => kernel_rfl)) (by as_aux_lemma => kernel_rfl) (by as_aux_lemma => kernel_rfl) (by as_aux_lemma => kernel_rfl)
      (by rw [MakeChecks.laidMetH_plain _ _ _ (by as_aux_lemma => kernel_rfl)]; exact laidMet_laidAll _ (by as_aux_lemma => kernel_rfl) (by as_aux_lemma => kernel_rfl))) ?_
  intro W base args ds gs before hval0 hW hcnd hsize hL hsh
  have hval : ∀ (j : Nat) t v, Tryd.f6.params[j]? = some t → args[j]? = some v → Value.okWide Tryd.prog W .any base t v := hval0
  have hW' := hW
  obtain ⟨p, q, hA0, hV, rfl, hfz, hnd⟩ := hW
  have hA : DataW.TrodAll enc Tryd.prog W 0 (fun _ => true) true Tryd.f6.params.toList args.toList ds p := hA0
  rw [Tryd.params6] at hA hval
  obtain ⟨v0, vs0, d0, ds0, p0, q0, e0, ed0, ep0, hd0, hA0⟩ := trodAll_cons hA
  obtain ⟨v1, vs1, d1, ds1, p1, q1, e1, ed1, ep1, hd1, hA1⟩ := trodAll_cons hA0
  obtain ⟨v2, vs2, d2, ds2, p2, q2, e2, ed2, ep2, hd2, hA2⟩ := trodAll_cons hA1
  obtain ⟨v3, vs3, d3, ds3, p3, q3, e3, ed3, ep3, hd3, hA3⟩ := trodAll_cons hA2
  obtain ⟨e4, ed4, ep4⟩ := trodAll_nil hA3
  subst e4; subst ed4; subst ep4
  subst e3; subst ed3; subst ep3
  subst e2; subst ed2; subst ep2
  subst e1; subst ed1; subst ep1
  have hargs : args = #[v0, v1, v2, v3] := by cases args; simp_all
  subst hargs; subst ed0; subst ep0
  obtain ⟨rfl, rfl⟩ := trodVars_none hV
  rw [Tryd.params6] at hsize
  have hsz : (DataW.weightsEach Tryd.prog [41, 28, 3, 41] [d0, d1, d2, d3]).all (· ≤ reachBytes) = true := hsize
  simp only [DataW.weightsEach, List.all_append, Bool.and_eq_true] at hsz
  obtain ⟨a0, s0, rfl, hf0⟩ := Opens.agg opens_t41 Tryd.underlying41 (hval 0 41 v0 rfl rfl) hd0 hsz.1
  obtain ⟨a1, s1, rfl, hf1⟩ := Opens.agg opens_t28 Tryd.underlying28 (hval 1 28 v1 rfl rfl) hd1 hsz.2.1
  obtain ⟨a2, s2, rfl, hf2⟩ := Opens.one opens_t3 (.inl ⟨_, Tryd.underlying3⟩) (hval 2 3 v2 rfl rfl) hd2 hsz.2.2.1
  obtain ⟨a3, s3, rfl, hf3⟩ := Opens.agg opens_t41 Tryd.underlying41 (hval 3 41 v3 rfl rfl) hd3 hsz.2.2.2.1
  clear hA0 hval0
  refine law_step laid_out rfl Tryd.underlying4 (by as_aux_lemma => kernel_rfl) (by as_aux_lemma => kernel_rfl) hW' rfl ?_
  have hpre : ∀ F ∈ ([RdL EByte s0.1 a0.safe, RdL EByte s0.2 a0.wait, RdL EInt s1 a1.roots, RdL EByte s3.1 a3.safe, RdL EByte s3.2 a3.wait, LibP Tryd.prog] : List Pred), Stab F ∧ F (fun _ => False) W := by
    intro F hF
    simp only [List.mem_cons, List.not_mem_nil, or_false] at hF
    rcases hF with rfl | rfl | rfl | rfl | rfl | rfl
    · exact ⟨inferInstance, hf0 _ (.head _)⟩
    · exact ⟨inferInstance, hf0 _ (.tail _ (.head _))⟩
    · exact ⟨inferInstance, hf1 _ (.head _)⟩
    · exact ⟨inferInstance, hf3 _ (.head _)⟩
    · exact ⟨inferInstance, hf3 _ (.tail _ (.head _))⟩
    · exact ⟨inferInstance, lib_of_laid hL hsh⟩
  have hc := orangerylaw_DiskSays_spec s0.1 s0.2 a0 s1 a1 a2 s3.1 s3.2 a3
  rw [DiskSays_true] at hc
  refine (hc.calls W hpre).mono ?_
  rintro e W2 ⟨_, he, hb, _⟩
  exact ⟨he, hb⟩

set_option maxRecDepth 100000 in
set_option maxHeartbeats 4000000 in
theorem joined : joinedFacts Tryd.prog 6 Tryd.f6 Rows.diskSaysSpec Rows.diskSaysRow = true := by
  unfold joinedFacts
  iterate 31 (refine both_true ?_ (by first | with_reducible exact head_enter | with_reducible exact stops_heard | with_reducible exact laid_out | with_reducible exact maps_rowed | (rw [head_make]; rfl) | (rw [head_lifts]; rfl) | (rw [plain_keys]; rfl) | (as_aux_lemma => kernel_rfl)))
  as_aux_lemma => kernel_rfl

theorem over : Rows.diskSaysRow.holds Tryd.pinned (OpenSpec.ofChange Rows.diskSaysSpec) :=
  OpenClaim.holds_of_wide 6 Tryd.f6 rfl rfl rfl rfl rfl rfl rfl ⟨rfl, rfl, rfl, rfl, rfl⟩ rfl rfl rfl rfl rfl (by as_aux_lemma => kernel_rfl) Tryd.func6 joined
    (of_decide_eq_true (by kernel_rfl)) (by unfold Func.isWrapper; first | (rw [if_pos (by decide +kernel)]; kernel_rfl) | (rw [if_neg (by decide +kernel)]; exact ⟨rfl, rfl⟩))
    (fun os started H enc _ => lifted os started H enc)

/-- The given statement. -/
theorem proved : Rows.DiskSaysCardSaid :=
  Claim7.holds_tied_plain_at .later [] [.data, .data, .data, .data, .sentinel, .sentinel, .pinned] true (true, "feca46c5e23ef2f96171a479e93a2e2324c559f0a78a46cb9b1bc46263ffaeac") true over (fun _ h => by cases h) (by kernel_rfl) (fun _ h => by cases h) diskSays_row_tie rfl ⟨rfl, rfl⟩ (by kernel_rfl) rfl
    (fun f fn hf hfn => by
      obtain rfl : f = 6 := Option.some.inj ((show Tryd.prog.funcNamed "orangery/orangerylaw.DiskSays" = some 6 by kernel_rfl).symm.trans hf) |>.symm
      obtain rfl : fn = Tryd.f6 := (Option.some.inj (Tryd.func6.symm.trans hfn)).symm
      exact ⟨by kernel_rfl, fun j t ht => by
        rw [Tryd.params6] at ht
        have hm : t ∈ [41, 28, 3, 41] := by simpa using Array.mem_of_getElem? ht
        have hall : ([41, 28, 3, 41].all fun u => !Tryd.prog.wantsStandIn u) = true := by kernel_rfl
        have := List.all_eq_true.1 hall t hm
        have h5 : Tryd.prog.wantsStandIn t = false := by simpa using this
        exact h5⟩)
    (by kernel_rfl)
#print axioms proved
end diskSays
end Go.Proofs.YtaiefncoholnnaaDoor
