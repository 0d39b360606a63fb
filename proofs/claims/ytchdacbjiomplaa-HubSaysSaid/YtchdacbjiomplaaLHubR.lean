/- Part of this claim. No condition. -/
import Derived.Test.YtchdacbjiomplaaW55
import Derived.Test.YtchdacbjiomplaaLHub
import Derived.Test.YtchdacbjiomplaaLHistE
import Derived.Test.YtchdacbjiomplaaLViewB
import Derived.Test.YtchdacbjiomplaaWB
set_option linter.unusedVariables false
set_option linter.unusedSimpArgs false
namespace Go.Proofs.Ytchdacbjiomplaa
open Go Go.Proofs.Ytchdacbjiomplaa.Fw Go.Proofs
/-! ### The hub, as the document says: its checks -/
theorem CheckRec_eq (r : Rec) : orangeryref_CheckRec r = note_Check r := by
  unfold orangeryref_CheckRec note_Check
  rw [CheckOp_eq, move_Check_eq, CheckRoots_eq]
  have hlen : ((r.roots.length : Int) != 0) = decide ((r.roots.length : Int) > 0) := by
    rw [Bool.eq_iff_iff]; simp only [bne_iff_ne, decide_eq_true_eq]; omega
  rw [hlen]
  cases h1 : (r.kind == 1) with
  | true =>
    have := eq_of_beq h1
    have e : (decide (r.kind < 1) || decide (r.kind > 3)) = false := by rw [this]; rfl
    rw [e]; rfl
  | false =>
  cases h2 : (r.kind == 2) with
  | true =>
    have h2 := eq_of_beq h2
    have e : (decide (r.kind < 1) || decide (r.kind > 3)) = false := by rw [h2]; rfl
    have e3 : (r.kind == 3) = false := by rw [h2]; rfl
    rw [e, e3]
    simp only [cond_false, cond_true, Bool.false_and, Bool.true_and, Bool.or_false]
    refine bif_congr rfl (fun _ => rfl) fun h3 => bif_congr ?_ (fun _ => rfl) fun _ => ?_
    · rw [Bool.eq_iff_iff]; simp only [Bool.or_eq_true, Bool.not_eq_true', in_iffF, decide_eq_true_eq]; omega
    · simp only [Bool.or_eq_false_iff, decide_eq_false_iff_not] at h3
      have : r.roots = [] := List.length_eq_zero_iff.1 (by omega)
      rw [this]; rfl
  | false =>
  cases h3 : (r.kind == 3) with
  | true =>
    have h3 := eq_of_beq h3
    have e : (decide (r.kind < 1) || decide (r.kind > 3)) = false := by rw [h3]; rfl
    rw [e]
    simp only [cond_false, cond_true, Bool.false_and, Bool.true_and, Bool.or_false]
    refine bif_congr rfl (fun _ => rfl) fun h3 => bif_congr ?_ (fun _ => rfl) fun _ => rfl
    rw [Bool.eq_iff_iff]; simp only [Bool.or_eq_true, Bool.not_eq_true', in_iffF, decide_eq_true_eq]; omega
  | false =>
    have h1 := beq_eq_false_iff_ne.1 h1
    have h2 := beq_eq_false_iff_ne.1 h2
    have h3 := beq_eq_false_iff_ne.1 h3
    have e : (decide (r.kind < 1) || decide (r.kind > 3)) = true := by simp only [Bool.or_eq_true, decide_eq_true_eq]; omega
    rw [e]; rfl
theorem CheckHub_L0_eq : ∀ l : List Peer, orangeryref_CheckHub_L0 l = hub_Check_L0 l
  | [] => rfl
  | p :: l => by
    rw [orangeryref_CheckHub_L0, hub_Check_L0, CheckRoots_eq, CheckHub_L0_eq l]
    refine bif_congr ?_ (fun _ => rfl) fun h1 => bif_congr ?_ (fun _ => rfl) fun _ => rfl
    · rw [Bool.eq_iff_iff]; simp only [Bool.or_eq_true, Bool.not_eq_true', in_iffF, decide_eq_true_eq]; omega
    · simp only [Bool.or_eq_false_iff, decide_eq_false_iff_not] at h1
      rw [Bool.eq_iff_iff]; simp only [Bool.and_eq_true, Bool.or_eq_true, bne_iff_ne, decide_eq_true_eq, beq_iff_eq]; omega
theorem CheckHub_eq (h : Hub) : orangeryref_CheckHub h = hub_Check h := by
  unfold orangeryref_CheckHub hub_Check
  rw [CheckHistory_eq, CheckHub_L0_eq]
  refine bif_congr rfl (fun _ => rfl) fun _ => bif_congr ?_ (fun _ => rfl) fun _ => rfl
  rw [Bool.eq_iff_iff]; simp only [Bool.or_eq_true, Bool.not_eq_true', in_iffF, decide_eq_true_eq]; omega
theorem FreshHub_eq : orangeryref_FreshHub = hub_New := rfl
theorem SameHub_eq (a b : Hub) : orangeryref_SameHub a b = hub_Same a b := rfl
end Go.Proofs.Ytchdacbjiomplaa
