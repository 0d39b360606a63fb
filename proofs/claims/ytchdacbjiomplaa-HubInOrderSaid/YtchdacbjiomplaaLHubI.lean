/- Part of this claim. No condition. -/
import Derived.Test.YtchdacbjiomplaaW47
set_option linter.unusedVariables false
set_option linter.unusedSimpArgs false
namespace Go.Proofs.Ytchdacbjiomplaa
open Go Go.Proofs.Ytchdacbjiomplaa.Fw Go.Proofs
/-! ### Records that were replayed -/
theorem next_rec {h : Hub} {r : Rec} (h0 : (hub_next h r).2 = 0) : note_Check r = 0 := by
  unfold hub_next at h0
  cases h1 : (note_Check r != 0) with
  | true => rw [h1, cond_true] at h0; simp only at h0; rw [h0] at h1; cases h1
  | false => exact eq_of_bne_false h1
theorem Replay_L0_recs : ∀ (l : List Rec) (a : List Step) (b : List Place) (v : Int) (p : List Peer), (hub_Replay_L0 l a b v p).2 = 0 → ∀ r ∈ l, note_Check r = 0
  | [], _, _, _, _, _ => by simp
  | q :: l, a, b, v, p, h => by
    rw [hub_Replay_L0] at h
    cases h1 : ((hub_next ⟨⟨a, b⟩, v, p⟩ q).2 != 0) with
    | true => rw [h1, cond_true] at h; simp only at h; rw [h] at h1; cases h1
    | false =>
      rw [h1, cond_false] at h
      intro r hr
      rcases List.mem_cons.1 hr with rfl | hr
      · exact next_rec (eq_of_bne_false h1)
      · exact Replay_L0_recs l _ _ _ _ h r hr
theorem Replay_ok {l : List Rec} (h : (hub_Replay l).2 = 0) : l.length ≤ 60 ∧ (hub_Replay_L0 l [] [] 0 [⟨0, 0, []⟩, ⟨0, 0, []⟩, ⟨0, 0, []⟩]).2 = 0 ∧ hub_Replay l = hub_Replay_L0 l [] [] 0 [⟨0, 0, []⟩, ⟨0, 0, []⟩, ⟨0, 0, []⟩] := by
  unfold hub_Replay at h ⊢
  cases h1 : decide ((l.length : Int) > 60) with
  | true => rw [h1] at h; cases h
  | false => rw [h1, cond_false] at h; have := of_decide_eq_false h1; exact ⟨by omega, h, rfl⟩
theorem Replay_recs {l : List Rec} (h : (hub_Replay l).2 = 0) : ∀ r ∈ l, note_Check r = 0 := Replay_L0_recs l _ _ _ _ (Replay_ok h).2.1
theorem rec_life {r : Rec} (h : note_Check r = 0) (hk : r.kind = 2) : 1 ≤ r.life ∧ r.life ≤ 50 := by
  unfold note_Check at h
  rw [hk] at h
  cases h3 : (((!decide (r.o = (⟨0, 0, 0, 0, 0, 0, 0⟩ : Op))) || (((2 : Int) == 3) && (r.life != 0))) || (((2 : Int) == 2) && decide ((r.roots.length : Int) > 0))) with
  | true => rw [h3] at h; cases h
  | false =>
    rw [h3] at h
    cases h4 : ((decide (r.who < 0) || decide (r.who ≥ 3)) || (((2 : Int) == 2) && (decide (r.life < 1) || decide (r.life > 50)))) with
    | true => rw [h4] at h; cases h
    | false =>
      simp only [beq_self_eq_true, Bool.true_and, Bool.or_eq_false_iff, decide_eq_false_iff_not] at h4
      omega
theorem set_rng {l : List Int} {lo hi x : Int} {j : Nat} (h : ∀ i, i < 3 → lo ≤ gt l i ∧ gt l i ≤ hi) (hx : lo ≤ x ∧ x ≤ hi) : ∀ i, i < 3 → lo ≤ gt (l.set j x) i ∧ gt (l.set j x) i ≤ hi := fun i hi' => by
  by_cases hj : i = j
  · subst hj
    by_cases hl : i < l.length
    · have : gt (l.set i x) i = x := by simp [gt, List.getD_eq_getElem?_getD, hl]
      rw [this]; exact hx
    · rw [List.set_eq_of_length_le (by omega)]; exact h i hi'
  · have : gt (l.set j x) i = gt l i := by simp [gt, List.getD_eq_getElem?_getD, List.getElem?_set_ne (Ne.symm hj)]
    rw [this]; exact h i hi'
theorem rng_mono {l : List Int} {lo hi hi2 : Int} (h : ∀ i, i < 3 → lo ≤ gt l i ∧ gt l i ≤ hi) (hh : hi ≤ hi2) : ∀ i, i < 3 → lo ≤ gt l i ∧ gt l i ≤ hi2 := fun i hi' => by have := h i hi'; omega
theorem rng_zero {hi : Int} (h : 0 ≤ hi) : ∀ i, i < 3 → 0 ≤ gt (List.replicate 3 (0 : Int)) i ∧ gt (List.replicate 3 (0 : Int)) i ≤ hi := fun i hi' => by
  have : gt (List.replicate 3 (0 : Int)) i = 0 := by
    rcases (by omega : i = 0 ∨ i = 1 ∨ i = 2) with rfl | rfl | rfl <;> rfl
  rw [this]; omega
end Go.Proofs.Ytchdacbjiomplaa
