/- Part of this claim. No condition. -/
import Derived.Test.YtchdacbjiomplaaLHubB
import Derived.Test.YtchdacbjiomplaaW49
set_option linter.unusedVariables false
set_option linter.unusedSimpArgs false
namespace Go.Proofs.Ytchdacbjiomplaa
open Go Go.Proofs.Ytchdacbjiomplaa.Fw Go.Proofs
theorem gt_set_self {α : Type} [Inhabited α] {l : List α} {i : Nat} (h : i < l.length) (a : α) : gt (l.set i a) i = a := by simp [gt, List.getD_eq_getElem?_getD, h]
theorem gt_set_other {α : Type} [Inhabited α] {l : List α} {i j : Nat} (h : j ≠ i) (a : α) : gt (l.set i a) j = gt l j := by simp [gt, List.getD_eq_getElem?_getD, List.getElem?_set_ne (Ne.symm h)]
theorem sees_step {h : Hub} (hh : IsHub h) (hv : h.version + 2 ≤ 60) {k : Nat} (hk : k < 3) {roots : List Int} (hr : view_Roots roots = 0) (f : Nat) : ∃ h' : Hub, IsHub h' ∧ h'.h = h.h ∧ h'.version ≤ h.version + 2 ∧ (gt h'.peers k).roots = roots ∧ (∀ j, j ≠ k → gt h'.peers j = gt h.peers j) ∧
    orangerylaw_HubSees_L0 roots (f + 1) k h.h.l h.h.t h.version h.peers = orangerylaw_HubSees_L0 roots f (k + 1) h'.h.l h'.h.t h'.version h'.peers := by
  have hk3 : k < h.peers.length := by rw [hh.three]; exact hk
  rw [orangerylaw_HubSees_L0]
  by_cases hl : (gt h.peers k).life = 0
  · have e1 : ((gt h.peers k).life == 0) = true := by rw [hl]; rfl
    have h1 := next_life hh (by omega) hk hl
    have o1 : IsHub (hub_Next h ⟨2, (k : Int), 1, [], op0⟩).1 := (Next_ok (by rw [h1])).2.2.1
    rw [h1] at o1
    have g1 : gt (h.peers.set k ⟨1, 0, []⟩) k = ⟨1, 0, []⟩ := gt_set_self hk3 _
    have h2 := next_roots o1 (by simp only; omega) hk hr (by simp only; rw [g1]; decide)
    have o2 := (Next_ok (by rw [h2])).2.2.1
    rw [h2] at o2
    refine ⟨_, o2, rfl, by simp only; omega, ?_, fun j hj => ?_, ?_⟩
    · simp only; rw [gt_set_self (by rw [List.length_set]; exact hk3)]
    · simp only; rw [gt_set_other hj, gt_set_other hj]
    · rw [e1, cond_true]
      simp only [show (⟨⟨h.h.l, h.h.t⟩, h.version, h.peers⟩ : Hub) = h from rfl, h1, h2]
      rfl
  · have e1 : ((gt h.peers k).life == 0) = false := beq_eq_false_iff_ne.2 hl
    have h2 := next_roots hh (by omega) hk hr hl
    have o2 := (Next_ok (by rw [h2])).2.2.1
    rw [h2] at o2
    refine ⟨_, o2, rfl, by simp only; omega, ?_, fun j hj => ?_, ?_⟩
    · simp only; rw [gt_set_self hk3]
    · simp only; rw [gt_set_other hj]
    · rw [e1, cond_false]
      simp only [show (⟨⟨h.h.l, h.h.t⟩, h.version, h.peers⟩ : Hub) = h from rfl, h2]
      rfl
end Go.Proofs.Ytchdacbjiomplaa
