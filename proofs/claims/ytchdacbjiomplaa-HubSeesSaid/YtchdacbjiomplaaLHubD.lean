/- Part of this claim. No condition. -/
import Derived.Test.YtchdacbjiomplaaLHubC
set_option linter.unusedVariables false
set_option linter.unusedSimpArgs false
namespace Go.Proofs.Ytchdacbjiomplaa
open Go Go.Proofs.Ytchdacbjiomplaa.Fw Go.Proofs
theorem hist_tree {h : History} (hc : history_Check h = 0) : checkT h.t = 0 := by
  have hh := (Check_iff h).1 hc
  have := run_tree (h.l.map (·.o)) e0 rfl hh.ok
  rw [← hh.eq] at this
  exact this
theorem sees_of {h : Hub} (hh : IsHub h) {k : Nat} (hk : k < 3) {roots : List Int} (hr : view_Roots roots = 0) (he : (gt h.peers k).roots = roots) : hub_Sees h (k : Int) = (seenAll h.h.t roots, 0) := by
  unfold hub_Sees
  have e2 : (decide ((k : Int) < 0) || decide ((k : Int) ≥ 3)) = false := by simp only [Bool.or_eq_false_iff, decide_eq_false_iff_not]; omega
  rw [(hub_Check_iff h).2 hh, e2]
  simp only [bne_self_eq_false, cond_false, Int.toNat_natCast, he]
  rw [Of_of (hist_tree hh.hist) hr]
theorem sees_L1 {h : Hub} (hh : IsHub h) {roots : List Int} (hu : (hub_Sees h 0).1 = seenAll h.h.t roots) : ∀ r : List Place, (∀ p ∈ r, p ∈ h.h.t) → orangerylaw_HubSees_L1 roots h.h.l h.h.t h.version h.peers r = true
  | [], _ => rfl
  | p :: r, hs => by
    have hT := (checkT_iff _).1 (hist_tree hh.hist)
    have hp := plc_ok (hT.ok p (hs p (.head _)))
    have hun : tree_Under h.h.t p.node 0 = (stands h.h.t p.node 0, 0) := by
      rw [tree_Under_eq]
      unfold under
      have hb : (decide (p.node < 0) || decide (p.node > 16) || decide ((0 : Int) < 0) || decide ((0 : Int) > 16)) = false := by simp only [Bool.or_eq_false_iff, decide_eq_false_iff_not]; omega
      rw [hist_tree hh.hist, hb]; rfl
    rw [orangerylaw_HubSees_L1, hun, sees_L1 hh hu r fun q hq => hs q (.tail _ hq)]
    simp only [show (⟨⟨h.h.l, h.h.t⟩, h.version, h.peers⟩ : Hub) = h from rfl, hu]
    have key : ((stands h.h.t p.node 0 && decide (0 ∈ roots)) && !decide (p ∈ (seenAll h.h.t roots).known)) = false := by
      cases h1 : stands h.h.t p.node 0 && decide (0 ∈ roots) with
      | false => rfl
      | true =>
        simp only [Bool.and_eq_true, decide_eq_true_eq, stands_iff] at h1
        have : p ∈ (seenAll h.h.t roots).known := List.mem_filter.2 ⟨hs p (.head _), (below_iff _ _ _).2 ⟨0, h1.2, h1.1⟩⟩
        simp [this]
    rw [key]; rfl
theorem accepted_true : orangerylaw_accepted = true := by decide +kernel
theorem HubSees_true (h : Hub) (roots : List Int) : orangerylaw_HubSees h roots = true := by
  unfold orangerylaw_HubSees
  rw [accepted_true]
  cases hc : ((((!true) || (hub_Check h != 0)) || (view_Roots roots != 0)) || decide (h.version > 54)) with
  | true => rfl
  | false =>
  simp only [Bool.or_eq_false_iff, bne_eq_false_iff_eq, decide_eq_false_iff_not] at hc
  obtain ⟨⟨⟨_, h1⟩, hr⟩, hv⟩ := hc
  have hh := (hub_Check_iff h).1 h1
  rw [cond_false]
  obtain ⟨a, a1, a2, a3, a4, a5, a6⟩ := sees_step hh (by omega) (k := 0) (by omega) hr 2
  obtain ⟨b, b1, b2, b3, b4, b5, b6⟩ := sees_step a1 (by omega) (k := 1) (by omega) hr 1
  obtain ⟨c, c1, c2, c3, c4, c5, c6⟩ := sees_step b1 (by omega) (k := 2) (by omega) hr 0
  show orangerylaw_HubSees_L0 roots 3 0 h.h.l h.h.t h.version h.peers = true
  rw [a6, b6, c6]
  have r0 : (gt c.peers 0).roots = roots := by rw [c5 0 (by omega), b5 0 (by omega)]; exact a4
  have s0 := sees_of c1 (k := 0) (by omega) hr r0
  have s2 := sees_of c1 (k := 2) (by omega) hr c4
  have s0' : hub_Sees c 0 = (seenAll c.h.t roots, 0) := s0
  have s2' : hub_Sees c 2 = (seenAll c.h.t roots, 0) := s2
  rw [orangerylaw_HubSees_L0]
  simp only [show (⟨⟨c.h.l, c.h.t⟩, c.version, c.peers⟩ : Hub) = c from rfl, s0', s2', Same_refl]
  rw [sees_L1 c1 (by rw [s0']) c.h.t fun p hp => hp]
  have key : (((roots.length : Int) == 0) && decide (((seenAll c.h.t roots).known.length : Int) + ((seenAll c.h.t roots).way.length : Int) > 0)) = false := by
    cases hz : ((roots.length : Int) == 0) with
    | false => rfl
    | true =>
      have hn : roots = [] := List.length_eq_zero_iff.1 (by have := eq_of_beq hz; omega)
      subst hn
      have hf : ∀ l : List Place, l.filter (fun _ => false) = [] := fun l => List.filter_eq_nil_iff.2 (by simp)
      simp [seenAll, view_below, view_above, hf]
  rw [key]; rfl
end Go.Proofs.Ytchdacbjiomplaa
