/- Part of this claim. No condition. -/
import Derived.Test.YtchdacbjiomplaaLV
import Derived.Test.YtchdacbjiomplaaW13
set_option linter.unusedVariables false
set_option linter.unusedSimpArgs false
namespace Go.Proofs.Ytchdacbjiomplaa
open Go Go.Proofs.Ytchdacbjiomplaa.Fw Go.Proofs
/-! ### ViewMore -/
theorem seen_true : orangerylaw_seen = true := by decide +kernel
theorem below_take {t : List Place} {n : Int} {roots : List Int} {k : Nat} (h : view_below t n (roots.take k) = true) : view_below t n roots = true := by
  unfold view_below at *
  rw [List.any_eq_true] at *
  obtain ⟨x, hx, h⟩ := h
  exact ⟨x, List.mem_of_mem_take hx, h⟩
theorem above_take {t : List Place} {n : Int} {roots : List Int} {k : Nat} (h : view_above t n (roots.take k) = true) : view_above t n roots = true := by
  unfold view_above at *
  rw [List.any_eq_true] at *
  obtain ⟨x, hx, h⟩ := h
  exact ⟨x, List.mem_of_mem_take hx, h⟩
theorem ViewMore_true (t : List Place) (roots : List Int) (k : Int) : orangerylaw_ViewMore t roots k = true := by
  unfold orangerylaw_ViewMore
  rw [seen_true]
  cases h : ((view_Of t roots).2 != 0) with
  | true => rfl
  | false =>
    obtain ⟨h1, h2, h3⟩ := Of_ok (eq_of_bne_false h)
    generalize hm : (orangerylaw_at k ((roots.length : Int) + 1)).toNat = m
    have h4 : view_Of t (roots.take m) = (seenAll t (roots.take m), 0) := Of_of h1 ((Roots_iff _).2 (((Roots_iff _).1 h2).take m))
    rw [h4]
    simp only [Bool.not_true, Bool.or_self, cond_false, bne_self_eq_false]
    have key1 : ∀ l : List Place, (∀ p ∈ l, p ∈ (seenAll t roots).known ∨ p ∈ (seenAll t roots).way) → orangerylaw_ViewMore_L1 t roots l = true := by
      intro l
      induction l with
      | nil => intro _; rfl
      | cons p r ih =>
        intro hp
        rw [orangerylaw_ViewMore_L1, h3, ih (fun q hq => hp q (.tail _ hq))]
        rcases hp p (.head _) with h5 | h5 <;> simp [h5]
    have key0 : ∀ l : List Place, (∀ p ∈ l, p ∈ (seenAll t roots).known) → orangerylaw_ViewMore_L0 t roots k l = true := by
      intro l
      induction l with
      | nil =>
        intro _
        rw [orangerylaw_ViewMore_L0, hm, h4]
        refine key1 _ fun p hp => ?_
        simp only [seenAll, List.mem_filter, Bool.and_eq_true, Bool.not_eq_true'] at hp ⊢
        cases hb : view_below t p.node roots with
        | true => exact .inl ⟨hp.1, rfl⟩
        | false => exact .inr ⟨hp.1, rfl, above_take hp.2.2⟩
      | cons p r ih =>
        intro hp
        rw [orangerylaw_ViewMore_L0, h3, ih (fun q hq => hp q (.tail _ hq))]
        simp [hp p (.head _)]
    refine key0 _ fun p hp => ?_
    simp only [seenAll, List.mem_filter] at hp ⊢
    exact ⟨hp.1, below_take hp.2⟩
end Go.Proofs.Ytchdacbjiomplaa
