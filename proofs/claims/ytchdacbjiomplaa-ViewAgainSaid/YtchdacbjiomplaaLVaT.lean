/- Part of this claim. No condition. -/
import Derived.Test.YtchdacbjiomplaaW75
import Derived.Test.YtchdacbjiomplaaLViewM
set_option linter.unusedVariables false
set_option linter.unusedSimpArgs false
set_option maxHeartbeats 2000000
namespace Go.Proofs.Ytchdacbjiomplaa
open Go Go.Proofs.Ytchdacbjiomplaa.Fw Go.Proofs
theorem ViewAgain_true (t : List Place) (roots : List Int) : orangerylaw_ViewAgain t roots = true := by
  unfold orangerylaw_ViewAgain
  rw [seen_true]
  cases h : ((view_Of t roots).2 != 0) with
  | true => rfl
  | false =>
    obtain ⟨h1, h2, h3⟩ := Of_ok (eq_of_bne_false h)
    have ht := (checkT_iff t).1 h1
    have hv := (view_Check_iff _).2 (seen_view ht ((Roots_iff _).1 h2))
    have hk : IsTree (kept t roots) := ht.filter _
    have h4 : view_Of (kept t roots) roots = (seenAll t roots, 0) := by rw [Of_of ((checkT_iff _).2 hk) h2, seen_kept ht.rising]
    have key1 : ∀ l : List Place, (∀ p ∈ l, p ∈ t) → orangerylaw_ViewAgain_L1 t roots l = true := by
      intro l
      induction l with
      | nil => intro _; rfl
      | cons p r ih =>
        intro hl
        rw [orangerylaw_ViewAgain_L1, h3, ih fun q hq => hl q (.tail _ hq)]
        have hp := hl p (.head _)
        have hr := ht.rising.rng p hp
        have hf := find_mem ht.up p hp
        have step : ∀ b, Up t p.parent b → Up t p.node b := fun b ⟨k, hw⟩ => ⟨k + 1, .up trivial (by rw [hf]; omega) (by rw [hf]; exact hw)⟩
        cases hc : ((seenAll t roots, (0 : Int)).1.known.any (fun a0_ => orangerylaw_ViewAgain_2 a0_ p)) || decide (p.parent ∈ roots) with
        | false => rfl
        | true =>
          have : p ∈ (seenAll t roots).known := by
            refine List.mem_filter.2 ⟨hp, (below_iff _ _ _).2 ?_⟩
            rw [Bool.or_eq_true] at hc
            rcases hc with hc | hc
            · obtain ⟨q, hq, he⟩ := List.any_eq_true.1 hc
              have he : q.node = p.parent := by simpa [orangerylaw_ViewAgain_2] using he
              obtain ⟨r', hr', hu⟩ := (below_iff _ _ _).1 (List.mem_filter.1 hq).2
              rw [he] at hu
              exact ⟨r', hr', step r' hu⟩
            · exact ⟨p.parent, of_decide_eq_true hc, step _ (Up.refl _ _)⟩
          rw [decide_eq_true this]
          rfl
    have key0 : ∀ (l : List Place) (k : Nat), l = (kept t roots).drop k → orangerylaw_ViewAgain_L0 t roots l k = true := by
      intro l
      induction l with
      | nil =>
        intro k _
        rw [orangerylaw_ViewAgain_L0, h3]
        simp only
        rw [kept_sort ht, h4, key1 t fun p hp => hp, Same_refl]
        rfl
      | cons p r ih =>
        intro k hk'
        have hlt : k < (kept t roots).length := by
          have := congrArg List.length hk'
          simp at this; omega
        have hpk : (kept t roots)[k] = p := by
          have := List.drop_eq_getElem_cons hlt
          rw [← hk'] at this
          exact (List.cons.inj this).1.symm
        have hr : r = (kept t roots).drop (k + 1) := by
          have := List.drop_eq_getElem_cons hlt
          rw [← hk'] at this
          exact (List.cons.inj this).2
        rw [orangerylaw_ViewAgain_L0, h3]
        simp only
        rw [kept_sort ht, ih (k + 1) hr, tree_Find_eq, find_mem ht.up p (List.mem_filter.1 (hpk ▸ List.getElem_mem hlt)).1, decide_eq_true rfl]
        have : (decide ((k : Int) > 0) && ((gt (kept t roots) (k - 1)).node == p.node)) = false := by
          by_cases h0 : (k : Int) > 0
          · rw [decide_eq_true h0, Bool.true_and, beq_eq_false_iff_ne, pgt_get _ _ (by omega), ← hpk]
            have := List.pairwise_iff_getElem.1 hk.up (k - 1) k (by omega) hlt (by omega)
            omega
          · rw [decide_eq_false h0, Bool.false_and]
        rw [this]
        rfl
    rw [h3] at h ⊢
    simp only
    rw [hv, kept_sort ht]
    simp only [Bool.not_true, Bool.or_self, cond_false, bne_self_eq_false]
    exact key0 _ 0 rfl
end Go.Proofs.Ytchdacbjiomplaa
