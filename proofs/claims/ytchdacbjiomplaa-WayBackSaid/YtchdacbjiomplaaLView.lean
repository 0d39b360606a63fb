/- Part of this claim. No condition. -/
import Derived.Test.YtchdacbjiomplaaLEq
import Derived.Test.YtchdacbjiomplaaW12b
set_option linter.unusedVariables false
set_option linter.unusedSimpArgs false
namespace Go.Proofs.Ytchdacbjiomplaa
open Go Go.Proofs.Ytchdacbjiomplaa.Fw Go.Proofs
/-! ### Roots -/
theorem pairwise_of {α : Type} [Inhabited α] (f : α → Int) : ∀ (l : List α), (∀ i, i + 1 < l.length → f (gt l i) < f (gt l (i + 1))) → l.Pairwise (fun a b => f a < f b)
  | [], _ => .nil
  | [a], _ => by simp
  | a :: b :: r, h => by
    have ih := pairwise_of f (b :: r) (fun i hi => by have := h (i + 1) (by simpa using hi); simpa [gt] using this)
    have h0 : f a < f b := by simpa [gt] using h 0 (by simp)
    refine List.pairwise_cons.2 ⟨fun c hc => ?_, ih⟩
    rcases List.mem_cons.1 hc with rfl | hc
    · exact h0
    · have := (List.pairwise_cons.1 ih).1 c hc; omega
theorem of_pairwise {α : Type} [Inhabited α] (f : α → Int) : ∀ {l : List α}, l.Pairwise (fun a b => f a < f b) → ∀ i, i + 1 < l.length → f (gt l i) < f (gt l (i + 1))
  | [], _, i, hi => by simp at hi
  | a :: r, h, i, hi => by
    obtain ⟨h1, h2⟩ := List.pairwise_cons.1 h
    cases i with
    | zero =>
      have h3 : 0 < r.length := by simpa using hi
      have := h1 (gt r 0) (gt_mem h3)
      simpa [gt] using this
    | succ i =>
      have := of_pairwise f h2 i (by simpa using hi)
      simpa [gt] using this
structure IsRoots (l : List Int) : Prop where
  len : l.length ≤ 4
  rng : ∀ n ∈ l, 0 ≤ n ∧ n ≤ 16
  up : l.Pairwise (fun a b => a < b)
theorem Roots_L0_iff (l : List Int) : ∀ (r : List Int) (k : Nat), r = l.drop k → (view_Roots_L0 l r k = 0 ↔ (∀ n ∈ r, 0 ≤ n ∧ n ≤ 16) ∧ ∀ i, k ≤ i → i < l.length → 0 < i → gt l (i - 1) < gt l i)
  | [], k, hr => by
    have hk : l.length ≤ k := by have := congrArg List.length hr; simp at this; omega
    rw [view_Roots_L0]
    exact ⟨fun _ => ⟨by simp, fun i h1 h2 => by omega⟩, fun _ => rfl⟩
  | n :: r, k, hr => by
    have hk : k < l.length := by have := congrArg List.length hr; simp at this; omega
    rw [drop_gt hk] at hr
    obtain ⟨hn, hr'⟩ := List.cons.inj hr
    have ih := Roots_L0_iff l r (k + 1) hr'
    rw [view_Roots_L0]
    cases h1 : (decide (n < 0) || decide (n > 16)) with
    | true =>
      simp only [cond_true]
      refine ⟨fun h => by omega, fun h => ?_⟩
      have := h.1 n (.head _)
      simp at h1; omega
    | false =>
      simp at h1
      cases h2 : (decide ((k : Int) > 0) && decide (gt l (k - 1) ≥ n)) with
      | true =>
        simp only [cond_true, cond_false]
        simp only [Bool.and_eq_true, decide_eq_true_eq] at h2
        refine ⟨fun h => by omega, fun h => ?_⟩
        have := h.2 k (Nat.le_refl _) hk (by omega)
        rw [← hn] at this
        omega
      | false =>
        simp only [cond_false]
        rw [ih]
        constructor
        · rintro ⟨a, b⟩
          refine ⟨fun m hm => ?_, fun i hi hl hp => ?_⟩
          · cases hm with
            | head => omega
            | tail _ hm => exact a m hm
          · by_cases he : i = k
            · subst he
              simp at h2
              have := h2 (by omega)
              rw [← hn]; omega
            · exact b i (by omega) hl hp
        · rintro ⟨a, b⟩
          exact ⟨fun m hm => a m (.tail _ hm), fun i hi hl hp => b i (by omega) hl hp⟩
theorem Roots_iff (l : List Int) : view_Roots l = 0 ↔ IsRoots l := by
  unfold view_Roots
  cases h : decide ((l.length : Int) > 4) with
  | true =>
    simp at h
    simp only [cond_true]
    exact ⟨fun h => by omega, fun h' => by have := h'.len; omega⟩
  | false =>
    simp at h
    rw [cond_false, Roots_L0_iff l l 0 rfl]
    constructor
    · rintro ⟨a, b⟩
      exact ⟨by omega, a, pairwise_of id l fun i hi => by have := b (i + 1) (by omega) hi (by omega); simpa using this⟩
    · intro h'
      refine ⟨h'.rng, fun i _ hl hp => ?_⟩
      have := of_pairwise id h'.up (i - 1) (by omega)
      rw [show i - 1 + 1 = i by omega] at this
      exact this
theorem IsRoots.take {l : List Int} (h : IsRoots l) (k : Nat) : IsRoots (l.take k) :=
  ⟨by have := h.len; simp; omega, fun n hn => h.rng n (List.mem_of_mem_take hn), h.up.sublist (List.take_sublist k l)⟩
/-! ### What is seen of a tree -/
def seenAll (t : List Place) (roots : List Int) : View := ⟨roots, t.filter (fun p => view_below t p.node roots), t.filter (fun p => !view_below t p.node roots && view_above t p.node roots)⟩
theorem Of_L0_eq (t : List Place) (roots : List Int) : ∀ (l known way : List Place), view_Of_L0 t roots l known way = (⟨roots, known ++ l.filter (fun p => view_below t p.node roots), way ++ l.filter (fun p => !view_below t p.node roots && view_above t p.node roots)⟩, 0)
  | [], known, way => by simp [view_Of_L0]
  | p :: r, known, way => by
    rw [view_Of_L0]
    cases hb : view_below t p.node roots with
    | true =>
      rw [cond_true, Of_L0_eq t roots r, List.filter_cons, List.filter_cons, hb]
      simp
    | false =>
      rw [cond_false]
      cases ha : view_above t p.node roots with
      | true => rw [cond_true, Of_L0_eq t roots r, List.filter_cons, List.filter_cons, hb, ha]; simp
      | false => rw [cond_false, Of_L0_eq t roots r, List.filter_cons, List.filter_cons, hb, ha]; simp
theorem Of_eq (t : List Place) (roots : List Int) : view_Of t roots = bif checkT t != 0 then (⟨[], [], []⟩, checkT t) else bif view_Roots roots != 0 then (⟨[], [], []⟩, view_Roots roots) else (seenAll t roots, 0) := by
  unfold view_Of
  rw [tree_Check_eq, Of_L0_eq]
  rfl
theorem Of_ok {t : List Place} {roots : List Int} (h : (view_Of t roots).2 = 0) : checkT t = 0 ∧ view_Roots roots = 0 ∧ view_Of t roots = (seenAll t roots, 0) := by
  rw [Of_eq] at h ⊢
  cases h1 : checkT t != 0 with
  | true => rw [h1, cond_true] at h; simp only at h; rw [h] at h1; simp at h1
  | false =>
    rw [h1, cond_false] at h
    cases h2 : view_Roots roots != 0 with
    | true => rw [h2, cond_true] at h; simp only at h; rw [h] at h2; simp at h2
    | false => exact ⟨eq_of_bne_false h1, eq_of_bne_false h2, rfl⟩
theorem Of_of {t : List Place} {roots : List Int} (h1 : checkT t = 0) (h2 : view_Roots roots = 0) : view_Of t roots = (seenAll t roots, 0) := by
  rw [Of_eq, h1, h2]; rfl
end Go.Proofs.Ytchdacbjiomplaa
