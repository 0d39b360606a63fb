/- Part of this claim. No condition. -/
import Derived.Test.YtchdacbjiomplaaLPath
set_option linter.unusedVariables false
set_option linter.unusedSimpArgs false
namespace Go.Proofs.Ytchdacbjiomplaa
open Go Go.Proofs.Ytchdacbjiomplaa.Fw

/-! ### What a tree is -/
structure IsTree (l : List Place) : Prop where
  ok : ∀ p ∈ l, place p = 0
  up : l.Pairwise (fun a b => a.node < b.node)
  no : ∀ p ∈ l, ¬ Up l p.parent p.node

theorem gt_cons_succ (p : Place) (r : List Place) (i : Nat) : gt (p :: r) (i + 1) = gt r i := by simp [gt]
theorem gt_cons_zero (p : Place) (r : List Place) : gt (p :: r) 0 = p := by simp [gt]

theorem pairwise_gt : ∀ (l : List Place), (∀ i, i + 1 < l.length → (gt l i).node < (gt l (i + 1)).node) → l.Pairwise (fun a b => a.node < b.node)
  | [], _ => .nil
  | [p], _ => by simp
  | p :: q :: r, h => by
    have h1 := pairwise_gt (q :: r) (fun i hi => by have := h (i + 1) (by simp at hi ⊢; omega); simpa [gt_cons_succ] using this)
    have h0 : p.node < q.node := by have := h 0 (by simp); simpa [gt] using this
    refine .cons (fun a ha => ?_) h1
    rcases List.mem_cons.1 ha with rfl | ha
    · exact h0
    · exact Int.lt_trans h0 (List.rel_of_pairwise_cons h1 ha)

theorem gt_pairwise : ∀ {l : List Place}, l.Pairwise (fun a b => a.node < b.node) → ∀ i, i + 1 < l.length → (gt l i).node < (gt l (i + 1)).node := by
  intro l h i hi
  rw [gt_eq (by omega), gt_eq hi]
  exact List.pairwise_iff_getElem.1 h i (i + 1) (by omega) hi (by omega)

theorem chk1_of (l : List Place) (ha : ∀ i, i < l.length → place (gt l i) = 0) (hb : ∀ i, i + 1 < l.length → (gt l i).node < (gt l (i + 1)).node) : ∀ (f k : Nat), k + f = l.length → chk1 l f k = 0
  | 0, _, _ => rfl
  | f + 1, k, h => by
    rw [chk1, ha k (by omega)]
    have h2 : (decide ((k : Int) > 0) && decide ((gt l (k - 1)).node ≥ (gt l k).node)) = false := by
      cases k with
      | zero => simp
      | succ k => have := hb k (by omega); simp; omega
    rw [h2]
    exact chk1_of l ha hb f (k + 1) (by omega)

theorem chk2_iff (t : List Place) : ∀ (l : List Place), chk2 t l = 0 ↔ ∀ p ∈ l, ¬ Up t p.parent p.node
  | [] => by simp [chk2]
  | p :: r => by
    rw [chk2]
    cases h : stands t p.parent p.node with
    | true => simp only [cond_true, List.forall_mem_cons, (stands_iff t _ _).1 h, not_true, false_and, iff_false]; decide
    | false =>
      have hn : ¬ Up t p.parent p.node := fun hu => by rw [(stands_iff t _ _).2 hu] at h; cases h
      simp only [cond_false, List.forall_mem_cons, hn, not_false_eq_true, true_and, chk2_iff t r]

theorem checkT_iff (l : List Place) : checkT l = 0 ↔ IsTree l := by
  constructor
  · intro h
    have h1 := checkT_1 h
    obtain ⟨ha, hb⟩ := chk1_ok l l.length 0 (by omega) h1
    have h2 : chk2 l l = 0 := by
      unfold checkT at h
      rw [h1] at h
      exact h
    refine ⟨fun p hp => ?_, pairwise_gt l fun i hi => by have := hb (i + 1) (by omega) hi (by omega); simpa using this, (chk2_iff l l).1 h2⟩
    obtain ⟨i, hi, rfl⟩ := List.getElem_of_mem hp
    have := ha i (by omega) hi
    rwa [gt_eq hi] at this
  · intro h
    have h1 : chk1 l l.length 0 = 0 := chk1_of l (fun i hi => by rw [gt_eq hi]; exact h.ok _ (List.getElem_mem hi)) (gt_pairwise h.up) _ _ (by omega)
    unfold checkT
    rw [h1]
    exact (chk2_iff l l).2 h.no

/-! ### A node put to a place -/
theorem find_put_t (p : Place) (n : Int) : ∀ l : List Place, find (put p true l) n = bif n == p.node then ⟨0, 0, 0⟩ else find l n
  | [] => by simp [put, find]
  | q :: r => by
    have ih := find_put_t p n r
    rw [put]
    simp only [Bool.not_true, Bool.false_and, cond_false]
    by_cases hq : q.node = p.node
    · have : (q.node != p.node) = false := by simpa using hq
      rw [this, cond_false, ih, find]
      by_cases hn : n = p.node
      · simp [hn]
      · have h1 : (n == p.node) = false := by simpa using hn
        have h2 : (q.node == n) = false := by rw [hq]; simpa using Ne.symm hn
        rw [h1, h2]; rfl
    · have : (q.node != p.node) = true := by simpa using hq
      rw [this, cond_true, find, find, ih]
      by_cases hn : n = p.node
      · have h2 : (q.node == n) = false := by rw [hn]; simpa using hq
        rw [h2, hn]; simp
      · have h1 : (n == p.node) = false := by simpa using hn
        rw [h1]; rfl

theorem find_put_f (p : Place) (n : Int) : ∀ l : List Place, find (put p false l) n = bif n == p.node then p else find l n
  | [] => by
    by_cases hn : n = p.node
    · simp [put, find, hn]
    · have h1 : (n == p.node) = false := by simpa using hn
      have h2 : (p.node == n) = false := by simpa using Ne.symm hn
      simp [put, find, h1, h2]
  | q :: r => by
    rw [put]
    by_cases hge : q.node ≥ p.node
    · have h0 : (!false && decide (q.node ≥ p.node)) = true := by simpa using hge
      rw [h0, cond_true]
      have e : (bif q.node != p.node then q :: put p true r else put p true r) = put p true (q :: r) := by rw [put]; rfl
      rw [e, find, find_put_t]
      by_cases hn : n = p.node
      · subst hn; simp
      · have h1 : (n == p.node) = false := by simpa using hn
        have h2 : (p.node == n) = false := by simpa using Ne.symm hn
        rw [h1, h2]; rfl
    · have h0 : (!false && decide (q.node ≥ p.node)) = false := by simpa using hge
      have hne : (q.node != p.node) = true := by simp; omega
      rw [h0, cond_false, hne, cond_true, find, find, find_put_f p n r]
      by_cases hn : n = p.node
      · have h2 : (q.node == n) = false := by simp; omega
        rw [h2, hn]; simp
      · have h1 : (n == p.node) = false := by simpa using hn
        rw [h1]; rfl

theorem mem_put_t (p x : Place) : ∀ l : List Place, x ∈ put p true l → x ∈ l ∧ x.node ≠ p.node
  | [], h => by cases h
  | q :: r, h => by
    rw [put] at h
    simp only [Bool.not_true, Bool.false_and, cond_false] at h
    cases hq : q.node != p.node with
    | true =>
      rw [hq, cond_true] at h
      rcases List.mem_cons.1 h with rfl | h
      · exact ⟨.head _, by simpa using hq⟩
      · exact ⟨.tail _ (mem_put_t p x r h).1, (mem_put_t p x r h).2⟩
    | false => rw [hq, cond_false] at h; exact ⟨.tail _ (mem_put_t p x r h).1, (mem_put_t p x r h).2⟩

theorem mem_put_f (p x : Place) : ∀ l : List Place, x ∈ put p false l → x = p ∨ (x ∈ l ∧ x.node ≠ p.node)
  | [], h => by simp [put] at h; exact .inl h
  | q :: r, h => by
    rw [put] at h
    by_cases hge : q.node ≥ p.node
    · have h0 : (!false && decide (q.node ≥ p.node)) = true := by simpa using hge
      have e : (bif q.node != p.node then q :: put p true r else put p true r) = put p true (q :: r) := by rw [put]; rfl
      rw [h0, cond_true, e] at h
      rcases List.mem_cons.1 h with rfl | h
      · exact .inl rfl
      · exact .inr (mem_put_t p x _ h)
    · have h0 : (!false && decide (q.node ≥ p.node)) = false := by simpa using hge
      have hne : (q.node != p.node) = true := by simp; omega
      rw [h0, cond_false, hne, cond_true] at h
      rcases List.mem_cons.1 h with rfl | h
      · exact .inr ⟨.head _, by simpa using hne⟩
      · rcases mem_put_f p x r h with h | ⟨h1, h2⟩
        · exact .inl h
        · exact .inr ⟨.tail _ h1, h2⟩

theorem put_t_up (p : Place) : ∀ {l : List Place}, l.Pairwise (fun a b => a.node < b.node) → (put p true l).Pairwise (fun a b => a.node < b.node)
  | [], _ => .nil
  | q :: r, h => by
    have hr := List.Pairwise.of_cons h
    rw [put]
    simp only [Bool.not_true, Bool.false_and, cond_false]
    cases q.node != p.node with
    | true => exact .cons (fun a ha => List.rel_of_pairwise_cons h (mem_put_t p a r ha).1) (put_t_up p hr)
    | false => exact put_t_up p hr

theorem put_f_up (p : Place) : ∀ {l : List Place}, l.Pairwise (fun a b => a.node < b.node) → (put p false l).Pairwise (fun a b => a.node < b.node)
  | [], _ => by simp [put]
  | q :: r, h => by
    have hr := List.Pairwise.of_cons h
    rw [put]
    by_cases hge : q.node ≥ p.node
    · have h0 : (!false && decide (q.node ≥ p.node)) = true := by simpa using hge
      have e : (bif q.node != p.node then q :: put p true r else put p true r) = put p true (q :: r) := by rw [put]; rfl
      rw [h0, cond_true, e]
      refine .cons (fun a ha => ?_) (put_t_up p h)
      obtain ⟨hm, hn⟩ := mem_put_t p a _ ha
      have : q.node ≤ a.node := by
        rcases List.mem_cons.1 hm with rfl | hm
        · exact Int.le_refl _
        · exact Int.le_of_lt (List.rel_of_pairwise_cons h hm)
      omega
    · have h0 : (!false && decide (q.node ≥ p.node)) = false := by simpa using hge
      have hne : (q.node != p.node) = true := by simp; omega
      rw [h0, cond_false, hne, cond_true]
      refine .cons (fun a ha => ?_) (put_f_up p hr)
      rcases mem_put_f p a r ha with rfl | ⟨hm, _⟩
      · omega
      · exact List.rel_of_pairwise_cons h hm

/-- Trees of like places are alike. -/
theorem find_lt {l : List Place} {n : Int} (h : ∀ p ∈ l, n < p.node) : find l n = ⟨0, 0, 0⟩ := by
  induction l with
  | nil => rfl
  | cons p r ih =>
    rw [find]
    have := h p (.head _)
    have h1 : (p.node == n) = false := by simp; omega
    rw [h1, cond_false]
    exact ih fun q hq => h q (.tail _ hq)

theorem ext_find : ∀ {l l' : List Place}, l.Pairwise (fun a b => a.node < b.node) → l'.Pairwise (fun a b => a.node < b.node) → (∀ p ∈ l, 1 ≤ p.node) → (∀ p ∈ l', 1 ≤ p.node) → (∀ n, 1 ≤ n → find l n = find l' n) → l = l'
  | [], [], _, _, _, _, _ => rfl
  | [], q :: r, _, _, _, h4, h5 => by
    have h1 := h4 q (.head _)
    have := h5 q.node h1
    simp [find] at this
    rw [← this] at h1; simp at h1
  | p :: r, [], _, _, h3, _, h5 => by
    have h1 := h3 p (.head _)
    have := h5 p.node h1
    simp [find] at this
    rw [this] at h1; simp at h1
  | p :: r, q :: s, h1, h2, h3, h4, h5 => by
    have hp := h3 p (.head _)
    have hq := h4 q (.head _)
    have e1 := h5 p.node hp
    have e2 := h5 q.node hq
    have hpq : p.node = q.node := by
      rcases Int.lt_trichotomy p.node q.node with h | h | h
      · have : find (q :: s) p.node = ⟨0, 0, 0⟩ := find_lt fun x hx => by
          rcases List.mem_cons.1 hx with rfl | hx
          · exact h
          · exact Int.lt_trans h (List.rel_of_pairwise_cons h2 hx)
        rw [this] at e1
        simp [find] at e1
        rw [e1] at hp; simp at hp
      · exact h
      · have : find (p :: r) q.node = ⟨0, 0, 0⟩ := find_lt fun x hx => by
          rcases List.mem_cons.1 hx with rfl | hx
          · exact h
          · exact Int.lt_trans h (List.rel_of_pairwise_cons h1 hx)
        rw [this] at e2
        simp [find] at e2
        rw [← e2] at hq; simp at hq
    have e : p = q := by simpa [find, hpq] using e1
    subst e
    refine congrArg _ (ext_find (List.Pairwise.of_cons h1) (List.Pairwise.of_cons h2) (fun x hx => h3 x (.tail _ hx)) (fun x hx => h4 x (.tail _ hx)) fun n hn => ?_)
    by_cases hn' : n = p.node
    · subst hn'
      rw [find_lt fun x hx => List.rel_of_pairwise_cons h1 hx, find_lt fun x hx => List.rel_of_pairwise_cons h2 hx]
    · have := h5 n hn
      rw [find, find] at this
      have hb : (p.node == n) = false := by simpa using Ne.symm hn'
      rwa [hb, cond_false, cond_false] at this
end Go.Proofs.Ytchdacbjiomplaa
