/- Part of this claim. No condition. -/
import Derived.Test.YtccmadehnoihnaaGreatDoorG7
import Derived.Test.YtccmadehnoihnaaGreatDoorG4
set_option linter.unusedVariables false
set_option linter.unusedSimpArgs false
namespace Go.Proofs.YtccmadehnoihnaaGreatDoor
open Go Go.Proofs.YtccmadehnoihnaaGreatDoor.Fw

/-! ### Ways up a tree -/
inductive Way (l : List Place) (ok : Int → Prop) : Int → Int → Nat → Prop
  | here (a : Int) : Way l ok a a 0
  | up {a b : Int} {k : Nat} (hok : ok a) (hn : (find l a).node ≠ 0) (h : Way l ok (find l a).parent b k) : Way l ok a b (k + 1)

theorem standsF_iff (l : List Place) (top : Int) : ∀ (f : Nat) (nd : Int), standsF l top f nd = true ↔ ∃ k, k < f ∧ Way l (fun _ => True) nd top k
  | 0, nd => by simp [standsF]
  | f + 1, nd => by
    rw [standsF]
    by_cases h : nd = top
    · subst h
      simp only [beq_self_eq_true, cond_true, true_iff]
      exact ⟨0, by omega, .here _⟩
    · have hb : (nd == top) = false := by simpa using h
      rw [hb, cond_false]
      by_cases h0 : (find l nd).node = 0
      · have : ((find l nd).node == 0) = true := by simpa using h0
        rw [this, cond_true]
        constructor
        · intro h; cases h
        · rintro ⟨k, _, hw⟩
          cases hw with
          | here => exact absurd rfl h
          | up _ hn _ => exact absurd h0 hn
      · have : ((find l nd).node == 0) = false := by simpa using h0
        rw [this, cond_false, standsF_iff l top f]
        constructor
        · rintro ⟨k, hk, hw⟩; exact ⟨k + 1, by omega, .up trivial h0 hw⟩
        · rintro ⟨k, hk, hw⟩
          cases hw with
          | here => exact absurd rfl h
          | up _ _ hw => exact ⟨_, by omega, hw⟩

theorem Way.last {l : List Place} {ok : Int → Prop} (a : Int) {x b : Int} {k : Nat} (h : Way l ok x b k) :
    (∃ k', Way l (fun z => ok z ∧ z ≠ a) x b k') ∨ (ok a ∧ (find l a).node ≠ 0 ∧ ∃ k', Way l (fun z => ok z ∧ z ≠ a) (find l a).parent b k') := by
  induction h with
  | here x => exact .inl ⟨0, .here _⟩
  | @up x b k hok hn h ih =>
    rcases ih with ⟨k', hw⟩ | h2
    · by_cases hx : x = a
      · subst hx; exact .inr ⟨hok, hn, k', hw⟩
      · exact .inl ⟨k' + 1, .up ⟨hok, hx⟩ hn hw⟩
    · exact .inr h2

theorem Way.mono {l : List Place} {ok ok' : Int → Prop} (hm : ∀ z, ok z → ok' z) {a b : Int} {k : Nat} (h : Way l ok a b k) : Way l ok' a b k := by
  induction h with
  | here x => exact .here x
  | up hok hn _ ih => exact .up (hm _ hok) hn ih

theorem Way.short {l : List Place} : ∀ (m : Nat) (S : List Int), S.length ≤ m → ∀ {a b : Int} {k : Nat}, Way l (fun z => z ∈ S) a b k → ∃ k', k' ≤ m ∧ Way l (fun z => z ∈ S) a b k' := by
  intro m
  induction m with
  | zero =>
    intro S hS a b k h
    cases h with
    | here => exact ⟨0, Nat.le_refl _, .here _⟩
    | up hok _ _ =>
      have : S = [] := List.length_eq_zero_iff.1 (by omega)
      subst this; cases hok
  | succ m ih =>
    intro S hS a b k h
    rcases h.last a with ⟨k', hw⟩ | ⟨hok, hn, k', hw⟩
    · cases hw with
      | here => exact ⟨0, by omega, .here _⟩
      | up hok _ _ => exact absurd rfl hok.2
    · have hlt : (S.filter (· != a)).length < S.length := by
        apply Classical.byContradiction
        intro hge
        have := List.filter_eq_self.1 ((List.filter_sublist (p := (· != a)) (l := S)).eq_of_length_le (by omega)) a hok
        simp at this
      obtain ⟨k2, hk2, hw2⟩ := ih (S.filter (· != a)) (by omega) (hw.mono fun z hz => by simpa using hz)
      exact ⟨k2 + 1, by omega, .up hok hn (hw2.mono fun z hz => (List.mem_filter.1 hz).1)⟩

theorem find_node {l : List Place} {a : Int} : (find l a).node ≠ 0 → (find l a).node = a ∧ find l a ∈ l := by
  induction l with
  | nil => intro h; exact absurd rfl h
  | cons p r ih =>
    intro h
    rw [find] at h ⊢
    cases hp : p.node == a with
    | true => rw [cond_true]; exact ⟨by simpa using hp, .head _⟩
    | false => rw [hp, cond_false] at h; rw [cond_false]; exact ⟨(ih h).1, .tail _ (ih h).2⟩

def Up (l : List Place) (a b : Int) : Prop := ∃ k, Way l (fun _ => True) a b k

theorem stands_iff (l : List Place) (a b : Int) : stands l a b = true ↔ Up l a b := by
  unfold stands
  rw [standsF_iff]
  constructor
  · rintro ⟨k, _, h⟩; exact ⟨k, h⟩
  · rintro ⟨k, h⟩
    have h1 : ∀ {a b : Int} {k : Nat}, Way l (fun _ => True) a b k → Way l (fun z => z ∈ l.map (·.node)) a b k := by
      intro a b k h
      induction h with
      | here x => exact .here x
      | up _ hn _ ih =>
        obtain ⟨e, hm⟩ := find_node hn
        exact .up (List.mem_map.2 ⟨_, hm, e⟩) hn ih
    obtain ⟨k', hk, hw⟩ := (h1 h).short (l := l) l.length (l.map (·.node)) (by simp)
    exact ⟨k', by omega, hw.mono fun _ _ => trivial⟩

theorem Up.refl (l : List Place) (a : Int) : Up l a a := ⟨0, .here a⟩
theorem Way.trans {l : List Place} {ok : Int → Prop} {a b c : Int} {k m : Nat} (h : Way l ok a b k) (h' : Way l ok b c m) : ∃ n, Way l ok a c n := by
  induction h with
  | here => exact ⟨m, h'⟩
  | up hok hn _ ih => obtain ⟨n, hw⟩ := ih h'; exact ⟨n + 1, .up hok hn hw⟩
theorem Up.trans {l : List Place} {a b c : Int} (h : Up l a b) (h' : Up l b c) : Up l a c := by
  obtain ⟨_, h⟩ := h
  obtain ⟨_, h'⟩ := h'
  exact h.trans h'
end Go.Proofs.YtccmadehnoihnaaGreatDoor

namespace Go.Proofs.YtccmadehnoihnaaGreatDoor
open Go Go.Proofs.YtccmadehnoihnaaGreatDoor.Fw

/-! ### What a tree is -/
structure IsTree (l : List Place) : Prop where
  ok : ∀ p ∈ l, place p = 0
  up : l.Pairwise (fun a b => a.node < b.node)
  no : ∀ p ∈ l, ¬ Up l p.parent p.node

theorem gt_cons_succ (p : Place) (r : List Place) (i : Nat) : gt (p :: r) (i + 1) = gt r i := by simp [gt]
theorem pairwise_gt : ∀ (l : List Place), (∀ i, i + 1 < l.length → (gt l i).node < (gt l (i + 1)).node) → l.Pairwise (fun a b => a.node < b.node)
  | [], _ => .nil
  | [p], _ => by simp
  | p :: q :: r, h => by
    have h1 := pairwise_gt (q :: r) (fun i hi => by have := h (i + 1) (by simp at hi ⊢; omega); simpa [gt_cons_succ] using this)
    have h0 : p.node < q.node := by have := h 0 (by simp); simpa [gt] using this
    refine .cons (fun a ha => ?_) h1
    rcases List.mem_cons.1 ha with rfl | ha
    · exact h0
    · exact Int.lt_trans h0 (List.rel_of_pairwise_cons h1 ha)

theorem gt_pairwise : ∀ {l : List Place}, l.Pairwise (fun a b => a.node < b.node) → ∀ i, i + 1 < l.length → (gt l i).node < (gt l (i + 1)).node := by
  intro l h i hi
  rw [gt_eq (by omega), gt_eq hi]
  exact List.pairwise_iff_getElem.1 h i (i + 1) (by omega) hi (by omega)

theorem chk1_of (l : List Place) (ha : ∀ i, i < l.length → place (gt l i) = 0) (hb : ∀ i, i + 1 < l.length → (gt l i).node < (gt l (i + 1)).node) : ∀ (f k : Nat), k + f = l.length → chk1 l f k = 0
  | 0, _, _ => rfl
  | f + 1, k, h => by
    rw [chk1, ha k (by omega)]
    have h2 : (decide ((k : Int) > 0) && decide ((gt l (k - 1)).node ≥ (gt l k).node)) = false := by
      cases k with
      | zero => simp
      | succ k => have := hb k (by omega); simp; omega
    rw [h2]
    exact chk1_of l ha hb f (k + 1) (by omega)

theorem chk2_iff (t : List Place) : ∀ (l : List Place), chk2 t l = 0 ↔ ∀ p ∈ l, ¬ Up t p.parent p.node
  | [] => by simp [chk2]
  | p :: r => by
    rw [chk2]
    cases h : stands t p.parent p.node with
    | true => simp only [cond_true, List.forall_mem_cons, (stands_iff t _ _).1 h, not_true, false_and, iff_false]; decide
    | false =>
      have hn : ¬ Up t p.parent p.node := fun hu => by rw [(stands_iff t _ _).2 hu] at h; cases h
      simp only [cond_false, List.forall_mem_cons, hn, not_false_eq_true, true_and, chk2_iff t r]

theorem checkT_iff (l : List Place) : checkT l = 0 ↔ IsTree l := by
  constructor
  · intro h
    have h1 := checkT_1 h
    obtain ⟨ha, hb⟩ := chk1_ok l l.length 0 (by omega) h1
    have h2 : chk2 l l = 0 := by
      unfold checkT at h
      rw [h1] at h
      exact h
    refine ⟨fun p hp => ?_, pairwise_gt l fun i hi => by have := hb (i + 1) (by omega) hi (by omega); simpa using this, (chk2_iff l l).1 h2⟩
    obtain ⟨i, hi, rfl⟩ := List.getElem_of_mem hp
    have := ha i (by omega) hi
    rwa [gt_eq hi] at this
  · intro h
    have h1 : chk1 l l.length 0 = 0 := chk1_of l (fun i hi => by rw [gt_eq hi]; exact h.ok _ (List.getElem_mem hi)) (gt_pairwise h.up) _ _ (by omega)
    unfold checkT
    rw [h1]
    exact (chk2_iff l l).2 h.no

/-! ### A node put to a place -/
theorem find_put_t (p : Place) (n : Int) : ∀ l : List Place, find (put p true l) n = bif n == p.node then ⟨0, 0, 0⟩ else find l n
  | [] => by simp [put, find]
  | q :: r => by
    have ih := find_put_t p n r
    rw [put]
    simp only [Bool.not_true, Bool.false_and, cond_false]
    by_cases hq : q.node = p.node
    · have : (q.node != p.node) = false := by simpa using hq
      rw [this, cond_false, ih, find]
      by_cases hn : n = p.node
      · simp [hn]
      · have h1 : (n == p.node) = false := by simpa using hn
        have h2 : (q.node == n) = false := by rw [hq]; simpa using Ne.symm hn
        rw [h1, h2]; rfl
    · have : (q.node != p.node) = true := by simpa using hq
      rw [this, cond_true, find, find, ih]
      by_cases hn : n = p.node
      · have h2 : (q.node == n) = false := by rw [hn]; simpa using hq
        rw [h2, hn]; simp
      · have h1 : (n == p.node) = false := by simpa using hn
        rw [h1]; rfl

theorem find_put_f (p : Place) (n : Int) : ∀ l : List Place, find (put p false l) n = bif n == p.node then p else find l n
  | [] => by
    by_cases hn : n = p.node
    · simp [put, find, hn]
    · have h1 : (n == p.node) = false := by simpa using hn
      have h2 : (p.node == n) = false := by simpa using Ne.symm hn
      simp [put, find, h1, h2]
  | q :: r => by
    rw [put]
    by_cases hge : q.node ≥ p.node
    · have h0 : (!false && decide (q.node ≥ p.node)) = true := by simpa using hge
      rw [h0, cond_true]
      have e : (bif q.node != p.node then q :: put p true r else put p true r) = put p true (q :: r) := by rw [put]; rfl
      rw [e, find, find_put_t]
      by_cases hn : n = p.node
      · subst hn; simp
      · have h1 : (n == p.node) = false := by simpa using hn
        have h2 : (p.node == n) = false := by simpa using Ne.symm hn
        rw [h1, h2]; rfl
    · have h0 : (!false && decide (q.node ≥ p.node)) = false := by simpa using hge
      have hne : (q.node != p.node) = true := by simp; omega
      rw [h0, cond_false, hne, cond_true, find, find, find_put_f p n r]
      by_cases hn : n = p.node
      · have h2 : (q.node == n) = false := by simp; omega
        rw [h2, hn]; simp
      · have h1 : (n == p.node) = false := by simpa using hn
        rw [h1]; rfl

theorem mem_put_t (p x : Place) : ∀ l : List Place, x ∈ put p true l → x ∈ l ∧ x.node ≠ p.node
  | [], h => by cases h
  | q :: r, h => by
    rw [put] at h
    simp only [Bool.not_true, Bool.false_and, cond_false] at h
    cases hq : q.node != p.node with
    | true =>
      rw [hq, cond_true] at h
      rcases List.mem_cons.1 h with rfl | h
      · exact ⟨.head _, by simpa using hq⟩
      · exact ⟨.tail _ (mem_put_t p x r h).1, (mem_put_t p x r h).2⟩
    | false => rw [hq, cond_false] at h; exact ⟨.tail _ (mem_put_t p x r h).1, (mem_put_t p x r h).2⟩

theorem mem_put_f (p x : Place) : ∀ l : List Place, x ∈ put p false l → x = p ∨ (x ∈ l ∧ x.node ≠ p.node)
  | [], h => by simp [put] at h; exact .inl h
  | q :: r, h => by
    rw [put] at h
    by_cases hge : q.node ≥ p.node
    · have h0 : (!false && decide (q.node ≥ p.node)) = true := by simpa using hge
      have e : (bif q.node != p.node then q :: put p true r else put p true r) = put p true (q :: r) := by rw [put]; rfl
      rw [h0, cond_true, e] at h
      rcases List.mem_cons.1 h with rfl | h
      · exact .inl rfl
      · exact .inr (mem_put_t p x _ h)
    · have h0 : (!false && decide (q.node ≥ p.node)) = false := by simpa using hge
      have hne : (q.node != p.node) = true := by simp; omega
      rw [h0, cond_false, hne, cond_true] at h
      rcases List.mem_cons.1 h with rfl | h
      · exact .inr ⟨.head _, by simpa using hne⟩
      · rcases mem_put_f p x r h with h | ⟨h1, h2⟩
        · exact .inl h
        · exact .inr ⟨.tail _ h1, h2⟩

theorem put_t_up (p : Place) : ∀ {l : List Place}, l.Pairwise (fun a b => a.node < b.node) → (put p true l).Pairwise (fun a b => a.node < b.node)
  | [], _ => .nil
  | q :: r, h => by
    have hr := List.Pairwise.of_cons h
    rw [put]
    simp only [Bool.not_true, Bool.false_and, cond_false]
    cases q.node != p.node with
    | true => exact .cons (fun a ha => List.rel_of_pairwise_cons h (mem_put_t p a r ha).1) (put_t_up p hr)
    | false => exact put_t_up p hr

theorem put_f_up (p : Place) : ∀ {l : List Place}, l.Pairwise (fun a b => a.node < b.node) → (put p false l).Pairwise (fun a b => a.node < b.node)
  | [], _ => by simp [put]
  | q :: r, h => by
    have hr := List.Pairwise.of_cons h
    rw [put]
    by_cases hge : q.node ≥ p.node
    · have h0 : (!false && decide (q.node ≥ p.node)) = true := by simpa using hge
      have e : (bif q.node != p.node then q :: put p true r else put p true r) = put p true (q :: r) := by rw [put]; rfl
      rw [h0, cond_true, e]
      refine .cons (fun a ha => ?_) (put_t_up p h)
      obtain ⟨hm, hn⟩ := mem_put_t p a _ ha
      have : q.node ≤ a.node := by
        rcases List.mem_cons.1 hm with rfl | hm
        · exact Int.le_refl _
        · exact Int.le_of_lt (List.rel_of_pairwise_cons h hm)
      omega
    · have h0 : (!false && decide (q.node ≥ p.node)) = false := by simpa using hge
      have hne : (q.node != p.node) = true := by simp; omega
      rw [h0, cond_false, hne, cond_true]
      refine .cons (fun a ha => ?_) (put_f_up p hr)
      rcases mem_put_f p a r ha with rfl | ⟨hm, _⟩
      · omega
      · exact List.rel_of_pairwise_cons h hm

/-- Trees of like places are alike. -/
theorem find_lt {l : List Place} {n : Int} (h : ∀ p ∈ l, n < p.node) : find l n = ⟨0, 0, 0⟩ := by
  induction l with
  | nil => rfl
  | cons p r ih =>
    rw [find]
    have := h p (.head _)
    have h1 : (p.node == n) = false := by simp; omega
    rw [h1, cond_false]
    exact ih fun q hq => h q (.tail _ hq)

theorem ext_find : ∀ {l l' : List Place}, l.Pairwise (fun a b => a.node < b.node) → l'.Pairwise (fun a b => a.node < b.node) → (∀ p ∈ l, 1 ≤ p.node) → (∀ p ∈ l', 1 ≤ p.node) → (∀ n, 1 ≤ n → find l n = find l' n) → l = l'
  | [], [], _, _, _, _, _ => rfl
  | [], q :: r, _, _, _, h4, h5 => by
    have h1 := h4 q (.head _)
    have := h5 q.node h1
    simp [find] at this
    rw [← this] at h1; simp at h1
  | p :: r, [], _, _, h3, _, h5 => by
    have h1 := h3 p (.head _)
    have := h5 p.node h1
    simp [find] at this
    rw [this] at h1; simp at h1
  | p :: r, q :: s, h1, h2, h3, h4, h5 => by
    have hp := h3 p (.head _)
    have hq := h4 q (.head _)
    have e1 := h5 p.node hp
    have e2 := h5 q.node hq
    have hpq : p.node = q.node := by
      rcases Int.lt_trichotomy p.node q.node with h | h | h
      · have : find (q :: s) p.node = ⟨0, 0, 0⟩ := find_lt fun x hx => by
          rcases List.mem_cons.1 hx with rfl | hx
          · exact h
          · exact Int.lt_trans h (List.rel_of_pairwise_cons h2 hx)
        rw [this] at e1
        simp [find] at e1
        rw [e1] at hp; simp at hp
      · exact h
      · have : find (p :: r) q.node = ⟨0, 0, 0⟩ := find_lt fun x hx => by
          rcases List.mem_cons.1 hx with rfl | hx
          · exact h
          · exact Int.lt_trans h (List.rel_of_pairwise_cons h1 hx)
        rw [this] at e2
        simp [find] at e2
        rw [← e2] at hq; simp at hq
    have e : p = q := by simpa [find, hpq] using e1
    subst e
    refine congrArg _ (ext_find (List.Pairwise.of_cons h1) (List.Pairwise.of_cons h2) (fun x hx => h3 x (.tail _ hx)) (fun x hx => h4 x (.tail _ hx)) fun n hn => ?_)
    by_cases hn' : n = p.node
    · subst hn'
      rw [find_lt fun x hx => List.rel_of_pairwise_cons h1 hx, find_lt fun x hx => List.rel_of_pairwise_cons h2 hx]
    · have := h5 n hn
      rw [find, find] at this
      have hb : (p.node == n) = false := by simpa using Ne.symm hn'
      rwa [hb, cond_false, cond_false] at this
end Go.Proofs.YtccmadehnoihnaaGreatDoor

namespace Go.Proofs.YtccmadehnoihnaaGreatDoor
open Go Go.Proofs.YtccmadehnoihnaaGreatDoor.Fw

theorem Way.first {l : List Place} {ok : Int → Prop} (a : Int) {x b : Int} {k : Nat} (h : Way l ok x b k) :
    (∃ k', Way l (fun z => ok z ∧ z ≠ a) x b k') ∨ (∃ k', Way l (fun z => ok z ∧ z ≠ a) x a k') := by
  induction h with
  | here x => exact .inl ⟨0, .here _⟩
  | @up x b k hok hn h ih =>
    by_cases hx : x = a
    · subst hx; exact .inr ⟨0, .here _⟩
    · rcases ih with ⟨k', hw⟩ | ⟨k', hw⟩
      · exact .inl ⟨k' + 1, .up ⟨hok, hx⟩ hn hw⟩
      · exact .inr ⟨k' + 1, .up ⟨hok, hx⟩ hn hw⟩

theorem Way.turn {l l' : List Place} {ok : Int → Prop} (hf : ∀ z, ok z → find l' z = find l z) {a b : Int} {k : Nat} (h : Way l ok a b k) : Way l' ok a b k := by
  induction h with
  | here x => exact .here x
  | up hok hn _ ih => exact .up hok (by rw [hf _ hok]; exact hn) (by rw [hf _ hok]; exact ih)

theorem find_mem : ∀ {l : List Place}, l.Pairwise (fun a b => a.node < b.node) → ∀ p ∈ l, find l p.node = p
  | q :: r, h, p, hp => by
    rw [find]
    rcases List.mem_cons.1 hp with rfl | hp
    · simp
    · have := List.rel_of_pairwise_cons h hp
      have hb : (q.node == p.node) = false := by simp; omega
      rw [hb, cond_false]
      exact find_mem (List.Pairwise.of_cons h) p hp

theorem putT_f {l : List Place} {p : Place} (h : 0 ≤ p.parent) : putT l p = put p false l := by
  unfold putT
  have : decide (p.parent < 0) = false := by simp; omega
  rw [this]
theorem putT_t {l : List Place} {p : Place} (h : p.parent < 0) : putT l p = put p true l := by
  unfold putT
  have : decide (p.parent < 0) = true := by simp; omega
  rw [this]
theorem find_putT (l : List Place) (p : Place) (n : Int) : find (putT l p) n = bif n == p.node then (bif decide (p.parent < 0) then ⟨0, 0, 0⟩ else p) else find l n := by
  unfold putT
  cases decide (p.parent < 0) with
  | true => rw [find_put_t]; rfl
  | false => rw [find_put_f]; rfl

theorem IsTree.node {l : List Place} (h : IsTree l) : ∀ p ∈ l, 1 ≤ p.node := fun p hp => (plc_ok (h.ok p hp)).1

theorem IsTree.put {l : List Place} (h : IsTree l) {p : Place} (hp : place p = 0) (hs : ¬ Up l p.parent p.node) : IsTree (putT l p) := by
  have hpp := plc_ok hp
  have hfind : ∀ n, n ≠ p.node → find (putT l p) n = find l n := fun n hn => by
    rw [find_putT]
    have : (n == p.node) = false := by simpa using hn
    rw [this]; rfl
  have hmem : ∀ x, x ∈ putT l p → x = p ∨ (x ∈ l ∧ x.node ≠ p.node) := fun x hx => by
    rw [putT_f hpp.2.2.1] at hx
    exact mem_put_f p x l hx
  refine ⟨fun x hx => ?_, by rw [putT_f hpp.2.2.1]; exact put_f_up p h.up, fun x hx hu => ?_⟩
  · rcases hmem x hx with rfl | ⟨hx, _⟩
    · exact hp
    · exact h.ok x hx
  · obtain ⟨k, hw⟩ := hu
    have back : ∀ {a b : Int} {k : Nat}, Way (putT l p) (fun z => True ∧ z ≠ p.node) a b k → Up l a b := fun hw => ⟨_, (hw.turn (l' := l) fun z hz => (hfind z hz.2).symm).mono fun _ _ => trivial⟩
    rcases hw.last p.node with ⟨k', h1⟩ | ⟨_, _, k', h1⟩
    · rcases hmem x hx with rfl | ⟨hx, _⟩
      · exact hs (back h1)
      · exact h.no x hx (back h1)
    · have e : (find (putT l p) p.node).parent = p.parent := by
        rw [find_putT]
        have : decide (p.parent < 0) = false := by simp; omega
        simp [this]
      rw [e] at h1
      have hu := back h1
      rcases hmem x hx with rfl | ⟨hxl, hxn⟩
      · exact hs hu
      · rcases hw.first p.node with ⟨k2, h2⟩ | ⟨k2, h2⟩
        · exact h.no x hxl (back h2)
        · have hup : Up l x.node p.node := by
            obtain ⟨k3, h3⟩ := back h2
            have := find_mem h.up x hxl
            exact ⟨k3 + 1, .up trivial (by rw [this]; have := h.node x hxl; omega) (by rw [this]; exact h3)⟩
          exact hs (hu.trans hup)

theorem chkO_ok {o : Op} (h : chkO o = 0) : 1 ≤ o.time ∧ o.time ≤ 10000 ∧ 0 ≤ o.who ∧ o.who < 3 ∧ 1 ≤ o.node ∧ o.node < 16 ∧ 0 ≤ o.parent ∧ o.parent ≤ 16 ∧ 0 ≤ o.name ∧ o.name ≤ 99 ∧ 1 ≤ o.life ∧ o.life ≤ 50 ∧ 1 ≤ o.seq ∧ o.seq ≤ 30 := by
  unfold chkO at h
  generalize hb : (decide (o.time < 1) || decide (o.time > 10000) || decide (o.who < 0) || decide (o.who ≥ 3) || decide (o.node < 1) || decide (o.node ≥ 16) || decide (o.parent < 0) || decide (o.parent > 16) || decide (o.name < 0) || decide (o.name > 99) || decide (o.life < 1) || decide (o.life > 50) || decide (o.seq < 1) || decide (o.seq > 30)) = b at h
  cases b with
  | true => simp at h
  | false => simp only [Bool.or_eq_false_iff, decide_eq_false_iff_not] at hb; omega

def opPlace (o : Op) : Place := ⟨o.node, o.parent, o.name⟩
theorem opPlace_ok {o : Op} (h : chkO o = 0) : place (opPlace o) = 0 := by
  have := chkO_ok h
  have hb : (decide ((opPlace o).node < 1) || decide ((opPlace o).node ≥ 16) || decide ((opPlace o).parent < 0) || decide ((opPlace o).parent > 16) || decide ((opPlace o).name < 0) || decide ((opPlace o).name > 99)) = false := by
    have e1 : (opPlace o).node = o.node := rfl
    have e2 : (opPlace o).parent = o.parent := rfl
    have e3 : (opPlace o).name = o.name := rfl
    simp only [e1, e2, e3, Bool.or_eq_false_iff, decide_eq_false_iff_not]; omega
  unfold place
  rw [hb]; rfl

theorem moveDo_err (l : List Place) (o : Op) : (moveDo l o).2.2 = bif checkT l != 0 then checkT l else chkO o := by
  unfold moveDo
  cases h1 : checkT l != 0 with
  | true => rfl
  | false =>
    cases h2 : chkO o != 0 with
    | true => rfl
    | false =>
      have h2 : chkO o = 0 := by simpa using h2
      cases stands l o.parent o.node <;> simp [h2]

theorem moveDo_ok {l : List Place} {o : Op} (h : (moveDo l o).2.2 = 0) : checkT l = 0 ∧ chkO o = 0 := by
  rw [moveDo_err] at h
  cases h1 : checkT l != 0 with
  | true => rw [h1, cond_true] at h; simp [h] at h1
  | false => rw [h1, cond_false] at h; exact ⟨by simpa using h1, h⟩

theorem moveDo_eq {l : List Place} {o : Op} (h1 : checkT l = 0) (h2 : chkO o = 0) : moveDo l o = bif stands l o.parent o.node then (l, ⟨o, false, find l o.node⟩, 0) else (putT l (opPlace o), ⟨o, true, find l o.node⟩, 0) := by
  unfold moveDo
  rw [h1, h2]; rfl

theorem find_none {n : Int} : ∀ {l : List Place}, (∀ p ∈ l, p.node ≠ n) → find l n = ⟨0, 0, 0⟩
  | [], _ => rfl
  | p :: r, h => by
    rw [find]
    have : (p.node == n) = false := by simpa using h p (.head _)
    rw [this, cond_false]
    exact find_none fun q hq => h q (.tail _ hq)

structure Moved (l : List Place) (o : Op) : Prop where
  tree : checkT (moveDo l o).1 = 0
  did : (moveDo l o).2.1.did = !stands l o.parent o.node
  op : (moveDo l o).2.1.o = o
  under : under l o.parent o.node = (stands l o.parent o.node, 0)
  else_ : ∀ n, n ≠ o.node → find (moveDo l o).1 n = find l n
  node : (moveDo l o).2.1.did = true → find (moveDo l o).1 o.node = opPlace o
  undo : moveUndo (moveDo l o).1 (moveDo l o).2.1 = (l, 0)

theorem moved_of {l : List Place} {o : Op} (h : (moveDo l o).2.2 = 0) : Moved l o := by
  obtain ⟨h1, h2⟩ := moveDo_ok h
  have ho := chkO_ok h2
  have hunder : under l o.parent o.node = (stands l o.parent o.node, 0) := by
    unfold under
    have hb : (decide (o.parent < 0) || decide (o.parent > 16) || decide (o.node < 0) || decide (o.node > 16)) = false := by simp only [Bool.or_eq_false_iff, decide_eq_false_iff_not]; omega
    rw [h1, hb]; rfl
  cases hs : stands l o.parent o.node with
  | true =>
    have e : moveDo l o = (l, ⟨o, false, find l o.node⟩, 0) := by rw [moveDo_eq h1 h2, hs]; rfl
    refine ⟨by rw [e]; exact h1, by rw [e, hs]; rfl, by rw [e], by rw [hunder, hs], fun n _ => by rw [e], fun hd => (by rw [e] at hd; cases hd), ?_⟩
    rw [e]
    unfold moveUndo
    simp [h1, h2]
  | false =>
    have e : moveDo l o = (putT l (opPlace o), ⟨o, true, find l o.node⟩, 0) := by rw [moveDo_eq h1 h2, hs]; rfl
    have hT := (checkT_iff l).1 h1
    have hT' : IsTree (putT l (opPlace o)) := hT.put (opPlace_ok h2) fun hu => by rw [← stands_iff] at hu; rw [show (opPlace o).parent = o.parent from rfl, show (opPlace o).node = o.node from rfl, hs] at hu; cases hu
    have hc' := (checkT_iff _).2 hT'
    have hnp : decide ((opPlace o).parent < 0) = false := decide_eq_false (show ¬ o.parent < 0 by omega)
    have hfn : find (putT l (opPlace o)) o.node = opPlace o := by
      rw [find_putT, hnp]
      simp [opPlace]
    have hfe : ∀ n, n ≠ o.node → find (putT l (opPlace o)) n = find l n := fun n hn => by
      rw [find_putT]
      have : (n == (opPlace o).node) = false := by simpa [opPlace] using hn
      rw [this]; rfl
    refine ⟨by rw [e]; exact hc', by rw [e, hs]; rfl, by rw [e], by rw [hunder, hs], fun n hn => by rw [e]; exact hfe n hn, fun _ => by rw [e]; exact hfn, ?_⟩
    rw [e]
    have hwas : (wasOf ⟨o, true, find l o.node⟩).node = o.node := by
      unfold wasOf
      cases hz : (find l o.node).node == 0 with
      | true => rfl
      | false => exact (find_node (by simpa using hz)).1
    have hback : putT (putT l (opPlace o)) (wasOf ⟨o, true, find l o.node⟩) = l := by
      unfold wasOf
      cases hz : (find l o.node).node == 0 with
      | true =>
        simp only [cond_true]
        have hz : (find l o.node).node = 0 := by simpa using hz
        have hz2 : find l o.node = ⟨0, 0, 0⟩ := by
          by_cases hm : ∃ p ∈ l, p.node = o.node
          · obtain ⟨p, hp, hpn⟩ := hm
            rw [← hpn, find_mem hT.up p hp] at hz
            have := hT.node p hp
            omega
          · exact find_none fun p hp hpn => hm ⟨p, hp, hpn⟩
        have hneg : (⟨o.node, -1, 0⟩ : Place).parent < 0 := by simp
        have hsub : ∀ p ∈ putT (putT l (opPlace o)) ⟨o.node, -1, 0⟩, p ∈ putT l (opPlace o) := fun p hp => by rw [putT_t hneg] at hp; exact (mem_put_t _ _ _ hp).1
        refine ext_find (by rw [putT_t hneg]; exact put_t_up _ hT'.up) hT.up (fun p hp => hT'.node p (hsub p hp)) hT.node fun n _ => ?_
        rw [find_putT]
        by_cases hn : n = o.node
        · subst hn; simp [hz2]
        · have : (n == (⟨o.node, -1, 0⟩ : Place).node) = false := by simpa using hn
          rw [this, cond_false, hfe n hn]
      | false =>
        simp only [cond_false]
        have hz : (find l o.node).node ≠ 0 := by simpa using hz
        obtain ⟨hn0, hm0⟩ := find_node hz
        have hok := plc_ok (hT.ok _ hm0)
        have hnp2 : decide ((find l o.node).parent < 0) = false := decide_eq_false (by omega)
        refine ext_find (by rw [putT_f (by omega)]; exact put_f_up _ hT'.up) hT.up (fun p hp => ?_) hT.node fun n _ => ?_
        · rw [putT_f (by omega)] at hp
          rcases mem_put_f _ _ _ hp with rfl | ⟨hp, _⟩
          · omega
          · exact hT'.node p hp
        · rw [find_putT, hnp2]
          by_cases hn : n = o.node
          · subst hn; simp [hn0]
          · have : (n == (find l o.node).node) = false := by rw [hn0]; simpa using hn
            rw [this, cond_false, hfe n hn]
    unfold moveUndo
    have hx : ((wasOf ⟨o, true, find l o.node⟩).node != o.node || find (putT l (opPlace o)) o.node != ⟨o.node, o.parent, o.name⟩) = false := by
      rw [hwas, hfn]; simp [opPlace]
    simp only [hc', h2, hback, h1, hx, bne_self_eq_false, cond_false, Bool.not_true]
end Go.Proofs.YtccmadehnoihnaaGreatDoor

namespace Go.Proofs.YtccmadehnoihnaaGreatDoor
open Go Go.Proofs.YtccmadehnoihnaaGreatDoor.Fw Go.Proofs
/-! ### What the code computes, in plain words -/
theorem tree_place_eq (p : Place) : tree_place p = place p := rfl
theorem tree_Find_eq : ∀ (l : List Place) (n : Int), tree_Find l n = find l n
  | [], _ => rfl
  | p :: r, n => by
    have ih := tree_Find_eq r n
    unfold tree_Find at ih ⊢
    rw [tree_Find_L0, find, ih]
theorem tree_Stands_eq (l : List Place) (nd top : Int) : tree_Stands l nd top = stands l nd top := by
  have key : ∀ (f : Nat) (nd : Int), tree_Stands_L0 l top f nd = standsF l top f nd := by
    intro f
    induction f with
    | zero => intro nd; rfl
    | succ f ih => intro nd; rw [tree_Stands_L0, standsF, tree_Find_eq, ih]
  unfold tree_Stands stands
  exact key _ nd
theorem tree_Check_L1_eq (t : List Place) : ∀ l : List Place, tree_Check_L1 t l = chk2 t l
  | [] => rfl
  | p :: r => by rw [tree_Check_L1, chk2, tree_Stands_eq, tree_Check_L1_eq t r]
theorem tree_Check_eq (t : List Place) : tree_Check t = checkT t := by
  have key : ∀ (r : List Place) (k : Nat), r = t.drop k → tree_Check_L0 t r k = bif chk1 t (t.length - k) k != 0 then chk1 t (t.length - k) k else chk2 t t := by
    intro r
    induction r with
    | nil =>
      intro k hr
      have : t.length - k = 0 := by have := congrArg List.length hr; simp at this; omega
      rw [tree_Check_L0, this, chk1, tree_Check_L1_eq]; rfl
    | cons p r ih =>
      intro k hr
      have hk : k < t.length := by have := congrArg List.length hr; simp at this; omega
      rw [drop_gt hk] at hr
      obtain ⟨rfl, hr'⟩ := List.cons.inj hr
      rw [tree_Check_L0, show t.length - k = (t.length - (k + 1)) + 1 by omega, chk1, tree_place_eq, ih (k + 1) hr']
      cases h1 : place (gt t k) != 0 with
      | true => simp only [cond_true, h1]
      | false =>
        simp only [cond_false]
        cases h2 : (decide ((k : Int) > 0) && decide ((gt t (k - 1)).node ≥ (gt t k).node)) <;> rfl
  unfold tree_Check checkT
  exact key t 0 rfl
theorem tree_Put_eq (l : List Place) (p : Place) : tree_Put l p = putT l p := by
  have key : ∀ (r : List Place) (d : Bool) (acc : List Place), tree_Put_L0 p r d acc = acc ++ put p d r := by
    intro r
    induction r with
    | nil => intro d acc; rw [tree_Put_L0, put]; cases d <;> simp
    | cons q r ih =>
      intro d acc
      rw [tree_Put_L0, put]
      cases h1 : (!d && decide (q.node ≥ p.node)) <;> cases h2 : q.node != p.node <;> simp only [cond_true, cond_false, ih, List.append_assoc, List.cons_append, List.nil_append]
  unfold tree_Put putT
  exact (key l _ []).trans (List.nil_append _)
theorem tree_Copy_eq (l : List Place) : tree_Copy l = l := rfl
theorem move_Check_eq (o : Op) : move_Check o = chkO o := rfl
theorem move_Do_eq (l : List Place) (o : Op) : move_Do l o = moveDo l o := by
  unfold move_Do moveDo
  rw [tree_Check_eq, tree_Stands_eq, move_Check_eq, tree_Copy_eq, tree_Put_eq, tree_Find_eq]
  rfl
theorem move_Undo_eq (l : List Place) (s : Step) : move_Undo l s = moveUndo l s := by
  unfold move_Undo moveUndo wasOf
  simp only [tree_Check_eq, move_Check_eq, tree_Copy_eq, tree_Put_eq, tree_Find_eq]
  cases s.was.node == 0 <;> rfl
end Go.Proofs.YtccmadehnoihnaaGreatDoor

set_option maxHeartbeats 2000000
namespace Go.Proofs.YtccmadehnoihnaaGreatDoor
open Go Go.Proofs.YtccmadehnoihnaaGreatDoor.Fw Go.Proofs
attribute [local irreducible] RdL RdN VarP RW CW
theorem hub_L0_ok : ∀ {l : List Peer}, hub_Check_L0 l = 0 → ∀ p ∈ l, (0 ≤ p.life ∧ p.life ≤ 50 ∧ 0 ≤ p.seq ∧ p.seq ≤ 30) ∧ (p.life = 0 → p.seq = 0 ∧ p.roots = []) ∧ view_Roots p.roots = 0
  | [], _ => by simp
  | q :: l, h => by
    rw [hub_Check_L0] at h
    cases h1 : (((decide (q.life < 0) || decide (q.life > 50)) || decide (q.seq < 0)) || decide (q.seq > 30)) with
    | true => rw [h1, cond_true] at h; cases h
    | false =>
    rw [h1, cond_false] at h
    cases h2 : ((q.life == 0) && (decide (q.seq > 0) || decide ((q.roots.length : Int) > 0))) with
    | true => rw [h2, cond_true] at h; cases h
    | false =>
    rw [h2, cond_false] at h
    cases h3 : (view_Roots q.roots != 0) with
    | true => rw [h3, cond_true] at h; rw [h] at h3; cases h3
    | false =>
    rw [h3, cond_false] at h
    intro p hp
    rcases List.mem_cons.1 hp with rfl | hp
    · simp only [Bool.or_eq_false_iff, decide_eq_false_iff_not] at h1
      refine ⟨by omega, fun hl => ?_, eq_of_bne_false h3⟩
      simp only [Bool.and_eq_false_iff, beq_eq_false_iff_ne, Bool.or_eq_false_iff, decide_eq_false_iff_not] at h2
      rcases h2 with h2 | h2
      · exact absurd hl h2
      · exact ⟨by omega, List.length_eq_zero_iff.1 (by omega)⟩
    · exact hub_L0_ok h p hp
theorem hub_peers {h : Hub} (hc : hub_Check h = 0) : ∀ p ∈ h.peers, (0 ≤ p.life ∧ p.life ≤ 50 ∧ 0 ≤ p.seq ∧ p.seq ≤ 30) ∧ (p.life = 0 → p.seq = 0 ∧ p.roots = []) ∧ view_Roots p.roots = 0 := by
  obtain ⟨h1, h2, h3, h4⟩ := hub_Check_len hc
  have e1 : (history_Check h.h != 0) = false := by rw [h1]; rfl
  have e2 : (decide (h.version < 0) || decide (h.version > 60)) = false := by simp; omega
  have e3 : ((h.peers.length : Int) != 3) = false := by rw [h4]; rfl
  unfold hub_Check at hc
  rw [e1, cond_false, e2, cond_false, e3, cond_false] at hc
  exact hub_L0_ok hc
theorem hub_seq {h : Hub} (hc : hub_Check h = 0) : ∀ p ∈ h.peers, 0 ≤ p.seq ∧ p.seq ≤ 30 := fun p hp => by have := (hub_peers hc p hp).1; omega
theorem note_who {r : Rec} (h : note_Check r = 0) : (r.kind = 1 → 0 ≤ r.o.who ∧ r.o.who < 3) ∧ (r.kind ≠ 1 → 0 ≤ r.who ∧ r.who < 3) ∧ 1 ≤ r.kind ∧ r.kind ≤ 3 ∧ (r.kind ≠ 1 → view_Roots r.roots = 0) := by
  unfold note_Check at h
  cases h1 : (decide (r.kind < 1) || decide (r.kind > 3)) with
  | true => rw [h1, cond_true] at h; cases h
  | false =>
  rw [h1, cond_false] at h
  simp only [Bool.or_eq_false_iff, decide_eq_false_iff_not] at h1
  cases h2 : (r.kind == 1) with
  | true =>
    rw [h2, cond_true] at h
    have h2 := eq_of_beq h2
    cases h3 : (((r.who != 0) || (r.life != 0)) || decide ((r.roots.length : Int) > 0)) with
    | true => rw [h3, cond_true] at h; cases h
    | false =>
      rw [h3, cond_false, move_Check_eq] at h
      have := chkO_ok h
      exact ⟨fun _ => by omega, fun hn => absurd h2 hn, by omega, by omega, fun hn => absurd h2 hn⟩
  | false =>
    rw [h2, cond_false] at h
    have h2 := beq_eq_false_iff_ne.1 h2
    cases h3 : (((!(decide (r.o = (⟨0, 0, 0, 0, 0, 0, 0⟩ : Op)))) || ((r.kind == 3) && (r.life != 0))) || ((r.kind == 2) && decide ((r.roots.length : Int) > 0))) with
    | true => rw [h3, cond_true] at h; cases h
    | false =>
      rw [h3, cond_false] at h
      cases h4 : ((decide (r.who < 0) || decide (r.who ≥ 3)) || ((r.kind == 2) && (decide (r.life < 1) || decide (r.life > 50)))) with
      | true => rw [h4, cond_true] at h; cases h
      | false =>
        rw [h4, cond_false] at h
        simp only [Bool.or_eq_false_iff, decide_eq_false_iff_not] at h4
        exact ⟨fun he => absurd he h2, fun _ => by omega, by omega, by omega, fun _ => h⟩

def hub_accept (h1 : Hub) (o1 : Op) : Int × Hub :=
  (bif ((((gt h1.peers o1.who.toNat).life) != o1.life) || ((((gt h1.peers o1.who.toNat).seq) + 1) != o1.seq)) then (7, h1) else (bif (((history_Put h1.h o1).2) == 0) then ((history_Put h1.h o1).2, (⟨((history_Put h1.h o1).1), h1.version, (h1.peers.set o1.who.toNat (⟨(gt h1.peers o1.who.toNat).life, o1.seq, (gt h1.peers o1.who.toNat).roots⟩ : Peer))⟩ : Hub)) else ((history_Put h1.h o1).2, h1)))
theorem hub_accept_spec (c1 : Nat) (y1 : SlV) (y2 : SlV) (y3 : SlV) (y3b : Option Nat) (γ1 : Nat → SlV) (h1 : Hub) (o1 : Op) (hp : h1.peers.length = 3) (hw : 0 ≤ o1.who ∧ o1.who < 3) (hl : h1.h.l.length ≤ 1000) (hs : ∀ p ∈ h1.peers, 0 ≤ p.seq ∧ p.seq ≤ 30) : DoesG Tryz.prog 32 [.pointer (some ⟨c1, 0, none⟩), .agg ⟨[.int .i64 o1.time, .int .i64 o1.who, .int .i64 o1.node, .int .i64 o1.parent, .int .i64 o1.name, .int .i64 o1.life, .int .i64 o1.seq]⟩] [RdL EStep y1 h1.h.l, RdL EPlace y2 h1.h.t, FactsG NPeer γ1 h1.peers] ⟨[⟨c1, 31, [y1.val h1.h.l.length, y2.val h1.h.t.length, .int .i64 h1.version, y3.val h1.peers.length]⟩], [ownL NPeer.E 66 y3 y3b (zipG γ1 0 h1.peers)]⟩ (fun (X : SlV × SlV × SlV × Option Nat × (Nat → SlV)) => .int .i64 ((hub_accept h1 o1).1)) (fun (X : SlV × SlV × SlV × Option Nat × (Nat → SlV)) => [RdL EStep X.1 ((((hub_accept h1 o1).2).h).l), RdL EPlace X.2.1 ((((hub_accept h1 o1).2).h).t), FactsG NPeer X.2.2.2.2 (((hub_accept h1 o1).2).peers)]) (fun (X : SlV × SlV × SlV × Option Nat × (Nat → SlV)) => ⟨[⟨c1, 31, [X.1.val ((((hub_accept h1 o1).2).h).l).length, X.2.1.val ((((hub_accept h1 o1).2).h).t).length, .int .i64 (((hub_accept h1 o1).2).version), X.2.2.1.val (((hub_accept h1 o1).2).peers).length]⟩], [ownL NPeer.E 66 X.2.2.1 X.2.2.2.1 (zipG X.2.2.2.2 0 (((hub_accept h1 o1).2).peers))]⟩) := by
  refine does_ofG tab_ok Tryz.func32 rfl Tryz.ntmps32 Tryz.results32 rfl inferInstance (fun _ => inferInstance) fun C => ?_
  refine Tx ?_
  refine Bx fun g1 => ?_
  refine Tx ?_
  have hsb := hs (gt h1.peers o1.who.toNat) (gt_mem (by omega))
  (repeat refine cw_seq ?_); refine cw_regionA (fun _ => some []) ?_
  refine Rb 0 [4,5,6] [1,2,3,7,8] rfl Qp ?_
  refine Rb 1 [4,5,6] [2,3,7,8] rfl Qp ?_
  refine Rb 2 [4,5,6] [3,7,8] rfl Qp ?_
  refine Ra 3 [4,5,6] rfl Q1 ?_
  refine Rb 4 [] [5,6,7,8] rfl Qp ?_
  refine Rb 5 [] [6,7,8] rfl Qp ?_
  refine Ra 6 [] rfl Q1 ?_
  refine rw_qO NPeer.E (e := 66) (X := y3) (b := y3b) (l := zipG γ1 0 h1.peers) Mm (.an (i := 7) (js := []) rfl Kr Kr Kr Kr) rfl rfl rfl (q_idxN NPeer γ1 o1.who.toNat rfl rfl (fun _ => rfl) rfl (fun _ => rfl) rfl rfl rfl (.head _) rfl (fun _ => by omega) (fun _ => by first | assumption | omega | (simp only [List.length_set]; omega))) ?_
  refine Ra 8 [] rfl Qp ?_
  refine ra_nil Kr ?_
  (repeat refine cw_seq ?_); refine cw_regionA (fun _ => some []) ?_
  refine Rb 0 [4,5] [1,2,3,6,7,8,9,10,11,12,13,14,15,16] rfl Qp ?_
  refine Rb 1 [4,5] [2,3,6,7,8,9,10,11,12,13,14,15,16] rfl Qp ?_
  refine Rb 2 [4,5] [3,6,7,8,9,10,11,12,13,14,15,16] rfl (q_fae rfl rfl (fun _ => rfl) rfl rfl) ?_
  refine rw_qO NPeer.E (e := 66) (X := y3) (b := y3b) (l := zipG γ1 0 h1.peers) Mm (.ab (i := 3) (js := [4, 5]) [6, 7, 8, 9, 10, 11, 12, 13, 14, 15, 16] rfl Kr Kr Kr Kr Kr) rfl rfl rfl (q_le1N NPeer γ1 (v := .int .i64 ((gt h1.peers o1.who.toNat).life)) rfl rfl (fun _ => rfl) rfl rfl (.head _) (fun _ => by first | assumption | omega | (simp only [List.length_set]; omega)) rfl) ?_
  refine Rb 4 [] [5,6,7,8,9,10,11,12,13,14,15,16] rfl Qp ?_
  refine Rb 5 [] [6,7,8,9,10,11,12,13,14,15,16] rfl Q1 ?_
  refine Rb 6 [] [7,8,9,10,11,12,13,14,15,16] rfl Qp ?_
  refine Ra 7 [] rfl Qp ?_
  refine Gb 8 [13,14] [9,10,11,12,15,16] rfl (guard_vf rfl rfl rfl) (q_pev rfl Bt) ?_
  refine Gb 9 [13,14] [10,11,12,15,16] rfl (guard_vf rfl rfl rfl) (q_pev rfl Bt) ?_
  refine Gb 10 [13,14] [11,12,15,16] rfl (guard_vf rfl rfl rfl) (q_fae rfl rfl Bt rfl rfl) ?_
  refine rw_qgO NPeer.E (e := 66) (X := y3) (b := y3b) (l := zipG γ1 0 h1.peers) Mm (.ab (i := 11) (js := [13, 14]) [12, 15, 16] rfl Kr Kr Kr Kr Kr) (guard_vf rfl rfl rfl) rfl rfl (q_le1N NPeer γ1 (v := .int .i64 ((gt h1.peers o1.who.toNat).seq)) rfl rfl Bt rfl rfl (.head _) (by first | (intro _; first | assumption | omega | (simp only [List.length_set]; omega)) | (intro h; simp at h; omega)) rfl) ?_
  refine Gb 12 [13,14] [15,16] rfl (guard_vf rfl rfl rfl) (q_add rfl rfl Bt rfl Bt (by intro h; first | omega | (simp at h; omega))) ?_
  refine Gb 13 [] [14,15,16] rfl (guard_vf rfl rfl rfl) (q_pev rfl Bt) ?_
  refine Gb 14 [] [15,16] rfl (guard_vf rfl rfl rfl) (q_ld1 rfl rfl Bt rfl Mm rfl) ?_
  refine Ga 15 [] rfl (guard_vf rfl rfl rfl) (q_pev rfl Bt) ?_
  refine Ra 16 [] rfl (q_pev rfl Bt) ?_
  refine ra_nil Kr ?_
  (repeat refine cw_seq ?_)
  refine Cd (b := ((((gt h1.peers o1.who.toNat).life) != o1.life) || ((((gt h1.peers o1.who.toNat).seq) + 1) != o1.seq))) (fun hc1 => ?_) fun hc1 => ?_
  · refine Tx ?_
    have hr1 : (hub_accept h1 o1) = (7, h1) := by simp only [hub_accept, hc1, cond_true, cond_false]
    refine cw_ret ?_; rw [hr1]; exact Re ⟨y1, y2, y3, y3b, γ1⟩ (Vt Vn)
  · refine Tx ?_
    refine cw_join [0, 3, 4, 5] [true, true] (fun (i_ : Nat × SlV × SlV) => match i_ with | ⟨g2, x1, x2⟩ => [(6, .v (.pointer (some ⟨g2, 0, none⟩))), (7, .v (.int .i64 ((history_Put h1.h o1).2)))]) (fun (i_ : Nat × SlV × SlV) => match i_ with | ⟨g2, x1, x2⟩ => [⟨g2, 28, [x1.val (((history_Put h1.h o1).1).l).length, x2.val (((history_Put h1.h o1).1).t).length]⟩]) (fun (i_ : Nat × SlV × SlV) => match i_ with | ⟨g2, x1, x2⟩ => [ownL NPeer.E 66 y3 y3b (zipG γ1 0 h1.peers)]) (fun (i_ : Nat × SlV × SlV) => match i_ with | ⟨g2, x1, x2⟩ => [RdL EStep x1 (((history_Put h1.h o1).1).l), RdL EPlace x2 (((history_Put h1.h o1).1).t)]) (fun _ => True) (.cons rfl (.cons rfl (.cons rfl (.cons rfl (.nil _))))) (.keep (.keep (.nil))) ?_ ?_
    · refine cw_regionA (fun j => match j with | 10 => none | _ => some []) ?_
      refine Rb 0 [4,9] [1,2,3,5,6,7,8,10,11] rfl Qp ?_
      refine Rb 1 [4,9] [2,3,5,6,7,8,10,11] rfl Qp ?_
      refine Rb 2 [4,9] [3,5,6,7,8,10,11] rfl Qp ?_
      refine Rb 3 [4,9] [5,6,7,8,10,11] rfl (q_ldP rfl rfl (fun _ => rfl) rfl Mm rfl) ?_
      refine Rb 4 [9] [5,6,7,8,10,11] rfl (q_ldA rfl rfl (fun _ => rfl) rfl Mm rfl) ?_
      refine ra_two 5 9 Kr ?_ ?_
      · refine rw_call (history_Put_spec y1 y2 h1.h o1 (by first | assumption | omega)) (.an rfl rfl) (guard_none rfl) rfl rfl rfl Kr rfl rfl Sm ?_
        intro x3
        refine Pr EStep x3.1 (((history_Put h1.h o1).1).l) 88 fun hlen1 => ?_
        refine Pr EPlace x3.2 (((history_Put h1.h o1).1).t) 24 fun hlen2 => ?_
        refine Ra 6 [9] rfl Qp ?_
        refine Ra 7 [8,9] rfl Qp ?_
        refine ra_p (.an (i := 8) (js := [9, 10]) rfl Kr Kr Kr Kr) rfl rfl rfl (q_pev rfl (fun _ => rfl)) ?_
        refine ra_one 9 Kr ?_
        refine rw_alloc (.an rfl rfl) (guard_none rfl) rfl rfl rfl rfl fun g3 => ?_
        refine ra_one 10 Kr ?_
        refine rw_stA (.lo [g3] rfl rfl) (.inr (by simp)) (guard_none rfl) rfl rfl rfl rfl rfl rfl rfl rfl rfl Ub rfl ?_
        refine Ra 11 [] rfl Qp ?_
        refine ra_nil Kr ?_
        refine ⟨⟨g3, x3.1, x3.2⟩, trivial, Le4⟩
      · refine rw_alloc (.an rfl rfl) (guard_none rfl) rfl rfl rfl rfl fun g4 => ?_
        refine ra_one 5 Kr ?_
        refine rw_call (history_Put_spec y1 y2 h1.h o1 (by first | assumption | omega)) (.an rfl rfl) (guard_none rfl) rfl rfl rfl Kr rfl rfl Sm ?_
        intro x4
        refine Pr EStep x4.1 (((history_Put h1.h o1).1).l) 88 fun hlen3 => ?_
        refine Pr EPlace x4.2 (((history_Put h1.h o1).1).t) 24 fun hlen4 => ?_
        refine Ra 6 [] rfl Qp ?_
        refine Ra 7 [8] rfl Qp ?_
        refine ra_p (.an (i := 8) (js := [10]) rfl Kr Kr Kr Kr) rfl rfl rfl (q_pev rfl (fun _ => rfl)) ?_
        refine ra_one 10 Kr ?_
        refine rw_stA (.lo [g4] rfl rfl) (.inr (by simp)) (guard_none rfl) rfl rfl rfl rfl rfl rfl rfl rfl rfl Ub rfl ?_
        refine Ra 11 [] rfl Qp ?_
        refine ra_nil Kr ?_
        refine ⟨⟨g4, x4.1, x4.2⟩, trivial, Le4⟩
    · rintro ⟨g2, x1, x2⟩ -
      simp only [List.cons_append, List.nil_append]
      refine Tx ?_
      refine Cd (b := (((history_Put h1.h o1).2) == 0)) (fun hc2 => ?_) fun hc2 => ?_
      · have hc2p := eq_of_beq hc2
        (repeat refine cw_seq ?_); refine cw_regionA (fun j => match j with | 7 => none | 10 => none | _ => some []) ?_
        refine Ra 0 [1,2,3,4] rfl Qp ?_
        refine ra_p (.an (i := 1) (js := [2, 3, 4, 5, 6, 7]) rfl Kr Kr Kr Kr) rfl rfl rfl (q_pev rfl (fun _ => rfl)) ?_
        refine Ra 2 [3,4] rfl (q_ldA rfl rfl (fun _ => rfl) rfl Mm rfl) ?_
        refine ra_p (.an (i := 3) (js := [5, 6, 7]) rfl Kr Kr Kr Kr) rfl rfl rfl (q_pev rfl (fun _ => rfl)) ?_
        refine Rb 5 [4] [6,7,8,9,10] rfl Qp ?_
        refine Ra 6 [4] rfl Qp ?_
        refine ra_two 4 7 Kr ?_ ?_
        · refine ra_now rfl rfl rfl rfl (q_ld1 rfl rfl (fun _ => rfl) rfl Mm rfl) ?_
          refine ra_one 7 Kr ?_
          refine rw_stP (.lo [c1] rfl rfl) (.inr (by simp)) (guard_none rfl) rfl rfl rfl rfl rfl rfl rfl rfl rfl Ub rfl ?_
          refine Rb 8 [] [9,10] rfl Qp ?_
          refine Ra 9 [] rfl (q_fae rfl rfl (fun _ => rfl) rfl rfl) ?_
          refine ra_one 10 Kr ?_
          refine rw_stON NPeer γ1 h1.peers o1.who.toNat 1 (γ1 o1.who.toNat) (⟨(gt h1.peers o1.who.toNat).life, o1.seq, (gt h1.peers o1.who.toNat).roots⟩ : Peer) (e := 66) (X := y3) (b := y3b) (.lo y3b.toList rfl rfl) (.inr (fun g h => by simp [h])) (guard_none rfl) rfl rfl rfl rfl rfl rfl rfl rfl rfl rfl rfl (by first | assumption | omega | (simp only [List.length_set]; omega)) rfl Uo ?_
          refine rw_fact (F := RdL EInt (γ1 o1.who.toNat) ((gt h1.peers o1.who.toNat).roots)) [FactsG NPeer γ1 h1.peers] Sm (fun M w h => (allF1 h) o1.who.toNat (by first | assumption | omega) _ (.head _)) ?_
          refine rw_fact (F := FactsG NPeer (updG γ1 o1.who.toNat (γ1 o1.who.toNat)) (h1.peers.set o1.who.toNat (⟨(gt h1.peers o1.who.toNat).life, o1.seq, (gt h1.peers o1.who.toNat).roots⟩ : Peer))) [FactsG NPeer γ1 h1.peers, RdL EInt (γ1 o1.who.toNat) ((gt h1.peers o1.who.toNat).roots)] Sm (fun M w h => FactsG.upd NPeer (h _ (.head _)) (allF_sub Sm h)) ?_
          have hv1 : y3.val h1.peers.length = y3.val (h1.peers.set o1.who.toNat (⟨(gt h1.peers o1.who.toNat).life, o1.seq, (gt h1.peers o1.who.toNat).roots⟩ : Peer)).length := congrArg (SlV.val y3) List.length_set.symm
          try rw [hv1]
          refine ra_nil Kr ?_
          refine Tx ?_
          have hr2 : (hub_accept h1 o1) = ((history_Put h1.h o1).2, (⟨((history_Put h1.h o1).1), h1.version, (h1.peers.set o1.who.toNat (⟨(gt h1.peers o1.who.toNat).life, o1.seq, (gt h1.peers o1.who.toNat).roots⟩ : Peer))⟩ : Hub)) := by simp only [hub_accept, hc1, hc2, cond_true, cond_false]
          refine cw_ret ?_; rw [hr2]; exact Re ⟨x1, x2, y3, y3b, (updG γ1 o1.who.toNat (γ1 o1.who.toNat))⟩ (Vt Vn)
        · refine rw_stP (.lo [c1] rfl rfl) (.inr (by simp)) (guard_none rfl) rfl rfl rfl rfl rfl rfl rfl rfl rfl Ub rfl ?_
          refine Ra 4 [] rfl Q1 ?_
          refine Rb 8 [] [9,10] rfl Qp ?_
          refine Ra 9 [] rfl (q_fae rfl rfl (fun _ => rfl) rfl rfl) ?_
          refine ra_one 10 Kr ?_
          refine rw_stON NPeer γ1 h1.peers o1.who.toNat 1 (γ1 o1.who.toNat) (⟨(gt h1.peers o1.who.toNat).life, o1.seq, (gt h1.peers o1.who.toNat).roots⟩ : Peer) (e := 66) (X := y3) (b := y3b) (.lo y3b.toList rfl rfl) (.inr (fun g h => by simp [h])) (guard_none rfl) rfl rfl rfl rfl rfl rfl rfl rfl rfl rfl rfl (by first | assumption | omega | (simp only [List.length_set]; omega)) rfl Uo ?_
          refine rw_fact (F := RdL EInt (γ1 o1.who.toNat) ((gt h1.peers o1.who.toNat).roots)) [FactsG NPeer γ1 h1.peers] Sm (fun M w h => (allF1 h) o1.who.toNat (by first | assumption | omega) _ (.head _)) ?_
          refine rw_fact (F := FactsG NPeer (updG γ1 o1.who.toNat (γ1 o1.who.toNat)) (h1.peers.set o1.who.toNat (⟨(gt h1.peers o1.who.toNat).life, o1.seq, (gt h1.peers o1.who.toNat).roots⟩ : Peer))) [FactsG NPeer γ1 h1.peers, RdL EInt (γ1 o1.who.toNat) ((gt h1.peers o1.who.toNat).roots)] Sm (fun M w h => FactsG.upd NPeer (h _ (.head _)) (allF_sub Sm h)) ?_
          have hv2 : y3.val h1.peers.length = y3.val (h1.peers.set o1.who.toNat (⟨(gt h1.peers o1.who.toNat).life, o1.seq, (gt h1.peers o1.who.toNat).roots⟩ : Peer)).length := congrArg (SlV.val y3) List.length_set.symm
          try rw [hv2]
          refine ra_nil Kr ?_
          refine Tx ?_
          have hr3 : (hub_accept h1 o1) = ((history_Put h1.h o1).2, (⟨((history_Put h1.h o1).1), h1.version, (h1.peers.set o1.who.toNat (⟨(gt h1.peers o1.who.toNat).life, o1.seq, (gt h1.peers o1.who.toNat).roots⟩ : Peer))⟩ : Hub)) := by simp only [hub_accept, hc1, hc2, cond_true, cond_false]
          refine cw_ret ?_; rw [hr3]; exact Re ⟨x1, x2, y3, y3b, (updG γ1 o1.who.toNat (γ1 o1.who.toNat))⟩ (Vt Vn)
      · have hc2p := ne_of_beq_false hc2
        refine Tx ?_
        have hr4 : (hub_accept h1 o1) = ((history_Put h1.h o1).2, h1) := by simp only [hub_accept, hc1, hc2, cond_true, cond_false]
        refine cw_ret ?_; rw [hr4]; exact Re ⟨y1, y2, y3, y3b, γ1⟩ (Vt Vn)
end Go.Proofs.YtccmadehnoihnaaGreatDoor

set_option maxHeartbeats 2000000
namespace Go.Proofs.YtccmadehnoihnaaGreatDoor
open Go Go.Proofs.YtccmadehnoihnaaGreatDoor.Fw Go.Proofs
attribute [local irreducible] RdL RdN VarP RW CW
def hub_next (h1 : Hub) (r1 : Rec) : Hub × Int :=
  (bif ((note_Check r1) != 0) then ((⟨(⟨([] : List Step), ([] : List Place)⟩ : History), 0, ([] : List Peer)⟩ : Hub), (note_Check r1)) else (bif (h1.version == 60) then ((⟨(⟨([] : List Step), ([] : List Place)⟩ : History), 0, ([] : List Peer)⟩ : Hub), 2) else (bif (r1.kind == 1) then (bif (((hub_accept (⟨h1.h, (h1.version + 1), h1.peers⟩ : Hub) r1.o).1) != 0) then ((⟨(⟨([] : List Step), ([] : List Place)⟩ : History), 0, ([] : List Peer)⟩ : Hub), (hub_accept (⟨h1.h, (h1.version + 1), h1.peers⟩ : Hub) r1.o).1) else (((hub_accept (⟨h1.h, (h1.version + 1), h1.peers⟩ : Hub) r1.o).2), 0)) else (bif (r1.kind == 2) then (bif (r1.life != (((gt h1.peers r1.who.toNat).life) + 1)) then ((⟨(⟨([] : List Step), ([] : List Place)⟩ : History), 0, ([] : List Peer)⟩ : Hub), 7) else ((⟨h1.h, (h1.version + 1), (h1.peers.set r1.who.toNat (⟨r1.life, 0, ([] : List Int)⟩ : Peer))⟩ : Hub), 0)) else (bif (r1.kind == 3) then (bif (((gt h1.peers r1.who.toNat).life) == 0) then ((⟨(⟨([] : List Step), ([] : List Place)⟩ : History), 0, ([] : List Peer)⟩ : Hub), 5) else ((⟨h1.h, (h1.version + 1), (h1.peers.set r1.who.toNat (⟨(gt h1.peers r1.who.toNat).life, (gt h1.peers r1.who.toNat).seq, r1.roots⟩ : Peer))⟩ : Hub), 0)) else ((⟨h1.h, (h1.version + 1), h1.peers⟩ : Hub), 0))))))
theorem hub_next_spec (y1 : SlV) (y2 : SlV) (y3 : SlV) (h1 : Hub) (y4 : SlV) (r1 : Rec) (hk : hub_Check h1 = 0) : Does Tryz.prog 15 [.agg ⟨[y1.val h1.h.l.length, y2.val h1.h.t.length, .int .i64 h1.version, y3.val h1.peers.length]⟩, .agg ⟨[.int .i64 r1.kind, .int .i64 r1.who, .int .i64 r1.life, y4.val r1.roots.length, .int .i64 r1.o.time, .int .i64 r1.o.who, .int .i64 r1.o.node, .int .i64 r1.o.parent, .int .i64 r1.o.name, .int .i64 r1.o.life, .int .i64 r1.o.seq]⟩] [RdL EStep y1 h1.h.l, RdL EPlace y2 h1.h.t, RdN NPeer y3 h1.peers, RdL EInt y4 r1.roots] (fun (X : SlV × SlV × SlV) => .tuple #[.agg ⟨[X.1.val ((((hub_next h1 r1).1).h).l).length, X.2.1.val ((((hub_next h1 r1).1).h).t).length, .int .i64 (((hub_next h1 r1).1).version), X.2.2.val (((hub_next h1 r1).1).peers).length]⟩, .int .i64 ((hub_next h1 r1).2)]) (fun (X : SlV × SlV × SlV) => [RdL EStep X.1 ((((hub_next h1 r1).1).h).l), RdL EPlace X.2.1 ((((hub_next h1 r1).1).h).t), RdN NPeer X.2.2 (((hub_next h1 r1).1).peers)]) := by
  refine does_of tab_ok Tryz.func15 rfl Tryz.ntmps15 Tryz.results15 rfl inferInstance (fun _ => inferInstance) fun C => ?_
  refine Pc EStep y1 h1.h.l 88 fun hlen1 => ?_
  refine Pc EPlace y2 h1.h.t 24 fun hlen2 => ?_
  refine Pn NPeer y3 h1.peers 40 fun hlen3 => ?_
  refine Pc EInt y4 r1.roots 8 fun hlen4 => ?_
  refine Tx ?_
  refine Bx fun g1 => ?_
  refine Bx fun g2 => ?_
  refine Al fun g3 => ?_
  refine Tx ?_
  refine Cl (note_Check_spec y4 r1) fun _ => ?_
  refine Tx ?_
  refine Cd (b := ((note_Check r1) != 0)) (fun hc1 => ?_) fun hc1 => ?_
  · have hc1p := bne_iff_ne.1 hc1
    refine Tx ?_
    refine Fc EStep ?_
    refine Fc EPlace ?_
    refine cw_fact (F := RdN NPeer ⟨none, 0⟩ ([] : List Peer)) [] (.nil _) (fun M w _ => RdN.nil _ M w) ?_
    have hr1 : (hub_next h1 r1) = ((⟨(⟨([] : List Step), ([] : List Place)⟩ : History), 0, ([] : List Peer)⟩ : Hub), (note_Check r1)) := by simp only [hub_next, hc1, cond_true, cond_false]
    refine cw_ret ?_; rw [hr1]; exact Re ⟨(⟨none, 0⟩ : SlV), (⟨none, 0⟩ : SlV), (⟨none, 0⟩ : SlV)⟩ (Va (Vt Vn))
  · have hc1p := eq_of_bne_false hc1
    have hnw := note_who (eq_of_bne_false hc1)
    have hcl := hub_Check_len hk
    have hcq := history_Check_len hcl.1
    have hsq := hub_seq hk
    refine Tx ?_
    refine Cd (b := (h1.version == 60)) (fun hc2 => ?_) fun hc2 => ?_
    · have hc2p := eq_of_beq hc2
      refine Tx ?_
      refine Fc EStep ?_
      refine Fc EPlace ?_
      refine cw_fact (F := RdN NPeer ⟨none, 0⟩ ([] : List Peer)) [] (.nil _) (fun M w _ => RdN.nil _ M w) ?_
      have hr2 : (hub_next h1 r1) = ((⟨(⟨([] : List Step), ([] : List Place)⟩ : History), 0, ([] : List Peer)⟩ : Hub), 2) := by simp only [hub_next, hc1, hc2, cond_true, cond_false]
      refine cw_ret ?_; rw [hr2]; exact Re ⟨(⟨none, 0⟩ : SlV), (⟨none, 0⟩ : SlV), (⟨none, 0⟩ : SlV)⟩ (Va (Vt Vn))
    · have hc2p := ne_of_beq_false hc2
      refine Tx ?_
      refine Cg (hub_Copy_spec' y1 y2 y3 h1) fun x1 => ?_
      refine Pr EStep x1.1 h1.h.l 88 fun hlen5 => ?_
      refine Pr EPlace x1.2.1 h1.h.t 24 fun hlen6 => ?_
      refine Tx ?_
      refine rw_q rfl rfl rfl (q_add rfl rfl (fun _ => rfl) rfl (fun _ => rfl) (fun _ => by omega)) ?_
      refine Tx ?_
      refine Cd (b := (r1.kind == 1)) (fun hc3 => ?_) fun hc3 => ?_
      · have hc3p := eq_of_beq hc3
        refine Tx ?_
        refine rw_callG (hub_accept_spec g1 x1.1 x1.2.1 x1.2.2.1 x1.2.2.2.1 x1.2.2.2.2 (⟨h1.h, (h1.version + 1), h1.peers⟩ : Hub) r1.o hcl.2.2.2 (hnw.1 (by assumption)) (Nat.le_trans hcq (by omega)) hsq) .sq (.inl ⟨_, rfl⟩) (guard_none rfl) rfl rfl rfl Kr rfl rfl Sm (by first | exact .cons (.here _ _) (.nil _) | exact .cons (.there _ (.here _ _)) (.nil _) | exact .cons (.there _ (.there _ (.here _ _))) (.nil _) | exact .cons (.there _ (.there _ (.there _ (.here _ _)))) (.nil _)) (by first | exact .cons (.here _ _) (.nil _) | exact .cons (.there _ (.here _ _)) (.nil _) | exact .cons (.there _ (.there _ (.here _ _))) (.nil _) | exact .cons (.there _ (.there _ (.there _ (.here _ _)))) (.nil _)) ?_
        intro x2
        refine Tx ?_
        refine Cd (b := (((hub_accept (⟨h1.h, (h1.version + 1), h1.peers⟩ : Hub) r1.o).1) != 0)) (fun hc4 => ?_) fun hc4 => ?_
        · have hc4p := bne_iff_ne.1 hc4
          refine Tx ?_
          refine Fc EStep ?_
          refine Fc EPlace ?_
          refine cw_fact (F := RdN NPeer ⟨none, 0⟩ ([] : List Peer)) [] (.nil _) (fun M w _ => RdN.nil _ M w) ?_
          have hr3 : (hub_next h1 r1) = ((⟨(⟨([] : List Step), ([] : List Place)⟩ : History), 0, ([] : List Peer)⟩ : Hub), (hub_accept (⟨h1.h, (h1.version + 1), h1.peers⟩ : Hub) r1.o).1) := by simp only [hub_next, hc1, hc2, hc3, hc4, cond_true, cond_false]
          refine cw_ret ?_; rw [hr3]; exact Re ⟨(⟨none, 0⟩ : SlV), (⟨none, 0⟩ : SlV), (⟨none, 0⟩ : SlV)⟩ (Va (Vt Vn))
        · have hc4p := eq_of_bne_false hc4
          refine Tx ?_
          refine cw_le (le_freezeL NPeer.E 66 x2.2.2.1 x2.2.2.2.1 (zipG x2.2.2.2.2 0 (((hub_accept (⟨h1.h, (h1.version + 1), h1.peers⟩ : Hub) r1.o).2).peers)) Uo) ?_
          refine cw_fact (F := RdN NPeer x2.2.2.1 (((hub_accept (⟨h1.h, (h1.version + 1), h1.peers⟩ : Hub) r1.o).2).peers)) [RdG NPeer x2.2.2.1 x2.2.2.2.2 (((hub_accept (⟨h1.h, (h1.version + 1), h1.peers⟩ : Hub) r1.o).2).peers), FactsG NPeer x2.2.2.2.2 (((hub_accept (⟨h1.h, (h1.version + 1), h1.peers⟩ : Hub) r1.o).2).peers)] Sm (fun M w h => RdN.ofG NPeer (h _ (.head _)) (h _ (.tail _ (.head _)))) ?_
          have hr4 : (hub_next h1 r1) = (((hub_accept (⟨h1.h, (h1.version + 1), h1.peers⟩ : Hub) r1.o).2), 0) := by simp only [hub_next, hc1, hc2, hc3, hc4, cond_true, cond_false]
          refine cw_ret ?_; rw [hr4]; exact Re ⟨x2.1, x2.2.1, x2.2.2.1⟩ (Va (Vt Vn))
      · have hc3p := ne_of_beq_false hc3
        refine Tx ?_
        refine Cd (b := (r1.kind == 2)) (fun hc5 => ?_) fun hc5 => ?_
        · have hc5p := eq_of_beq hc5
          have hlb := (hub_peers hk (gt h1.peers r1.who.toNat) (gt_mem (by omega))).1
          (repeat refine cw_seq ?_); refine cw_regionA (fun _ => some []) ?_
          refine Rb 0 [2,3,4,5,6,7,8,9] [1,10] rfl Qp ?_
          refine Ra 1 [2,3,4,5,6,7,8,9] rfl Q1 ?_
          refine Rb 2 [4,5] [3,6,7,8,9,10] rfl Qp ?_
          refine Rb 3 [4,5] [6,7,8,9,10] rfl Q1 ?_
          refine Rb 4 [] [5,6,7,8,9,10] rfl Qp ?_
          refine Rb 5 [] [6,7,8,9,10] rfl Q1 ?_
          refine rw_qO NPeer.E (e := 66) (X := x1.2.2.1) (b := x1.2.2.2.1) (l := zipG x1.2.2.2.2 0 h1.peers) Mm (.ab (i := 6) (js := []) [7, 8, 9, 10] rfl Kr Kr Kr Kr Kr) rfl rfl rfl (q_idxN NPeer x1.2.2.2.2 r1.who.toNat rfl rfl (fun _ => rfl) rfl (fun _ => rfl) rfl rfl rfl (.head _) rfl (fun _ => by omega) (fun _ => by first | assumption | omega | (simp only [List.length_set]; omega))) ?_
          refine Rb 7 [] [8,9,10] rfl (q_fae rfl rfl (fun _ => rfl) rfl rfl) ?_
          refine rw_qO NPeer.E (e := 66) (X := x1.2.2.1) (b := x1.2.2.2.1) (l := zipG x1.2.2.2.2 0 h1.peers) Mm (.ab (i := 8) (js := []) [9, 10] rfl Kr Kr Kr Kr Kr) rfl rfl rfl (q_le1N NPeer x1.2.2.2.2 (v := .int .i64 ((gt h1.peers r1.who.toNat).life)) rfl rfl (fun _ => rfl) rfl rfl (.head _) (fun _ => by first | assumption | omega | (simp only [List.length_set]; omega)) rfl) ?_
          refine Ra 9 [] rfl (q_add rfl rfl (fun _ => rfl) rfl (fun _ => rfl) (fun _ => by omega)) ?_
          refine Ra 10 [] rfl Qp ?_
          refine ra_nil Kr ?_
          (repeat refine cw_seq ?_)
          refine Cd (b := (r1.life != (((gt h1.peers r1.who.toNat).life) + 1))) (fun hc6 => ?_) fun hc6 => ?_
          · have hc6p := bne_iff_ne.1 hc6
            refine Tx ?_
            refine rw_qO NPeer.E (e := 66) (X := x1.2.2.1) (b := x1.2.2.2.1) (l := zipG x1.2.2.2.2 0 h1.peers) Mm .sq rfl rfl rfl (q_idxN NPeer x1.2.2.2.2 r1.who.toNat rfl rfl (fun _ => rfl) rfl (fun _ => rfl) rfl rfl rfl (.head _) rfl (fun _ => by omega) (fun _ => by first | assumption | omega | (simp only [List.length_set]; omega))) ?_
            refine Fr EInt ?_
            refine rw_stON NPeer x1.2.2.2.2 h1.peers r1.who.toNat 0 (⟨none, 0⟩ : SlV) (⟨r1.life, 0, ([] : List Int)⟩ : Peer) (e := 66) (X := x1.2.2.1) (b := x1.2.2.2.1) .sq (.inl ⟨_, rfl⟩) (guard_none rfl) rfl rfl rfl rfl rfl rfl rfl rfl rfl rfl rfl (by first | assumption | omega | (simp only [List.length_set]; omega)) rfl Uo ?_
            refine rw_fact (F := FactsG NPeer (updG x1.2.2.2.2 r1.who.toNat (⟨none, 0⟩ : SlV)) (h1.peers.set r1.who.toNat (⟨r1.life, 0, ([] : List Int)⟩ : Peer))) [FactsG NPeer x1.2.2.2.2 h1.peers, RdL EInt (⟨none, 0⟩ : SlV) ([] : List Int)] Sm (fun M w h => FactsG.upd NPeer (h _ (.head _)) (allF_sub Sm h)) ?_
            have hv1 : x1.2.2.1.val h1.peers.length = x1.2.2.1.val (h1.peers.set r1.who.toNat (⟨r1.life, 0, ([] : List Int)⟩ : Peer)).length := congrArg (SlV.val x1.2.2.1) List.length_set.symm
            try rw [hv1]
            refine Tx ?_
            refine Cd (b := ((7 : Int) != 0)) (fun hc7 => ?_) fun hc7 => ?_
            · refine Tx ?_
              refine Fc EStep ?_
              refine Fc EPlace ?_
              refine cw_fact (F := RdN NPeer ⟨none, 0⟩ ([] : List Peer)) [] (.nil _) (fun M w _ => RdN.nil _ M w) ?_
              have hr5 : (hub_next h1 r1) = ((⟨(⟨([] : List Step), ([] : List Place)⟩ : History), 0, ([] : List Peer)⟩ : Hub), 7) := by simp only [hub_next, hc1, hc2, hc3, hc5, hc6, cond_true, cond_false]
              refine cw_ret ?_; rw [hr5]; exact Re ⟨(⟨none, 0⟩ : SlV), (⟨none, 0⟩ : SlV), (⟨none, 0⟩ : SlV)⟩ (Va (Vt Vn))
            · exact Bool.noConfusion (hc7.symm.trans (show ((7 : Int) != 0) = true by decide))
          · have hc6p := eq_of_bne_false hc6
            refine Tx ?_
            refine rw_qO NPeer.E (e := 66) (X := x1.2.2.1) (b := x1.2.2.2.1) (l := zipG x1.2.2.2.2 0 h1.peers) Mm .sq rfl rfl rfl (q_idxN NPeer x1.2.2.2.2 r1.who.toNat rfl rfl (fun _ => rfl) rfl (fun _ => rfl) rfl rfl rfl (.head _) rfl (fun _ => by omega) (fun _ => by first | assumption | omega | (simp only [List.length_set]; omega))) ?_
            refine Fr EInt ?_
            refine rw_stON NPeer x1.2.2.2.2 h1.peers r1.who.toNat 0 (⟨none, 0⟩ : SlV) (⟨r1.life, 0, ([] : List Int)⟩ : Peer) (e := 66) (X := x1.2.2.1) (b := x1.2.2.2.1) .sq (.inl ⟨_, rfl⟩) (guard_none rfl) rfl rfl rfl rfl rfl rfl rfl rfl rfl rfl rfl (by first | assumption | omega | (simp only [List.length_set]; omega)) rfl Uo ?_
            refine rw_fact (F := FactsG NPeer (updG x1.2.2.2.2 r1.who.toNat (⟨none, 0⟩ : SlV)) (h1.peers.set r1.who.toNat (⟨r1.life, 0, ([] : List Int)⟩ : Peer))) [FactsG NPeer x1.2.2.2.2 h1.peers, RdL EInt (⟨none, 0⟩ : SlV) ([] : List Int)] Sm (fun M w h => FactsG.upd NPeer (h _ (.head _)) (allF_sub Sm h)) ?_
            have hv2 : x1.2.2.1.val h1.peers.length = x1.2.2.1.val (h1.peers.set r1.who.toNat (⟨r1.life, 0, ([] : List Int)⟩ : Peer)).length := congrArg (SlV.val x1.2.2.1) List.length_set.symm
            try rw [hv2]
            refine Tx ?_
            refine Cd (b := ((0 : Int) != 0)) (fun hc8 => ?_) fun hc8 => ?_
            · exact Bool.noConfusion (hc8.symm.trans (show ((0 : Int) != 0) = false by decide))
            · refine Tx ?_
              refine cw_le (le_freezeL NPeer.E 66 x1.2.2.1 x1.2.2.2.1 (zipG (updG x1.2.2.2.2 r1.who.toNat (⟨none, 0⟩ : SlV)) 0 (h1.peers.set r1.who.toNat (⟨r1.life, 0, ([] : List Int)⟩ : Peer))) Uo) ?_
              refine cw_fact (F := RdN NPeer x1.2.2.1 (h1.peers.set r1.who.toNat (⟨r1.life, 0, ([] : List Int)⟩ : Peer))) [RdG NPeer x1.2.2.1 (updG x1.2.2.2.2 r1.who.toNat (⟨none, 0⟩ : SlV)) (h1.peers.set r1.who.toNat (⟨r1.life, 0, ([] : List Int)⟩ : Peer)), FactsG NPeer (updG x1.2.2.2.2 r1.who.toNat (⟨none, 0⟩ : SlV)) (h1.peers.set r1.who.toNat (⟨r1.life, 0, ([] : List Int)⟩ : Peer))] Sm (fun M w h => RdN.ofG NPeer (h _ (.head _)) (h _ (.tail _ (.head _)))) ?_
              have hr6 : (hub_next h1 r1) = ((⟨h1.h, (h1.version + 1), (h1.peers.set r1.who.toNat (⟨r1.life, 0, ([] : List Int)⟩ : Peer))⟩ : Hub), 0) := by simp only [hub_next, hc1, hc2, hc3, hc5, hc6, cond_true, cond_false]
              refine cw_ret ?_; rw [hr6]; exact Re ⟨x1.1, x1.2.1, x1.2.2.1⟩ (Va (Vt Vn))
        · have hc5p := ne_of_beq_false hc5
          refine Tx ?_
          refine Cd (b := (r1.kind == 3)) (fun hc9 => ?_) fun hc9 => ?_
          · have hc9p := eq_of_beq hc9
            refine Tx ?_
            refine rw_qO NPeer.E (e := 66) (X := x1.2.2.1) (b := x1.2.2.2.1) (l := zipG x1.2.2.2.2 0 h1.peers) Mm .sq rfl rfl rfl (q_idxN NPeer x1.2.2.2.2 r1.who.toNat rfl rfl (fun _ => rfl) rfl (fun _ => rfl) rfl rfl rfl (.head _) rfl (fun _ => by omega) (fun _ => by first | assumption | omega | (simp only [List.length_set]; omega))) ?_
            refine rw_q rfl rfl rfl (q_fae rfl rfl (fun _ => rfl) rfl rfl) ?_
            refine rw_qO NPeer.E (e := 66) (X := x1.2.2.1) (b := x1.2.2.2.1) (l := zipG x1.2.2.2.2 0 h1.peers) Mm .sq rfl rfl rfl (q_le1N NPeer x1.2.2.2.2 (v := .int .i64 ((gt h1.peers r1.who.toNat).life)) rfl rfl (fun _ => rfl) rfl rfl (.head _) (fun _ => by first | assumption | omega | (simp only [List.length_set]; omega)) rfl) ?_
            refine Tx ?_
            refine Cd (b := (((gt h1.peers r1.who.toNat).life) == 0)) (fun hc10 => ?_) fun hc10 => ?_
            · have hc10p := eq_of_beq hc10
              refine Tx ?_
              (repeat refine cw_seq ?_); refine cw_regionA (fun j => match j with | 9 => some x1.2.2.2.1.toList | _ => some []) ?_
              refine Ra 0 [2,3,4,5,6] rfl Qp ?_
              refine Ra 1 [2,3,4,5,6] rfl Q1 ?_
              refine Ra 2 [4,5,6] rfl Qp ?_
              refine Ra 3 [4,5,6] rfl Q1 ?_
              refine Rb 4 [] [5,6,7,8,9] rfl Qp ?_
              refine Ra 5 [] rfl Q1 ?_
              refine ra_one 6 Kr ?_
              refine rw_callG (slices_Clone_Int_spec y4 r1.roots) (.an rfl rfl) (.inr (by simp [Lent.ids])) (guard_none rfl) rfl rfl rfl Kr rfl rfl Sm (.nil _) (.nil _) ?_
              intro x3
              refine rw_qO NPeer.E (e := 66) (X := x1.2.2.1) (b := x1.2.2.2.1) (l := zipG x1.2.2.2.2 0 h1.peers) Mm (.ab (i := 7) (js := []) [8, 9] rfl Kr Kr Kr Kr Kr) rfl rfl rfl (q_idxN NPeer x1.2.2.2.2 r1.who.toNat rfl rfl (fun _ => rfl) rfl (fun _ => rfl) rfl rfl rfl (.head _) rfl (fun _ => by omega) (fun _ => by first | assumption | omega | (simp only [List.length_set]; omega))) ?_
              refine Ra 8 [] rfl (q_fae rfl rfl (fun _ => rfl) rfl rfl) ?_
              refine ra_one 9 Kr ?_
              refine rw_le (le_freezeL EInt 3 x3.1 x3.2 r1.roots Uo) ?_
              refine rw_stON NPeer x1.2.2.2.2 h1.peers r1.who.toNat 2 x3.1 (⟨(gt h1.peers r1.who.toNat).life, (gt h1.peers r1.who.toNat).seq, r1.roots⟩ : Peer) (e := 66) (X := x1.2.2.1) (b := x1.2.2.2.1) (.an rfl rfl) (.inr (fun g h => by simp [h])) (guard_none rfl) rfl rfl rfl rfl rfl rfl rfl rfl rfl rfl rfl (by first | assumption | omega | (simp only [List.length_set]; omega)) rfl Uo ?_
              refine rw_fact (F := FactsG NPeer (updG x1.2.2.2.2 r1.who.toNat x3.1) (h1.peers.set r1.who.toNat (⟨(gt h1.peers r1.who.toNat).life, (gt h1.peers r1.who.toNat).seq, r1.roots⟩ : Peer))) [FactsG NPeer x1.2.2.2.2 h1.peers, RdL EInt x3.1 r1.roots] Sm (fun M w h => FactsG.upd NPeer (h _ (.head _)) (allF_sub Sm h)) ?_
              have hv3 : x1.2.2.1.val h1.peers.length = x1.2.2.1.val (h1.peers.set r1.who.toNat (⟨(gt h1.peers r1.who.toNat).life, (gt h1.peers r1.who.toNat).seq, r1.roots⟩ : Peer)).length := congrArg (SlV.val x1.2.2.1) List.length_set.symm
              try rw [hv3]
              refine ra_nil Kr ?_
              refine Tx ?_
              refine Cd (b := ((5 : Int) != 0)) (fun hc11 => ?_) fun hc11 => ?_
              · refine Tx ?_
                refine Fc EStep ?_
                refine Fc EPlace ?_
                refine cw_fact (F := RdN NPeer ⟨none, 0⟩ ([] : List Peer)) [] (.nil _) (fun M w _ => RdN.nil _ M w) ?_
                have hr7 : (hub_next h1 r1) = ((⟨(⟨([] : List Step), ([] : List Place)⟩ : History), 0, ([] : List Peer)⟩ : Hub), 5) := by simp only [hub_next, hc1, hc2, hc3, hc5, hc9, hc10, cond_true, cond_false]
                refine cw_ret ?_; rw [hr7]; exact Re ⟨(⟨none, 0⟩ : SlV), (⟨none, 0⟩ : SlV), (⟨none, 0⟩ : SlV)⟩ (Va (Vt Vn))
              · exact Bool.noConfusion (hc11.symm.trans (show ((5 : Int) != 0) = true by decide))
            · have hc10p := ne_of_beq_false hc10
              refine Tx ?_
              (repeat refine cw_seq ?_); refine cw_regionA (fun j => match j with | 9 => some x1.2.2.2.1.toList | _ => some []) ?_
              refine Ra 0 [2,3,4,5,6] rfl Qp ?_
              refine Ra 1 [2,3,4,5,6] rfl Q1 ?_
              refine Ra 2 [4,5,6] rfl Qp ?_
              refine Ra 3 [4,5,6] rfl Q1 ?_
              refine Rb 4 [] [5,6,7,8,9] rfl Qp ?_
              refine Ra 5 [] rfl Q1 ?_
              refine ra_one 6 Kr ?_
              refine rw_callG (slices_Clone_Int_spec y4 r1.roots) (.an rfl rfl) (.inr (by simp [Lent.ids])) (guard_none rfl) rfl rfl rfl Kr rfl rfl Sm (.nil _) (.nil _) ?_
              intro x4
              refine rw_qO NPeer.E (e := 66) (X := x1.2.2.1) (b := x1.2.2.2.1) (l := zipG x1.2.2.2.2 0 h1.peers) Mm (.ab (i := 7) (js := []) [8, 9] rfl Kr Kr Kr Kr Kr) rfl rfl rfl (q_idxN NPeer x1.2.2.2.2 r1.who.toNat rfl rfl (fun _ => rfl) rfl (fun _ => rfl) rfl rfl rfl (.head _) rfl (fun _ => by omega) (fun _ => by first | assumption | omega | (simp only [List.length_set]; omega))) ?_
              refine Ra 8 [] rfl (q_fae rfl rfl (fun _ => rfl) rfl rfl) ?_
              refine ra_one 9 Kr ?_
              refine rw_le (le_freezeL EInt 3 x4.1 x4.2 r1.roots Uo) ?_
              refine rw_stON NPeer x1.2.2.2.2 h1.peers r1.who.toNat 2 x4.1 (⟨(gt h1.peers r1.who.toNat).life, (gt h1.peers r1.who.toNat).seq, r1.roots⟩ : Peer) (e := 66) (X := x1.2.2.1) (b := x1.2.2.2.1) (.an rfl rfl) (.inr (fun g h => by simp [h])) (guard_none rfl) rfl rfl rfl rfl rfl rfl rfl rfl rfl rfl rfl (by first | assumption | omega | (simp only [List.length_set]; omega)) rfl Uo ?_
              refine rw_fact (F := FactsG NPeer (updG x1.2.2.2.2 r1.who.toNat x4.1) (h1.peers.set r1.who.toNat (⟨(gt h1.peers r1.who.toNat).life, (gt h1.peers r1.who.toNat).seq, r1.roots⟩ : Peer))) [FactsG NPeer x1.2.2.2.2 h1.peers, RdL EInt x4.1 r1.roots] Sm (fun M w h => FactsG.upd NPeer (h _ (.head _)) (allF_sub Sm h)) ?_
              have hv4 : x1.2.2.1.val h1.peers.length = x1.2.2.1.val (h1.peers.set r1.who.toNat (⟨(gt h1.peers r1.who.toNat).life, (gt h1.peers r1.who.toNat).seq, r1.roots⟩ : Peer)).length := congrArg (SlV.val x1.2.2.1) List.length_set.symm
              try rw [hv4]
              refine ra_nil Kr ?_
              refine Tx ?_
              refine Cd (b := ((0 : Int) != 0)) (fun hc12 => ?_) fun hc12 => ?_
              · exact Bool.noConfusion (hc12.symm.trans (show ((0 : Int) != 0) = false by decide))
              · refine Tx ?_
                refine cw_le (le_freezeL NPeer.E 66 x1.2.2.1 x1.2.2.2.1 (zipG (updG x1.2.2.2.2 r1.who.toNat x4.1) 0 (h1.peers.set r1.who.toNat (⟨(gt h1.peers r1.who.toNat).life, (gt h1.peers r1.who.toNat).seq, r1.roots⟩ : Peer))) Uo) ?_
                refine cw_fact (F := RdN NPeer x1.2.2.1 (h1.peers.set r1.who.toNat (⟨(gt h1.peers r1.who.toNat).life, (gt h1.peers r1.who.toNat).seq, r1.roots⟩ : Peer))) [RdG NPeer x1.2.2.1 (updG x1.2.2.2.2 r1.who.toNat x4.1) (h1.peers.set r1.who.toNat (⟨(gt h1.peers r1.who.toNat).life, (gt h1.peers r1.who.toNat).seq, r1.roots⟩ : Peer)), FactsG NPeer (updG x1.2.2.2.2 r1.who.toNat x4.1) (h1.peers.set r1.who.toNat (⟨(gt h1.peers r1.who.toNat).life, (gt h1.peers r1.who.toNat).seq, r1.roots⟩ : Peer))] Sm (fun M w h => RdN.ofG NPeer (h _ (.head _)) (h _ (.tail _ (.head _)))) ?_
                have hr8 : (hub_next h1 r1) = ((⟨h1.h, (h1.version + 1), (h1.peers.set r1.who.toNat (⟨(gt h1.peers r1.who.toNat).life, (gt h1.peers r1.who.toNat).seq, r1.roots⟩ : Peer))⟩ : Hub), 0) := by simp only [hub_next, hc1, hc2, hc3, hc5, hc9, hc10, cond_true, cond_false]
                refine cw_ret ?_; rw [hr8]; exact Re ⟨x1.1, x1.2.1, x1.2.2.1⟩ (Va (Vt Vn))
          · have hc9p := ne_of_beq_false hc9
            refine Tx ?_
            refine Cd (b := ((0 : Int) != 0)) (fun hc13 => ?_) fun hc13 => ?_
            · exact Bool.noConfusion (hc13.symm.trans (show ((0 : Int) != 0) = false by decide))
            · refine Tx ?_
              refine cw_le (le_freezeL NPeer.E 66 x1.2.2.1 x1.2.2.2.1 (zipG x1.2.2.2.2 0 h1.peers) Uo) ?_
              refine cw_fact (F := RdN NPeer x1.2.2.1 h1.peers) [RdG NPeer x1.2.2.1 x1.2.2.2.2 h1.peers, FactsG NPeer x1.2.2.2.2 h1.peers] Sm (fun M w h => RdN.ofG NPeer (h _ (.head _)) (h _ (.tail _ (.head _)))) ?_
              have hr9 : (hub_next h1 r1) = ((⟨h1.h, (h1.version + 1), h1.peers⟩ : Hub), 0) := by simp only [hub_next, hc1, hc2, hc3, hc5, hc9, cond_true, cond_false]
              refine cw_ret ?_; rw [hr9]; exact Re ⟨x1.1, x1.2.1, x1.2.2.1⟩ (Va (Vt Vn))

def hub_Next (h1 : Hub) (r1 : Rec) : Hub × Int :=
  (bif ((hub_Check h1) != 0) then ((⟨(⟨([] : List Step), ([] : List Place)⟩ : History), 0, ([] : List Peer)⟩ : Hub), (hub_Check h1)) else (((hub_next h1 r1).1), (hub_next h1 r1).2))
theorem hub_Next_spec (y1 : SlV) (y2 : SlV) (y3 : SlV) (h1 : Hub) (y4 : SlV) (r1 : Rec) : Does Tryz.prog 7 [.agg ⟨[y1.val h1.h.l.length, y2.val h1.h.t.length, .int .i64 h1.version, y3.val h1.peers.length]⟩, .agg ⟨[.int .i64 r1.kind, .int .i64 r1.who, .int .i64 r1.life, y4.val r1.roots.length, .int .i64 r1.o.time, .int .i64 r1.o.who, .int .i64 r1.o.node, .int .i64 r1.o.parent, .int .i64 r1.o.name, .int .i64 r1.o.life, .int .i64 r1.o.seq]⟩] [RdL EStep y1 h1.h.l, RdL EPlace y2 h1.h.t, RdN NPeer y3 h1.peers, RdL EInt y4 r1.roots] (fun (X : SlV × SlV × SlV) => .tuple #[.agg ⟨[X.1.val ((((hub_Next h1 r1).1).h).l).length, X.2.1.val ((((hub_Next h1 r1).1).h).t).length, .int .i64 (((hub_Next h1 r1).1).version), X.2.2.val (((hub_Next h1 r1).1).peers).length]⟩, .int .i64 ((hub_Next h1 r1).2)]) (fun (X : SlV × SlV × SlV) => [RdL EStep X.1 ((((hub_Next h1 r1).1).h).l), RdL EPlace X.2.1 ((((hub_Next h1 r1).1).h).t), RdN NPeer X.2.2 (((hub_Next h1 r1).1).peers)]) := by
  refine does_of tab_ok Tryz.func7 rfl Tryz.ntmps7 Tryz.results7 rfl inferInstance (fun _ => inferInstance) fun C => ?_
  refine Pc EStep y1 h1.h.l 88 fun hlen1 => ?_
  refine Pc EPlace y2 h1.h.t 24 fun hlen2 => ?_
  refine Pn NPeer y3 h1.peers 40 fun hlen3 => ?_
  refine Pc EInt y4 r1.roots 8 fun hlen4 => ?_
  refine Tx ?_
  refine Bx fun g1 => ?_
  refine Bx fun g2 => ?_
  refine Al fun g3 => ?_
  refine Tx ?_
  refine Cl (hub_Check_spec y1 y2 y3 h1) fun _ => ?_
  refine Tx ?_
  refine Cd (b := ((hub_Check h1) != 0)) (fun hc1 => ?_) fun hc1 => ?_
  · have hc1p := bne_iff_ne.1 hc1
    refine Tx ?_
    refine Fc EStep ?_
    refine Fc EPlace ?_
    refine cw_fact (F := RdN NPeer ⟨none, 0⟩ ([] : List Peer)) [] (.nil _) (fun M w _ => RdN.nil _ M w) ?_
    have hr1 : (hub_Next h1 r1) = ((⟨(⟨([] : List Step), ([] : List Place)⟩ : History), 0, ([] : List Peer)⟩ : Hub), (hub_Check h1)) := by simp only [hub_Next, hc1, cond_true, cond_false]
    refine cw_ret ?_; rw [hr1]; exact Re ⟨(⟨none, 0⟩ : SlV), (⟨none, 0⟩ : SlV), (⟨none, 0⟩ : SlV)⟩ (Va (Vt Vn))
  · have hc1p := eq_of_bne_false hc1
    refine Tx ?_
    refine Cl (hub_next_spec y1 y2 y3 h1 y4 r1 (eq_of_bne_false (by assumption))) fun x1 => ?_
    refine Pr EStep x1.1 ((((hub_next h1 r1).1).h).l) 88 fun hlen5 => ?_
    refine Pr EPlace x1.2.1 ((((hub_next h1 r1).1).h).t) 24 fun hlen6 => ?_
    refine Pm NPeer x1.2.2 (((hub_next h1 r1).1).peers) 40 fun hlen7 => ?_
    refine Tx ?_
    have hr2 : (hub_Next h1 r1) = (((hub_next h1 r1).1), (hub_next h1 r1).2) := by simp only [hub_Next, hc1, cond_true, cond_false]
    refine cw_ret ?_; rw [hr2]; exact Re ⟨x1.1, x1.2.1, x1.2.2⟩ (Va (Vt Vn))
end Go.Proofs.YtccmadehnoihnaaGreatDoor

namespace Go.Proofs.YtccmadehnoihnaaGreatDoor
open Go Go.Proofs.YtccmadehnoihnaaGreatDoor.Fw Go.Proofs
/-! ### Histories, in plain words -/
def stamp (o : Op) : Stamp := ⟨o.time, o.who⟩
def before (a b : Op) : Bool := move_Before (stamp a) (stamp b)
theorem before_iff (a b : Op) : before a b = true ↔ a.time < b.time ∨ (a.time = b.time ∧ a.who < b.who) := by
  unfold before move_Before stamp
  simp
theorem before_iffF (a b : Op) : before a b = false ↔ ¬ (a.time < b.time ∨ (a.time = b.time ∧ a.who < b.who)) := by
  rw [← before_iff]; simp
theorem before_tr (a b c : Op) (h1 : before c b = false) (h2 : before b a = false) : before c a = false := by
  rw [before_iffF] at *; omega
theorem before_as (a b : Op) (h : before a b = true) : before b a = false := by
  rw [before_iff] at h; rw [before_iffF]; omega
theorem before_trans {a b c : Op} (h1 : before a b = true) (h2 : before b c = true) : before a c = true := by
  rw [before_iff] at *; omega
theorem before_eq {a b : Op} (h1 : before a b = false) (h2 : before b a = false) : stamp a = stamp b := by
  rw [before_iffF] at *
  unfold stamp
  congr 1 <;> omega
theorem before_irr (a : Op) : before a a = false := by rw [before_iffF]; omega
theorem before_ne {a b : Op} (h : before a b = true) : stamp a ≠ stamp b := fun e => by
  rw [before_iff] at h
  unfold stamp at e
  injection e with e1 e2
  omega
theorem fold1_lt (a b : Op) : decide (history_Fold_1 a b < 0) = before a b := by
  unfold history_Fold_1
  show decide ((bif before a b then (-1 : Int) else bif before b a then 1 else 0) < 0) = before a b
  cases before a b <;> cases before b a <;> rfl
def sortOps (l : List Op) : List Op := slices_SortStableFunc_Op l history_Fold_1
theorem sortOps_perm {l : List Op} (h : l.length ≤ 30) : (sortOps l).Perm l := (ST_Op history_Fold_1 before fold1_lt before_tr before_as l h).1
theorem sortOps_sorted {l : List Op} (h : l.length ≤ 30) : Sorted before (sortOps l) := (ST_Op history_Fold_1 before fold1_lt before_tr before_as l h).2
/-- each stamp but once -/
def Dist (l : List Op) : Prop := (l.map stamp).Nodup
def Rise (l : List Op) : Prop := l.Pairwise (fun a b => before a b = true)
theorem Rise.dist {l : List Op} (h : Rise l) : Dist l := by
  unfold Dist
  rw [List.Nodup, List.pairwise_map]
  exact h.imp fun h => before_ne h
theorem rise_of {l : List Op} (h1 : Sorted before l) (h2 : Dist l) : Rise l := by
  unfold Dist at h2
  rw [List.Nodup, List.pairwise_map] at h2
  have := List.Pairwise.and h1 h2
  exact this.imp fun {a b} ⟨h, hne⟩ => by
    cases hh : before a b with
    | true => rfl
    | false => exact absurd (before_eq hh h) hne
theorem Rise.uniq : ∀ {l l' : List Op}, Rise l → Rise l' → l.Perm l' → l = l'
  | [], l', _, _, hp => (List.Perm.nil_eq hp)
  | a :: l, [], _, _, hp => absurd hp.length_eq (by simp)
  | a :: l, b :: l', h, h', hp => by
    have hab : a = b := by
      have h1 : a ∈ b :: l' := hp.mem_iff.1 (.head _)
      have h2 : b ∈ a :: l := hp.mem_iff.2 (.head _)
      rcases List.mem_cons.1 h1 with h1 | h1
      · exact h1
      · rcases List.mem_cons.1 h2 with h2 | h2
        · exact h2.symm
        · have e1 := (List.pairwise_cons.1 h).1 b h2
          have e2 := (List.pairwise_cons.1 h').1 a h1
          rw [before_as _ _ e1] at e2; cases e2
    subst hab
    rw [Rise.uniq (List.pairwise_cons.1 h).2 (List.pairwise_cons.1 h').2 ((List.perm_cons _).1 hp)]
theorem Dist.perm {l l' : List Op} (h : l.Perm l') : Dist l ↔ Dist l' := (h.map stamp).nodup_iff

/-- operations done one by one -/
def run : History → List Op → History
  | h, [] => h
  | h, o :: r => run ⟨h.l ++ [(moveDo h.t o).2.1], (moveDo h.t o).1⟩ r
def e0 : History := ⟨[], []⟩
theorem moveDo_err0 {t : List Place} {o : Op} (h1 : checkT t = 0) (h2 : chkO o = 0) : (moveDo t o).2.2 = 0 := by
  rw [moveDo_err, h1, h2]; rfl
theorem run_app : ∀ (a b : List Op) (h : History), run h (a ++ b) = run (run h a) b
  | [], _, _ => rfl
  | o :: a, b, h => by rw [List.cons_append, run, run, run_app a b]
theorem run_tree : ∀ (l : List Op) (h : History), checkT h.t = 0 → (∀ o ∈ l, chkO o = 0) → checkT (run h l).t = 0
  | [], _, h, _ => h
  | o :: r, h, hc, hl => by
    rw [run]
    exact run_tree r _ (moved_of (moveDo_err0 hc (hl o (.head _)))).tree fun q hq => hl q (.tail _ hq)
theorem moveDo_op (t : List Place) (o : Op) (h1 : checkT t = 0) (h2 : chkO o = 0) : (moveDo t o).2.1.o = o := (moved_of (moveDo_err0 h1 h2)).op
theorem run_ops : ∀ (l : List Op) (h : History), checkT h.t = 0 → (∀ o ∈ l, chkO o = 0) → (run h l).l.map (·.o) = h.l.map (·.o) ++ l
  | [], h, _, _ => by simp [run]
  | o :: r, h, hc, hl => by
    have h0 := hl o (.head _)
    rw [run, run_ops r _ (moved_of (moveDo_err0 hc h0)).tree fun q hq => hl q (.tail _ hq)]
    simp [moveDo_op h.t o hc h0]
theorem run_len (l : List Op) (h : History) : (run h l).l.length = h.l.length + l.length := by
  induction l generalizing h with
  | nil => rfl
  | cons o r ih => rw [run, ih]; simp; omega
/-! ### Fold -/
theorem Fold_L0_ok (l : List Op) : ∀ r : List Op, (∀ o ∈ r, chkO o = 0) → history_Fold_L0 l r = history_Fold_L1 l (sortOps l) 0 [] []
  | [], _ => rfl
  | o :: r, h => by
    rw [history_Fold_L0, move_Check_eq, h o (.head _)]
    exact Fold_L0_ok l r fun q hq => h q (.tail _ hq)
theorem chkO_or (o : Op) : chkO o = 0 ∨ chkO o = 3 := by
  unfold chkO
  generalize (decide (o.time < 1) || decide (o.time > 10000) || decide (o.who < 0) || decide (o.who ≥ 3) || decide (o.node < 1) || decide (o.node ≥ 16) || decide (o.parent < 0) || decide (o.parent > 16) || decide (o.name < 0) || decide (o.name > 99) || decide (o.life < 1) || decide (o.life > 50) || decide (o.seq < 1) || decide (o.seq > 30)) = b
  cases b <;> simp
theorem Fold_L0_bad (l : List Op) : ∀ r : List Op, (∃ o ∈ r, chkO o ≠ 0) → history_Fold_L0 l r = (e0, 3)
  | [], h => by obtain ⟨o, h, _⟩ := h; cases h
  | o :: r, h => by
    rw [history_Fold_L0, move_Check_eq]
    rcases chkO_or o with h0 | h0
    · rw [h0]
      refine Fold_L0_bad l r ?_
      obtain ⟨q, hq, hne⟩ := h
      rcases List.mem_cons.1 hq with rfl | hq
      · exact absurd h0 hne
      · exact ⟨q, hq, hne⟩
    · rw [h0]; rfl
theorem Fold_L1_ok (l S : List Op) (hS : sortOps l = S) (hr : Rise S) (hc : ∀ o ∈ S, chkO o = 0) : ∀ (r : List Op) (n : Nat) (L : List Step) (T : List Place), r = S.drop n → checkT T = 0 → history_Fold_L1 l r n L T = (run ⟨L, T⟩ r, 0)
  | [], n, L, T, _, _ => rfl
  | o :: r, n, L, T, hd, hT => by
    have hn : n < S.length := by
      rcases Nat.lt_or_ge n S.length with h | h
      · exact h
      · rw [List.drop_of_length_le h] at hd; cases hd
    rw [drop_gt hn] at hd
    obtain ⟨rfl, hd'⟩ := List.cons.inj hd
    have ho := hc _ (gt_mem hn)
    rw [history_Fold_L1, show slices_SortStableFunc_Op l history_Fold_1 = S from hS, move_Do_eq, moveDo_err0 hT ho]
    have hne : (decide ((n : Int) > 0) && decide ((⟨(gt S (n - 1)).time, (gt S (n - 1)).who⟩ : Stamp) = (⟨(gt S n).time, (gt S n).who⟩ : Stamp))) = false := by
      cases n with
      | zero => rfl
      | succ n =>
        have hb : before (gt S n) (gt S (n + 1)) = true := by
          rw [gt_eq (by omega), gt_eq hn]
          exact List.pairwise_iff_getElem.1 hr n (n + 1) (by omega) hn (by omega)
        have := before_ne hb
        unfold stamp at this
        simp [this]
    rw [hne]
    simp only [cond_false, bne_self_eq_false]
    rw [Fold_L1_ok l S hS hr hc r (n + 1) _ _ hd' (moved_of (moveDo_err0 hT ho)).tree]
    rfl
theorem Fold_L1_bad (l S : List Op) (hS : sortOps l = S) (hc : ∀ o ∈ S, chkO o = 0) : ∀ (r : List Op) (n : Nat) (L : List Step) (T : List Place), r = S.drop n → checkT T = 0 → (∃ i, n ≤ i ∧ 0 < i ∧ i < S.length ∧ stamp (gt S (i - 1)) = stamp (gt S i)) → history_Fold_L1 l r n L T = (e0, 6)
  | [], n, L, T, hd, _, h => by
    obtain ⟨i, h1, _, h3, _⟩ := h
    have := congrArg List.length hd
    simp at this; omega
  | o :: r, n, L, T, hd, hT, h => by
    have hn : n < S.length := by
      rcases Nat.lt_or_ge n S.length with h | h
      · exact h
      · rw [List.drop_of_length_le h] at hd; cases hd
    rw [drop_gt hn] at hd
    obtain ⟨rfl, hd'⟩ := List.cons.inj hd
    have ho := hc _ (gt_mem hn)
    rw [history_Fold_L1, show slices_SortStableFunc_Op l history_Fold_1 = S from hS, move_Do_eq, moveDo_err0 hT ho]
    cases he : (decide ((n : Int) > 0) && decide ((⟨(gt S (n - 1)).time, (gt S (n - 1)).who⟩ : Stamp) = (⟨(gt S n).time, (gt S n).who⟩ : Stamp))) with
    | true => rfl
    | false =>
      simp only [cond_false, bne_self_eq_false]
      refine Fold_L1_bad l S hS hc r (n + 1) _ _ hd' (moved_of (moveDo_err0 hT ho)).tree ?_
      obtain ⟨i, h1, h2, h3, h4⟩ := h
      rcases Nat.eq_or_lt_of_le h1 with rfl | h1
      · unfold stamp at h4
        rw [h4] at he
        simp at he; omega
      · exact ⟨i, h1, h2, h3, h4⟩
/-- of what is sorted and not rising two neighbours are alike -/
theorem neighbours : ∀ {S : List Op}, Sorted before S → ¬ Rise S → ∃ i, 0 < i ∧ i < S.length ∧ stamp (gt S (i - 1)) = stamp (gt S i)
  | [], _, h => absurd List.Pairwise.nil h
  | [a], _, h => absurd (by simp [Rise]) h
  | a :: b :: S, hs, h => by
    have h1 := (List.pairwise_cons.1 hs).1 b (.head _)
    cases hb : before a b with
    | false => exact ⟨1, by omega, by simp, before_eq (by simpa [gt] using hb) (by simpa [gt] using h1)⟩
    | true =>
      have hn : ¬ Rise (b :: S) := fun hr => h (List.pairwise_cons.2 ⟨fun c hc => by
        rcases List.mem_cons.1 hc with rfl | hc
        · exact hb
        · exact before_trans hb ((List.pairwise_cons.1 hr).1 c hc), hr⟩)
      obtain ⟨i, h2, h3, h4⟩ := neighbours (List.pairwise_cons.1 hs).2 hn
      refine ⟨i + 1, by omega, by simp at h3 ⊢; omega, ?_⟩
      obtain ⟨j, rfl⟩ : ∃ j, i = j + 1 := ⟨i - 1, by omega⟩
      simpa [gt] using h4
theorem Fold_many {l : List Op} (h : 30 < l.length) : history_Fold l = (e0, 2) := by
  unfold history_Fold
  have : decide ((l.length : Int) > 30) = true := by simp; omega
  rw [this]; rfl
theorem Fold_bad {l : List Op} (h : l.length ≤ 30) (hb : ∃ o ∈ l, chkO o ≠ 0) : history_Fold l = (e0, 3) := by
  unfold history_Fold
  have : decide ((l.length : Int) > 30) = false := by simp; omega
  rw [this]; exact Fold_L0_bad l l hb
theorem sortOps_ok {l : List Op} (h : l.length ≤ 30) (hc : ∀ o ∈ l, chkO o = 0) : ∀ o ∈ sortOps l, chkO o = 0 := fun o ho => hc o ((sortOps_perm h).mem_iff.1 ho)
theorem Fold_ok {l : List Op} (h : l.length ≤ 30) (hc : ∀ o ∈ l, chkO o = 0) (hd : Dist l) : history_Fold l = (run e0 (sortOps l), 0) := by
  unfold history_Fold
  have : decide ((l.length : Int) > 30) = false := by simp; omega
  rw [this, cond_false, Fold_L0_ok l l hc]
  exact Fold_L1_ok l _ rfl (rise_of (sortOps_sorted h) ((Dist.perm (sortOps_perm h)).2 hd)) (sortOps_ok h hc) _ 0 [] [] rfl rfl
theorem Fold_twice {l : List Op} (h : l.length ≤ 30) (hc : ∀ o ∈ l, chkO o = 0) (hd : ¬ Dist l) : history_Fold l = (e0, 6) := by
  unfold history_Fold
  have : decide ((l.length : Int) > 30) = false := by simp; omega
  rw [this, cond_false, Fold_L0_ok l l hc]
  have hn : ¬ Rise (sortOps l) := fun hr => hd ((Dist.perm (sortOps_perm h)).1 hr.dist)
  obtain ⟨i, h1, h2, h3⟩ := neighbours (sortOps_sorted h) hn
  exact Fold_L1_bad l _ rfl (sortOps_ok h hc) _ 0 [] [] rfl rfl ⟨i, by omega, h1, h2, h3⟩
theorem Fold_inv {l : List Op} (h : (history_Fold l).2 = 0) : l.length ≤ 30 ∧ (∀ o ∈ l, chkO o = 0) ∧ Dist l ∧ history_Fold l = (run e0 (sortOps l), 0) := by
  rcases Nat.lt_or_ge 30 l.length with h1 | h1
  · rw [Fold_many h1] at h; cases h
  by_cases hc : ∃ o ∈ l, chkO o ≠ 0
  · rw [Fold_bad h1 hc] at h; cases h
  have hc : ∀ o ∈ l, chkO o = 0 := fun o ho => Classical.byContradiction fun hn => hc ⟨o, ho, hn⟩
  by_cases hd : Dist l
  · exact ⟨h1, hc, hd, Fold_ok h1 hc hd⟩
  · rw [Fold_twice h1 hc hd] at h; cases h
/-- of a rising list -/
theorem sortOps_rise {S : List Op} (h : S.length ≤ 30) (hr : Rise S) : sortOps S = S :=
  Rise.uniq (rise_of (sortOps_sorted h) ((Dist.perm (sortOps_perm h)).2 hr.dist)) hr (sortOps_perm h)
theorem sortOps_uniq {l S : List Op} (h : l.length ≤ 30) (hr : Rise S) (hp : S.Perm l) : sortOps l = S :=
  Rise.uniq (rise_of (sortOps_sorted h) ((Dist.perm (sortOps_perm h)).2 ((Dist.perm hp).1 hr.dist))) hr ((sortOps_perm h).trans hp.symm)

/-! ### Histories that are right -/
structure IsHist (h : History) (S : List Op) : Prop where
  len : S.length ≤ 30
  ok : ∀ o ∈ S, chkO o = 0
  rise : Rise S
  eq : h = run e0 S
theorem hSame_iff (a b : History) : history_Same a b = true ↔ a = b := by
  unfold history_Same
  obtain ⟨l, t⟩ := a
  obtain ⟨l', t'⟩ := b
  simp
theorem IsHist.ops {h : History} {S : List Op} (hh : IsHist h S) : h.l.map (·.o) = S := by
  rw [hh.eq, run_ops S e0 rfl hh.ok]; rfl
theorem Check_iff (h : History) : history_Check h = 0 ↔ IsHist h (h.l.map (·.o)) := by
  constructor
  · intro hc
    obtain ⟨h1, h2⟩ := history_Check_fold hc
    obtain ⟨g1, g2, g3, g4⟩ := Fold_inv h1
    rw [hSame_iff, g4] at h2
    rw [history_Ops_eq] at *
    have e : h.l.map (·.o) = sortOps (h.l.map (·.o)) := by
      conv => lhs; rw [← h2]
      rw [run_ops _ e0 rfl (sortOps_ok g1 g2)]; rfl
    refine ⟨g1, g2, ?_, by rw [e]; exact h2.symm⟩
    rw [e]
    exact rise_of (sortOps_sorted g1) ((Dist.perm (sortOps_perm g1)).2 g3)
  · intro hh
    unfold history_Check
    rw [history_Ops_eq, Fold_ok hh.len hh.ok hh.rise.dist, sortOps_rise hh.len hh.rise]
    have : history_Same (run e0 (h.l.map (·.o))) h = true := by rw [hSame_iff]; exact hh.eq.symm
    rw [this]; rfl

/-! ### An operation put in its place -/
theorem Put_L1_eq : ∀ (r : List Op) (L : List Step) (T : List Place), checkT T = 0 → (∀ o ∈ r, chkO o = 0) → history_Put_L1 r L T = (run ⟨L, T⟩ r, 0)
  | [], _, _, _, _ => rfl
  | o :: r, L, T, hT, hc => by
    have ho := hc o (.head _)
    rw [history_Put_L1, move_Do_eq, moveDo_err0 hT ho]
    simp only [bne_self_eq_false, cond_false]
    rw [Put_L1_eq r _ _ (moved_of (moveDo_err0 hT ho)).tree fun q hq => hc q (.tail _ hq)]
    rfl
theorem run_snoc (A : List Op) (b : Op) : run e0 (A ++ [b]) = ⟨(run e0 A).l ++ [(moveDo (run e0 A).t b).2.1], (moveDo (run e0 A).t b).1⟩ := by
  rw [run_app]; rfl
theorem Put_L0_eq (o : Op) (ho : chkO o = 0) : ∀ (n : Nat) (A R : List Op) (f : Nat), A.length = n → n < f → (∀ q ∈ A, chkO q = 0) → (∀ q ∈ R, chkO q = 0) → Rise A →
    ∃ A1 A2, A = A1 ++ A2 ∧ (∀ q ∈ A1, before o q = false) ∧ (∀ q ∈ A2, before o q = true) ∧ history_Put_L0 o f (o :: R) (n : Int) (run e0 A).l (run e0 A).t = (run e0 (A1 ++ o :: (A2 ++ R.reverse)), 0) := by
  intro n
  induction n with
  | zero =>
    intro A R f hA hf hcA hcR hr
    obtain ⟨f, rfl⟩ : ∃ g, f = g + 1 := ⟨f - 1, by omega⟩
    have : A = [] := List.length_eq_zero_iff.1 hA
    subst this
    refine ⟨[], [], rfl, by simp, by simp, ?_⟩
    rw [history_Put_L0]
    have : decide (((0 : Nat) : Int) > 0) = false := rfl
    rw [this, Bool.false_and, cond_false, RK_Op _ _ (by simp), Put_L1_eq _ _ _ rfl (fun q hq => by
      simp only [List.take_succ_cons, List.take_zero, List.drop_succ_cons, List.drop_zero, List.cons_append, List.nil_append, List.mem_cons, List.mem_reverse] at hq
      rcases hq with rfl | hq
      · exact ho
      · exact hcR q hq)]
    rfl
  | succ n ih =>
    intro A R f hA hf hcA hcR hr
    obtain ⟨f, rfl⟩ : ∃ g, f = g + 1 := ⟨f - 1, by omega⟩
    obtain ⟨B, b, rfl⟩ : ∃ B b, A = B ++ [b] := ⟨A.dropLast, A.getLast (by intro e; rw [e] at hA; cases hA), (List.dropLast_concat_getLast _).symm⟩
    simp only [List.length_append, List.length_cons, List.length_nil] at hA
    have hcB : ∀ q ∈ B, chkO q = 0 := fun q hq => hcA q (List.mem_append_left _ hq)
    have hcb : chkO b = 0 := hcA b (by simp)
    have hTB : checkT (run e0 B).t = 0 := run_tree B e0 rfl hcB
    have hm := moved_of (moveDo_err0 hTB hcb)
    have hlB : (run e0 B).l.length = n := by rw [run_len]; simp [e0]; omega
    have hg : gt (run e0 (B ++ [b])).l (((n + 1 : Nat) : Int) - 1).toNat = (moveDo (run e0 B).t b).2.1 := by
      rw [run_snoc]
      exact gt_mid _ _ [] _ (by omega)
    have ht : (run e0 (B ++ [b])).l.take (((n + 1 : Nat) : Int) - 1).toNat = (run e0 B).l := by
      rw [run_snoc]
      simp only
      rw [show (((n + 1 : Nat) : Int) - 1).toNat = (run e0 B).l.length by omega, List.take_left]
    rw [history_Put_L0, hg]
    have hop := hm.op
    have h0 : decide (((n + 1 : Nat) : Int) > 0) = true := decide_eq_true (by omega)
    rw [h0, Bool.true_and, hop]
    show ∃ A1 A2, _ ∧ _ ∧ _ ∧ (bif before o b then _ else _) = _
    cases hb : before o b with
    | false =>
      refine ⟨B ++ [b], [], by simp, fun q hq => ?_, by simp, ?_⟩
      · rcases List.mem_append.1 hq with hq | hq
        · have h1 := (List.pairwise_append.1 hr).2.2 q hq b (by simp)
          cases hh : before o q with
          | false => rfl
          | true => rw [before_trans hh h1] at hb; cases hb
        · rw [List.mem_singleton] at hq; rw [hq]; exact hb
      · rw [cond_false, RK_Op _ _ (by simp), Put_L1_eq _ _ _ (run_tree _ e0 rfl hcA) (fun q hq => by
          simp only [List.take_succ_cons, List.take_zero, List.drop_succ_cons, List.drop_zero, List.cons_append, List.nil_append, List.mem_cons, List.mem_reverse] at hq
          rcases hq with rfl | hq
          · exact ho
          · exact hcR q hq)]
        show (run (run e0 (B ++ [b])) _, (0 : Int)) = _
        rw [← run_app]
        simp
    | true =>
      have hu : move_Undo (run e0 (B ++ [b])).t (moveDo (run e0 B).t b).2.1 = ((run e0 B).t, 0) := by
        rw [move_Undo_eq, run_snoc]; exact hm.undo
      rw [cond_true, hu]
      simp only [bne_self_eq_false, cond_false]
      rw [ht, show ((n + 1 : Nat) : Int) - 1 = (n : Int) by omega]
      obtain ⟨A1, A2, h1, h2, h3, h4⟩ := ih B (R ++ [b]) f (by omega) (by omega) hcB (fun q hq => by
        rcases List.mem_append.1 hq with hq | hq
        · exact hcR q hq
        · rw [List.mem_singleton] at hq; rw [hq]; exact hcb) (List.pairwise_append.1 hr).1
      refine ⟨A1, A2 ++ [b], by rw [h1]; simp, h2, fun q hq => ?_, ?_⟩
      · rcases List.mem_append.1 hq with hq | hq
        · exact h3 q hq
        · rw [List.mem_singleton] at hq; rw [hq]; exact hb
      · rw [List.cons_append, h4]; simp
theorem any_stamp (L : List Step) (o : Op) : L.any (fun a0_ => history_Put_1 a0_ o) = true ↔ ∃ q ∈ L.map (·.o), stamp q = stamp o := by
  rw [List.any_eq_true]
  constructor
  · rintro ⟨s, hs, h⟩; exact ⟨s.o, List.mem_map.2 ⟨s, hs, rfl⟩, of_decide_eq_true h⟩
  · rintro ⟨q, hq, h⟩
    obtain ⟨s, hs, rfl⟩ := List.mem_map.1 hq
    exact ⟨s, hs, decide_eq_true h⟩
/-- What Put answers of a right history. -/
theorem Put_eq {h : History} {S : List Op} (hh : IsHist h S) (o : Op) : history_Put h o =
    bif chkO o != 0 then (e0, chkO o) else bif S.any (fun q => decide (stamp q = stamp o)) then (e0, 6) else bif S.length == 30 then (e0, 2) else (run e0 (sortOps (S ++ [o])), 0) := by
  unfold history_Put
  rw [move_Check_eq]
  cases h1 : chkO o != 0 with
  | true => rfl
  | false =>
    have ho := eq_of_bne_false h1
    simp only [cond_false]
    have ha : h.l.any (fun a0_ => history_Put_1 a0_ o) = S.any (fun q => decide (stamp q = stamp o)) := by
      rw [Bool.eq_iff_iff, any_stamp, hh.ops, List.any_eq_true]
      simp
    have hl : h.l.length = S.length := by rw [← hh.ops, List.length_map]
    rw [ha]
    cases h2 : S.any (fun q => decide (stamp q = stamp o)) with
    | true => rfl
    | false =>
      simp only [cond_false]
      have h30 : ((h.l.length : Int) == 30) = (S.length == 30) := by rw [hl, Bool.eq_iff_iff]; simp; omega
      rw [h30]
      cases h3 : S.length == 30 with
      | true => rfl
      | false =>
        have h3 : S.length ≠ 30 := by simpa using h3
        have hlen := hh.len
        simp only [cond_false]
        obtain ⟨A1, A2, e1, e2, e3, e4⟩ := Put_L0_eq o ho S.length S [] (h.l.length + 1) rfl (by omega) hh.ok (by simp) hh.rise
        have hne : ∀ q ∈ S, stamp q ≠ stamp o := fun q hq he => by
          have : S.any (fun q => decide (stamp q = stamp o)) = true := List.any_eq_true.2 ⟨q, hq, decide_eq_true he⟩
          rw [h2] at this; cases this
        have hrise : Rise (A1 ++ o :: A2) := by
          have hr := hh.rise
          rw [e1] at hr
          obtain ⟨r1, r2, r3⟩ := List.pairwise_append.1 hr
          have hA1 : ∀ q ∈ A1, before q o = true := fun q hq => by
            cases hb : before q o with
            | true => rfl
            | false => exact absurd (before_eq hb (e2 q hq)) (hne q (by rw [e1]; exact List.mem_append_left _ hq))
          refine List.pairwise_append.2 ⟨r1, List.pairwise_cons.2 ⟨e3, r2⟩, fun q hq w hw => ?_⟩
          rcases List.mem_cons.1 hw with rfl | hw
          · exact hA1 q hq
          · exact r3 q hq w hw
        have hs : sortOps (S ++ [o]) = A1 ++ o :: A2 := sortOps_uniq (by simp; omega) hrise (by
          rw [e1]
          refine List.perm_middle.trans ?_
          exact (List.perm_append_comm (l₁ := [o]) (l₂ := A1 ++ A2)))
        rw [hs]
        have := e4
        rw [List.reverse_nil, List.append_nil] at this
        rw [← this, hl, hh.eq]
end Go.Proofs.YtccmadehnoihnaaGreatDoor

namespace Go.Proofs.YtccmadehnoihnaaGreatDoor
open Go Go.Proofs.YtccmadehnoihnaaGreatDoor.Fw Go.Proofs
theorem IsHist.run {S : List Op} (h1 : S.length ≤ 30) (h2 : ∀ o ∈ S, chkO o = 0) (h3 : Rise S) : IsHist (run e0 S) S := ⟨h1, h2, h3, rfl⟩
theorem not_any {S : List Op} {o : Op} (h : S.any (fun q => decide (stamp q = stamp o)) = false) : ∀ q ∈ S, stamp q ≠ stamp o := fun q hq he => by
  have : S.any (fun q => decide (stamp q = stamp o)) = true := List.any_eq_true.2 ⟨q, hq, decide_eq_true he⟩
  rw [h] at this; cases this
theorem dist_snoc {S : List Op} {o : Op} (h : Dist S) (hne : ∀ q ∈ S, stamp q ≠ stamp o) : Dist (S ++ [o]) := by
  unfold Dist at *
  rw [List.map_append, List.nodup_append]
  refine ⟨h, by simp, fun a ha b hb => ?_⟩
  obtain ⟨q, hq, rfl⟩ := List.mem_map.1 ha
  simp only [List.map_cons, List.map_nil, List.mem_singleton] at hb
  rw [hb]; exact hne q hq
theorem sort_rise {l : List Op} (h : l.length ≤ 30) (hd : Dist l) : Rise (sortOps l) := rise_of (sortOps_sorted h) ((Dist.perm (sortOps_perm h)).2 hd)
theorem IsHist.llen {h : History} {S : List Op} (hh : IsHist h S) : h.l.length = S.length := by rw [← hh.ops, List.length_map]
theorem IsHist.at_ {h : History} {S : List Op} (hh : IsHist h S) {i : Nat} (hi : i < h.l.length) : (gt h.l i).o = gt S i := by
  have := hh.llen
  rw [gt_eq hi, gt_eq (by omega)]
  have e := hh.ops
  subst e
  simp
end Go.Proofs.YtccmadehnoihnaaGreatDoor

namespace Go.Proofs.YtccmadehnoihnaaGreatDoor
open Go Go.Proofs.YtccmadehnoihnaaGreatDoor.Fw Go.Proofs
/-! ### Roots -/
theorem pairwise_of {α : Type} [Inhabited α] (f : α → Int) : ∀ (l : List α), (∀ i, i + 1 < l.length → f (gt l i) < f (gt l (i + 1))) → l.Pairwise (fun a b => f a < f b)
  | [], _ => .nil
  | [a], _ => by simp
  | a :: b :: r, h => by
    have ih := pairwise_of f (b :: r) (fun i hi => by have := h (i + 1) (by simpa using hi); simpa [gt] using this)
    have h0 : f a < f b := by simpa [gt] using h 0 (by simp)
    refine List.pairwise_cons.2 ⟨fun c hc => ?_, ih⟩
    rcases List.mem_cons.1 hc with rfl | hc
    · exact h0
    · have := (List.pairwise_cons.1 ih).1 c hc; omega
theorem of_pairwise {α : Type} [Inhabited α] (f : α → Int) : ∀ {l : List α}, l.Pairwise (fun a b => f a < f b) → ∀ i, i + 1 < l.length → f (gt l i) < f (gt l (i + 1))
  | [], _, i, hi => by simp at hi
  | a :: r, h, i, hi => by
    obtain ⟨h1, h2⟩ := List.pairwise_cons.1 h
    cases i with
    | zero =>
      have h3 : 0 < r.length := by simpa using hi
      have := h1 (gt r 0) (gt_mem h3)
      simpa [gt] using this
    | succ i =>
      have := of_pairwise f h2 i (by simpa using hi)
      simpa [gt] using this
structure IsRoots (l : List Int) : Prop where
  len : l.length ≤ 4
  rng : ∀ n ∈ l, 0 ≤ n ∧ n ≤ 16
  up : l.Pairwise (fun a b => a < b)
theorem Roots_L0_iff (l : List Int) : ∀ (r : List Int) (k : Nat), r = l.drop k → (view_Roots_L0 l r k = 0 ↔ (∀ n ∈ r, 0 ≤ n ∧ n ≤ 16) ∧ ∀ i, k ≤ i → i < l.length → 0 < i → gt l (i - 1) < gt l i)
  | [], k, hr => by
    have hk : l.length ≤ k := by have := congrArg List.length hr; simp at this; omega
    rw [view_Roots_L0]
    exact ⟨fun _ => ⟨by simp, fun i h1 h2 => by omega⟩, fun _ => rfl⟩
  | n :: r, k, hr => by
    have hk : k < l.length := by have := congrArg List.length hr; simp at this; omega
    rw [drop_gt hk] at hr
    obtain ⟨hn, hr'⟩ := List.cons.inj hr
    have ih := Roots_L0_iff l r (k + 1) hr'
    rw [view_Roots_L0]
    cases h1 : (decide (n < 0) || decide (n > 16)) with
    | true =>
      simp only [cond_true]
      refine ⟨fun h => by omega, fun h => ?_⟩
      have := h.1 n (.head _)
      simp at h1; omega
    | false =>
      simp at h1
      cases h2 : (decide ((k : Int) > 0) && decide (gt l (k - 1) ≥ n)) with
      | true =>
        simp only [cond_true, cond_false]
        simp only [Bool.and_eq_true, decide_eq_true_eq] at h2
        refine ⟨fun h => by omega, fun h => ?_⟩
        have := h.2 k (Nat.le_refl _) hk (by omega)
        rw [← hn] at this
        omega
      | false =>
        simp only [cond_false]
        rw [ih]
        constructor
        · rintro ⟨a, b⟩
          refine ⟨fun m hm => ?_, fun i hi hl hp => ?_⟩
          · cases hm with
            | head => omega
            | tail _ hm => exact a m hm
          · by_cases he : i = k
            · subst he
              simp at h2
              have := h2 (by omega)
              rw [← hn]; omega
            · exact b i (by omega) hl hp
        · rintro ⟨a, b⟩
          exact ⟨fun m hm => a m (.tail _ hm), fun i hi hl hp => b i (by omega) hl hp⟩
theorem Roots_iff (l : List Int) : view_Roots l = 0 ↔ IsRoots l := by
  unfold view_Roots
  cases h : decide ((l.length : Int) > 4) with
  | true =>
    simp at h
    simp only [cond_true]
    exact ⟨fun h => by omega, fun h' => by have := h'.len; omega⟩
  | false =>
    simp at h
    rw [cond_false, Roots_L0_iff l l 0 rfl]
    constructor
    · rintro ⟨a, b⟩
      exact ⟨by omega, a, pairwise_of id l fun i hi => by have := b (i + 1) (by omega) hi (by omega); simpa using this⟩
    · intro h'
      refine ⟨h'.rng, fun i _ hl hp => ?_⟩
      have := of_pairwise id h'.up (i - 1) (by omega)
      rw [show i - 1 + 1 = i by omega] at this
      exact this
theorem IsRoots.take {l : List Int} (h : IsRoots l) (k : Nat) : IsRoots (l.take k) :=
  ⟨by have := h.len; simp; omega, fun n hn => h.rng n (List.mem_of_mem_take hn), h.up.sublist (List.take_sublist k l)⟩
end Go.Proofs.YtccmadehnoihnaaGreatDoor

namespace Go.Proofs.YtccmadehnoihnaaGreatDoor
open Go Go.Proofs.YtccmadehnoihnaaGreatDoor.Fw Go.Proofs
/-! ### A hub, plainly -/
structure PeerOk (p : Peer) : Prop where
  rng : 0 ≤ p.life ∧ p.life ≤ 50 ∧ 0 ≤ p.seq ∧ p.seq ≤ 30
  new : p.life = 0 → p.seq = 0 ∧ p.roots = []
  roots : view_Roots p.roots = 0
structure IsHub (h : Hub) : Prop where
  hist : history_Check h.h = 0
  vers : 0 ≤ h.version ∧ h.version ≤ 60
  three : h.peers.length = 3
  peers : ∀ p ∈ h.peers, PeerOk p
theorem hub_L0_of : ∀ {l : List Peer}, (∀ p ∈ l, PeerOk p) → hub_Check_L0 l = 0
  | [], _ => rfl
  | q :: l, h => by
    obtain ⟨h1, h2, h3⟩ := h q (.head _)
    have e1 : (((decide (q.life < 0) || decide (q.life > 50)) || decide (q.seq < 0)) || decide (q.seq > 30)) = false := by
      simp only [Bool.or_eq_false_iff, decide_eq_false_iff_not]; omega
    have e2 : ((q.life == 0) && (decide (q.seq > 0) || decide ((q.roots.length : Int) > 0))) = false := by
      cases hl : (q.life == 0) with
      | false => rfl
      | true =>
        obtain ⟨h4, h5⟩ := h2 (eq_of_beq hl)
        rw [h4, h5]; rfl
    rw [hub_Check_L0, e1, cond_false, e2, cond_false, h3]
    exact hub_L0_of fun p hp => h p (.tail _ hp)
theorem hub_Check_iff (h : Hub) : hub_Check h = 0 ↔ IsHub h := by
  constructor
  · intro hc
    obtain ⟨h1, h2, h3, h4⟩ := hub_Check_len hc
    exact ⟨h1, ⟨h2, h3⟩, h4, fun p hp => by obtain ⟨a, b, c⟩ := hub_peers hc p hp; exact ⟨a, b, c⟩⟩
  · intro ⟨h1, h2, h3, h4⟩
    have e1 : (history_Check h.h != 0) = false := by rw [h1]; rfl
    have e2 : (decide (h.version < 0) || decide (h.version > 60)) = false := by simp only [Bool.or_eq_false_iff, decide_eq_false_iff_not]; omega
    have e3 : ((h.peers.length : Int) != 3) = false := by rw [h3]; rfl
    unfold hub_Check
    rw [e1, cond_false, e2, cond_false, e3, cond_false]
    exact hub_L0_of h4
theorem peers_set {h : Hub} (hh : IsHub h) {i : Nat} {q : Peer} (hq : PeerOk q) : ∀ p ∈ h.peers.set i q, PeerOk p := fun p hp => by
  rcases List.mem_or_eq_of_mem_set hp with h1 | h1
  · exact hh.peers p h1
  · rw [h1]; exact hq
theorem Put_hist {h : History} {S : List Op} (hh : IsHist h S) {o : Op} (ho : chkO o = 0) (h0 : (history_Put h o).2 = 0) : IsHist (history_Put h o).1 (sortOps (S ++ [o])) ∧ (sortOps (S ++ [o])).Perm (S ++ [o]) := by
  rw [Put_eq hh] at h0 ⊢
  have e1 : (chkO o != 0) = false := by rw [ho]; rfl
  rw [e1, cond_false] at h0
  rw [e1, cond_false]
  cases h2 : S.any (fun q => decide (stamp q = stamp o)) with
  | true => rw [h2, cond_true] at h0; cases h0
  | false =>
  rw [h2, cond_false] at h0
  rw [cond_false]
  cases h3 : S.length == 30 with
  | true => rw [h3, cond_true] at h0; cases h0
  | false =>
    rw [cond_false]
    have h3 : S.length ≠ 30 := by simpa using h3
    have hl := hh.len
    have hl2 : (S ++ [o]).length ≤ 30 := by simp only [List.length_append, List.length_cons, List.length_nil]; omega
    refine ⟨IsHist.run (by rw [(sortOps_perm hl2).length_eq]; exact hl2) (sortOps_ok hl2 fun q hq => ?_) (sort_rise hl2 (dist_snoc hh.rise.dist (not_any h2))), sortOps_perm hl2⟩
    rcases List.mem_append.1 hq with hq | hq
    · exact hh.ok q hq
    · rw [List.mem_singleton] at hq; rw [hq]; exact ho
theorem Put_check {h : History} (hc : history_Check h = 0) {o : Op} (h0 : (history_Put h o).2 = 0) : history_Check (history_Put h o).1 = 0 := by
  have hh := (Check_iff h).1 hc
  have ho : chkO o = 0 := by
    rw [Put_eq hh] at h0
    cases e1 : (chkO o != 0) with
    | true => rw [e1, cond_true] at h0; simp only at h0; rw [h0] at e1; cases e1
    | false => exact eq_of_bne_false e1
  obtain ⟨p1, _⟩ := Put_hist hh ho h0
  rw [Check_iff, p1.ops]
  exact p1
theorem accept_ok {h : Hub} (hh : IsHub h) {o : Op} (ho : chkO o = 0) (h0 : (hub_accept h o).1 = 0) : IsHub (hub_accept h o).2 ∧ (hub_accept h o).2.version = h.version := by
  unfold hub_accept at h0 ⊢
  cases h1 : (((gt h.peers o.who.toNat).life != o.life) || ((gt h.peers o.who.toNat).seq + 1 != o.seq)) with
  | true => rw [h1, cond_true] at h0; cases h0
  | false =>
  rw [h1, cond_false] at h0
  rw [cond_false]
  cases h2 : ((history_Put h.h o).2 == 0) with
  | false =>
    rw [h2, cond_false] at h0
    simp only at h0
    rw [h0] at h2; cases h2
  | true =>
    rw [cond_true]
    have hc := chkO_ok ho
    have hm : gt h.peers o.who.toNat ∈ h.peers := gt_mem (by rw [hh.three]; omega)
    have hp := hh.peers _ hm
    simp only [Bool.or_eq_false_iff, bne_eq_false_iff_eq] at h1
    have hr := hp.rng
    refine ⟨⟨Put_check hh.hist (eq_of_beq h2), hh.vers, by rw [List.length_set]; exact hh.three, peers_set hh ⟨?_, ?_, hp.roots⟩⟩, rfl⟩
    · simp only; omega
    · simp only; intro hl; omega
theorem next_ok {h : Hub} (hh : IsHub h) {r : Rec} (h0 : (hub_next h r).2 = 0) : IsHub (hub_next h r).1 ∧ (hub_next h r).1.version = h.version + 1 := by
  unfold hub_next at h0 ⊢
  cases h1 : (note_Check r != 0) with
  | true => rw [h1, cond_true] at h0; simp only at h0; rw [h0] at h1; cases h1
  | false =>
  rw [h1, cond_false] at h0
  rw [cond_false]
  obtain ⟨w1, w2, w3, w4, w5⟩ := note_who (eq_of_bne_false h1)
  cases h2 : (h.version == 60) with
  | true => rw [h2, cond_true] at h0; cases h0
  | false =>
  rw [h2, cond_false] at h0
  rw [cond_false]
  have hv := hh.vers
  have h2 := beq_eq_false_iff_ne.1 h2
  have hh' : IsHub ⟨h.h, h.version + 1, h.peers⟩ := ⟨hh.hist, by simp only; omega, hh.three, hh.peers⟩
  cases h3 : (r.kind == 1) with
  | true =>
    rw [h3, cond_true] at h0
    rw [cond_true]
    cases h4 : ((hub_accept ⟨h.h, h.version + 1, h.peers⟩ r.o).1 != 0) with
    | true => rw [h4, cond_true] at h0; simp only at h0; rw [h0] at h4; cases h4
    | false =>
      have ho : chkO r.o = 0 := by
        have hn := eq_of_bne_false h1
        unfold note_Check at hn
        rw [h3, cond_true] at hn
        cases h5 : (decide (r.kind < 1) || decide (r.kind > 3)) with
        | true => rw [h5, cond_true] at hn; cases hn
        | false =>
          rw [h5, cond_false] at hn
          cases h6 : (((r.who != 0) || (r.life != 0)) || decide ((r.roots.length : Int) > 0)) with
          | true => rw [h6, cond_true] at hn; cases hn
          | false => rw [h6, cond_false, move_Check_eq] at hn; exact hn
      exact accept_ok hh' ho (eq_of_bne_false h4)
  | false =>
    rw [h3, cond_false] at h0
    rw [cond_false]
    have h3 := beq_eq_false_iff_ne.1 h3
    have hw := w2 h3
    have hm : gt h.peers r.who.toNat ∈ h.peers := gt_mem (by rw [hh.three]; omega)
    have hp := hh.peers _ hm
    have hr := hp.rng
    cases h4 : (r.kind == 2) with
    | true =>
      rw [h4, cond_true] at h0
      rw [cond_true]
      cases h5 : (r.life != (gt h.peers r.who.toNat).life + 1) with
      | true => rw [h5, cond_true] at h0; cases h0
      | false =>
        have h5 := eq_of_bne_false h5
        rw [cond_false]
        have hl : 1 ≤ r.life ∧ r.life ≤ 50 := by
          have hn := eq_of_bne_false h1
          unfold note_Check at hn
          have e1 : (r.kind == 1) = false := beq_eq_false_iff_ne.2 h3
          rw [e1, h4] at hn
          cases h6 : (decide (r.kind < 1) || decide (r.kind > 3)) with
          | true => rw [h6, cond_true] at hn; cases hn
          | false =>
            rw [h6, cond_false, cond_false] at hn
            simp only [Bool.true_and] at hn
            cases h7 : (((!(decide (r.o = (⟨0, 0, 0, 0, 0, 0, 0⟩ : Op)))) || ((r.kind == 3) && (r.life != 0))) || decide ((r.roots.length : Int) > 0)) with
            | true => rw [h7, cond_true] at hn; cases hn
            | false =>
              rw [h7, cond_false] at hn
              cases h8 : ((decide (r.who < 0) || decide (r.who ≥ 3)) || (decide (r.life < 1) || decide (r.life > 50))) with
              | true => rw [h8, cond_true] at hn; cases hn
              | false => simp only [Bool.or_eq_false_iff, decide_eq_false_iff_not] at h8; omega
        exact ⟨⟨hh.hist, by simp only; omega, by rw [List.length_set]; exact hh.three, peers_set hh ⟨by simp only; omega, fun hz => by simp only at hz; omega, rfl⟩⟩, rfl⟩
    | false =>
      rw [h4, cond_false] at h0
      rw [cond_false]
      cases h5 : (r.kind == 3) with
      | false => exact ⟨hh', rfl⟩
      | true =>
        rw [h5, cond_true] at h0
        rw [cond_true]
        cases h6 : ((gt h.peers r.who.toNat).life == 0) with
        | true => rw [h6, cond_true] at h0; cases h0
        | false =>
          have h6 := beq_eq_false_iff_ne.1 h6
          rw [cond_false]
          exact ⟨⟨hh.hist, by simp only; omega, by rw [List.length_set]; exact hh.three, peers_set hh ⟨hp.rng, fun hz => absurd hz h6, w5 h3⟩⟩, rfl⟩
theorem hub_New_ok : IsHub ⟨⟨[], []⟩, 0, [⟨0, 0, []⟩, ⟨0, 0, []⟩, ⟨0, 0, []⟩]⟩ :=
  ⟨by decide +kernel, by decide, rfl, fun p hp => by
    simp only [List.mem_cons, List.not_mem_nil, or_false, or_self] at hp
    subst hp
    exact ⟨by decide, fun _ => ⟨rfl, rfl⟩, by decide +kernel⟩⟩
end Go.Proofs.YtccmadehnoihnaaGreatDoor
