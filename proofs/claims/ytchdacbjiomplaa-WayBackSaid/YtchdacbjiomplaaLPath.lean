/- Part of this claim. No condition. -/
import Derived.Test.YtchdacbjiomplaaLTree
set_option linter.unusedVariables false
set_option linter.unusedSimpArgs false
namespace Go.Proofs.Ytchdacbjiomplaa
open Go Go.Proofs.Ytchdacbjiomplaa.Fw

/-! ### Ways up a tree -/
inductive Way (l : List Place) (ok : Int → Prop) : Int → Int → Nat → Prop
  | here (a : Int) : Way l ok a a 0
  | up {a b : Int} {k : Nat} (hok : ok a) (hn : (find l a).node ≠ 0) (h : Way l ok (find l a).parent b k) : Way l ok a b (k + 1)

theorem standsF_iff (l : List Place) (top : Int) : ∀ (f : Nat) (nd : Int), standsF l top f nd = true ↔ ∃ k, k < f ∧ Way l (fun _ => True) nd top k
  | 0, nd => by simp [standsF]
  | f + 1, nd => by
    rw [standsF]
    by_cases h : nd = top
    · subst h
      simp only [beq_self_eq_true, cond_true, true_iff]
      exact ⟨0, by omega, .here _⟩
    · have hb : (nd == top) = false := by simpa using h
      rw [hb, cond_false]
      by_cases h0 : (find l nd).node = 0
      · have : ((find l nd).node == 0) = true := by simpa using h0
        rw [this, cond_true]
        constructor
        · intro h; cases h
        · rintro ⟨k, _, hw⟩
          cases hw with
          | here => exact absurd rfl h
          | up _ hn _ => exact absurd h0 hn
      · have : ((find l nd).node == 0) = false := by simpa using h0
        rw [this, cond_false, standsF_iff l top f]
        constructor
        · rintro ⟨k, hk, hw⟩; exact ⟨k + 1, by omega, .up trivial h0 hw⟩
        · rintro ⟨k, hk, hw⟩
          cases hw with
          | here => exact absurd rfl h
          | up _ _ hw => exact ⟨_, by omega, hw⟩

theorem Way.last {l : List Place} {ok : Int → Prop} (a : Int) {x b : Int} {k : Nat} (h : Way l ok x b k) :
    (∃ k', Way l (fun z => ok z ∧ z ≠ a) x b k') ∨ (ok a ∧ (find l a).node ≠ 0 ∧ ∃ k', Way l (fun z => ok z ∧ z ≠ a) (find l a).parent b k') := by
  induction h with
  | here x => exact .inl ⟨0, .here _⟩
  | @up x b k hok hn h ih =>
    rcases ih with ⟨k', hw⟩ | h2
    · by_cases hx : x = a
      · subst hx; exact .inr ⟨hok, hn, k', hw⟩
      · exact .inl ⟨k' + 1, .up ⟨hok, hx⟩ hn hw⟩
    · exact .inr h2

theorem Way.mono {l : List Place} {ok ok' : Int → Prop} (hm : ∀ z, ok z → ok' z) {a b : Int} {k : Nat} (h : Way l ok a b k) : Way l ok' a b k := by
  induction h with
  | here x => exact .here x
  | up hok hn _ ih => exact .up (hm _ hok) hn ih

theorem Way.short {l : List Place} : ∀ (m : Nat) (S : List Int), S.length ≤ m → ∀ {a b : Int} {k : Nat}, Way l (fun z => z ∈ S) a b k → ∃ k', k' ≤ m ∧ Way l (fun z => z ∈ S) a b k' := by
  intro m
  induction m with
  | zero =>
    intro S hS a b k h
    cases h with
    | here => exact ⟨0, Nat.le_refl _, .here _⟩
    | up hok _ _ =>
      have : S = [] := List.length_eq_zero_iff.1 (by omega)
      subst this; cases hok
  | succ m ih =>
    intro S hS a b k h
    rcases h.last a with ⟨k', hw⟩ | ⟨hok, hn, k', hw⟩
    · cases hw with
      | here => exact ⟨0, by omega, .here _⟩
      | up hok _ _ => exact absurd rfl hok.2
    · have hlt : (S.filter (· != a)).length < S.length := by
        apply Classical.byContradiction
        intro hge
        have := List.filter_eq_self.1 ((List.filter_sublist (p := (· != a)) (l := S)).eq_of_length_le (by omega)) a hok
        simp at this
      obtain ⟨k2, hk2, hw2⟩ := ih (S.filter (· != a)) (by omega) (hw.mono fun z hz => by simpa using hz)
      exact ⟨k2 + 1, by omega, .up hok hn (hw2.mono fun z hz => (List.mem_filter.1 hz).1)⟩

theorem find_node {l : List Place} {a : Int} : (find l a).node ≠ 0 → (find l a).node = a ∧ find l a ∈ l := by
  induction l with
  | nil => intro h; exact absurd rfl h
  | cons p r ih =>
    intro h
    rw [find] at h ⊢
    cases hp : p.node == a with
    | true => rw [cond_true]; exact ⟨by simpa using hp, .head _⟩
    | false => rw [hp, cond_false] at h; rw [cond_false]; exact ⟨(ih h).1, .tail _ (ih h).2⟩

def Up (l : List Place) (a b : Int) : Prop := ∃ k, Way l (fun _ => True) a b k

theorem stands_iff (l : List Place) (a b : Int) : stands l a b = true ↔ Up l a b := by
  unfold stands
  rw [standsF_iff]
  constructor
  · rintro ⟨k, _, h⟩; exact ⟨k, h⟩
  · rintro ⟨k, h⟩
    have h1 : ∀ {a b : Int} {k : Nat}, Way l (fun _ => True) a b k → Way l (fun z => z ∈ l.map (·.node)) a b k := by
      intro a b k h
      induction h with
      | here x => exact .here x
      | up _ hn _ ih =>
        obtain ⟨e, hm⟩ := find_node hn
        exact .up (List.mem_map.2 ⟨_, hm, e⟩) hn ih
    obtain ⟨k', hk, hw⟩ := (h1 h).short (l := l) l.length (l.map (·.node)) (by simp)
    exact ⟨k', by omega, hw.mono fun _ _ => trivial⟩

theorem Up.refl (l : List Place) (a : Int) : Up l a a := ⟨0, .here a⟩
theorem Way.trans {l : List Place} {ok : Int → Prop} {a b c : Int} {k m : Nat} (h : Way l ok a b k) (h' : Way l ok b c m) : ∃ n, Way l ok a c n := by
  induction h with
  | here => exact ⟨m, h'⟩
  | up hok hn _ ih => obtain ⟨n, hw⟩ := ih h'; exact ⟨n + 1, .up hok hn hw⟩
theorem Up.trans {l : List Place} {a b c : Int} (h : Up l a b) (h' : Up l b c) : Up l a c := by
  obtain ⟨_, h⟩ := h
  obtain ⟨_, h'⟩ := h'
  exact h.trans h'
end Go.Proofs.Ytchdacbjiomplaa
