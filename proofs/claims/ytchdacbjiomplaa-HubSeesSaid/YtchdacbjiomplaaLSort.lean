/- Part of this claim. No condition. -/
import Derived.Test.YtchdacbjiomplaaTData
set_option linter.unusedVariables false
set_option linter.unusedSimpArgs false
namespace Go.Proofs.Ytchdacbjiomplaa
open Go Go.Proofs.Ytchdacbjiomplaa.Fw
/-! ### Sorting by insertion, in plain words -/
def insR {α : Type} (lt : α → α → Bool) (x : α) : List α → List α → List α
  | [], s => x :: s
  | y :: r, s => bif lt x y then insR lt x r (y :: s) else (y :: r).reverse ++ x :: s
theorem insR_eq {α : Type} (lt : α → α → Bool) (x : α) : ∀ (r s : List α), insR lt x r s = (r.dropWhile (lt x)).reverse ++ x :: ((r.takeWhile (lt x)).reverse ++ s)
  | [], s => rfl
  | y :: r, s => by
    rw [insR]
    cases h : lt x y with
    | true => rw [cond_true, insR_eq lt x r]; simp [List.dropWhile_cons, List.takeWhile_cons, h]
    | false => simp [List.dropWhile_cons, List.takeWhile_cons, h]
def isort {α : Type} (lt : α → α → Bool) : List α → List α → List α
  | acc, [] => acc
  | acc, x :: r => isort lt (insR lt x acc.reverse []) r
theorem insR_len {α : Type} (lt : α → α → Bool) (x : α) (r s : List α) : (insR lt x r s).length = r.length + s.length + 1 := by
  rw [insR_eq]
  have := congrArg List.length (List.takeWhile_append_dropWhile (p := lt x) (l := r))
  simp only [List.length_append] at this
  simp; omega
theorem insR_perm {α : Type} (lt : α → α → Bool) (x : α) (r s : List α) : (insR lt x r s).Perm (x :: (r.reverse ++ s)) := by
  rw [insR_eq]
  refine List.perm_middle.trans (.cons _ ?_)
  rw [← List.append_assoc, ← List.reverse_append, List.takeWhile_append_dropWhile]
theorem isort_perm {α : Type} (lt : α → α → Bool) : ∀ (r acc : List α), (isort lt acc r).Perm (acc ++ r)
  | [], acc => by simp [isort]
  | x :: r, acc => by
    rw [isort]
    refine (isort_perm lt r _).trans ?_
    refine ((insR_perm lt x acc.reverse []).append_right r).trans ?_
    simp only [List.reverse_reverse, List.append_nil, List.cons_append]
    exact List.perm_middle.symm
theorem insR_app {α : Type} (lt : α → α → Bool) (x : α) (r s : List α) : insR lt x r s = insR lt x r [] ++ s := by simp [insR_eq]
theorem gt_mid {α : Type} [Inhabited α] (A : List α) (b : α) (C : List α) (i : Nat) (h : i = A.length) : gt (A ++ b :: C) i = b := by subst h; simp [gt]
theorem set_mid {α : Type} (A : List α) (b c : α) (C : List α) (i : Nat) (h : i = A.length) : (A ++ b :: C).set i c = A ++ c :: C := by subst h; simp
/-- sorted: none is ahead of one before it -/
def Sorted {α : Type} (lt : α → α → Bool) (l : List α) : Prop := l.Pairwise (fun a b => lt b a = false)
theorem insR_sorted {α : Type} {lt : α → α → Bool} (htr : ∀ a b c, lt c b = false → lt b a = false → lt c a = false) (has : ∀ a b, lt a b = true → lt b a = false) (x : α) (l : List α) (h : Sorted lt l) : Sorted lt (insR lt x l.reverse []) := by
  rw [insR_eq, List.append_nil]
  have hl : l = (l.reverse.dropWhile (lt x)).reverse ++ (l.reverse.takeWhile (lt x)).reverse := by
    rw [← List.reverse_append, List.takeWhile_append_dropWhile, List.reverse_reverse]
  have hs : Sorted lt ((l.reverse.dropWhile (lt x)).reverse ++ (l.reverse.takeWhile (lt x)).reverse) := by rw [← hl]; exact h
  obtain ⟨h1, h2, h3⟩ := List.pairwise_append.1 hs
  have ht : ∀ b ∈ (l.reverse.takeWhile (lt x)).reverse, lt x b = true := fun b hb => by
    have := List.all_eq_true.1 (List.all_takeWhile (p := lt x) (l := l.reverse)) b (List.mem_reverse.1 hb)
    exact this
  refine List.pairwise_append.2 ⟨h1, List.pairwise_cons.2 ⟨fun b hb => has _ _ (ht b hb), h2⟩, fun a ha b hb => ?_⟩
  have hd : ∀ a ∈ (l.reverse.dropWhile (lt x)).reverse, lt x a = false := by
    intro a ha
    rw [List.mem_reverse] at ha
    cases hD : l.reverse.dropWhile (lt x) with
    | nil => rw [hD] at ha; cases ha
    | cons y D =>
      have hy : lt x y = false := by
        have := List.head_dropWhile_not (p := lt x) (l := l.reverse) (by rw [hD]; simp)
        simp only [hD, List.head_cons] at this
        exact this
      rw [hD] at ha h1
      rcases List.mem_cons.1 ha with rfl | ha
      · exact hy
      · have : lt y a = false := by
          have h1 : Sorted lt (y :: D).reverse := h1
          unfold Sorted at h1
          rw [List.pairwise_reverse] at h1
          exact (List.pairwise_cons.1 h1).1 a ha
        exact htr a y x hy this
  rcases List.mem_cons.1 hb with rfl | hb
  · exact hd a ha
  · exact h3 a ha b hb
theorem isort_sorted {α : Type} {lt : α → α → Bool} (htr : ∀ a b c, lt c b = false → lt b a = false → lt c a = false) (has : ∀ a b, lt a b = true → lt b a = false) : ∀ (r acc : List α), Sorted lt acc → Sorted lt (isort lt acc r)
  | [], acc, h => h
  | x :: r, acc, h => isort_sorted htr has r _ (insR_sorted htr has x acc h)

theorem isort_len {α : Type} (lt : α → α → Bool) (l : List α) : (isort lt [] l).length = l.length := by
  have := (isort_perm lt l []).length_eq
  simpa using this
theorem insR_congr {α : Type} {lt lt' : α → α → Bool} (x : α) : ∀ (r s : List α), (∀ a ∈ r, lt x a = lt' x a) → insR lt x r s = insR lt' x r s
  | [], _, _ => rfl
  | y :: r, s, h => by rw [insR, insR, h y (.head _), insR_congr x r _ fun a ha => h a (.tail _ ha)]
theorem isort_congr {α : Type} {lt lt' : α → α → Bool} : ∀ (r acc : List α), (∀ a ∈ r, ∀ b, b ∈ acc ∨ b ∈ r → lt a b = lt' a b) → isort lt acc r = isort lt' acc r
  | [], _, _ => rfl
  | x :: r, acc, h => by
    have h1 : insR lt x acc.reverse [] = insR lt' x acc.reverse [] := insR_congr x _ _ fun a ha => h x (.head _) a (.inl (List.mem_reverse.1 ha))
    rw [isort, isort, h1]
    refine isort_congr r _ fun a ha b hb => h a (.tail _ ha) b ?_
    rcases hb with hb | hb
    · have := (insR_perm lt' x acc.reverse []).mem_iff.1 hb
      simp only [List.reverse_reverse, List.append_nil, List.mem_cons] at this
      rcases this with rfl | this
      · exact .inr (.head _)
      · exact .inl this
    · exact .inr (.tail _ hb)
/-! ### By names -/
def ltName (a b : Place) : Bool := decide (a.name - b.name < 0)
def bucket (m : Nat) (l : List Place) : List Place := (List.range m).flatMap fun (k : Nat) => l.filter (fun p => p.name == (k : Int))
theorem bucket_snoc (m : Nat) (l : List Place) (x : Place) (hx : 0 ≤ x.name ∧ x.name < m) : insR ltName x (bucket m l).reverse [] = bucket m (l ++ [x]) := by
  obtain ⟨n, hn⟩ : ∃ n : Nat, x.name = n := ⟨x.name.toNat, by omega⟩
  obtain ⟨b, hb⟩ : ∃ b, m = (n + 1) + b := ⟨m - (n + 1), by omega⟩
  let B1 := fun l : List Place => (List.range (n + 1)).flatMap fun (k : Nat) => l.filter (fun p => p.name == (k : Int))
  let B2 := fun l : List Place => ((List.range b).map (n + 1 + ·)).flatMap fun (k : Nat) => l.filter (fun p => p.name == (k : Int))
  have hB : ∀ l, bucket m l = B1 l ++ B2 l := fun l => by
    show bucket m l = _
    unfold bucket
    rw [hb, List.range_add, List.flatMap_append]
  have h1 : B1 (l ++ [x]) = B1 l ++ [x] := by
    show ((List.range (n + 1)).flatMap fun (k : Nat) => (l ++ [x]).filter (fun p => p.name == (k : Int))) = ((List.range (n + 1)).flatMap fun (k : Nat) => l.filter (fun p => p.name == (k : Int))) ++ [x]
    rw [List.range_succ, List.flatMap_append, List.flatMap_append]
    have e0 : ((List.range n).flatMap fun (k : Nat) => (l ++ [x]).filter (fun p => p.name == (k : Int))) = (List.range n).flatMap fun (k : Nat) => l.filter (fun p => p.name == (k : Int)) := by
      have : ∀ k ∈ List.range n, (l ++ [x]).filter (fun p => p.name == (k : Int)) = l.filter (fun p => p.name == (k : Int)) := fun k hk => by
        rw [List.filter_append]
        have : (x.name == (k : Int)) = false := by rw [hn]; simp at hk ⊢; omega
        simp [this]
      simp only [List.flatMap_def]
      rw [List.map_congr_left this]
    rw [e0]
    have : (x.name == (n : Int)) = true := by simpa using hn
    simp [List.filter_append, this]
  have h2 : B2 (l ++ [x]) = B2 l := by
    have : ∀ k ∈ (List.range b).map (n + 1 + ·), (l ++ [x]).filter (fun p => p.name == (k : Int)) = l.filter (fun p => p.name == (k : Int)) := fun k hk => by
      rw [List.filter_append]
      obtain ⟨j, _, rfl⟩ := List.mem_map.1 hk
      have : (x.name == ((n + 1 + j : Nat) : Int)) = false := by rw [hn]; simp; omega
      simp only [List.filter_cons, this, List.filter_nil, Bool.false_eq_true, if_false, List.append_nil]
    show ((List.range b).map (n + 1 + ·)).flatMap _ = ((List.range b).map (n + 1 + ·)).flatMap _
    simp only [List.flatMap_def]
    rw [List.map_congr_left this]
  have m1 : ∀ p ∈ B1 l, p.name ≤ n := fun p hp => by
    obtain ⟨k, hk, hp⟩ := List.mem_flatMap.1 hp
    have h1 := (List.mem_filter.1 hp).2
    simp at hk h1
    omega
  have m2 : ∀ p ∈ B2 l, (n : Int) < p.name := fun p hp => by
    obtain ⟨k, hk, hp⟩ := List.mem_flatMap.1 hp
    obtain ⟨j, _, rfl⟩ := List.mem_map.1 hk
    have h1 := (List.mem_filter.1 hp).2
    simp at h1
    omega
  rw [insR_eq, hB, hB, h1, h2, List.reverse_append, List.append_nil]
  have t2 : ∀ a ∈ (B2 l).reverse, ltName x a = true := fun a ha => by
    have := m2 a (List.mem_reverse.1 ha)
    unfold ltName
    simp; omega
  have t1 : ∀ a ∈ (B1 l).reverse, ltName x a = false := fun a ha => by
    have := m1 a (List.mem_reverse.1 ha)
    unfold ltName
    simp; omega
  rw [List.dropWhile_append_of_pos t2, List.takeWhile_append_of_pos t2]
  have d1 : (B1 l).reverse.dropWhile (ltName x) = (B1 l).reverse := by
    cases hr : (B1 l).reverse with
    | nil => rfl
    | cons y r => rw [List.dropWhile_cons, t1 y (by rw [hr]; exact .head _)]; rfl
  have d2 : (B1 l).reverse.takeWhile (ltName x) = [] := by
    cases hr : (B1 l).reverse with
    | nil => rfl
    | cons y r => rw [List.takeWhile_cons, t1 y (by rw [hr]; exact .head _)]; rfl
  rw [d1, d2]
  simp
theorem isort_bucket (m : Nat) : ∀ (r l : List Place), (∀ p ∈ r, 0 ≤ p.name ∧ p.name < m) → isort ltName (bucket m l) r = bucket m (l ++ r)
  | [], l, _ => by simp [isort]
  | x :: r, l, h => by
    rw [isort, bucket_snoc m l x (h x (.head _)), isort_bucket m r (l ++ [x]) (fun p hp => h p (.tail _ hp))]
    simp
theorem bucket_nil (m : Nat) : bucket m [] = [] := by
  unfold bucket
  rw [List.flatMap_eq_nil_iff]
  intro k _; rfl
end Go.Proofs.Ytchdacbjiomplaa
