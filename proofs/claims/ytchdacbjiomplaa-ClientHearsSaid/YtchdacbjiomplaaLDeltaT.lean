/- Part of this claim. No condition. -/
import Derived.Test.YtchdacbjiomplaaLSeen
import Derived.Test.YtchdacbjiomplaaW17
set_option linter.unusedVariables false
set_option linter.unusedSimpArgs false
namespace Go.Proofs.Ytchdacbjiomplaa
open Go Go.Proofs.Ytchdacbjiomplaa.Fw Go.Proofs
def dropN (t : List Place) (n : Int) : List Place := putT t ⟨n, -1, 0⟩
theorem turn_L1_eq : ∀ (m l : List Place), delta_turn_L1 m l = m.foldl putT l
  | [], _ => rfl
  | p :: r, l => by rw [delta_turn_L1, tree_Put_eq, turn_L1_eq r]; rfl
theorem turn_L0_eq (here : List Place) : ∀ (g : List Int) (l : List Place), delta_turn_L0 here g l = here.foldl putT (g.foldl dropN l)
  | [], l => turn_L1_eq _ _
  | n :: r, l => by rw [delta_turn_L0, tree_Put_eq, turn_L0_eq here r]; rfl
theorem turn_eq (l : List Place) (g : List Int) (h : List Place) : delta_turn l g h = h.foldl putT (g.foldl dropN l) := turn_L0_eq h g l
theorem Rising.drops : ∀ (g : List Int) {l : List Place}, Rising l → (∀ n ∈ g, 1 ≤ n ∧ n < 16) → Rising (g.foldl dropN l)
  | [], _, h, _ => h
  | n :: r, _, h, hg => Rising.drops r (h.put (p := ⟨n, -1, 0⟩) (hg n (.head _))) fun m hm => hg m (.tail _ hm)
theorem find_drops (m : Int) : ∀ (g : List Int) (l : List Place), find (g.foldl dropN l) m = bif decide (m ∈ g) then ⟨0, 0, 0⟩ else find l m
  | [], l => by simp
  | n :: r, l => by
    rw [List.foldl_cons, find_drops m r]
    unfold dropN
    rw [find_putT]
    by_cases h1 : m = n
    · subst h1; simp
    · have : (m == n) = false := by simpa using h1
      simp [h1, this]
end Go.Proofs.Ytchdacbjiomplaa
