/- Part of this claim. No condition. -/
import Derived.Test.YtchdacbjiomplaaW1
set_option linter.unusedVariables false
set_option linter.unusedSimpArgs false
namespace Go.Proofs.Ytchdacbjiomplaa
open Go Go.Proofs.Ytchdacbjiomplaa.Fw Go.Proofs
/-! What is checked is small. -/
theorem tree_Check_L1_or (t : List Place) : ∀ l : List Place, tree_Check_L1 t l = 0 ∨ tree_Check_L1 t l = 4
  | [] => .inl rfl
  | p :: r => by
    rw [tree_Check_L1]
    cases tree_Stands t p.parent p.node with
    | true => exact .inr rfl
    | false => exact tree_Check_L1_or t r
theorem place_ok {p : Place} (h : tree_place p = 0) : 1 ≤ p.node ∧ p.node < 16 ∧ 0 ≤ p.parent ∧ p.parent ≤ 16 ∧ 0 ≤ p.name ∧ p.name ≤ 99 := by
  unfold tree_place at h
  cases hb : (((((decide (p.node < 1) || decide (p.node ≥ 16)) || decide (p.parent < 0)) || decide (p.parent > 16)) || decide (p.name < 0)) || decide (p.name > 99)) with
  | true => rw [hb] at h; simp at h
  | false => simp at hb; omega
theorem tree_Check_L0_ok (t : List Place) : ∀ (r : List Place) (k : Nat), r = t.drop k → tree_Check_L0 t r k = 0 →
    (∀ i, k ≤ i → i < t.length → tree_place (gt t i) = 0) ∧ (∀ i, k ≤ i → i < t.length → 0 < i → (gt t (i - 1)).node < (gt t i).node) ∧ tree_Check_L1 t t = 0
  | [], k, hr, h => by
    have : t.length ≤ k := by have := congrArg List.length hr; simp at this; omega
    exact ⟨fun i h1 h2 => by omega, fun i h1 h2 => by omega, h⟩
  | p :: r, k, hr, h => by
    have hk : k < t.length := by have := congrArg List.length hr; simp at this; omega
    rw [drop_gt hk] at hr
    obtain ⟨rfl, hr'⟩ := List.cons.inj hr
    rw [tree_Check_L0] at h
    cases h1 : (tree_place (gt t k) != 0) with
    | true => rw [h1, cond_true] at h; rw [h] at h1; simp at h1
    | false =>
      rw [h1, cond_false] at h
      cases h2 : (decide ((k : Int) > 0) && decide ((gt t (k - 1)).node ≥ (gt t k).node)) with
      | true => rw [h2] at h; simp at h
      | false =>
        rw [h2, cond_false] at h
        obtain ⟨ha, hb, hc⟩ := tree_Check_L0_ok t r (k + 1) hr' h
        refine ⟨fun i hi hl => ?_, fun i hi hl hp => ?_, hc⟩
        · by_cases he : i = k
          · subst he; simpa using h1
          · exact ha i (by omega) hl
        · by_cases he : i = k
          · subst he
            have : (0 : Int) < (i : Int) := by omega
            simp [this] at h2
            omega
          · exact hb i (by omega) hl hp
theorem tree_Check_ok {t : List Place} (h : tree_Check t = 0) : (∀ i, i < t.length → tree_place (gt t i) = 0) ∧ (∀ i, i < t.length → 0 < i → (gt t (i - 1)).node < (gt t i).node) ∧ tree_Check_L1 t t = 0 := by
  obtain ⟨a, b, c⟩ := tree_Check_L0_ok t t 0 rfl h
  exact ⟨fun i hi => a i (Nat.zero_le _) hi, fun i hi hp => b i (Nat.zero_le _) hi hp, c⟩
theorem check_len {t : List Place} (h : tree_Check t = 0) : t.length ≤ 15 := by
  obtain ⟨ha, hb, _⟩ := tree_Check_ok h
  have key : ∀ i, i < t.length → (i : Int) + 1 ≤ (gt t i).node := by
    intro i
    induction i with
    | zero => intro hi; have := (place_ok (ha 0 hi)).1; omega
    | succ i ih =>
      intro hi
      have h1 := ih (by omega)
      have h2 := hb (i + 1) hi (by omega)
      simp at h2
      omega
  by_cases hl : t.length ≤ 15
  · exact hl
  · have h1 := key 15 (by omega)
    have h2 := place_ok (ha 15 (by omega))
    omega
theorem small_of (t : List Place) (h : tree_Check t = 0) : t.length ≤ 1000000 := Nat.le_trans (check_len h) (by omega)
end Go.Proofs.Ytchdacbjiomplaa
