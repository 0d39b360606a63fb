/- Part of this claim. No condition. -/
import Derived.Test.YtchdacbjiomplaaLOld
set_option linter.unusedVariables false
set_option linter.unusedSimpArgs false
namespace Go.Proofs.Ytchdacbjiomplaa
open Go Go.Proofs.Ytchdacbjiomplaa.Fw Go.Proofs

/-! ### Plain facts of trees -/
theorem chk1_ok (l : List Place) : ∀ (f k : Nat), k + f = l.length → chk1 l f k = 0 → (∀ i, k ≤ i → i < l.length → place (gt l i) = 0) ∧ ∀ i, k ≤ i → i < l.length → 0 < i → (gt l (i - 1)).node < (gt l i).node
  | 0, k, h, _ => ⟨fun i h1 h2 => by omega, fun i h1 h2 => by omega⟩
  | f + 1, k, h, hc => by
    rw [chk1] at hc
    cases h1 : place (gt l k) != 0 with
    | true => rw [h1, cond_true] at hc; simp [hc] at h1
    | false =>
      rw [h1, cond_false] at hc
      cases h2 : (decide ((k : Int) > 0) && decide ((gt l (k - 1)).node ≥ (gt l k).node)) with
      | true => rw [h2, cond_true] at hc; cases hc
      | false =>
        rw [h2, cond_false] at hc
        obtain ⟨ha, hb⟩ := chk1_ok l f (k + 1) (by omega) hc
        refine ⟨fun i hi hlt => ?_, fun i hi hlt hp => ?_⟩
        · rcases Nat.eq_or_lt_of_le hi with rfl | hi
          · simpa using h1
          · exact ha i hi hlt
        · rcases Nat.eq_or_lt_of_le hi with rfl | hi
          · simp only [Bool.and_eq_false_iff, decide_eq_false_iff_not] at h2
            rcases h2 with h2 | h2 <;> omega
          · exact hb i hi hlt hp

theorem checkT_1 {l : List Place} (h : checkT l = 0) : chk1 l l.length 0 = 0 := by
  unfold checkT at h
  cases h1 : chk1 l l.length 0 != 0 with
  | true => rw [h1, cond_true] at h; exact h
  | false => simpa using h1

theorem plc_ok {p : Place} (h : place p = 0) : 1 ≤ p.node ∧ p.node < 16 ∧ 0 ≤ p.parent ∧ p.parent ≤ 16 ∧ 0 ≤ p.name ∧ p.name ≤ 99 := by
  unfold place at h
  generalize hb : (decide (p.node < 1) || decide (p.node ≥ 16) || decide (p.parent < 0) || decide (p.parent > 16) || decide (p.name < 0) || decide (p.name > 99)) = b at h
  cases b with
  | true => simp at h
  | false => simp only [Bool.or_eq_false_iff, decide_eq_false_iff_not] at hb; omega

theorem checkT_len {l : List Place} (h : checkT l = 0) : l.length ≤ 15 := by
  obtain ⟨ha, hb⟩ := chk1_ok l l.length 0 (by omega) (checkT_1 h)
  have key : ∀ i, i < l.length → (i : Int) + 1 ≤ (gt l i).node := by
    intro i
    induction i with
    | zero => intro h0; have := (plc_ok (ha 0 (by omega) h0)).1; simpa using this
    | succ i ih => intro hi; have := ih (by omega); have := hb (i + 1) (by omega) hi (by omega); simp at this; push_cast; omega
  apply Classical.byContradiction
  intro hn
  have h1 := key 15 (by omega)
  have h2 := (plc_ok (ha 15 (by omega) (by omega))).2.1
  omega
theorem put_len (p : Place) : ∀ (d : Bool) (l : List Place), (put p d l).length ≤ l.length + (bif d then 0 else 1)
  | true, [] => by simp [put]
  | false, [] => by simp [put]
  | d, q :: r => by
    have h1 := put_len p d r
    have h2 := put_len p true r
    rw [put]
    cases h3 : (!d && decide (q.node ≥ p.node)) <;> cases (q.node != p.node) <;> cases d <;> simp only [cond_true, cond_false, List.length_cons, Bool.not_true, Bool.false_and, Bool.false_eq_true] at * <;> omega
theorem putT_len (l : List Place) (p : Place) : (putT l p).length ≤ l.length + 1 := by
  have := put_len p (decide (p.parent < 0)) l
  have h : (bif decide (p.parent < 0) then 0 else 1) ≤ 1 := by cases decide (p.parent < 0) <;> simp
  unfold putT
  omega
theorem ne_place (a b : Place) : (a != b) = !flatEq (EPlace.enc a) (EPlace.enc b) := by rw [flatEq_Place]; rfl
theorem checkT_small {l : List Place} (h : checkT l = 0) : l.length ≤ 1000000 := Nat.le_trans (checkT_len h) (by omega)
end Go.Proofs.Ytchdacbjiomplaa
