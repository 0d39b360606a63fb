/- Part of this claim. No condition. -/
import Derived.Test.YtchdacbjiomplaaLV
import Derived.Test.YtchdacbjiomplaaLSays
set_option linter.unusedVariables false
set_option linter.unusedSimpArgs false
namespace Go.Proofs.Ytchdacbjiomplaa
open Go Go.Proofs.Ytchdacbjiomplaa.Fw Go.Proofs
/-! ### Places that rise, and their tables -/
/-- The table tells the places. -/
structure TabOf (tb l : List Place) : Prop where
  len : tb.length = 16
  no : ∀ n : Nat, 1 ≤ n → n < 16 → (find l n).node = 0 → (gt tb n).parent < 0
  yes : ∀ n : Nat, 1 ≤ n → n < 16 → (find l n).node ≠ 0 → gt tb n = find l n
theorem TabOf.table {l : List Place} (h : Rising l) : TabOf (orangeryref_table l) l :=
  ⟨table_len l, fun n h1 h2 h3 => by rw [(gt_table h.up h.rng n h1 h2).1 h3]; omega, fun n h1 h2 h3 => (gt_table h.up h.rng n h1 h2).2 h3⟩
theorem TabOf.places {tb l : List Place} (ht : TabOf tb l) (h : Rising l) : orangeryref_places tb = l := by
  have hT : Tbl tb := fun n h1 h2 hpar => by
    by_cases hz : (find l n).node = 0
    · have := ht.no n h1 h2 hz; omega
    · rw [ht.yes n h1 h2 hz]; exact (find_node hz).1
  rw [places_eq]
  have hg : ∀ q ∈ pl tb 16 0, 1 ≤ q.node := fun q hq => (pl_ge hT 16 0 rfl q hq).2
  refine ext_find (pl_up hT 16 0 rfl) h.up hg (fun p hp => (h.rng p hp).1) fun n hn => ?_
  obtain ⟨m, rfl⟩ := Int.eq_ofNat_of_zero_le (by omega : 0 ≤ n)
  rw [find_pl hT m (by omega) 16 0 rfl]
  by_cases hm : m < 16
  · by_cases hz : (find l m).node = 0
    · have := ht.no m (by omega) hm hz
      rw [if_neg (by omega)]
      exact (h.none hz).symm
    · rw [ht.yes m (by omega) hm hz]
      have := h.par _ (find_node hz).2
      rw [if_pos ⟨by omega, hm, by omega⟩]
  · rw [if_neg (by omega)]
    exact (find_none fun q hq e => by have := h.rng q hq; omega).symm
theorem TabOf.put {tb l : List Place} (ht : TabOf tb l) {p : Place} (h1 : 1 ≤ p.node ∧ p.node < 16) (hp : 0 ≤ p.parent) : TabOf (tb.set p.node.toNat p) (putT l p) := by
  have hd : decide (p.parent < 0) = false := decide_eq_false (by omega)
  refine ⟨by simp [ht.len], fun n ha hb hz => ?_, fun n ha hb hz => ?_⟩
  · rw [find_putT] at hz
    rw [gt_set _ _ _ _ (by rw [ht.len]; omega)]
    cases he : ((n : Int) == p.node) with
    | true =>
      rw [he, cond_true, hd, cond_false] at hz
      omega
    | false =>
      rw [he, cond_false] at hz
      have : (n : Int) ≠ p.node := by simpa using he
      rw [if_neg (by omega)]
      exact ht.no n ha hb hz
  · rw [find_putT] at hz ⊢
    rw [gt_set _ _ _ _ (by rw [ht.len]; omega)]
    cases he : ((n : Int) == p.node) with
    | true =>
      have : (n : Int) = p.node := by simpa using he
      rw [cond_true, hd, cond_false, if_pos (by omega)]
    | false =>
      rw [he, cond_false] at hz
      have : (n : Int) ≠ p.node := by simpa using he
      rw [if_neg (by omega), cond_false]
      exact ht.yes n ha hb hz
theorem TabOf.drop {tb l : List Place} (ht : TabOf tb l) {n : Int} {q : Place} {p : Place} (h1 : 1 ≤ n ∧ n < 16) (hq : q.parent < 0) (hp : p.parent < 0) (hpn : p.node = n) : TabOf (tb.set n.toNat q) (putT l p) := by
  have hd : decide (p.parent < 0) = true := decide_eq_true hp
  refine ⟨by simp [ht.len], fun m ha hb hz => ?_, fun m ha hb hz => ?_⟩
  · rw [find_putT] at hz
    rw [gt_set _ _ _ _ (by rw [ht.len]; omega)]
    by_cases he : (m : Int) = p.node
    · rw [if_pos (by omega)]; exact hq
    · have : ((m : Int) == p.node) = false := by simpa using he
      rw [this, cond_false] at hz
      rw [if_neg (by omega)]
      exact ht.no m ha hb hz
  · rw [find_putT] at hz ⊢
    rw [gt_set _ _ _ _ (by rw [ht.len]; omega)]
    by_cases he : (m : Int) = p.node
    · have : ((m : Int) == p.node) = true := by simpa using he
      rw [this, cond_true, hd, cond_true] at hz
      exact absurd rfl hz
    · have : ((m : Int) == p.node) = false := by simpa using he
      rw [this, cond_false] at hz ⊢
      rw [if_neg (by omega)]
      exact ht.yes m ha hb hz
/-- Many are put. -/
theorem TabOf.puts : ∀ (m : List Place) {tb l : List Place}, TabOf tb l → (∀ p ∈ m, (1 ≤ p.node ∧ p.node < 16) ∧ 0 ≤ p.parent) → TabOf (orangeryref_table_L1 m tb) (m.foldl putT l)
  | [], _, _, h, _ => h
  | p :: r, _, _, h, hm => by
    rw [orangeryref_table_L1, List.foldl_cons]
    exact TabOf.puts r (h.put (hm p (.head _)).1 (hm p (.head _)).2) fun q hq => hm q (.tail _ hq)
theorem table_L1_app : ∀ (a b tb : List Place), orangeryref_table_L1 (a ++ b) tb = orangeryref_table_L1 b (orangeryref_table_L1 a tb)
  | [], _, _ => rfl
  | p :: r, b, tb => table_L1_app r b _
theorem table_L0_app (a b : List Place) : ∀ (f k : Nat) (tb : List Place), orangeryref_table_L0 (a ++ b) f k tb = orangeryref_table_L1 b (orangeryref_table_L0 a f k tb)
  | 0, k, tb => table_L1_app a b tb
  | f + 1, k, tb => table_L0_app a b f (k + 1) _
theorem table_app (a b : List Place) : orangeryref_table (a ++ b) = orangeryref_table_L1 b (orangeryref_table a) := table_L0_app a b 16 0 _
end Go.Proofs.Ytchdacbjiomplaa
