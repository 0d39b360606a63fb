/- Part of this claim. No condition. -/
import Derived.Test.YtchdacbjiomplaaLMoveB
import Derived.Test.YtchdacbjiomplaaLEq
set_option linter.unusedVariables false
set_option linter.unusedSimpArgs false
namespace Go.Proofs.Ytchdacbjiomplaa
open Go Go.Proofs.Ytchdacbjiomplaa.Fw Go.Proofs
structure Rising (l : List Place) : Prop where
  up : l.Pairwise (fun a b => a.node < b.node)
  rng : ∀ p ∈ l, 1 ≤ p.node ∧ p.node < 16
  par : ∀ p ∈ l, 0 ≤ p.parent
theorem IsTree.rising {l : List Place} (h : IsTree l) : Rising l := ⟨h.up, fun q hq => by have := plc_ok (h.ok q hq); omega, fun q hq => by have := plc_ok (h.ok q hq); omega⟩
theorem Rising.nil : Rising [] := ⟨.nil, by simp, by simp⟩
theorem Rising.none {l : List Place} (h : Rising l) {n : Int} (hz : (find l n).node = 0) : find l n = ⟨0, 0, 0⟩ := by
  refine find_none fun q hq hqn => ?_
  have h3 := find_mem h.up q hq
  rw [hqn] at h3
  rw [h3] at hz
  have := h.rng q hq
  omega
theorem Rising.put {l : List Place} (h : Rising l) {p : Place} (h1 : 1 ≤ p.node ∧ p.node < 16) : Rising (putT l p) := by
  by_cases hp : p.parent < 0
  · rw [putT_t hp]
    exact ⟨put_t_up p h.up, fun q hq => h.rng q (mem_put_t p q l hq).1, fun q hq => h.par q (mem_put_t p q l hq).1⟩
  · rw [putT_f (by omega)]
    refine ⟨put_f_up p h.up, fun q hq => ?_, fun q hq => ?_⟩
    · rcases mem_put_f p q l hq with rfl | hq
      · exact h1
      · exact h.rng q hq.1
    · rcases mem_put_f p q l hq with rfl | hq
      · omega
      · exact h.par q hq.1
theorem Rising.ext {l m : List Place} (h : Rising l) (h' : Rising m) (hf : ∀ n, 1 ≤ n → n < 16 → find l n = find m n) : l = m := by
  refine ext_find h.up h'.up (fun p hp => (h.rng p hp).1) (fun p hp => (h'.rng p hp).1) fun n hn => ?_
  by_cases h2 : n < 16
  · exact hf n hn h2
  · rw [find_none fun q hq e => by have := h.rng q hq; omega, find_none fun q hq e => by have := h'.rng q hq; omega]
theorem Rising.puts : ∀ (m : List Place) {l : List Place}, Rising l → (∀ p ∈ m, 1 ≤ p.node ∧ p.node < 16) → Rising (m.foldl putT l)
  | [], _, h, _ => h
  | p :: r, _, h, hm => Rising.puts r (h.put (hm p (.head _))) fun q hq => hm q (.tail _ hq)
end Go.Proofs.Ytchdacbjiomplaa
