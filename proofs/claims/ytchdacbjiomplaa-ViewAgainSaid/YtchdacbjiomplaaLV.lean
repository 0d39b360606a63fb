/- Part of this claim. No condition. -/
import Derived.Test.YtchdacbjiomplaaLM
import Derived.Test.YtchdacbjiomplaaWV
set_option linter.unusedVariables false
set_option linter.unusedSimpArgs false
namespace Go.Proofs.Ytchdacbjiomplaa
open Go Go.Proofs.Ytchdacbjiomplaa.Fw Go.Proofs
theorem All_L0_eq : ∀ (m l : List Place), view_All_L0 m l = m.foldl putT l
  | [], _ => rfl
  | p :: r, l => by rw [view_All_L0, tree_Put_eq, All_L0_eq r]; rfl
theorem All_eq (v : View) : view_All v = v.way.foldl putT v.known := All_L0_eq _ _
theorem Same_comm (a b : View) : view_Same a b = view_Same b a := by
  unfold view_Same
  simp only [eq_comm]
theorem view_Check_eq (v : View) : view_Check v = bif view_Roots v.roots != 0 then view_Roots v.roots else bif checkT v.known != 0 then checkT v.known else bif checkT v.way != 0 then checkT v.way else
    bif ((view_Of (view_All v) v.roots).2 == 0 && !(view_Same (view_Of (view_All v) v.roots).1 v)) then 4 else (view_Of (view_All v) v.roots).2 := by
  unfold view_Check view_Check_U0_0 view_Check_U0_1 view_Check_U0_2
  rw [tree_Check_eq, tree_Check_eq]
theorem Same_refl (v : View) : view_Same v v = true := by simp [view_Same]
theorem Same_iff (v w : View) : view_Same v w = true ↔ v = w := by
  obtain ⟨a, b, c⟩ := v; obtain ⟨d, e, f⟩ := w
  simp [view_Same, and_assoc]
end Go.Proofs.Ytchdacbjiomplaa

namespace Go.Proofs.Ytchdacbjiomplaa
open Go Go.Proofs.Ytchdacbjiomplaa.Fw Go.Proofs
structure Rising (l : List Place) : Prop where
  up : l.Pairwise (fun a b => a.node < b.node)
  rng : ∀ p ∈ l, 1 ≤ p.node ∧ p.node < 16
  par : ∀ p ∈ l, 0 ≤ p.parent
theorem IsTree.rising {l : List Place} (h : IsTree l) : Rising l := ⟨h.up, fun q hq => by have := plc_ok (h.ok q hq); omega, fun q hq => by have := plc_ok (h.ok q hq); omega⟩
theorem Rising.nil : Rising [] := ⟨.nil, by simp, by simp⟩
theorem Rising.none {l : List Place} (h : Rising l) {n : Int} (hz : (find l n).node = 0) : find l n = ⟨0, 0, 0⟩ := by
  refine find_none fun q hq hqn => ?_
  have h3 := find_mem h.up q hq
  rw [hqn] at h3
  rw [h3] at hz
  have := h.rng q hq
  omega
theorem Rising.put {l : List Place} (h : Rising l) {p : Place} (h1 : 1 ≤ p.node ∧ p.node < 16) : Rising (putT l p) := by
  by_cases hp : p.parent < 0
  · rw [putT_t hp]
    exact ⟨put_t_up p h.up, fun q hq => h.rng q (mem_put_t p q l hq).1, fun q hq => h.par q (mem_put_t p q l hq).1⟩
  · rw [putT_f (by omega)]
    refine ⟨put_f_up p h.up, fun q hq => ?_, fun q hq => ?_⟩
    · rcases mem_put_f p q l hq with rfl | hq
      · exact h1
      · exact h.rng q hq.1
    · rcases mem_put_f p q l hq with rfl | hq
      · omega
      · exact h.par q hq.1
theorem Rising.ext {l m : List Place} (h : Rising l) (h' : Rising m) (hf : ∀ n, 1 ≤ n → n < 16 → find l n = find m n) : l = m := by
  refine ext_find h.up h'.up (fun p hp => (h.rng p hp).1) (fun p hp => (h'.rng p hp).1) fun n hn => ?_
  by_cases h2 : n < 16
  · exact hf n hn h2
  · rw [find_none fun q hq e => by have := h.rng q hq; omega, find_none fun q hq e => by have := h'.rng q hq; omega]
theorem Rising.puts : ∀ (m : List Place) {l : List Place}, Rising l → (∀ p ∈ m, 1 ≤ p.node ∧ p.node < 16) → Rising (m.foldl putT l)
  | [], _, h, _ => h
  | p :: r, _, h, hm => Rising.puts r (h.put (hm p (.head _))) fun q hq => hm q (.tail _ hq)
end Go.Proofs.Ytchdacbjiomplaa

namespace Go.Proofs.Ytchdacbjiomplaa
open Go Go.Proofs.Ytchdacbjiomplaa.Fw Go.Proofs
/-! ### Roots -/
theorem pairwise_of {α : Type} [Inhabited α] (f : α → Int) : ∀ (l : List α), (∀ i, i + 1 < l.length → f (gt l i) < f (gt l (i + 1))) → l.Pairwise (fun a b => f a < f b)
  | [], _ => .nil
  | [a], _ => by simp
  | a :: b :: r, h => by
    have ih := pairwise_of f (b :: r) (fun i hi => by have := h (i + 1) (by simpa using hi); simpa [gt] using this)
    have h0 : f a < f b := by simpa [gt] using h 0 (by simp)
    refine List.pairwise_cons.2 ⟨fun c hc => ?_, ih⟩
    rcases List.mem_cons.1 hc with rfl | hc
    · exact h0
    · have := (List.pairwise_cons.1 ih).1 c hc; omega
theorem of_pairwise {α : Type} [Inhabited α] (f : α → Int) : ∀ {l : List α}, l.Pairwise (fun a b => f a < f b) → ∀ i, i + 1 < l.length → f (gt l i) < f (gt l (i + 1))
  | [], _, i, hi => by simp at hi
  | a :: r, h, i, hi => by
    obtain ⟨h1, h2⟩ := List.pairwise_cons.1 h
    cases i with
    | zero =>
      have h3 : 0 < r.length := by simpa using hi
      have := h1 (gt r 0) (gt_mem h3)
      simpa [gt] using this
    | succ i =>
      have := of_pairwise f h2 i (by simpa using hi)
      simpa [gt] using this
structure IsRoots (l : List Int) : Prop where
  len : l.length ≤ 4
  rng : ∀ n ∈ l, 0 ≤ n ∧ n ≤ 16
  up : l.Pairwise (fun a b => a < b)
theorem Roots_L0_iff (l : List Int) : ∀ (r : List Int) (k : Nat), r = l.drop k → (view_Roots_L0 l r k = 0 ↔ (∀ n ∈ r, 0 ≤ n ∧ n ≤ 16) ∧ ∀ i, k ≤ i → i < l.length → 0 < i → gt l (i - 1) < gt l i)
  | [], k, hr => by
    have hk : l.length ≤ k := by have := congrArg List.length hr; simp at this; omega
    rw [view_Roots_L0]
    exact ⟨fun _ => ⟨by simp, fun i h1 h2 => by omega⟩, fun _ => rfl⟩
  | n :: r, k, hr => by
    have hk : k < l.length := by have := congrArg List.length hr; simp at this; omega
    rw [drop_gt hk] at hr
    obtain ⟨hn, hr'⟩ := List.cons.inj hr
    have ih := Roots_L0_iff l r (k + 1) hr'
    rw [view_Roots_L0]
    cases h1 : (decide (n < 0) || decide (n > 16)) with
    | true =>
      simp only [cond_true]
      refine ⟨fun h => by omega, fun h => ?_⟩
      have := h.1 n (.head _)
      simp at h1; omega
    | false =>
      simp at h1
      cases h2 : (decide ((k : Int) > 0) && decide (gt l (k - 1) ≥ n)) with
      | true =>
        simp only [cond_true, cond_false]
        simp only [Bool.and_eq_true, decide_eq_true_eq] at h2
        refine ⟨fun h => by omega, fun h => ?_⟩
        have := h.2 k (Nat.le_refl _) hk (by omega)
        rw [← hn] at this
        omega
      | false =>
        simp only [cond_false]
        rw [ih]
        constructor
        · rintro ⟨a, b⟩
          refine ⟨fun m hm => ?_, fun i hi hl hp => ?_⟩
          · cases hm with
            | head => omega
            | tail _ hm => exact a m hm
          · by_cases he : i = k
            · subst he
              simp at h2
              have := h2 (by omega)
              rw [← hn]; omega
            · exact b i (by omega) hl hp
        · rintro ⟨a, b⟩
          exact ⟨fun m hm => a m (.tail _ hm), fun i hi hl hp => b i (by omega) hl hp⟩
theorem Roots_iff (l : List Int) : view_Roots l = 0 ↔ IsRoots l := by
  unfold view_Roots
  cases h : decide ((l.length : Int) > 4) with
  | true =>
    simp at h
    simp only [cond_true]
    exact ⟨fun h => by omega, fun h' => by have := h'.len; omega⟩
  | false =>
    simp at h
    rw [cond_false, Roots_L0_iff l l 0 rfl]
    constructor
    · rintro ⟨a, b⟩
      exact ⟨by omega, a, pairwise_of id l fun i hi => by have := b (i + 1) (by omega) hi (by omega); simpa using this⟩
    · intro h'
      refine ⟨h'.rng, fun i _ hl hp => ?_⟩
      have := of_pairwise id h'.up (i - 1) (by omega)
      rw [show i - 1 + 1 = i by omega] at this
      exact this
theorem IsRoots.take {l : List Int} (h : IsRoots l) (k : Nat) : IsRoots (l.take k) :=
  ⟨by have := h.len; simp; omega, fun n hn => h.rng n (List.mem_of_mem_take hn), h.up.sublist (List.take_sublist k l)⟩
/-! ### What is seen of a tree -/
def seenAll (t : List Place) (roots : List Int) : View := ⟨roots, t.filter (fun p => view_below t p.node roots), t.filter (fun p => !view_below t p.node roots && view_above t p.node roots)⟩
theorem Of_L0_eq (t : List Place) (roots : List Int) : ∀ (l known way : List Place), view_Of_L0 t roots l known way = (⟨roots, known ++ l.filter (fun p => view_below t p.node roots), way ++ l.filter (fun p => !view_below t p.node roots && view_above t p.node roots)⟩, 0)
  | [], known, way => by simp [view_Of_L0]
  | p :: r, known, way => by
    rw [view_Of_L0]
    cases hb : view_below t p.node roots with
    | true =>
      rw [cond_true, Of_L0_eq t roots r, List.filter_cons, List.filter_cons, hb]
      simp
    | false =>
      rw [cond_false]
      cases ha : view_above t p.node roots with
      | true => rw [cond_true, Of_L0_eq t roots r, List.filter_cons, List.filter_cons, hb, ha]; simp
      | false => rw [cond_false, Of_L0_eq t roots r, List.filter_cons, List.filter_cons, hb, ha]; simp
theorem Of_eq (t : List Place) (roots : List Int) : view_Of t roots = bif checkT t != 0 then (⟨[], [], []⟩, checkT t) else bif view_Roots roots != 0 then (⟨[], [], []⟩, view_Roots roots) else (seenAll t roots, 0) := by
  unfold view_Of
  rw [tree_Check_eq, Of_L0_eq]
  rfl
theorem Of_ok {t : List Place} {roots : List Int} (h : (view_Of t roots).2 = 0) : checkT t = 0 ∧ view_Roots roots = 0 ∧ view_Of t roots = (seenAll t roots, 0) := by
  rw [Of_eq] at h ⊢
  cases h1 : checkT t != 0 with
  | true => rw [h1, cond_true] at h; simp only at h; rw [h] at h1; simp at h1
  | false =>
    rw [h1, cond_false] at h
    cases h2 : view_Roots roots != 0 with
    | true => rw [h2, cond_true] at h; simp only at h; rw [h] at h2; simp at h2
    | false => exact ⟨eq_of_bne_false h1, eq_of_bne_false h2, rfl⟩
theorem Of_of {t : List Place} {roots : List Int} (h1 : checkT t = 0) (h2 : view_Roots roots = 0) : view_Of t roots = (seenAll t roots, 0) := by
  rw [Of_eq, h1, h2]; rfl
end Go.Proofs.Ytchdacbjiomplaa
