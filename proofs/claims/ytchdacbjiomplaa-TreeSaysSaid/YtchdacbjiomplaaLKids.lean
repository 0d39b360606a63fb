/- Part of this claim. No condition. -/
import Derived.Test.YtchdacbjiomplaaW20b
import Derived.Test.YtchdacbjiomplaaLEq
set_option linter.unusedVariables false
set_option linter.unusedSimpArgs false
namespace Go.Proofs.Ytchdacbjiomplaa
open Go Go.Proofs.Ytchdacbjiomplaa.Fw Go.Proofs
/-! ### Kids -/
theorem bucket_isort {m : Nat} {l : List Place} (h : ∀ p ∈ l, 0 ≤ p.name ∧ p.name < m) : isort ltName [] l = bucket m l := by
  have := isort_bucket m l [] h
  rw [bucket_nil] at this
  exact this
def kids (t : List Place) (n : Int) : List Place := t.filter (fun p => p.parent == n)
theorem names_of {t : List Place} (h : checkT t = 0) : ∀ p ∈ t, 0 ≤ p.name ∧ p.name < (100 : Nat) := fun p hp => by
  have := plc_ok (((checkT_iff t).1 h).ok p hp)
  omega
theorem Kids_of {t : List Place} (h : checkT t = 0) {n : Int} (h0 : 0 ≤ n) (h1 : n ≤ 16) : tree_Kids t n = (bucket 100 (kids t n), 0) := by
  unfold tree_Kids
  rw [tree_Check_eq, h]
  have hb : (decide (n < 0) || decide (n > 16)) = false := by simp; omega
  have hn : ∀ p ∈ kids t n, 0 ≤ p.name ∧ p.name < (100 : Nat) := fun p hp => names_of h p (List.mem_filter.1 hp).1
  have hf : t.filter (fun p => !(fun a0_ => tree_Kids_1 a0_ n) p) = kids t n := by
    unfold kids
    congr 1
    funext p
    simp [tree_Kids_1, bne]
  rw [hb, hf, ← bucket_isort hn]
  simp only [bne_self_eq_false, cond_false]
  rw [isort_congr (lt' := ltName) (kids t n) []]
  intro a ha b hb
  have h1 := hn a ha
  have h2 : 0 ≤ b.name ∧ b.name < (100 : Nat) := by
    rcases hb with hb | hb
    · cases hb
    · exact hn b hb
  unfold tree_Kids_2 ltName
  rw [wsub_eq (by omega)]
theorem Kids_err {t : List Place} {n : Int} : (tree_Kids t n).2 = bif checkT t != 0 then checkT t else bif (decide (n < 0) || decide (n > 16)) then 5 else 0 := by
  unfold tree_Kids
  rw [tree_Check_eq]
  cases checkT t != 0 <;> cases (decide (n < 0) || decide (n > 16)) <;> rfl
theorem Kids_nil {t : List Place} {n : Int} (h : (tree_Kids t n).2 ≠ 0) : (tree_Kids t n).1 = [] := by
  rw [Kids_err] at h
  unfold tree_Kids
  rw [tree_Check_eq]
  cases h1 : checkT t != 0 with
  | true => rfl
  | false =>
    cases h2 : (decide (n < 0) || decide (n > 16)) with
    | true => rfl
    | false => rw [h1, h2] at h; simp at h
theorem Up.anti {t : List Place} (hT : IsTree t) {a b : Int} (h1 : Up t a b) (h2 : Up t b a) : a = b := by
  obtain ⟨k, hw⟩ := h1
  cases hw with
  | here => rfl
  | up _ hn hw =>
    obtain ⟨e, hm⟩ := find_node hn
    exact absurd (by rw [e]; exact Up.trans ⟨_, hw⟩ h2 : Up t (find t a).parent (find t a).node) (hT.no _ hm)
theorem count_par (k : Int) : ∀ t : List Place, (t.filter (fun p => decide (k ≤ p.parent))).length = (kids t k).length + (t.filter (fun p => decide (k + 1 ≤ p.parent))).length
  | [] => rfl
  | p :: t => by
    have ih := count_par k t
    unfold kids at ih ⊢
    rw [List.filter_cons, List.filter_cons, List.filter_cons]
    by_cases h : p.parent = k
    · have e1 : decide (k ≤ p.parent) = true := by simp; omega
      have e2 : (p.parent == k) = true := by simpa using h
      have e3 : decide (k + 1 ≤ p.parent) = false := by simp; omega
      rw [e1, e2, e3]; simp; omega
    · have e2 : (p.parent == k) = false := by simpa using h
      by_cases h' : k ≤ p.parent
      · have e1 : decide (k ≤ p.parent) = true := by simpa using h'
        have e3 : decide (k + 1 ≤ p.parent) = true := by simp; omega
        rw [e1, e2, e3]; simp; omega
      · have e1 : decide (k ≤ p.parent) = false := by simpa using h'
        have e3 : decide (k + 1 ≤ p.parent) = false := by simp; omega
        rw [e1, e2, e3]; simpa using ih
theorem grown_true : orangerylaw_grown = true := by decide +kernel
theorem Under_ok {t : List Place} (h : checkT t = 0) {a b : Int} (ha : 0 ≤ a ∧ a < 17) (hb : 0 ≤ b ∧ b < 17) : tree_Under t a b = (stands t a b, 0) := by
  rw [tree_Under_eq]
  unfold under
  have : (decide (a < 0) || decide (a > 16) || decide (b < 0) || decide (b > 16)) = false := by simp only [Bool.or_eq_false_iff, decide_eq_false_iff_not]; omega
  rw [h, this]; rfl
theorem TreeOrder_true (t : List Place) (a b c : Int) : orangerylaw_TreeOrder t a b c = true := by
  unfold orangerylaw_TreeOrder
  rw [grown_true]
  have ha := at_in (k := a) (n := 17) (by decide)
  have hb := at_in (k := b) (n := 17) (by decide)
  have hc := at_in (k := c) (n := 17) (by decide)
  generalize orangerylaw_at a 17 = a at *
  generalize orangerylaw_at b 17 = b at *
  generalize orangerylaw_at c 17 = c at *
  by_cases h : checkT t = 0
  · have hT := (checkT_iff t).1 h
    rw [Under_ok h ha hb, Under_ok h hb hc, Under_ok h ha hc, Under_ok h hb ha]
    simp only [Bool.not_true, bne_self_eq_false, Bool.or_self, cond_false, Bool.false_or]
    have hcond : (stands t a b && stands t b c && !stands t a c || stands t a b && stands t b a && a != b || a == b && !stands t a b) = false := by
      have t1 : stands t a b = true → stands t b c = true → stands t a c = true := fun h1 h2 => (stands_iff t _ _).2 (((stands_iff t _ _).1 h1).trans ((stands_iff t _ _).1 h2))
      have t2 : stands t a b = true → stands t b a = true → a = b := fun h1 h2 => Up.anti hT ((stands_iff t _ _).1 h1) ((stands_iff t _ _).1 h2)
      have t3 : a = b → stands t a b = true := fun e => (stands_iff t _ _).2 (e ▸ Up.refl t a)
      have h1 : (stands t a b && stands t b c && !stands t a c) = false := by
        cases e1 : stands t a b <;> cases e2 : stands t b c <;> try rfl
        simp [t1 e1 e2]
      have h2 : (stands t a b && stands t b a && a != b) = false := by
        cases e1 : stands t a b <;> cases e2 : stands t b a <;> try rfl
        simp [t2 e1 e2]
      have h3 : (a == b && !stands t a b) = false := by
        by_cases e : a = b
        · simp [t3 e]
        · simp [e]
      rw [h1, h2, h3]; rfl
    rw [hcond, cond_false]
    have key1 : ∀ (k : Nat) (κ : Bool) (l : List Place), k < 17 → (∀ p ∈ l, p ∈ t ∧ p.parent = (k : Int)) → orangerylaw_TreeOrder_L1 t k κ l = κ := by
      intro k κ l hk
      induction l with
      | nil => intro _; rfl
      | cons p r ih =>
        intro hl
        obtain ⟨hp, hpar⟩ := hl p (.head _)
        have hok := plc_ok (hT.ok p hp)
        have hst : stands t p.node (k : Int) = true := (stands_iff t _ _).2 ⟨1, .up trivial (by rw [find_mem hT.up p hp]; omega) (by rw [find_mem hT.up p hp, hpar]; exact .here _)⟩
        rw [orangerylaw_TreeOrder_L1, Under_ok h (by omega) (by omega), hst, tree_Find_eq, find_mem hT.up p hp, ih fun q hq => hl q (.tail _ hq)]
        simp
    have key0 : ∀ (f k n : Nat), k + f = 17 → n + (t.filter (fun p => decide ((k : Int) ≤ p.parent))).length = t.length → orangerylaw_TreeOrder_L0 t f k n = true := by
      intro f
      induction f with
      | zero =>
        intro k n hk hn
        have : t.filter (fun p => decide ((k : Int) ≤ p.parent)) = [] := List.filter_eq_nil_iff.2 fun p hp => by
          have := plc_ok (hT.ok p hp)
          simp; omega
        rw [this] at hn
        rw [orangerylaw_TreeOrder_L0]
        simp at hn ⊢; omega
      | succ f ih =>
        intro k n hk hn
        have hn' : ∀ p ∈ kids t (k : Int), 0 ≤ p.name ∧ p.name < (100 : Nat) := fun p hp => names_of h p (List.mem_filter.1 hp).1
        have hlen : (bucket 100 (kids t (k : Int))).length = (kids t (k : Int)).length := by rw [← bucket_isort hn', isort_len]
        have hmem : ∀ p ∈ bucket 100 (kids t (k : Int)), p ∈ t ∧ p.parent = (k : Int) := fun p hp => by
          rw [← bucket_isort hn'] at hp
          have := (isort_perm ltName (kids t (k : Int)) []).mem_iff.1 hp
          simp only [List.nil_append] at this
          obtain ⟨h1, h2⟩ := List.mem_filter.1 this
          exact ⟨h1, by simpa using h2⟩
        rw [orangerylaw_TreeOrder_L0, Kids_of h (by omega) (by omega)]
        simp only [bne_self_eq_false, cond_false]
        rw [key1 k _ _ (by omega) hmem, hlen]
        refine ih (k + 1) _ (by omega) ?_
        have hcp := count_par (k : Int) t
        rw [show ((k + 1 : Nat) : Int) = (k : Int) + 1 by simp]
        omega
    refine key0 17 0 0 rfl ?_
    have : t.filter (fun p => decide (((0 : Nat) : Int) ≤ p.parent)) = t := List.filter_eq_self.2 fun p hp => by
      have := plc_ok (hT.ok p hp)
      simp; omega
    rw [this]; simp
  · have : ((tree_Under t a b).2 != 0) = true := by
      rw [tree_Under_eq]
      unfold under
      have : (checkT t != 0) = true := by simpa using h
      rw [this]; simpa using h
    rw [this]; rfl
end Go.Proofs.Ytchdacbjiomplaa
