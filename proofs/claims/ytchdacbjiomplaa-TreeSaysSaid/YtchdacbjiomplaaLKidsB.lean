/- Part of this claim. No condition. -/
import Derived.Test.YtchdacbjiomplaaW21
import Derived.Test.YtchdacbjiomplaaLKids
set_option linter.unusedVariables false
set_option linter.unusedSimpArgs false
namespace Go.Proofs.Ytchdacbjiomplaa
open Go Go.Proofs.Ytchdacbjiomplaa.Fw Go.Proofs
/-! ### Kids, as the document says -/
theorem KidsOf_L1_eq (node : Int) (n : Nat) : ∀ (l out : List Place), orangeryref_KidsOf_L1 node n l out = out ++ (l.filter (fun p => p.parent == node)).filter (fun p => p.name == (n : Int))
  | [], out => by simp [orangeryref_KidsOf_L1]
  | p :: r, out => by
    rw [orangeryref_KidsOf_L1, KidsOf_L1_eq, KidsOf_L1_eq, List.filter_cons]
    cases h1 : p.parent == node <;> cases h2 : p.name == (n : Int) <;> simp [List.filter_cons, h2]
theorem KidsOf_L0_eq (t : List Place) (node : Int) : ∀ (f n : Nat) (out : List Place), orangeryref_KidsOf_L0 t node f n out = out ++ (List.range' n f).flatMap fun (k : Nat) => (kids t node).filter (fun p => p.name == (k : Int))
  | 0, n, out => by simp [orangeryref_KidsOf_L0]
  | f + 1, n, out => by
    rw [orangeryref_KidsOf_L0, KidsOf_L0_eq, KidsOf_L1_eq, List.range'_succ, List.flatMap_cons, List.append_assoc]
    rfl
theorem KidsOf_eq (t : List Place) (node : Int) : orangeryref_KidsOf t node = bucket 100 (kids t node) := by
  unfold orangeryref_KidsOf bucket
  rw [KidsOf_L0_eq, List.range_eq_range', List.nil_append]
theorem TreeSays_true (t : List Place) (node top : Int) : orangerylaw_TreeSays t node top = true := by
  unfold orangerylaw_TreeSays
  rw [grown_true, tree_Check_eq, CheckTree_eq, orangeryref_FindIn_eq, tree_Under_eq, KidsOf_eq]
  simp only [Bool.not_true, bne_self_eq_false, decide_true, Bool.or_self, cond_false]
  by_cases h : checkT t = 0
  · have hT := (checkT_iff t).1 h
    have hpar : ∀ p ∈ t, 0 ≤ p.parent ∧ p.parent ≤ 16 := fun p hp => by have := plc_ok (hT.ok p hp); omega
    rw [IsUnder_eq hpar, h]
    by_cases hn : 0 ≤ node ∧ node ≤ 16
    · have h1 : orangerylaw_TreeSays_1 node = true := by simp [orangerylaw_TreeSays_1]; omega
      rw [h1, Kids_of h hn.1 hn.2]
      by_cases ht : 0 ≤ top ∧ top ≤ 16
      · have h2 : orangerylaw_TreeSays_1 top = true := by simp [orangerylaw_TreeSays_1]; omega
        have hu : under t node top = (stands t node top, 0) := by
          unfold under
          have : (decide (node < 0) || decide (node > 16) || decide (top < 0) || decide (top > 16)) = false := by simp only [Bool.or_eq_false_iff, decide_eq_false_iff_not]; omega
          rw [h, this]; rfl
        rw [h2, hu]; simp
      · have h2 : orangerylaw_TreeSays_1 top = false := by unfold orangerylaw_TreeSays_1; simp; omega
        have hu : under t node top = (false, 5) := by
          unfold under
          have : (decide (node < 0) || decide (node > 16) || decide (top < 0) || decide (top > 16)) = true := by simp only [Bool.or_eq_true, decide_eq_true_eq]; omega
          rw [h, this]; rfl
        rw [h2, hu]; simp
    · have h1 : orangerylaw_TreeSays_1 node = false := by unfold orangerylaw_TreeSays_1; simp; omega
      have hu : under t node top = (false, 5) := by
        unfold under
        have : (decide (node < 0) || decide (node > 16) || decide (top < 0) || decide (top > 16)) = true := by simp only [Bool.or_eq_true, decide_eq_true_eq]; omega
        rw [h, this]; rfl
      have hk : tree_Kids t node = ([], 5) := by
        have e1 : (tree_Kids t node).2 = 5 := by
          have hb : (decide (node < 0) || decide (node > 16)) = true := by simp; omega
          rw [Kids_err, h, hb]; rfl
        have e2 := Kids_nil (t := t) (n := node) (by rw [e1]; decide)
        exact Prod.ext e2 e1
      rw [h1, hu, hk]; simp
  · have hu : under t node top = (false, checkT t) := by
      unfold under
      have : (checkT t != 0) = true := by simpa using h
      rw [this]; rfl
    have hk : tree_Kids t node = ([], checkT t) := by
      have e1 : (tree_Kids t node).2 = checkT t := by
        have : (checkT t != 0) = true := by simpa using h
        rw [Kids_err, this]; rfl
      have e2 := Kids_nil (t := t) (n := node) (by rw [e1]; exact h)
      exact Prod.ext e2 e1
    have h0 : (checkT t == 0) = false := by simpa using h
    have h1 : (checkT t != 0) = true := by simpa using h
    rw [hu, hk, h0, h1]; simp
end Go.Proofs.Ytchdacbjiomplaa
