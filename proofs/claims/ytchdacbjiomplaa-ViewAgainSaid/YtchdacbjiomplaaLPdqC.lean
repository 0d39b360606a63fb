/- Part of this claim. No condition. -/
import Derived.Test.YtchdacbjiomplaaLPdqB
set_option linter.unusedVariables false
set_option linter.unusedSimpArgs false
set_option maxHeartbeats 2000000
namespace Go.Proofs.Ytchdacbjiomplaa
open Go Go.Proofs.Ytchdacbjiomplaa.Fw Go.Proofs
theorem ord_eq {cmp : Place → Place → Int} {d : List Place} (g : Good cmp d) {a b : Int} (s : Int) (ha : 0 ≤ a ∧ a < d.length) (hb : 0 ≤ b ∧ b < d.length) :
    slices_order2CmpFunc_Place d a b s cmp = if (At d b).node < (At d a).node then (b, a, s + 1) else (a, b, s) := by
  unfold slices_order2CmpFunc_Place
  have h := g.lt hb ha
  by_cases e : (At d b).node < (At d a).node
  · rw [if_pos e, decide_eq_true (show cmp (gt d b.toNat) (gt d a.toNat) < 0 from h.2 e), cond_true]
  · rw [if_neg e, decide_eq_false (show ¬ cmp (gt d b.toNat) (gt d a.toNat) < 0 from fun c => e (h.1 c)), cond_false]
theorem med_spec {cmp : Place → Place → Int} {d : List Place} (g : Good cmp d) {i j k : Int} (s : Int) (hi : 0 ≤ i ∧ i < d.length) (hj : 0 ≤ j ∧ j < d.length) (hk : 0 ≤ k ∧ k < d.length) (hij : i ≠ j) (hik : i ≠ k) (hjk : j ≠ k) :
    ∃ x y, (x = i ∨ x = j ∨ x = k) ∧ (y = i ∨ y = j ∨ y = k) ∧ (At d x).node < (At d (slices_medianCmpFunc_Place d i j k s cmp).1).node ∧ (At d (slices_medianCmpFunc_Place d i j k s cmp).1).node < (At d y).node ∧
      ((slices_medianCmpFunc_Place d i j k s cmp).1 = i ∨ (slices_medianCmpFunc_Place d i j k s cmp).1 = j ∨ (slices_medianCmpFunc_Place d i j k s cmp).1 = k) := by
  have n1 : (At d i).node ≠ (At d j).node := fun e => hij (g.inj hi hj e)
  have n2 : (At d i).node ≠ (At d k).node := fun e => hik (g.inj hi hk e)
  have n3 : (At d j).node ≠ (At d k).node := fun e => hjk (g.inj hj hk e)
  unfold slices_medianCmpFunc_Place
  rw [ord_eq g s hi hj]
  by_cases h1 : (At d j).node < (At d i).node
  · rw [if_pos h1]
    simp only
    rw [ord_eq g (s + 1) hi hk]
    by_cases h2 : (At d k).node < (At d i).node
    · rw [if_pos h2]
      simp only
      rw [ord_eq g (s + 1 + 1) hj hk]
      by_cases h3 : (At d k).node < (At d j).node
      · rw [if_pos h3]; exact ⟨k, i, by simp, by simp, h3, h1, by simp⟩
      · rw [if_neg h3]; exact ⟨j, i, by simp, by simp, by simp only; omega, h2, by simp⟩
    · rw [if_neg h2]
      simp only
      rw [ord_eq g (s + 1) hj hi, if_neg (by omega)]
      exact ⟨j, k, by simp, by simp, h1, by simp only; omega, by simp⟩
  · rw [if_neg h1]
    simp only
    rw [ord_eq g s hj hk]
    by_cases h2 : (At d k).node < (At d j).node
    · rw [if_pos h2]
      simp only
      rw [ord_eq g (s + 1) hi hk]
      by_cases h3 : (At d k).node < (At d i).node
      · rw [if_pos h3]; exact ⟨k, j, by simp, by simp, h3, by simp only; omega, by simp⟩
      · rw [if_neg h3]; exact ⟨i, j, by simp, by simp, by simp only; omega, h2, by simp⟩
    · rw [if_neg h2]
      simp only
      rw [ord_eq g s hi hj, if_neg h1]
      exact ⟨i, k, by simp, by simp, by simp only; omega, by simp only; omega, by simp⟩
theorem piv_spec {cmp : Place → Place → Int} {d : List Place} (g : Good cmp d) {a b : Int} (h : 0 ≤ a ∧ a + 12 < b ∧ b ≤ a + 15 ∧ b ≤ d.length) :
    (a ≤ (slices_choosePivotCmpFunc_Place d a b cmp).1 ∧ (slices_choosePivotCmpFunc_Place d a b cmp).1 < b) ∧ (slices_choosePivotCmpFunc_Place d a b cmp).2 ≠ 2 ∧
    ∃ x y, (a ≤ x ∧ x < b) ∧ (a ≤ y ∧ y < b) ∧ (At d x).node < (At d (slices_choosePivotCmpFunc_Place d a b cmp).1).node ∧ (At d (slices_choosePivotCmpFunc_Place d a b cmp).1).node < (At d y).node := by
  have hi : 0 ≤ a + (b - a) / 4 * 1 ∧ a + (b - a) / 4 * 1 < d.length := by omega
  have hj : 0 ≤ a + (b - a) / 4 * 2 ∧ a + (b - a) / 4 * 2 < d.length := by omega
  have hk : 0 ≤ a + (b - a) / 4 * 3 ∧ a + (b - a) / 4 * 3 < d.length := by omega
  have m1 := med_spec g 0 hi hj hk (by omega) (by omega) (by omega)
  have m2 := median_in d (a + (b - a) / 4 * 1) (a + (b - a) / 4 * 2) (a + (b - a) / 4 * 3) 0 cmp hi hj hk
  have e : ∃ q, slices_choosePivotCmpFunc_Place d a b cmp = ((slices_medianCmpFunc_Place d (a + (b - a) / 4 * 1) (a + (b - a) / 4 * 2) (a + (b - a) / 4 * 3) 0 cmp).1, q) ∧ q ≠ 2 := by
    unfold slices_choosePivotCmpFunc_Place
    rw [decide_eq_true (show b - a ≥ 8 by omega), decide_eq_false (show ¬ (b - a ≥ 50) by omega), cond_true, cond_false]
    cases h1 : (slices_medianCmpFunc_Place d (a + (b - a) / 4 * 1) (a + (b - a) / 4 * 2) (a + (b - a) / 4 * 3) 0 cmp).2 == 0 with
    | true => exact ⟨1, rfl, by decide⟩
    | false =>
      rw [cond_false, beq_eq_false_iff_ne.2 (show (slices_medianCmpFunc_Place d (a + (b - a) / 4 * 1) (a + (b - a) / 4 * 2) (a + (b - a) / 4 * 3) 0 cmp).2 ≠ 12 by omega)]
      exact ⟨0, rfl, by decide⟩
  obtain ⟨q, e, hq⟩ := e
  rw [e]
  obtain ⟨x, y, hx, hy, h1, h2, h3⟩ := m1
  exact ⟨by simp only; omega, hq, x, y, by omega, by omega, h1, h2⟩
-- the small sort
theorem rearr_mid {P M M' S : List Place} {a b : Int} (ha : a = (P.length : Int)) (hb : b = ((P.length + M.length : Nat) : Int)) (hp : M'.Perm M) : Rearr (P ++ (M ++ S)) (P ++ (M' ++ S)) a b := by
  refine ⟨(hp.append_right S).append_left P, fun i h0 hi => ?_⟩
  have hl := hp.length_eq
  unfold At gt
  rw [List.getD_eq_getElem?_getD, List.getD_eq_getElem?_getD]
  rcases hi with hi | hi
  · rw [List.getElem?_append_left (by omega), List.getElem?_append_left (by omega)]
  · rw [List.getElem?_append_right (by omega), List.getElem?_append_right (by omega), List.getElem?_append_right (by omega), List.getElem?_append_right (by omega), hl]
theorem at_midl {P M S : List Place} {x : Int} (hx : (P.length : Int) ≤ x ∧ x < ((P.length + M.length : Nat) : Int)) : At (P ++ (M ++ S)) x = gt M (x.toNat - P.length) := by
  unfold At gt
  rw [List.getD_eq_getElem?_getD, List.getD_eq_getElem?_getD, List.getElem?_append_right (by omega), List.getElem?_append_left (by omega)]
def SortedIn (d : List Place) (a b : Int) : Prop := ∀ x y : Int, a ≤ x → x < y → y < b → (At d x).node < (At d y).node
theorem is_ok {cmp : Place → Place → Int} {d : List Place} (g : Good cmp d) {a b : Int} (h : 0 ≤ a ∧ a ≤ b ∧ b ≤ d.length) :
    Rearr d (slices_insertionSortCmpFunc_Place d a b cmp) a b ∧ SortedIn (slices_insertionSortCmpFunc_Place d a b cmp) a b := by
  have e : d = d.take a.toNat ++ ((d.drop a.toNat).take (b - a).toNat ++ d.drop b.toNat) := by
    have : d.drop b.toNat = (d.drop a.toNat).drop (b - a).toNat := by rw [List.drop_drop]; congr 1; omega
    rw [this, List.take_append_drop, List.take_append_drop]
  have hP : a = ((d.take a.toNat).length : Int) := by rw [List.length_take]; omega
  have hM : b = (((d.take a.toNat).length + ((d.drop a.toNat).take (b - a).toNat).length : Nat) : Int) := by rw [List.length_take, List.length_take, List.length_drop]; omega
  have hm : ∀ p ∈ (d.drop a.toNat).take (b - a).toNat, p ∈ d := fun p hp => List.mem_of_mem_drop (List.mem_of_mem_take hp)
  generalize d.take a.toNat = P at *
  generalize (d.drop a.toNat).take (b - a).toNat = M at *
  generalize d.drop b.toNat = S at *
  have ei : slices_insertionSortCmpFunc_Place d a b cmp = P ++ (isort (fun p q => decide (cmp p q < 0)) [] M ++ S) := by
    conv => lhs; rw [e]
    exact IS_Place cmp P M S a b hP hM
  have ec : isort (fun p q => decide (cmp p q < 0)) [] M = isort (fun p q : Place => decide (p.node < q.node)) [] M := by
    refine isort_congr M [] fun p hp q hq => ?_
    have hq : q ∈ M := hq.resolve_left (by simp)
    exact decide_eq_decide.2 (g.ord p (hm p hp) q (hm q hq))
  have hs := isort_sorted (lt := fun p q : Place => decide (p.node < q.node)) (fun a b c h1 h2 => by simp only [decide_eq_false_iff_not] at *; omega) (fun a b h1 => by simp only [decide_eq_true_eq, decide_eq_false_iff_not] at *; omega) M [] (by unfold Sorted; exact List.Pairwise.nil)
  have hp := isort_perm (fun p q : Place => decide (p.node < q.node)) M []
  rw [List.nil_append] at hp
  rw [ei, ec]
  generalize isort (fun p q : Place => decide (p.node < q.node)) [] M = M' at hs hp
  have hr : Rearr d (P ++ (M' ++ S)) a b := by
    conv => arg 1; rw [e]
    exact rearr_mid hP hM hp
  refine ⟨hr, fun x y hx hxy hy => ?_⟩
  have hl := hp.length_eq
  have hL : (P ++ (M ++ S)).length = d.length := by rw [← e]
  have hL' := hr.len
  have hne : (At (P ++ (M' ++ S)) x).node ≠ (At (P ++ (M' ++ S)) y).node := fun c => by
    have := (g.perm hr.p).inj (i := x) (j := y) (by omega) (by omega) c
    omega
  rw [at_midl (by omega), at_midl (by omega), pgt_get _ _ (by omega), pgt_get _ _ (by omega)] at hne ⊢
  have := List.pairwise_iff_getElem.1 hs (x.toNat - P.length) (y.toNat - P.length) (by omega) (by omega) (by omega)
  simp only [decide_eq_false_iff_not] at this
  omega
end Go.Proofs.Ytchdacbjiomplaa
