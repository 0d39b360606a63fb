/- Part of this claim. No condition. -/
import Derived.Test.YtccmadehnoihnaaGreatDoorG5
set_option linter.unusedVariables false
set_option linter.unusedSimpArgs false
set_option maxHeartbeats 2000000
namespace Go.Proofs.YtccmadehnoihnaaGreatDoor
open Go Go.Proofs.YtccmadehnoihnaaGreatDoor.Fw Go.Proofs
attribute [local irreducible] RW CW
def bsearch (p : Int → Bool) : Nat → Int → Int → Int
  | 0, _, _ => default
  | f + 1, i, j => bif decide (i < j) then (bif p ((i + j) / 2) then bsearch p f ((i + j) / 2 + 1) j else bsearch p f i ((i + j) / 2)) else i
theorem bsearch_spec (p : Int → Bool) : ∀ (f : Nat) (i j : Int), i ≤ j → (j - i).toNat < f → (∀ x y, i ≤ x → x ≤ y → y < j → p y = true → p x = true) →
    i ≤ bsearch p f i j ∧ bsearch p f i j ≤ j ∧ (∀ x, i ≤ x → x < bsearch p f i j → p x = true) ∧ (∀ x, bsearch p f i j ≤ x → x < j → p x = false)
  | 0, _, _, _, h, _ => by omega
  | f + 1, i, j, hij, h, hm => by
    rw [bsearch]
    cases hc : decide (i < j) with
    | false =>
      have := of_decide_eq_false hc
      simp only [cond_false]
      exact ⟨Int.le_refl _, hij, fun x h1 h2 => by omega, fun x h1 h2 => by omega⟩
    | true =>
      have hc := of_decide_eq_true hc
      simp only [cond_true]
      cases hp : p ((i + j) / 2) with
      | true =>
        simp only [cond_true]
        obtain ⟨h1, h2, h3, h4⟩ := bsearch_spec p f ((i + j) / 2 + 1) j (by omega) (by omega) (fun x y hx hxy hy => hm x y (by omega) hxy hy)
        refine ⟨by omega, h2, fun x hx hxr => ?_, h4⟩
        by_cases hh : x ≤ (i + j) / 2
        · exact hm x _ hx hh (by omega) hp
        · exact h3 x (by omega) hxr
      | false =>
        simp only [cond_false]
        obtain ⟨h1, h2, h3, h4⟩ := bsearch_spec p f i ((i + j) / 2) (by omega) (by omega) (fun x y hx hxy hy => hm x y hx hxy (by omega))
        refine ⟨h1, by omega, h3, fun x hx hxj => ?_⟩
        by_cases hh : x < (i + j) / 2
        · exact h4 x hx hh
        · cases hpx : p x with
          | false => rfl
          | true => have := hm ((i + j) / 2) x (by omega) (by omega) hxj hpx; rw [hp] at this; cases this

theorem SR_Op_L0 (n : Int) (a b : Int) : ∀ (X2 Y2 P X1 Y1 M S : List Op) (f : Nat), X1.length = Y1.length → X2.length = Y2.length → a = (P.length : Int) → b = ((P.length + Y1.length + X2.length + M.length : Nat) : Int) → n = ((Y1.length + X2.length : Nat) : Int) → X2.length < f →
    slices_swapRangeCmpFunc_Op_L0 a b n f (P ++ (Y1 ++ (X2 ++ (M ++ (X1 ++ (Y2 ++ S)))))) (Y1.length : Int) = P ++ (Y1 ++ (Y2 ++ (M ++ (X1 ++ (X2 ++ S)))))
  | [], [], P, X1, Y1, M, S, f + 1, h1, h2, ha, hb, hn, hf => by
    rw [slices_swapRangeCmpFunc_Op_L0]
    have : decide ((Y1.length : Int) < n) = false := by rw [hn]; simp
    rw [this]; rfl
  | x :: X2, y :: Y2, P, X1, Y1, M, S, f + 1, h1, h2, ha, hb, hn, hf => by
    simp only [List.length_cons] at h2 hb hn hf
    rw [slices_swapRangeCmpFunc_Op_L0]
    have hc : decide ((Y1.length : Int) < n) = true := by rw [hn]; simp; omega
    have ea : (a + (Y1.length : Int)).toNat = (P ++ Y1).length := by rw [ha]; simp; omega
    have eb : (b + (Y1.length : Int)).toNat = (P ++ (Y1 ++ (x :: X2 ++ (M ++ X1)))).length := by rw [hb]; simp; omega
    have eb' : (b + (Y1.length : Int)).toNat = (P ++ (Y1 ++ (y :: X2 ++ (M ++ X1)))).length := by rw [hb]; simp; omega
    have d1 : P ++ (Y1 ++ (x :: X2 ++ (M ++ (X1 ++ (y :: Y2 ++ S))))) = (P ++ Y1) ++ x :: (X2 ++ (M ++ (X1 ++ (y :: Y2 ++ S)))) := by simp
    have d2 : P ++ (Y1 ++ (x :: X2 ++ (M ++ (X1 ++ (y :: Y2 ++ S))))) = (P ++ (Y1 ++ (x :: X2 ++ (M ++ X1)))) ++ y :: (Y2 ++ S) := by simp
    have d3 : (P ++ Y1) ++ y :: (X2 ++ (M ++ (X1 ++ (y :: Y2 ++ S)))) = (P ++ (Y1 ++ (y :: X2 ++ (M ++ X1)))) ++ y :: (Y2 ++ S) := by simp
    have g1 : gt (P ++ (Y1 ++ (x :: X2 ++ (M ++ (X1 ++ (y :: Y2 ++ S)))))) (a + (Y1.length : Int)).toNat = x := by rw [d1]; exact gt_mid _ _ _ _ ea
    have g2 : gt (P ++ (Y1 ++ (x :: X2 ++ (M ++ (X1 ++ (y :: Y2 ++ S)))))) (b + (Y1.length : Int)).toNat = y := by rw [d2]; exact gt_mid _ _ _ _ eb
    have s1 : (P ++ (Y1 ++ (x :: X2 ++ (M ++ (X1 ++ (y :: Y2 ++ S)))))).set (a + (Y1.length : Int)).toNat y = (P ++ Y1) ++ y :: (X2 ++ (M ++ (X1 ++ (y :: Y2 ++ S)))) := by rw [d1]; exact set_mid _ _ _ _ _ ea
    rw [hc, cond_true, g1, g2, s1, d3, set_mid _ _ _ _ _ eb']
    have ih := SR_Op_L0 n a b X2 Y2 P (X1 ++ [x]) (Y1 ++ [y]) M S f (by simp [h1]) (by omega) ha (by rw [hb]; simp; omega) (by rw [hn]; simp; omega) (by omega)
    simp only [List.length_append, List.length_cons, List.length_nil, List.append_assoc, List.cons_append, List.nil_append] at ih ⊢
    rw [show ((Y1.length : Int)) + 1 = ((Y1.length + (0 + 1) : Nat) : Int) by simp]
    exact ih
theorem SR_Op (P X M Y S : List Op) (a b n : Int) (cmp : Op → Op → Int) (h : X.length = Y.length) (ha : a = (P.length : Int)) (hb : b = ((P.length + X.length + M.length : Nat) : Int)) (hn : n = (X.length : Int)) :
    slices_swapRangeCmpFunc_Op (P ++ (X ++ (M ++ (Y ++ S)))) a b n cmp = P ++ (Y ++ (M ++ (X ++ S))) := by
  have := SR_Op_L0 n a b X Y P [] [] M S ((n - 0).toNat + 1) rfl h ha (by rw [hb]; simp) (by rw [hn]; simp) (by rw [hn]; simp)
  exact this
theorem RT_Op_L0 (m : Int) (cmp : Op → Op → Int) : ∀ (f : Nat) (P X Y S : List Op), 1 ≤ X.length → 1 ≤ Y.length → m = ((P.length + X.length : Nat) : Int) → X.length + Y.length < f →
    slices_rotateCmpFunc_Op_L0 m cmp f (P ++ (X ++ (Y ++ S))) (X.length : Int) (Y.length : Int) = P ++ (Y ++ (X ++ S))
  | 0, _, _, _, _, _, _, _, h => by omega
  | f + 1, P, X, Y, S, hx, hy, hm, hf => by
    rw [slices_rotateCmpFunc_Op_L0]
    cases hc : ((X.length : Int) != (Y.length : Int)) with
    | false =>
      have hc := eq_of_bne_false hc
      simp only [cond_false]
      exact SR_Op P X [] Y S _ _ _ cmp (by omega) (by rw [hm]; simp) (by rw [hm]; simp) rfl
    | true =>
      have hc := bne_iff_ne.1 hc
      simp only [cond_true]
      cases hd : decide ((X.length : Int) > (Y.length : Int)) with
      | true =>
        have hd := of_decide_eq_true hd
        simp only [cond_true]
        have hX : X = X.take Y.length ++ X.drop Y.length := (List.take_append_drop _ _).symm
        have hl : (X.take Y.length).length = Y.length := by simp; omega
        have e := SR_Op P (X.take Y.length) (X.drop Y.length) Y S (m - (X.length : Int)) m (Y.length : Int) cmp hl (by rw [hm]; simp) (by rw [hm]; simp; omega) (by rw [hl])
        rw [← List.append_assoc (X.take Y.length), List.take_append_drop] at e
        rw [e]
        have ih := RT_Op_L0 m cmp f (P ++ Y) (X.drop Y.length) (X.take Y.length) S (by simp; omega) (by rw [hl]; exact hy) (by rw [hm]; simp; omega) (by rw [hl]; simp; omega)
        rw [hl] at ih
        have hdl : ((X.drop Y.length).length : Int) = (X.length : Int) - (Y.length : Int) := by simp; omega
        rw [hdl] at ih
        simp only [List.append_assoc] at ih
        rw [ih, ← List.append_assoc (X.take Y.length), List.take_append_drop]
      | false =>
        have hd := of_decide_eq_false hd
        simp only [cond_false]
        have hl2 : (Y.drop (Y.length - X.length)).length = X.length := by simp; omega
        have hl1 : (Y.take (Y.length - X.length)).length = Y.length - X.length := by simp
        have e := SR_Op P X (Y.take (Y.length - X.length)) (Y.drop (Y.length - X.length)) S (m - (X.length : Int)) (m + (Y.length : Int) - (X.length : Int)) (X.length : Int) cmp hl2.symm (by rw [hm]; simp) (by rw [hm, hl1]; simp; omega) rfl
        rw [← List.append_assoc (Y.take _), List.take_append_drop] at e
        rw [e]
        have ih := RT_Op_L0 m cmp f P (Y.drop (Y.length - X.length)) (Y.take (Y.length - X.length)) (X ++ S) (by rw [hl2]; exact hx) (by rw [hl1]; omega) (by rw [hl2]; exact hm) (by rw [hl1, hl2]; omega)
        rw [hl2, hl1] at ih
        have hdl : ((Y.length - X.length : Nat) : Int) = (Y.length : Int) - (X.length : Int) := by omega
        rw [hdl] at ih
        rw [ih, ← List.append_assoc (Y.take _), List.take_append_drop]
theorem RT_Op (P X Y S : List Op) (a m b : Int) (cmp : Op → Op → Int) (hx : 1 ≤ X.length) (hy : 1 ≤ Y.length) (ha : a = (P.length : Int)) (hm : m = ((P.length + X.length : Nat) : Int)) (hb : b = ((P.length + X.length + Y.length : Nat) : Int)) :
    slices_rotateCmpFunc_Op (P ++ (X ++ (Y ++ S))) a m b cmp = P ++ (Y ++ (X ++ S)) := by
  unfold slices_rotateCmpFunc_Op
  have h := RT_Op_L0 m cmp ((b - a).toNat + 1) P X Y S hx hy hm (by rw [ha, hb]; omega)
  rw [show m - a = (X.length : Int) by rw [ha, hm]; omega, show b - m = (Y.length : Int) by rw [hm, hb]; omega]
  exact h

theorem gt_app {α : Type} [Inhabited α] (A B C : List α) (i : Nat) (h1 : A.length ≤ i) (h2 : i < A.length + B.length) : gt (A ++ (B ++ C)) i = gt B (i - A.length) := by
  unfold gt
  rw [List.getD_eq_getElem?_getD, List.getD_eq_getElem?_getD, List.getElem?_append_right h1, List.getElem?_append_left (by omega)]
theorem mem_take_gt {α : Type} [Inhabited α] {l : List α} {n : Nat} {x : α} (h : x ∈ l.take n) : ∃ i, i < n ∧ i < l.length ∧ x = gt l i := by
  obtain ⟨i, hi, rfl⟩ := List.getElem_of_mem h
  simp only [List.length_take] at hi
  refine ⟨i, by omega, by omega, ?_⟩
  rw [gt_eq (by omega), List.getElem_take]
theorem mem_drop_gt {α : Type} [Inhabited α] {l : List α} {n : Nat} {x : α} (h : x ∈ l.drop n) : ∃ i, n ≤ i ∧ i < l.length ∧ x = gt l i := by
  obtain ⟨i, hi, rfl⟩ := List.getElem_of_mem h
  simp only [List.length_drop] at hi
  refine ⟨n + i, by omega, by omega, ?_⟩
  rw [gt_eq (by omega), List.getElem_drop]
theorem sorted_gt {α : Type} [Inhabited α] {lt : α → α → Bool} (has : ∀ a b, lt a b = true → lt b a = false) {l : List α} (h : Sorted lt l) {i j : Nat} (hij : i ≤ j) (hj : j < l.length) : lt (gt l j) (gt l i) = false := by
  rcases Nat.eq_or_lt_of_le hij with rfl | hij
  · cases hh : lt (gt l i) (gt l i) with
    | false => rfl
    | true => have := has _ _ hh; rw [hh] at this; exact this
  · rw [gt_eq hj, gt_eq (by omega)]
    exact List.pairwise_iff_getElem.1 h i j (by omega) hj hij

theorem SM_Op_L1 (i : Int) : ∀ (V P R : List Op) (x : Op) (f : Nat), i - 1 = ((P.length + V.length : Nat) : Int) → V.length < f →
    slices_symMergeCmpFunc_Op_L1 i f (P ++ x :: (V ++ R)) (P.length : Int) = P ++ (V ++ x :: R)
  | [], P, R, x, f + 1, hi, hf => by
    rw [slices_symMergeCmpFunc_Op_L1]
    have : decide ((P.length : Int) < i - 1) = false := by rw [hi]; simp
    rw [this]; rfl
  | v :: V, P, R, x, f + 1, hi, hf => by
    simp only [List.length_cons] at hi hf
    rw [slices_symMergeCmpFunc_Op_L1]
    have hc : decide ((P.length : Int) < i - 1) = true := by rw [hi]; simp; omega
    have e0 : ((P.length : Int)).toNat = P.length := by simp
    have e1 : ((P.length : Int) + 1).toNat = (P ++ [x]).length := by simp only [List.length_append, List.length_cons, List.length_nil]; omega
    have e2 : ((P.length : Int) + 1).toNat = (P ++ [v]).length := by simp only [List.length_append, List.length_cons, List.length_nil]; omega
    have d1 : P ++ x :: (v :: V ++ R) = (P ++ [x]) ++ v :: (V ++ R) := by simp
    have g0 : gt (P ++ x :: (v :: V ++ R)) ((P.length : Int)).toNat = x := gt_mid _ _ _ _ e0
    have g1 : gt (P ++ x :: (v :: V ++ R)) ((P.length : Int) + 1).toNat = v := by rw [d1]; exact gt_mid _ _ _ _ e1
    rw [hc, cond_true, g0, g1, set_mid _ _ _ _ _ e0, show P ++ v :: (v :: V ++ R) = (P ++ [v]) ++ v :: (V ++ R) by simp, set_mid _ _ _ _ _ e2]
    have ih := SM_Op_L1 i V (P ++ [v]) R x f (by rw [hi]; simp; omega) (by omega)
    simp only [List.length_append, List.length_cons, List.length_nil, List.append_assoc, List.cons_append, List.nil_append] at ih ⊢
    rw [show ((P.length : Int)) + 1 = ((P.length + (0 + 1) : Nat) : Int) by simp]
    exact ih
theorem SM_Op_L3 (i : Int) (P : List Op) (hi : i = (P.length : Int)) : ∀ (r R : List Op) (y : Op) (f : Nat), r.length < f →
    slices_symMergeCmpFunc_Op_L3 i f (P ++ (r.reverse ++ y :: R)) ((P.length + r.length : Nat) : Int) = P ++ (y :: (r.reverse ++ R))
  | [], R, y, f + 1, hf => by
    rw [slices_symMergeCmpFunc_Op_L3]
    have : decide (((P.length + ([] : List Op).length : Nat) : Int) > i) = false := by rw [hi]; simp
    rw [this]; rfl
  | u :: r, R, y, f + 1, hf => by
    simp only [List.length_cons] at hf
    rw [slices_symMergeCmpFunc_Op_L3]
    have hc : decide (((P.length + (u :: r).length : Nat) : Int) > i) = true := by rw [hi]; simp; omega
    have e0 : (((P.length + (u :: r).length : Nat) : Int)).toNat = (P ++ (r.reverse ++ [u])).length := by simp; omega
    have e1 : (((P.length + (u :: r).length : Nat) : Int) - 1).toNat = (P ++ r.reverse).length := by simp; omega
    have d0 : P ++ ((u :: r).reverse ++ y :: R) = (P ++ (r.reverse ++ [u])) ++ y :: R := by simp
    have d1 : (P ++ (r.reverse ++ [u])) ++ y :: R = (P ++ r.reverse) ++ u :: (y :: R) := by simp
    have g0 : gt (P ++ ((u :: r).reverse ++ y :: R)) (((P.length + (u :: r).length : Nat) : Int)).toNat = y := by rw [d0]; exact gt_mid _ _ _ _ e0
    have g1 : gt (P ++ ((u :: r).reverse ++ y :: R)) (((P.length + (u :: r).length : Nat) : Int) - 1).toNat = u := by rw [d0, d1]; exact gt_mid _ _ _ _ e1
    rw [hc, cond_true, g0, g1, d0, set_mid _ _ _ _ _ e0, show (P ++ (r.reverse ++ [u])) ++ u :: R = (P ++ r.reverse) ++ u :: (u :: R) by simp, set_mid _ _ _ _ _ e1]
    have ih := SM_Op_L3 i P hi r (u :: R) y f (by omega)
    rw [show ((P.length + (u :: r).length : Nat) : Int) - 1 = ((P.length + r.length : Nat) : Int) by simp; omega, List.append_assoc, ih]
    simp
theorem SM_Op_L0 (data : List Op) (a b : Int) (cmp : Op → Op → Int) : ∀ (f : Nat) (i j : Int), (j - i).toNat < f →
    slices_symMergeCmpFunc_Op_L0 data a b cmp f i j = slices_symMergeCmpFunc_Op_L1 (bsearch (fun h => decide (cmp (gt data h.toNat) (gt data a.toNat) < 0)) f i j) ((b - a).toNat + 1) data a
  | 0, _, _, h => by omega
  | f + 1, i, j, h => by
    rw [slices_symMergeCmpFunc_Op_L0, bsearch]
    cases hc : decide (i < j) with
    | false => rfl
    | true =>
      have hc := of_decide_eq_true hc
      simp only [cond_true]
      cases decide (cmp (gt data ((i + j) / 2).toNat) (gt data a.toNat) < 0) with
      | true => simp only [cond_true]; exact SM_Op_L0 data a b cmp f _ _ (by omega)
      | false => simp only [cond_false]; exact SM_Op_L0 data a b cmp f _ _ (by omega)
theorem SM_Op_L2 (data : List Op) (a m : Int) (cmp : Op → Op → Int) : ∀ (f : Nat) (i j : Int), (j - i).toNat < f →
    slices_symMergeCmpFunc_Op_L2 data a m cmp f i j = slices_symMergeCmpFunc_Op_L3 (bsearch (fun h => !decide (cmp (gt data m.toNat) (gt data h.toNat) < 0)) f i j) ((m - a).toNat + 1) data m
  | 0, _, _, h => by omega
  | f + 1, i, j, h => by
    rw [slices_symMergeCmpFunc_Op_L2, bsearch]
    cases hc : decide (i < j) with
    | false => rfl
    | true =>
      have hc := of_decide_eq_true hc
      simp only [cond_true]
      cases decide (cmp (gt data m.toNat) (gt data ((i + j) / 2).toNat) < 0) with
      | true => simp only [Bool.not_true, cond_false]; exact SM_Op_L2 data a m cmp f _ _ (by omega)
      | false => simp only [Bool.not_false, cond_true]; exact SM_Op_L2 data a m cmp f _ _ (by omega)
theorem SM_Op_L4 (data : List Op) (a m b : Int) (cmp : Op → Op → Int) : ∀ (f : Nat) (i j : Int),
    slices_symMergeCmpFunc_Op_L4 data a m b cmp f i j = bsearch (fun c => !decide (cmp (gt data ((a + b) / 2 + m - 1 - c).toNat) (gt data c.toNat) < 0)) f i j
  | 0, _, _ => rfl
  | f + 1, i, j => by
    rw [slices_symMergeCmpFunc_Op_L4, bsearch, SM_Op_L4 data a m b cmp f, SM_Op_L4 data a m b cmp f]
theorem SM_Op (cmp : Op → Op → Int) (lt : Op → Op → Bool) (hlt : ∀ a b, decide (cmp a b < 0) = lt a b) (htr : ∀ a b c, lt c b = false → lt b a = false → lt c a = false) (has : ∀ a b, lt a b = true → lt b a = false) : ∀ (k : Nat) (P U V S : List Op) (a m b : Int),
    1 ≤ U.length → 1 ≤ V.length → a = (P.length : Int) → m = ((P.length + U.length : Nat) : Int) → b = ((P.length + U.length + V.length : Nat) : Int) → U.length + V.length < k → Sorted lt U → Sorted lt V →
    ∃ W, slices_symMergeCmpFunc_Op k (P ++ (U ++ (V ++ S))) a m b cmp = P ++ (W ++ S) ∧ W.Perm (U ++ V) ∧ Sorted lt W
  | 0, _, _, _, _, _, _, _, _, _, _, _, _, h, _, _ => by omega
  | k + 1, P, U, V, S, a, m, b, hu, hv, ha, hm, hb, hk, sU, sV => by
    have gU : ∀ i : Int, a ≤ i → i < m → gt (P ++ (U ++ (V ++ S))) i.toNat = gt U (i - a).toNat := fun i h1 h2 => by
      rw [gt_app P U (V ++ S) i.toNat (by omega) (by omega)]; congr 1; omega
    have gV : ∀ i : Int, m ≤ i → i < b → gt (P ++ (U ++ (V ++ S))) i.toNat = gt V (i - m).toNat := fun i h1 h2 => by
      rw [← List.append_assoc P, gt_app (P ++ U) V S i.toNat (by simp; omega) (by simp; omega)]; congr 1; simp; omega
    rw [slices_symMergeCmpFunc_Op]
    cases h1 : (m - a == 1) with
    | true =>
      have h1 := eq_of_beq h1
      simp only [cond_true]
      obtain ⟨x, rfl⟩ : ∃ x, U = [x] := List.length_eq_one_iff.1 (by omega)
      rw [SM_Op_L0 _ a b cmp _ _ _ (by omega)]
      have ga : gt (P ++ ([x] ++ (V ++ S))) a.toNat = x := by rw [gU a (by omega) (by omega)]; simp [gt]
      rw [ga]
      obtain ⟨q1, q2, q3, q4⟩ := bsearch_spec (fun h => decide (cmp (gt (P ++ ([x] ++ (V ++ S))) h.toNat) x < 0)) ((b - m).toNat + 1) m b (by omega) (by omega) (fun z w hz hzw hw hp => by
        try simp only at hp ⊢
        rw [gV z hz (by omega)]
        rw [gV w (by omega) hw] at hp
        rw [hlt] at hp ⊢
        cases hh : lt (gt V (z - m).toNat) x with
        | true => rfl
        | false => rw [htr _ _ _ (sorted_gt has sV (i := (z - m).toNat) (j := (w - m).toNat) (by omega) (by omega)) hh] at hp; cases hp)
      generalize bsearch (fun h => decide (cmp (gt (P ++ ([x] ++ (V ++ S))) h.toNat) x < 0)) ((b - m).toNat + 1) m b = r at *
      have hV : V = V.take (r - m).toNat ++ V.drop (r - m).toNat := (List.take_append_drop _ _).symm
      refine ⟨V.take (r - m).toNat ++ x :: V.drop (r - m).toNat, ?_, ?_, ?_⟩
      · have := SM_Op_L1 r (V.take (r - m).toNat) P (V.drop (r - m).toNat ++ S) x ((b - a).toNat + 1) (by simp; omega) (by simp; omega)
        rw [← List.append_assoc (V.take _), List.take_append_drop] at this
        rw [ha]
        simp only [List.cons_append, List.nil_append]
        rw [ha] at this
        rw [this]; simp
      · refine List.perm_middle.trans ?_
        rw [List.take_append_drop]; exact .refl _
      · have sV' := sV
        unfold Sorted at sV'
        rw [hV] at sV'
        obtain ⟨p1, p2, p3⟩ := List.pairwise_append.1 sV'
        refine List.pairwise_append.2 ⟨p1, List.pairwise_cons.2 ⟨fun v hv9 => ?_, p2⟩, fun v hv9 w hw => ?_⟩
        · obtain ⟨i, hi1, hi2, rfl⟩ := mem_drop_gt hv9
          have := q4 (m + i) (by omega) (by omega)
          rw [gV (m + i) (by omega) (by omega), hlt] at this
          rw [show (m + (i : Int) - m).toNat = i by omega] at this
          exact this
        · rcases List.mem_cons.1 hw with rfl | hw
          · obtain ⟨i, hi1, hi2, rfl⟩ := mem_take_gt hv9
            have := q3 (m + i) (by omega) (by omega)
            rw [gV (m + i) (by omega) (by omega), hlt] at this
            rw [show (m + (i : Int) - m).toNat = i by omega] at this
            exact has _ _ this
          · exact p3 v hv9 w hw
    | false =>
      simp only [cond_false]
      have h1 : ¬ m - a = 1 := by simpa using h1
      cases h2 : (b - m == 1) with
      | true =>
        have h2 := eq_of_beq h2
        simp only [cond_true]
        obtain ⟨y, rfl⟩ : ∃ y, V = [y] := List.length_eq_one_iff.1 (by omega)
        rw [SM_Op_L2 _ a m cmp _ _ _ (by omega)]
        have gm : gt (P ++ (U ++ ([y] ++ S))) m.toNat = y := by rw [gV m (by omega) (by omega)]; simp [gt]
        rw [gm]
        obtain ⟨q1, q2, q3, q4⟩ := bsearch_spec (fun h => !decide (cmp y (gt (P ++ (U ++ ([y] ++ S))) h.toNat) < 0)) ((m - a).toNat + 1) a m (by omega) (by omega) (fun z w hz hzw hw hp => by
          try simp only at hp ⊢
          rw [gU z hz (by omega)]
          rw [gU w (by omega) hw] at hp
          rw [hlt] at hp ⊢
          have hp : lt y (gt U (w - a).toNat) = false := by simpa using hp
          rw [htr _ _ _ hp (sorted_gt has sU (i := (z - a).toNat) (j := (w - a).toNat) (by omega) (by omega))]; rfl)
        generalize bsearch (fun h => !decide (cmp y (gt (P ++ (U ++ ([y] ++ S))) h.toNat) < 0)) ((m - a).toNat + 1) a m = r at *
        have hU : U = U.take (r - a).toNat ++ U.drop (r - a).toNat := (List.take_append_drop _ _).symm
        refine ⟨U.take (r - a).toNat ++ y :: U.drop (r - a).toNat, ?_, ?_, ?_⟩
        · have := SM_Op_L3 r (P ++ U.take (r - a).toNat) (by simp; omega) (U.drop (r - a).toNat).reverse S y ((m - a).toNat + 1) (by simp; omega)
          rw [List.reverse_reverse] at this
          have e1 : P ++ U.take (r - a).toNat ++ (U.drop (r - a).toNat ++ y :: S) = P ++ (U ++ ([y] ++ S)) := by
            rw [List.append_assoc P, ← List.append_assoc (U.take _), List.take_append_drop]; rfl
          have e2 : (((P ++ U.take (r - a).toNat).length + (U.drop (r - a).toNat).reverse.length : Nat) : Int) = m := by simp; omega
          rw [e1, e2] at this
          rw [this]; simp
        · refine List.perm_middle.trans ?_
          rw [List.take_append_drop]
          exact (List.perm_append_comm (l₁ := [y]) (l₂ := U))
        · have sU' := sU
          unfold Sorted at sU'
          rw [hU] at sU'
          obtain ⟨p1, p2, p3⟩ := List.pairwise_append.1 sU'
          refine List.pairwise_append.2 ⟨p1, List.pairwise_cons.2 ⟨fun v hv9 => ?_, p2⟩, fun v hv9 w hw => ?_⟩
          · obtain ⟨i, hi1, hi2, rfl⟩ := mem_drop_gt hv9
            have := q4 (a + i) (by omega) (by omega)
            rw [gU (a + i) (by omega) (by omega), hlt] at this
            rw [show (a + (i : Int) - a).toNat = i by omega] at this
            exact has _ _ (by simpa using this)
          · rcases List.mem_cons.1 hw with rfl | hw
            · obtain ⟨i, hi1, hi2, rfl⟩ := mem_take_gt hv9
              have := q3 (a + i) (by omega) (by omega)
              rw [gU (a + i) (by omega) (by omega), hlt] at this
              rw [show (a + (i : Int) - a).toNat = i by omega] at this
              simpa using this
            · exact p3 v hv9 w hw
      | false =>
        simp only [cond_false]
        have h2 : ¬ b - m = 1 := by simpa using h2
        have hV8 : a ≤ (slices_symMergeCmpFunc_Op_V8 a m b).1 ∧ (slices_symMergeCmpFunc_Op_V8 a m b).1 ≤ (slices_symMergeCmpFunc_Op_V8 a m b).2 ∧ (slices_symMergeCmpFunc_Op_V8 a m b).2 ≤ m ∧ (slices_symMergeCmpFunc_Op_V8 a m b).2 ≤ (a + b) / 2 ∧ (a + b) / 2 + m - (slices_symMergeCmpFunc_Op_V8 a m b).1 ≤ b ∧
            ((slices_symMergeCmpFunc_Op_V8 a m b).1 = a ∨ (slices_symMergeCmpFunc_Op_V8 a m b).1 = (a + b) / 2 + m - b) ∧ ((slices_symMergeCmpFunc_Op_V8 a m b).2 = m ∨ (slices_symMergeCmpFunc_Op_V8 a m b).2 = (a + b) / 2) := by
          unfold slices_symMergeCmpFunc_Op_V8
          cases hc : decide (m > (a + b) / 2) with
          | true => have hc := of_decide_eq_true hc; exact ⟨by simp only [cond_true]; omega, by simp only [cond_true]; omega, by simp only [cond_true]; omega, by simp only [cond_true]; omega, by simp only [cond_true]; omega, .inr rfl, .inr rfl⟩
          | false => have hc := of_decide_eq_false hc; exact ⟨by simp only [cond_false]; omega, by simp only [cond_false]; omega, by simp only [cond_false]; omega, by simp only [cond_false]; omega, by simp only [cond_false]; omega, .inl rfl, .inl rfl⟩
        unfold slices_symMergeCmpFunc_Op_V11
        rw [SM_Op_L4]
        generalize (slices_symMergeCmpFunc_Op_V8 a m b).1 = lo at *
        generalize (slices_symMergeCmpFunc_Op_V8 a m b).2 = hi at *
        obtain ⟨w1, w2, w3, w4, w5, w6, w7⟩ := hV8
        obtain ⟨q1, q2, q3, q4⟩ := bsearch_spec (fun c => !decide (cmp (gt (P ++ (U ++ (V ++ S))) ((a + b) / 2 + m - 1 - c).toNat) (gt (P ++ (U ++ (V ++ S))) c.toNat) < 0)) ((b - a).toNat + 1) lo hi w2 (by omega) (fun z w hz hzw hw hp => by
          try simp only at hp ⊢
          rw [gU z (by omega) (by omega), gV _ (by omega) (by omega)]
          rw [gU w (by omega) (by omega), gV _ (by omega) (by omega)] at hp
          rw [hlt] at hp ⊢
          have hp : lt (gt V ((a + b) / 2 + m - 1 - w - m).toNat) (gt U (w - a).toNat) = false := by simpa using hp
          have hp2 := htr _ _ _ (sorted_gt has sV (i := ((a + b) / 2 + m - 1 - w - m).toNat) (j := ((a + b) / 2 + m - 1 - z - m).toNat) (by omega) (by omega)) hp
          rw [htr _ _ _ hp2 (sorted_gt has sU (i := (z - a).toNat) (j := (w - a).toNat) (by omega) (by omega))]; rfl)
        generalize bsearch (fun c => !decide (cmp (gt (P ++ (U ++ (V ++ S))) ((a + b) / 2 + m - 1 - c).toNat) (gt (P ++ (U ++ (V ++ S))) c.toNat) < 0)) ((b - a).toNat + 1) lo hi = s at *
        have hU : U = U.take (s - a).toNat ++ U.drop (s - a).toNat := (List.take_append_drop _ _).symm
        have hV : V = V.take ((a + b) / 2 - s).toNat ++ V.drop ((a + b) / 2 - s).toNat := (List.take_append_drop _ _).symm
        have lU1 : (U.take (s - a).toNat).length = (s - a).toNat := by simp; omega
        have lU2 : (U.drop (s - a).toNat).length = (m - s).toNat := by simp; omega
        have lV1 : (V.take ((a + b) / 2 - s).toNat).length = ((a + b) / 2 - s).toNat := by simp; omega
        have lV2 : (V.drop ((a + b) / 2 - s).toNat).length = (b - ((a + b) / 2 + m - s)).toNat := by simp; omega
        have c1 : ∀ u ∈ U.take (s - a).toNat, ∀ v ∈ V.drop ((a + b) / 2 - s).toNat, lt v u = false := fun u hu' v hv' => by
          obtain ⟨i, hi1, hi2, rfl⟩ := mem_take_gt hu'
          obtain ⟨j, hj1, hj2, rfl⟩ := mem_drop_gt hv'
          have hs : lo < s := by rcases w6 with w6 | w6 <;> omega
          have := q3 (s - 1) (by omega) (by omega)
          rw [gU (s - 1) (by omega) (by omega), gV _ (by omega) (by omega), hlt] at this
          have this : lt (gt V ((a + b) / 2 + m - 1 - (s - 1) - m).toNat) (gt U (s - 1 - a).toNat) = false := by simpa using this
          exact htr _ _ _ (htr _ _ _ (sorted_gt has sV (i := ((a + b) / 2 + m - 1 - (s - 1) - m).toNat) (j := j) (by omega) hj2) this) (sorted_gt has sU (i := i) (j := (s - 1 - a).toNat) (by omega) (by omega))
        have c2 : ∀ v ∈ V.take ((a + b) / 2 - s).toNat, ∀ u ∈ U.drop (s - a).toNat, lt u v = false := fun v hv' u hu' => by
          obtain ⟨j, hj1, hj2, rfl⟩ := mem_take_gt hv'
          obtain ⟨i, hi1, hi2, rfl⟩ := mem_drop_gt hu'
          have hs : s < hi := by rcases w7 with w7 | w7 <;> omega
          have := q4 s (by omega) hs
          rw [gU s (by omega) (by omega), gV _ (by omega) (by omega), hlt] at this
          have this : lt (gt V ((a + b) / 2 + m - 1 - s - m).toNat) (gt U (s - a).toNat) = true := by simpa using this
          exact htr _ _ _ (htr _ _ _ (sorted_gt has sU (i := (s - a).toNat) (j := i) (by omega) hi2) (has _ _ this)) (sorted_gt has sV (i := j) (j := ((a + b) / 2 + m - 1 - s - m).toNat) (by omega) (by omega))
        have sU' := sU
        have sV' := sV
        unfold Sorted at sU' sV'
        rw [hU] at sU'
        rw [hV] at sV'
        obtain ⟨u1, u2, u3⟩ := List.pairwise_append.1 sU'
        obtain ⟨v1, v2, v3⟩ := List.pairwise_append.1 sV'
        have hrot : (bif (decide (s < m) && decide (m < (a + b) / 2 + m - s)) then slices_rotateCmpFunc_Op (P ++ (U ++ (V ++ S))) s m ((a + b) / 2 + m - s) cmp else P ++ (U ++ (V ++ S))) = P ++ (U.take (s - a).toNat ++ (V.take ((a + b) / 2 - s).toNat ++ (U.drop (s - a).toNat ++ (V.drop ((a + b) / 2 - s).toNat ++ S)))) := by
          cases hc : (decide (s < m) && decide (m < (a + b) / 2 + m - s)) with
          | true =>
            simp only [Bool.and_eq_true, decide_eq_true_eq] at hc
            have := RT_Op (P ++ U.take (s - a).toNat) (U.drop (s - a).toNat) (V.take ((a + b) / 2 - s).toNat) (V.drop ((a + b) / 2 - s).toNat ++ S) s m ((a + b) / 2 + m - s) cmp (by omega) (by omega) (by simp; omega) (by simp; omega) (by simp; omega)
            have e1 : P ++ U.take (s - a).toNat ++ (U.drop (s - a).toNat ++ (V.take ((a + b) / 2 - s).toNat ++ (V.drop ((a + b) / 2 - s).toNat ++ S))) = P ++ (U ++ (V ++ S)) := by
              rw [List.append_assoc P, ← List.append_assoc (U.take _), List.take_append_drop, ← List.append_assoc (V.take _), List.take_append_drop]
            rw [e1] at this
            rw [cond_true, this]; simp
          | false =>
            simp only [Bool.and_eq_false_iff, decide_eq_false_iff_not] at hc
            rw [cond_false]
            rcases hc with hc | hc
            · have e : U.drop (s - a).toNat = [] := List.length_eq_zero_iff.1 (by omega)
              have e' : U.take (s - a).toNat = U := List.take_of_length_le (by omega)
              rw [e, e', List.nil_append, ← List.append_assoc (V.take _), List.take_append_drop]
            · have e : V.take ((a + b) / 2 - s).toNat = [] := List.length_eq_zero_iff.1 (by omega)
              have e' : V.drop ((a + b) / 2 - s).toNat = V := by rw [show ((a + b) / 2 - s).toNat = 0 by omega]; rfl
              rw [e, e', List.nil_append, ← List.append_assoc (U.take _), List.take_append_drop]
        rw [hrot]
        obtain ⟨W1, hW1, pW1, sW1⟩ : ∃ W1, (bif (decide (a < s) && decide (s < (a + b) / 2)) then slices_symMergeCmpFunc_Op k (P ++ (U.take (s - a).toNat ++ (V.take ((a + b) / 2 - s).toNat ++ (U.drop (s - a).toNat ++ (V.drop ((a + b) / 2 - s).toNat ++ S))))) a s ((a + b) / 2) cmp else P ++ (U.take (s - a).toNat ++ (V.take ((a + b) / 2 - s).toNat ++ (U.drop (s - a).toNat ++ (V.drop ((a + b) / 2 - s).toNat ++ S))))) = P ++ (W1 ++ (U.drop (s - a).toNat ++ (V.drop ((a + b) / 2 - s).toNat ++ S))) ∧ W1.Perm (U.take (s - a).toNat ++ V.take ((a + b) / 2 - s).toNat) ∧ Sorted lt W1 := by
          cases hc : (decide (a < s) && decide (s < (a + b) / 2)) with
          | true =>
            simp only [Bool.and_eq_true, decide_eq_true_eq] at hc
            rw [cond_true]
            exact SM_Op cmp lt hlt htr has k P (U.take (s - a).toNat) (V.take ((a + b) / 2 - s).toNat) _ a s ((a + b) / 2) (by omega) (by omega) ha (by omega) (by omega) (by omega) u1 v1
          | false =>
            simp only [Bool.and_eq_false_iff, decide_eq_false_iff_not] at hc
            refine ⟨U.take (s - a).toNat ++ V.take ((a + b) / 2 - s).toNat, by rw [cond_false]; simp, .refl _, ?_⟩
            rcases hc with hc | hc
            · have e : U.take (s - a).toNat = [] := List.length_eq_zero_iff.1 (by omega)
              rw [e]; exact v1
            · have e : V.take ((a + b) / 2 - s).toNat = [] := List.length_eq_zero_iff.1 (by omega)
              rw [e, List.append_nil]; exact u1
        have lW1 : W1.length = ((a + b) / 2 - a).toNat := by rw [pW1.length_eq]; simp only [List.length_append]; omega
        obtain ⟨W2, hW2, pW2, sW2⟩ : ∃ W2, (bif (decide ((a + b) / 2 < (a + b) / 2 + m - s) && decide ((a + b) / 2 + m - s < b)) then slices_symMergeCmpFunc_Op k (P ++ (W1 ++ (U.drop (s - a).toNat ++ (V.drop ((a + b) / 2 - s).toNat ++ S)))) ((a + b) / 2) ((a + b) / 2 + m - s) b cmp else P ++ (W1 ++ (U.drop (s - a).toNat ++ (V.drop ((a + b) / 2 - s).toNat ++ S)))) = P ++ (W1 ++ (W2 ++ S)) ∧ W2.Perm (U.drop (s - a).toNat ++ V.drop ((a + b) / 2 - s).toNat) ∧ Sorted lt W2 := by
          cases hc : (decide ((a + b) / 2 < (a + b) / 2 + m - s) && decide ((a + b) / 2 + m - s < b)) with
          | true =>
            simp only [Bool.and_eq_true, decide_eq_true_eq] at hc
            rw [cond_true]
            obtain ⟨W2, g1, g2, g3⟩ := SM_Op cmp lt hlt htr has k (P ++ W1) (U.drop (s - a).toNat) (V.drop ((a + b) / 2 - s).toNat) S ((a + b) / 2) ((a + b) / 2 + m - s) b (by omega) (by omega) (by simp; omega) (by simp; omega) (by simp; omega) (by omega) u2 v2
            exact ⟨W2, by rw [List.append_assoc, List.append_assoc] at g1; exact g1, g2, g3⟩
          | false =>
            simp only [Bool.and_eq_false_iff, decide_eq_false_iff_not] at hc
            refine ⟨U.drop (s - a).toNat ++ V.drop ((a + b) / 2 - s).toNat, by rw [cond_false]; simp, .refl _, ?_⟩
            rcases hc with hc | hc
            · have e : U.drop (s - a).toNat = [] := List.length_eq_zero_iff.1 (by omega)
              rw [e]; exact v2
            · have e : V.drop ((a + b) / 2 - s).toNat = [] := List.length_eq_zero_iff.1 (by omega)
              rw [e, List.append_nil]; exact u2
        refine ⟨W1 ++ W2, ?_, ?_, ?_⟩
        · rw [List.append_assoc, ← hW2, ← hW1]
          cases (decide (a < s) && decide (s < (a + b) / 2)) <;> cases (decide ((a + b) / 2 < (a + b) / 2 + m - s) && decide ((a + b) / 2 + m - s < b)) <;> rfl
        · refine (pW1.append pW2).trans ?_
          conv => rhs; rw [hU, hV]
          simp only [List.append_assoc]
          refine List.Perm.append_left _ ?_
          rw [← List.append_assoc, ← List.append_assoc]
          exact List.Perm.append_right _ List.perm_append_comm
        · refine List.pairwise_append.2 ⟨sW1, sW2, fun x hx y hy => ?_⟩
          have hx := pW1.mem_iff.1 hx
          have hy := pW2.mem_iff.1 hy
          rcases List.mem_append.1 hx with hx | hx <;> rcases List.mem_append.1 hy with hy | hy
          · exact u3 x hx y hy
          · exact c1 x hx y hy
          · exact c2 x hx y hy
          · exact v3 x hx y hy
end Go.Proofs.YtccmadehnoihnaaGreatDoor

set_option maxHeartbeats 2000000
namespace Go.Proofs.YtccmadehnoihnaaGreatDoor
open Go Go.Proofs.YtccmadehnoihnaaGreatDoor.Fw Go.Proofs
attribute [local irreducible] RdL RdN VarP RW CW
theorem IS_Op_L1_len (a : Int) (cmp : Op → Op → Int) : ∀ (f : Nat) (data : List Op) (j : Int), (j - a).toNat < f → (slices_insertionSortCmpFunc_Op_L1 a cmp f data j).length = data.length
  | 0, _, _, h => by omega
  | f + 1, data, j, h => by
    rw [slices_insertionSortCmpFunc_Op_L1]
    cases hc : decide (j > a) with
    | false => rfl
    | true =>
      have hc := of_decide_eq_true hc
      simp only [cond_true, Bool.true_and]
      cases decide (cmp (gt data j.toNat) (gt data (j - 1).toNat) < 0) with
      | false => rfl
      | true => simp only [cond_true]; rw [IS_Op_L1_len a cmp f _ _ (by omega)]; simp
theorem IS_Op_L0_len (a b : Int) (cmp : Op → Op → Int) : ∀ (f : Nat) (data : List Op) (i : Int), (b - i).toNat < f → (slices_insertionSortCmpFunc_Op_L0 a b cmp f data i).length = data.length
  | 0, _, _, h => by omega
  | f + 1, data, i, h => by
    rw [slices_insertionSortCmpFunc_Op_L0]
    cases hc : decide (i < b) with
    | false => rfl
    | true =>
      have hc := of_decide_eq_true hc
      simp only [cond_true]
      rw [IS_Op_L0_len a b cmp f _ _ (by omega), IS_Op_L1_len a cmp _ _ _ (by omega)]
theorem IS_Op_len (data : List Op) (a b : Int) (cmp : Op → Op → Int) : (slices_insertionSortCmpFunc_Op data a b cmp).length = data.length := IS_Op_L0_len a b cmp _ data _ (by omega)

def slices_stableCmpFunc_Op_L1 (n1 : Int) (cmp1 : Op → Op → Int) : Nat → (List Op) → Int → Int → Int → (List Op)
  | 0, data3, blockSize1, a2, b2 => []
  | f_k1 + 1, data3, blockSize1, a2, b2 => (bif decide (blockSize1 < n1) then (bif decide ((2 * blockSize1) ≤ n1) then [] else (bif decide ((0 + blockSize1) < n1) then (slices_stableCmpFunc_Op_L1 n1 cmp1 f_k1 (slices_symMergeCmpFunc_Op 100 data3 0 (0 + blockSize1) n1 cmp1) (blockSize1 * 2) 0 (2 * blockSize1)) else (slices_stableCmpFunc_Op_L1 n1 cmp1 f_k1 data3 (blockSize1 * 2) 0 (2 * blockSize1)))) else data3)
def slices_stableCmpFunc_Op_L0 (n1 : Int) (cmp1 : Op → Op → Int) : Nat → (List Op) → Int → Int → (List Op)
  | 0, data2, a1, b1 => []
  | f_k0 + 1, data2, a1, b1 => (bif decide (b1 ≤ n1) then (slices_stableCmpFunc_Op_L0 n1 cmp1 f_k0 (slices_insertionSortCmpFunc_Op data2 a1 b1 cmp1) b1 (b1 + 20)) else (slices_stableCmpFunc_Op_L1 n1 cmp1 (41) (slices_insertionSortCmpFunc_Op data2 a1 n1 cmp1) 20 a1 b1))
def slices_stableCmpFunc_Op (data1 : List Op) (n1 : Int) (cmp1 : Op → Op → Int) : List Op :=
  (slices_stableCmpFunc_Op_L0 n1 cmp1 (n1.toNat + 21) data1 0 20)
theorem slices_stableCmpFunc_Op_spec (y1 : SlV) (y1b : Option Nat) (data1 : List Op) (n1 : Int) (f1 : Nat) (caps1 : List Value) (pre1 : List Pred) [StabL pre1] (cmp1 : Op → Op → Int) (hfb1 : tab.fnb f1 = true) (hfn1 : ∀ (a0_ : Op) (a1_ : Op), Does Tryz.prog f1 ([.agg ⟨[.int .i64 a0_.time, .int .i64 a0_.who, .int .i64 a0_.node, .int .i64 a0_.parent, .int .i64 a0_.name, .int .i64 a0_.life, .int .i64 a0_.seq]⟩, .agg ⟨[.int .i64 a1_.time, .int .i64 a1_.who, .int .i64 a1_.node, .int .i64 a1_.parent, .int .i64 a1_.name, .int .i64 a1_.life, .int .i64 a1_.seq]⟩] ++ caps1) pre1 (fun (_ : Unit) => .int .i64 (cmp1 a0_ a1_)) (fun (_ : Unit) => [])) (hn : 0 ≤ n1 ∧ n1 ≤ 30 ∧ n1 ≤ (data1.length : Int)) : DoesG Tryz.prog 82 [y1.val data1.length, .int .i64 n1, .func (.func f1) #[] ⟨caps1⟩] (pre1) ⟨[], [ownL EOp 41 y1 y1b data1]⟩ (fun (_ : Unit) => .tuple #[]) (fun (_ : Unit) => []) (fun (_ : Unit) => ⟨[], [ownL EOp 41 y1 y1b (slices_stableCmpFunc_Op data1 n1 cmp1)]⟩) := by
  refine does_ofG tab_ok Tryz.func82 rfl Tryz.ntmps82 Tryz.results82 rfl inferInstance (fun _ => inferInstance) fun C => ?_
  refine cw_lenO EOp (e := 41) (X := y1) (b := y1b) (l := data1) Mm fun hl63y1 hleny1 => ?_
  simp only [show EOp.by_ = 56 from rfl] at hleny1
  refine Tx ?_
  (repeat refine cw_seq ?_); refine Lp [1,2,6] [] (fun (i_ : List Op × Int × Int × Nat) => match i_ with | ⟨data2, a1, b1, fz1⟩ => (⟨[(0, .v (y1.val data2.length)), (7, .v (.int .i64 a1)), (8, .v (.int .i64 b1))], [], [ownL EOp 41 y1 y1b data2], [], (0 ≤ a1 ∧ b1 = a1 + 20 ∧ a1 ≤ n1 ∧ data2.length = data1.length) ∧ ((n1 + 20 - b1).toNat < fz1) ∧ (slices_stableCmpFunc_Op_L0 n1 cmp1 (fz1) data2 a1 b1) = (slices_stableCmpFunc_Op data1 n1 cmp1), fz1⟩ : Ls)) ⟨data1, 0, 20, n1.toNat + 21⟩ (Sc (Sc (Sc Sn))) (.nil) ⟨(by first | exact Nat.le_refl _ | exact Nat.zero_le _ | omega), (by first | exact Nat.le_refl _ | exact Nat.zero_le _ | omega), (by simp only [slices_stableCmpFunc_Op, Bool.true_and, Bool.and_true, cond_true, cond_false] : (slices_stableCmpFunc_Op data1 n1 cmp1) = (slices_stableCmpFunc_Op_L0 n1 cmp1 (n1.toNat + 21) data1 0 20)).symm⟩ Le5 ?_
  rintro ⟨data2, a1, b1, fz1⟩ ⟨hi0, hzfz1, hf1⟩
  simp only [List.cons_append, List.nil_append]
  have hlt0_ : (fz1 - 1) + 1 = fz1 := by omega
  refine Tx ?_
  refine Cd (b := decide (b1 ≤ n1)) (fun hc1 => ?_) fun hc1 => ?_
  · have hc1p := of_decide_eq_true hc1
    refine Tx ?_
    refine rw_callG (slices_insertionSortCmpFunc_Op_spec y1 y1b data2 a1 b1 _ _ _ cmp1 (by assumption) hfn1 (by omega)) .sq (.inl ⟨_, rfl⟩) (guard_none rfl) rfl rfl rfl Kr rfl rfl Sf (.nil _) (by first | exact .cons (.here _ _) (.nil _) | exact .cons (.there _ (.here _ _)) (.nil _) | exact .cons (.there _ (.there _ (.here _ _))) (.nil _) | exact .cons (.there _ (.there _ (.there _ (.here _ _)))) (.nil _)) ?_
    intro _
    have hv1l : data2.length = (slices_insertionSortCmpFunc_Op data2 a1 b1 cmp1).length := (IS_Op_len data2 a1 b1 cmp1).symm
    have hv1 : y1.val data2.length = y1.val (slices_insertionSortCmpFunc_Op data2 a1 b1 cmp1).length := congrArg (SlV.val y1) hv1l
    try rw [hv1]
    refine Tx ?_
    refine rw_q rfl rfl rfl (q_add rfl rfl (fun _ => rfl) rfl (fun _ => rfl) (fun _ => by omega)) ?_
    refine Tx ?_
    refine ⟨⟨(slices_insertionSortCmpFunc_Op data2 a1 b1 cmp1), b1, (b1 + 20), (fz1 - 1)⟩, ⟨(by simp only [true_and]; omega), (by (try simp only []); first | omega | (simp only [List.length_append, List.length_cons, List.length_nil]; omega)), (by rw [← hf1]; (conv => lhs; rw [← hlt0_]); simp only [slices_stableCmpFunc_Op_L0, hc1, Bool.true_and, Bool.and_true, cond_true, cond_false] : (slices_stableCmpFunc_Op data1 n1 cmp1) = (slices_stableCmpFunc_Op_L0 n1 cmp1 (fz1 - 1) (slices_insertionSortCmpFunc_Op data2 a1 b1 cmp1) b1 (b1 + 20))).symm⟩, (by simp only []; omega), Le5⟩
  · have hc1p := of_decide_eq_false hc1
    refine Tx ?_
    refine rw_callG (slices_insertionSortCmpFunc_Op_spec y1 y1b data2 a1 n1 _ _ _ cmp1 (by assumption) hfn1 (by omega)) .sq (.inl ⟨_, rfl⟩) (guard_none rfl) rfl rfl rfl Kr rfl rfl Sf (.nil _) (by first | exact .cons (.here _ _) (.nil _) | exact .cons (.there _ (.here _ _)) (.nil _) | exact .cons (.there _ (.there _ (.here _ _))) (.nil _) | exact .cons (.there _ (.there _ (.there _ (.here _ _)))) (.nil _)) ?_
    intro _
    have hv2l : data2.length = (slices_insertionSortCmpFunc_Op data2 a1 n1 cmp1).length := (IS_Op_len data2 a1 n1 cmp1).symm
    have hv2 : y1.val data2.length = y1.val (slices_insertionSortCmpFunc_Op data2 a1 n1 cmp1).length := congrArg (SlV.val y1) hv2l
    try rw [hv2]
    refine Tx ?_
    (repeat refine cw_seq ?_); refine Lp [1,2] [] (fun (i_ : List Op × Int × Int × Int × Nat) => match i_ with | ⟨data3, blockSize1, a2, b2, fz2⟩ => (⟨[(0, .v (y1.val data3.length)), (6, .v (.int .i64 blockSize1)), (7, .v (.int .i64 a2)), (8, .v (.int .i64 b2))], [], [ownL EOp 41 y1 y1b data3], [], (20 ≤ blockSize1 ∧ blockSize1 ≤ 60 ∧ data3.length = data1.length) ∧ ((60 - blockSize1).toNat < fz2) ∧ (slices_stableCmpFunc_Op_L1 n1 cmp1 (fz2) data3 blockSize1 a2 b2) = (slices_stableCmpFunc_Op data1 n1 cmp1), fz2⟩ : Ls)) ⟨(slices_insertionSortCmpFunc_Op data2 a1 n1 cmp1), 20, a1, b1, 41⟩ (Sc (Sc Sn)) (.nil) ⟨(by first | exact Nat.le_refl _ | exact Nat.zero_le _ | omega), (by first | exact Nat.le_refl _ | exact Nat.zero_le _ | omega), (by rw [← hf1]; (conv => lhs; rw [← hlt0_]); simp only [slices_stableCmpFunc_Op_L0, hc1, Bool.true_and, Bool.and_true, cond_true, cond_false] : (slices_stableCmpFunc_Op data1 n1 cmp1) = (slices_stableCmpFunc_Op_L1 n1 cmp1 (41) (slices_insertionSortCmpFunc_Op data2 a1 n1 cmp1) 20 a1 b1)).symm⟩ Le5 ?_
    rintro ⟨data3, blockSize1, a2, b2, fz2⟩ ⟨hi1, hzfz2, hf2⟩
    simp only [List.cons_append, List.nil_append]
    have hlt1_ : (fz2 - 1) + 1 = fz2 := by omega
    refine Tx ?_
    refine Cd (b := decide (blockSize1 < n1)) (fun hc2 => ?_) fun hc2 => ?_
    · have hc2p := of_decide_eq_true hc2
      refine Tx ?_
      refine rw_q rfl rfl rfl (q_mul rfl rfl (fun _ => rfl) rfl (fun _ => rfl) (fun _ => by omega)) ?_
      refine Tx ?_
      (repeat refine cw_seq ?_); refine cw_once ?_
      refine Tx ?_
      refine Cd (b := decide ((2 * blockSize1) ≤ n1)) (fun hc3 => ?_) fun hc3 => ?_
      · have hc3p := of_decide_eq_true hc3
        exact absurd (of_decide_eq_true hc3) (by omega)
      · have hc3p := of_decide_eq_false hc3
        refine Tx ?_
        refine rw_q rfl rfl rfl (q_add rfl rfl (fun _ => rfl) rfl (fun _ => rfl) (fun _ => by omega)) ?_
        refine Tx ?_
        refine Cd (b := decide ((0 + blockSize1) < n1)) (fun hc4 => ?_) fun hc4 => ?_
        · have hc4p := of_decide_eq_true hc4
          refine Tx ?_
          refine rw_callG (slices_symMergeCmpFunc_Op_spec 100 y1 y1b data3 0 (0 + blockSize1) n1 _ _ _ cmp1 (by assumption) hfn1 (by omega) (by omega)) .sq (.inl ⟨_, rfl⟩) (guard_none rfl) rfl rfl rfl Kr rfl rfl Sf (.nil _) (by first | exact .cons (.here _ _) (.nil _) | exact .cons (.there _ (.here _ _)) (.nil _) | exact .cons (.there _ (.there _ (.here _ _))) (.nil _) | exact .cons (.there _ (.there _ (.there _ (.here _ _)))) (.nil _)) ?_
          intro _
          have hv3l : data3.length = (slices_symMergeCmpFunc_Op 100 data3 0 (0 + blockSize1) n1 cmp1).length := (SM_Op_len 100 data3 0 (0 + blockSize1) n1 cmp1 (by omega) (by omega)).symm
          have hv3 : y1.val data3.length = y1.val (slices_symMergeCmpFunc_Op 100 data3 0 (0 + blockSize1) n1 cmp1).length := congrArg (SlV.val y1) hv3l
          try rw [hv3]
          refine Tx ?_
          refine rw_q rfl rfl rfl (q_mul rfl rfl (fun _ => rfl) rfl (fun _ => rfl) (fun _ => by omega)) ?_
          refine Tx ?_
          refine ⟨⟨(slices_symMergeCmpFunc_Op 100 data3 0 (0 + blockSize1) n1 cmp1), (blockSize1 * 2), 0, (2 * blockSize1), (fz2 - 1)⟩, ⟨(by (try simp only []); omega), (by (try simp only []); first | omega | (simp only [List.length_append, List.length_cons, List.length_nil]; omega)), (by rw [← hf2]; (conv => lhs; rw [← hlt1_]); simp only [slices_stableCmpFunc_Op_L1, hc2, hc3, hc4, Bool.true_and, Bool.and_true, cond_true, cond_false] : (slices_stableCmpFunc_Op data1 n1 cmp1) = (slices_stableCmpFunc_Op_L1 n1 cmp1 (fz2 - 1) (slices_symMergeCmpFunc_Op 100 data3 0 (0 + blockSize1) n1 cmp1) (blockSize1 * 2) 0 (2 * blockSize1))).symm⟩, (by simp only []; omega), Le5⟩
        · have hc4p := of_decide_eq_false hc4
          refine Tx ?_
          refine rw_q rfl rfl rfl (q_mul rfl rfl (fun _ => rfl) rfl (fun _ => rfl) (fun _ => by omega)) ?_
          refine Tx ?_
          refine ⟨⟨data3, (blockSize1 * 2), 0, (2 * blockSize1), (fz2 - 1)⟩, ⟨(by (try simp only []); omega), (by (try simp only []); first | omega | (simp only [List.length_append, List.length_cons, List.length_nil]; omega)), (by rw [← hf2]; (conv => lhs; rw [← hlt1_]); simp only [slices_stableCmpFunc_Op_L1, hc2, hc3, hc4, Bool.true_and, Bool.and_true, cond_true, cond_false] : (slices_stableCmpFunc_Op data1 n1 cmp1) = (slices_stableCmpFunc_Op_L1 n1 cmp1 (fz2 - 1) data3 (blockSize1 * 2) 0 (2 * blockSize1))).symm⟩, (by simp only []; omega), Le5⟩
    · have hc2p := of_decide_eq_false hc2
      refine Tx ?_
      have hr1 : (slices_stableCmpFunc_Op data1 n1 cmp1) = data3 := by rw [← hf2]; (conv => lhs; rw [← hlt1_]); simp only [slices_stableCmpFunc_Op_L1, hc2, Bool.true_and, Bool.and_true, cond_true, cond_false]
      rw [hr1]
      exact ⟨(), _, .nil, rfl, Sf, .nil _, Sp⟩

def slices_SortStableFunc_Op (x1 : List Op) (cmp1 : Op → Op → Int) : List Op :=
  (slices_stableCmpFunc_Op x1 (x1.length : Int) cmp1)
theorem slices_SortStableFunc_Op_spec (y1 : SlV) (y1b : Option Nat) (x1 : List Op) (f1 : Nat) (caps1 : List Value) (pre1 : List Pred) [StabL pre1] (cmp1 : Op → Op → Int) (hfb1 : tab.fnb f1 = true) (hfn1 : ∀ (a0_ : Op) (a1_ : Op), Does Tryz.prog f1 ([.agg ⟨[.int .i64 a0_.time, .int .i64 a0_.who, .int .i64 a0_.node, .int .i64 a0_.parent, .int .i64 a0_.name, .int .i64 a0_.life, .int .i64 a0_.seq]⟩, .agg ⟨[.int .i64 a1_.time, .int .i64 a1_.who, .int .i64 a1_.node, .int .i64 a1_.parent, .int .i64 a1_.name, .int .i64 a1_.life, .int .i64 a1_.seq]⟩] ++ caps1) pre1 (fun (_ : Unit) => .int .i64 (cmp1 a0_ a1_)) (fun (_ : Unit) => [])) (hx : x1.length ≤ 30) : DoesG Tryz.prog 70 [y1.val x1.length, .func (.func f1) #[] ⟨caps1⟩] (pre1) ⟨[], [ownL EOp 41 y1 y1b x1]⟩ (fun (_ : Unit) => .tuple #[]) (fun (_ : Unit) => []) (fun (_ : Unit) => ⟨[], [ownL EOp 41 y1 y1b (slices_SortStableFunc_Op x1 cmp1)]⟩) := by
  refine does_ofG tab_ok Tryz.func70 rfl Tryz.ntmps70 Tryz.results70 rfl inferInstance (fun _ => inferInstance) fun C => ?_
  refine cw_lenO EOp (e := 41) (X := y1) (b := y1b) (l := x1) Mm fun hl63y1 hleny1 => ?_
  simp only [show EOp.by_ = 56 from rfl] at hleny1
  refine Tx ?_
  refine rw_callG (slices_stableCmpFunc_Op_spec y1 y1b x1 (x1.length : Int) _ _ _ cmp1 (by assumption) hfn1 (by first | assumption | omega)) .sq (.inl ⟨_, rfl⟩) (guard_none rfl) rfl rfl rfl Kr rfl rfl Sf (.nil _) (by first | exact .cons (.here _ _) (.nil _) | exact .cons (.there _ (.here _ _)) (.nil _) | exact .cons (.there _ (.there _ (.here _ _))) (.nil _) | exact .cons (.there _ (.there _ (.there _ (.here _ _)))) (.nil _)) ?_
  intro _
  refine rw_nil ?_
  have hr1 : (slices_SortStableFunc_Op x1 cmp1) = (slices_stableCmpFunc_Op x1 (x1.length : Int) cmp1) := by simp only [slices_SortStableFunc_Op, Bool.true_and, Bool.and_true, cond_true, cond_false]
  rw [hr1]
  exact ⟨(), _, .nil, rfl, Sf, .nil _, Sp⟩

theorem ST_Op_L1 (cmp : Op → Op → Int) (lt : Op → Op → Bool) (hlt : ∀ a b, decide (cmp a b < 0) = lt a b) (htr : ∀ a b c, lt c b = false → lt b a = false → lt c a = false) (has : ∀ a b, lt a b = true → lt b a = false) (U V : List Op) (hU : U.length = 20) (hV : U.length + V.length ≤ 30) (sU : Sorted lt U) (sV : Sorted lt V) (a b : Int) :
    ∃ W, slices_stableCmpFunc_Op_L1 ((U.length + V.length : Nat) : Int) cmp 41 (U ++ V) 20 a b = W ∧ W.Perm (U ++ V) ∧ Sorted lt W := by
  cases V with
  | nil =>
    refine ⟨U, ?_, by simp, sU⟩
    rw [slices_stableCmpFunc_Op_L1]
    have : decide ((20 : Int) < ((U.length + ([] : List Op).length : Nat) : Int)) = false := by simp; omega
    rw [this]; simp
  | cons v V =>
    simp only [List.length_cons] at hV
    obtain ⟨W, h1, h2, h3⟩ := SM_Op cmp lt hlt htr has 100 [] U (v :: V) [] 0 (0 + 20) ((U.length + (v :: V).length : Nat) : Int) (by omega) (by simp) rfl (by simp; omega) (by simp) (by simp; omega) sU sV
    refine ⟨W, ?_, h2, h3⟩
    simp only [List.nil_append, List.append_nil] at h1
    rw [slices_stableCmpFunc_Op_L1]
    have c1 : decide ((20 : Int) < ((U.length + (v :: V).length : Nat) : Int)) = true := by simp; omega
    have c2 : decide ((2 * 20 : Int) ≤ ((U.length + (v :: V).length : Nat) : Int)) = false := by simp; omega
    have c3 : decide ((0 + 20 : Int) < ((U.length + (v :: V).length : Nat) : Int)) = true := by simp; omega
    rw [c1, c2, c3, cond_true, cond_false, cond_true, h1, slices_stableCmpFunc_Op_L1]
    have c4 : decide ((20 * 2 : Int) < ((U.length + (v :: V).length : Nat) : Int)) = false := by simp; omega
    rw [c4]; rfl
theorem ST_Op (cmp : Op → Op → Int) (lt : Op → Op → Bool) (hlt : ∀ a b, decide (cmp a b < 0) = lt a b) (htr : ∀ a b c, lt c b = false → lt b a = false → lt c a = false) (has : ∀ a b, lt a b = true → lt b a = false) (l : List Op) (hl : l.length ≤ 30) :
    (slices_SortStableFunc_Op l cmp).Perm l ∧ Sorted lt (slices_SortStableFunc_Op l cmp) := by
  have hfun : (fun a b => decide (cmp a b < 0)) = lt := by funext a b; exact hlt a b
  unfold slices_SortStableFunc_Op slices_stableCmpFunc_Op
  have key : ∀ M : List Op, (isort lt [] M).Perm M ∧ Sorted lt (isort lt [] M) := fun M => ⟨by simpa using isort_perm lt M [], isort_sorted htr has M [] (by simp [Sorted])⟩
  rw [show ((l.length : Int)).toNat + 21 = (l.length + 20) + 1 by simp, slices_stableCmpFunc_Op_L0]
  by_cases h : 20 ≤ l.length
  · have c1 : decide ((20 : Int) ≤ (l.length : Int)) = true := by simp; omega
    have e1 : slices_insertionSortCmpFunc_Op l 0 20 cmp = isort lt [] (l.take 20) ++ l.drop 20 := by
      have := IS_Op cmp [] (l.take 20) (l.drop 20) 0 20 rfl (by simp; omega)
      rw [List.nil_append, List.nil_append, List.take_append_drop, hfun] at this
      exact this
    rw [c1, cond_true, e1, slices_stableCmpFunc_Op_L0]
    have c2 : decide ((20 + 20 : Int) ≤ (l.length : Int)) = false := by simp; omega
    have e2 : slices_insertionSortCmpFunc_Op (isort lt [] (l.take 20) ++ l.drop 20) 20 (l.length : Int) cmp = isort lt [] (l.take 20) ++ isort lt [] (l.drop 20) := by
      have := IS_Op cmp (isort lt [] (l.take 20)) (l.drop 20) [] 20 (l.length : Int) (by rw [isort_len]; simp; omega) (by rw [isort_len]; simp; omega)
      rw [List.append_nil, List.append_nil, hfun] at this
      exact this
    rw [c2, cond_false, e2]
    have hlen : ((isort lt [] (l.take 20)).length + (isort lt [] (l.drop 20)).length : Nat) = l.length := by rw [isort_len, isort_len]; simp; omega
    obtain ⟨W, h1, h2, h3⟩ := ST_Op_L1 cmp lt hlt htr has (isort lt [] (l.take 20)) (isort lt [] (l.drop 20)) (by rw [isort_len]; simp; omega) (by rw [hlen]; exact hl) (key _).2 (key _).2 20 (20 + 20)
    rw [hlen] at h1
    rw [h1]
    refine ⟨h2.trans ?_, h3⟩
    have := (key (l.take 20)).1.append (key (l.drop 20)).1
    rw [List.take_append_drop] at this
    exact this
  · have c1 : decide ((20 : Int) ≤ (l.length : Int)) = false := by simp; omega
    have e1 : slices_insertionSortCmpFunc_Op l 0 (l.length : Int) cmp = isort lt [] l := by
      have := IS_Op cmp [] l [] 0 (l.length : Int) rfl (by simp)
      simp only [List.nil_append, List.append_nil, hfun] at this
      exact this
    rw [c1, cond_false, e1, slices_stableCmpFunc_Op_L1]
    have c2 : decide ((20 : Int) < (l.length : Int)) = false := by simp; omega
    rw [c2]
    exact key l

theorem ST_Op_len (l : List Op) (cmp : Op → Op → Int) (hl : l.length ≤ 30) : (slices_SortStableFunc_Op l cmp).length = l.length := by
  have key : ∀ (d : List Op) (a b : Int), d.length = l.length → (slices_stableCmpFunc_Op_L1 (l.length : Int) cmp 41 d 20 a b).length = l.length := fun d a b hd => by
    rw [slices_stableCmpFunc_Op_L1]
    cases hc : decide ((20 : Int) < (l.length : Int)) with
    | false => exact hd
    | true =>
      have hc := of_decide_eq_true hc
      have c2 : decide ((2 * 20 : Int) ≤ (l.length : Int)) = false := by simp; omega
      have c3 : decide ((0 + 20 : Int) < (l.length : Int)) = true := by simp; omega
      have c4 : decide ((20 * 2 : Int) < (l.length : Int)) = false := by simp; omega
      rw [c2, c3, cond_true, cond_false, cond_true, slices_stableCmpFunc_Op_L1, c4, cond_false, SM_Op_len 100 _ _ _ _ _ (by omega) (by omega)]
      exact hd
  unfold slices_SortStableFunc_Op slices_stableCmpFunc_Op
  rw [show ((l.length : Int)).toNat + 21 = (l.length + 20) + 1 by simp, slices_stableCmpFunc_Op_L0]
  cases hc : decide ((20 : Int) ≤ (l.length : Int)) with
  | false => rw [cond_false]; exact key _ _ _ (IS_Op_len _ _ _ _)
  | true =>
    have hc := of_decide_eq_true hc
    have c2 : decide ((20 + 20 : Int) ≤ (l.length : Int)) = false := by simp; omega
    rw [cond_true, slices_stableCmpFunc_Op_L0, c2, cond_false]
    exact key _ _ _ (by rw [IS_Op_len, IS_Op_len])

def slices_ReverseK_Op_L0 (k1 : Nat) : Nat → (List Op) → Int → Int → (List Op)
  | 0, s2, i1, j1 => default
  | f_k0 + 1, s2, i1, j1 => (bif decide (i1 < j1) then (slices_ReverseK_Op_L0 k1 f_k0 ((s2.set (k1 + i1.toNat) (gt s2 (k1 + j1.toNat))).set (k1 + j1.toNat) (gt s2 (k1 + i1.toNat))) (i1 + 1) (j1 - 1)) else s2)
def slices_ReverseK_Op (s1 : List Op) (k1 : Nat) : List Op :=
  (slices_ReverseK_Op_L0 k1 (s1.length + 2) s1 0 (((s1.drop k1).length : Int) - 1))
theorem slices_ReverseK_Op_spec (y1 : SlV) (y1b : Option Nat) (s1 : List Op) (k1 : Nat) (hk : k1 ≤ s1.length) : DoesG Tryz.prog 62 [(⟨slA y1.a y1.c k1 EOp.esz, y1.c - k1⟩ : SlV).val (s1.drop k1).length] [] ⟨[], [ownL EOp 41 y1 y1b s1]⟩ (fun (_ : Unit) => .tuple #[]) (fun (_ : Unit) => []) (fun (_ : Unit) => ⟨[], [ownL EOp 41 y1 y1b (slices_ReverseK_Op s1 k1)]⟩) := by
  refine does_ofG tab_ok Tryz.func62 rfl Tryz.ntmps62 Tryz.results62 rfl inferInstance (fun _ => inferInstance) fun C => ?_
  refine cw_lenO EOp (e := 41) (X := y1) (b := y1b) (l := s1) Mm fun hl63y1 hleny1 => ?_
  simp only [show EOp.by_ = 56 from rfl] at hleny1
  have hkd : (s1.drop k1).length = s1.length - k1 := List.length_drop
  refine Tx ?_
  refine rw_q rfl rfl rfl (q_sub rfl rfl (fun _ => rfl) rfl (fun _ => rfl) (fun _ => by omega)) ?_
  refine Tx ?_
  (repeat refine cw_seq ?_); refine Lp [] [] (fun (i_ : List Op × Int × Int × Nat) => match i_ with | ⟨s2, i1, j1, fz1⟩ => (⟨[(0, .v ((⟨slA y1.a y1.c k1 EOp.esz, y1.c - k1⟩ : SlV).val (s2.drop k1).length)), (2, .v (.int .i64 i1)), (3, .v (.int .i64 j1))], [], [ownL EOp 41 y1 y1b s2], [], (0 ≤ i1 ∧ i1 + j1 = ((s1.drop k1).length : Int) - 1 ∧ s2.length = s1.length) ∧ ((j1 - i1 + 1).toNat < fz1) ∧ (slices_ReverseK_Op_L0 k1 (fz1) s2 i1 j1) = (slices_ReverseK_Op s1 k1), fz1⟩ : Ls)) ⟨s1, 0, (((s1.drop k1).length : Int) - 1), s1.length + 2⟩ Sn (.nil) ⟨⟨by simp, by simp, rfl⟩, (by first | exact Nat.le_refl _ | exact Nat.zero_le _ | omega), (by simp only [slices_ReverseK_Op, Bool.true_and, Bool.and_true, cond_true, cond_false] : (slices_ReverseK_Op s1 k1) = (slices_ReverseK_Op_L0 k1 (s1.length + 2) s1 0 (((s1.drop k1).length : Int) - 1))).symm⟩ Le4 ?_
  rintro ⟨s2, i1, j1, fz1⟩ ⟨hi, hzfz1, hf1⟩
  simp only [List.cons_append, List.nil_append]
  have hlt0_ : (fz1 - 1) + 1 = fz1 := by omega
  refine Tx ?_
  refine Cd (b := decide (i1 < j1)) (fun hc1 => ?_) fun hc1 => ?_
  · have hc1p := of_decide_eq_true hc1
    refine Tx ?_
    (repeat refine cw_seq ?_); refine cw_regionA (fun j => match j with | 13 => some y1b.toList | 15 => some y1b.toList | _ => some []) ?_
    refine Ra 0 [1,2,3,4,5,6,7,8,9,10,11] rfl Qp ?_
    refine Ra 1 [2,3,4,5,6,7,8,9,10,11] rfl Qp ?_
    refine ra_q (.an (i := 2) (js := [3, 4, 5, 6, 7, 8, 9, 10, 11, 12, 13]) rfl Kr Kr Kr Kr) (SplitB.all _) (by intro g hg; simp only [List.mem_append, List.mem_singleton, List.not_mem_nil, or_false, false_or, Option.mem_toList, Option.mem_def, List.append_nil] at hg; first | exact .inr ⟨ownL EOp 41 y1 y1b s2, Mm, hg⟩) rfl rfl rfl (q_pev rfl (fun _ => rfl)) ?_
    refine ra_q (.an (i := 3) (js := [4, 5, 6, 7, 8, 9, 10, 11, 12, 13]) rfl Kr Kr Kr Kr) (SplitB.all _) (by intro g hg; simp only [List.mem_append, List.mem_singleton, List.not_mem_nil, or_false, false_or, Option.mem_toList, Option.mem_def, List.append_nil] at hg; first | exact .inr ⟨ownL EOp 41 y1 y1b s2, Mm, hg⟩) rfl rfl rfl (q_pev rfl (fun _ => rfl)) ?_
    refine Rb 4 [5,8,9,10,11] [6,7,12,13,14,15] rfl Qp ?_
    refine Rb 5 [8,9,10,11] [6,7,12,13,14,15] rfl Qp ?_
    refine rw_qO EOp (e := 41) (X := y1) (b := y1b) (l := s2) Mm (.an (i := 6) (js := [8, 9, 10, 11]) rfl Kr Kr Kr Kr) rfl rfl rfl (q_idxK EOp (l := s2) (X := y1) (k := k1) j1.toNat rfl rfl (fun _ => rfl) rfl (fun _ => rfl) rfl rfl rfl (.head _) (fun _ => by omega) (fun _ => by first | assumption | omega | (simp only [List.length_set]; omega))) ?_
    refine rw_qO EOp (e := 41) (X := y1) (b := y1b) (l := s2) Mm (.an (i := 7) (js := [8, 9, 10, 11]) rfl Kr Kr Kr Kr) rfl rfl rfl (q_leA EOp rfl rfl (fun _ => rfl) rfl rfl (.head _) (fun _ => by first | assumption | omega | (simp only [List.length_set]; omega))) ?_
    refine Rb 8 [9] [10,11,12,13,14,15] rfl Qp ?_
    refine Rb 9 [] [10,11,12,13,14,15] rfl Qp ?_
    refine rw_qO EOp (e := 41) (X := y1) (b := y1b) (l := s2) Mm (.ab (i := 10) (js := []) [11, 12, 13, 14, 15] rfl Kr Kr Kr Kr Kr) rfl rfl rfl (q_idxK EOp (l := s2) (X := y1) (k := k1) i1.toNat rfl rfl (fun _ => rfl) rfl (fun _ => rfl) rfl rfl rfl (.head _) (fun _ => by omega) (fun _ => by first | assumption | omega | (simp only [List.length_set]; omega))) ?_
    refine rw_qO EOp (e := 41) (X := y1) (b := y1b) (l := s2) Mm (.an (i := 11) (js := []) rfl Kr Kr Kr Kr) rfl rfl rfl (q_leA EOp rfl rfl (fun _ => rfl) rfl rfl (.head _) (fun _ => by first | assumption | omega | (simp only [List.length_set]; omega))) ?_
    refine rw_qO EOp (e := 41) (X := y1) (b := y1b) (l := s2) Mm (.an (i := 12) (js := []) rfl Kr Kr Kr Kr) rfl rfl rfl (q_idxK EOp (l := s2) (X := y1) (k := k1) i1.toNat rfl rfl (fun _ => rfl) rfl (fun _ => rfl) rfl rfl rfl (.head _) (fun _ => by omega) (fun _ => by first | assumption | omega | (simp only [List.length_set]; omega))) ?_
    refine ra_one 13 Kr ?_
    refine rw_stO EOp s2 (k1 + i1.toNat) 0 (gt s2 (k1 + j1.toNat)) (e := 41) (X := y1) (b := y1b) (.an rfl rfl) (.inr (fun g h => by simp [h])) (guard_none rfl) rfl rfl rfl rfl rfl rfl rfl rfl rfl rfl rfl (by first | assumption | omega | (simp only [List.length_set]; omega)) rfl Uo ?_
    have hv1 : y1.val s2.length = y1.val (s2.set (k1 + i1.toNat) (gt s2 (k1 + j1.toNat))).length := congrArg (SlV.val y1) List.length_set.symm
    try rw [hv1]
    have hv2 : (⟨slA y1.a y1.c k1 EOp.esz, y1.c - k1⟩ : SlV).val (s2.drop k1).length = (⟨slA y1.a y1.c k1 EOp.esz, y1.c - k1⟩ : SlV).val ((s2.set (k1 + i1.toNat) (gt s2 (k1 + j1.toNat))).drop k1).length := by congr 1; simp only [List.length_drop, List.length_set] <;> omega
    try rw [hv2]
    refine rw_qO EOp (e := 41) (X := y1) (b := y1b) (l := (s2.set (k1 + i1.toNat) (gt s2 (k1 + j1.toNat)))) Mm (.an (i := 14) (js := []) rfl Kr Kr Kr Kr) rfl rfl rfl (q_idxK EOp (l := (s2.set (k1 + i1.toNat) (gt s2 (k1 + j1.toNat)))) (X := y1) (k := k1) j1.toNat rfl rfl (fun _ => rfl) rfl (fun _ => rfl) rfl rfl rfl (.head _) (fun _ => by omega) (fun _ => by first | assumption | omega | (simp only [List.length_set]; omega))) ?_
    refine ra_one 15 Kr ?_
    refine rw_stO EOp (s2.set (k1 + i1.toNat) (gt s2 (k1 + j1.toNat))) (k1 + j1.toNat) 0 (gt s2 (k1 + i1.toNat)) (e := 41) (X := y1) (b := y1b) (.an rfl rfl) (.inr (fun g h => by simp [h])) (guard_none rfl) rfl rfl rfl rfl rfl rfl rfl rfl rfl rfl rfl (by first | assumption | omega | (simp only [List.length_set]; omega)) rfl Uo ?_
    have hv3 : y1.val (s2.set (k1 + i1.toNat) (gt s2 (k1 + j1.toNat))).length = y1.val ((s2.set (k1 + i1.toNat) (gt s2 (k1 + j1.toNat))).set (k1 + j1.toNat) (gt s2 (k1 + i1.toNat))).length := congrArg (SlV.val y1) List.length_set.symm
    try rw [hv3]
    have hv4 : (⟨slA y1.a y1.c k1 EOp.esz, y1.c - k1⟩ : SlV).val ((s2.set (k1 + i1.toNat) (gt s2 (k1 + j1.toNat))).drop k1).length = (⟨slA y1.a y1.c k1 EOp.esz, y1.c - k1⟩ : SlV).val (((s2.set (k1 + i1.toNat) (gt s2 (k1 + j1.toNat))).set (k1 + j1.toNat) (gt s2 (k1 + i1.toNat))).drop k1).length := by congr 1; simp only [List.length_drop, List.length_set] <;> omega
    try rw [hv4]
    refine ra_nil Kr ?_
    refine Tx ?_
    refine rw_q rfl rfl rfl (q_add rfl rfl (fun _ => rfl) rfl (fun _ => rfl) (fun _ => by omega)) ?_
    refine Rp rfl rfl rfl rfl ?_
    refine rw_q rfl rfl rfl (q_sub rfl rfl (fun _ => rfl) rfl (fun _ => rfl) (fun _ => by omega)) ?_
    refine Tx ?_
    refine ⟨⟨((s2.set (k1 + i1.toNat) (gt s2 (k1 + j1.toNat))).set (k1 + j1.toNat) (gt s2 (k1 + i1.toNat))), (i1 + 1), (j1 - 1), (fz1 - 1)⟩, ⟨(by simp only [List.length_set]; omega), (by (try simp only []); first | omega | (simp only [List.length_append, List.length_cons, List.length_nil]; omega)), (by rw [← hf1]; (conv => lhs; rw [← hlt0_]); simp only [slices_ReverseK_Op_L0, hc1, Bool.true_and, Bool.and_true, cond_true, cond_false] : (slices_ReverseK_Op s1 k1) = (slices_ReverseK_Op_L0 k1 (fz1 - 1) ((s2.set (k1 + i1.toNat) (gt s2 (k1 + j1.toNat))).set (k1 + j1.toNat) (gt s2 (k1 + i1.toNat))) (i1 + 1) (j1 - 1))).symm⟩, (by simp only []; omega), Le4⟩
  · have hc1p := of_decide_eq_false hc1
    refine Tx ?_
    have hr1 : (slices_ReverseK_Op s1 k1) = s2 := by rw [← hf1]; (conv => lhs; rw [← hlt0_]); simp only [slices_ReverseK_Op_L0, hc1, Bool.true_and, Bool.and_true, cond_true, cond_false]
    rw [hr1]
    exact ⟨(), _, .nil, rfl, Sm, .nil _, Sp⟩

theorem RK_Op_L0_len (k : Nat) : ∀ (f : Nat) (s : List Op) (i j : Int), (j - i + 1).toNat < f → (slices_ReverseK_Op_L0 k f s i j).length = s.length
  | 0, _, _, _, h => by omega
  | f + 1, s, i, j, h => by
    rw [slices_ReverseK_Op_L0]
    cases hc : decide (i < j) with
    | false => rfl
    | true =>
      have hc := of_decide_eq_true hc
      simp only [cond_true]
      rw [RK_Op_L0_len k f _ _ _ (by omega)]; simp
theorem RK_Op_len (s : List Op) (k : Nat) (h : k ≤ s.length) : (slices_ReverseK_Op s k).length = s.length := RK_Op_L0_len k _ s _ _ (by simp; omega)
/-- what is turned about: the ends change places -/
theorem RK_Op_L0 (k : Nat) : ∀ (n : Nat) (A M B : List Op) (f : Nat), M.length = n → A.length = B.length → k ≤ (A.length + k) → ∀ P : List Op, P.length = k → n + 1 < f →
    slices_ReverseK_Op_L0 k f (P ++ (A ++ (M ++ B))) (A.length : Int) ((A.length + M.length : Nat) - 1 : Int) = P ++ (A ++ (M.reverse ++ B)) := by
  intro n
  induction n using Nat.strongRecOn with
  | _ n ih =>
    intro A M B f hM hAB _ P hP hf
    obtain ⟨f, rfl⟩ : ∃ g, f = g + 1 := ⟨f - 1, by omega⟩
    rw [slices_ReverseK_Op_L0]
    match M, hM with
    | [], hM =>
      have : decide ((A.length : Int) < ((A.length + ([] : List Op).length : Nat) - 1 : Int)) = false := by simp; omega
      rw [this]; rfl
    | [x], hM =>
      have : decide ((A.length : Int) < ((A.length + [x].length : Nat) - 1 : Int)) = false := by simp
      rw [this]; rfl
    | x :: y :: M', hM =>
      obtain ⟨L, z, hL⟩ : ∃ L z, y :: M' = L ++ [z] := ⟨(y :: M').dropLast, (y :: M').getLast (by simp), (List.dropLast_concat_getLast (by simp)).symm⟩
      rw [hL] at hM ⊢
      simp only [List.length_cons, List.length_append, List.length_nil] at hM
      have hc : decide ((A.length : Int) < ((A.length + (x :: (L ++ [z])).length : Nat) - 1 : Int)) = true := by simp; omega
      have e0 : k + ((A.length : Int)).toNat = (P ++ A).length := by simp; omega
      have e1 : k + (((A.length + (x :: (L ++ [z])).length : Nat) - 1 : Int)).toNat = (P ++ (A ++ (x :: L))).length := by simp; omega
      have e2 : k + (((A.length + (x :: (L ++ [z])).length : Nat) - 1 : Int)).toNat = (P ++ (A ++ (z :: L))).length := by simp; omega
      have d0 : P ++ (A ++ (x :: (L ++ [z]) ++ B)) = (P ++ A) ++ x :: (L ++ ([z] ++ B)) := by simp
      have d1 : P ++ (A ++ (x :: (L ++ [z]) ++ B)) = (P ++ (A ++ (x :: L))) ++ z :: B := by simp
      have g0 : gt (P ++ (A ++ (x :: (L ++ [z]) ++ B))) (k + ((A.length : Int)).toNat) = x := by rw [d0]; exact gt_mid _ _ _ _ e0
      have g1 : gt (P ++ (A ++ (x :: (L ++ [z]) ++ B))) (k + (((A.length + (x :: (L ++ [z])).length : Nat) - 1 : Int)).toNat) = z := by rw [d1]; exact gt_mid _ _ _ _ e1
      have s0 : (P ++ (A ++ (x :: (L ++ [z]) ++ B))).set (k + ((A.length : Int)).toNat) z = (P ++ A) ++ z :: (L ++ ([z] ++ B)) := by rw [d0]; exact set_mid _ _ _ _ _ e0
      rw [hc, cond_true, g0, g1, s0, show (P ++ A) ++ z :: (L ++ ([z] ++ B)) = (P ++ (A ++ (z :: L))) ++ z :: B by simp, set_mid _ _ _ _ _ e2]
      have h := ih L.length (by omega) (A ++ [z]) L (x :: B) f rfl (by simp [hAB]) (by omega) P hP (by omega)
      rw [show (((A ++ [z]).length : Nat) : Int) = (A.length : Int) + 1 by simp, show ((((A ++ [z]).length + L.length : Nat) : Int) - 1) = (((A.length + (x :: (L ++ [z])).length : Nat) - 1 : Int)) - 1 by simp; omega] at h
      rw [show (P ++ (A ++ (z :: L))) ++ x :: B = P ++ (A ++ [z] ++ (L ++ x :: B)) by simp, h]
      simp
theorem RK_Op (s : List Op) (k : Nat) (h : k ≤ s.length) : slices_ReverseK_Op s k = s.take k ++ (s.drop k).reverse := by
  unfold slices_ReverseK_Op
  have := RK_Op_L0 k (s.drop k).length [] (s.drop k) [] (s.length + 2) rfl rfl (by omega) (s.take k) (by simp; omega) (by simp; omega)
  simp only [List.nil_append, List.append_nil, List.take_append_drop, List.length_nil, Nat.zero_add] at this
  exact this
end Go.Proofs.YtccmadehnoihnaaGreatDoor

set_option maxHeartbeats 2000000
namespace Go.Proofs.YtccmadehnoihnaaGreatDoor
open Go Go.Proofs.YtccmadehnoihnaaGreatDoor.Fw Go.Proofs
attribute [local irreducible] RdL RdN VarP RW CW
def history_Fold_1 (a1 : Op) (b1 : Op) : Int :=
  (bif (move_Before (⟨a1.time, a1.who⟩ : Stamp) (⟨b1.time, b1.who⟩ : Stamp)) then (-1) else (bif (move_Before (⟨b1.time, b1.who⟩ : Stamp) (⟨a1.time, a1.who⟩ : Stamp)) then 1 else 0))
theorem history_Fold_1_spec (a1 : Op) (b1 : Op) : Does Tryz.prog 71 [.agg ⟨[.int .i64 a1.time, .int .i64 a1.who, .int .i64 a1.node, .int .i64 a1.parent, .int .i64 a1.name, .int .i64 a1.life, .int .i64 a1.seq]⟩, .agg ⟨[.int .i64 b1.time, .int .i64 b1.who, .int .i64 b1.node, .int .i64 b1.parent, .int .i64 b1.name, .int .i64 b1.life, .int .i64 b1.seq]⟩] [] (fun (_ : Unit) => .int .i64 (history_Fold_1 a1 b1)) (fun (_ : Unit) => []) := by
  refine does_of tab_ok Tryz.func71 rfl Tryz.ntmps71 Tryz.results71 rfl inferInstance (fun _ => inferInstance) fun C => ?_
  refine Tx ?_
  refine Bx fun g1 => ?_
  refine Bx fun g2 => ?_
  refine Tx ?_
  refine Cl (move_Before_spec (⟨a1.time, a1.who⟩ : Stamp) (⟨b1.time, b1.who⟩ : Stamp)) fun _ => ?_
  refine rw_nil ?_
  (repeat refine cw_seq ?_)
  refine Cd (b := (move_Before (⟨a1.time, a1.who⟩ : Stamp) (⟨b1.time, b1.who⟩ : Stamp))) (fun hc1 => ?_) fun hc1 => ?_
  · refine Tx ?_
    have hr1 : (history_Fold_1 a1 b1) = (-1) := by simp only [history_Fold_1, hc1, cond_true, cond_false]
    refine cw_ret ?_; rw [hr1]; exact Re () (Vt Vn)
  · refine Tx ?_
    refine Cl (move_Before_spec (⟨b1.time, b1.who⟩ : Stamp) (⟨a1.time, a1.who⟩ : Stamp)) fun _ => ?_
    refine rw_nil ?_
    (repeat refine cw_seq ?_)
    refine Cd (b := (move_Before (⟨b1.time, b1.who⟩ : Stamp) (⟨a1.time, a1.who⟩ : Stamp))) (fun hc2 => ?_) fun hc2 => ?_
    · refine Tx ?_
      have hr2 : (history_Fold_1 a1 b1) = 1 := by simp only [history_Fold_1, hc1, hc2, cond_true, cond_false]
      refine cw_ret ?_; rw [hr2]; exact Re () (Vt Vn)
    · refine Tx ?_
      have hr3 : (history_Fold_1 a1 b1) = 0 := by simp only [history_Fold_1, hc1, hc2, cond_true, cond_false]
      refine cw_ret ?_; rw [hr3]; exact Re () (Vt Vn)

def history_Fold_L1 (l1 : List Op) : List Op → Nat → (List Step) → (List Place) → (History × Int)
  | [], n2, l2, p1 => ((⟨l2, p1⟩ : History), 0)
  | pn2 :: rn2, n2, l2, p1 => (bif (decide ((n2 : Int) > 0) && decide ((⟨(gt (slices_SortStableFunc_Op l1 history_Fold_1) (n2 - 1)).time, (gt (slices_SortStableFunc_Op l1 history_Fold_1) (n2 - 1)).who⟩ : Stamp) = (⟨pn2.time, pn2.who⟩ : Stamp))) then ((⟨([] : List Step), ([] : List Place)⟩ : History), 6) else (bif (((move_Do p1 pn2).2.2) != 0) then ((⟨([] : List Step), ([] : List Place)⟩ : History), (move_Do p1 pn2).2.2) else (history_Fold_L1 l1 rn2 (n2 + 1) (l2 ++ [((move_Do p1 pn2).2.1)]) ((move_Do p1 pn2).1))))
def history_Fold_L0 (l1 : List Op) : List Op → (History × Int)
  | [] => (history_Fold_L1 l1 (slices_SortStableFunc_Op l1 history_Fold_1) 0 [] [])
  | pn1 :: rn1 => (bif ((move_Check pn1) != 0) then ((⟨([] : List Step), ([] : List Place)⟩ : History), (move_Check pn1)) else (history_Fold_L0 l1 rn1))
def history_Fold (l1 : List Op) : History × Int :=
  (bif decide ((l1.length : Int) > 30) then ((⟨([] : List Step), ([] : List Place)⟩ : History), 2) else (history_Fold_L0 l1 l1))
theorem history_Fold_spec (y1 : SlV) (l1 : List Op) : Does Tryz.prog 50 [y1.val l1.length] [RdL EOp y1 l1] (fun (X : SlV × SlV) => .tuple #[.agg ⟨[X.1.val (((history_Fold l1).1).l).length, X.2.val (((history_Fold l1).1).t).length]⟩, .int .i64 ((history_Fold l1).2)]) (fun (X : SlV × SlV) => [RdL EStep X.1 (((history_Fold l1).1).l), RdL EPlace X.2 (((history_Fold l1).1).t)]) := by
  refine does_of tab_ok Tryz.func50 rfl Tryz.ntmps50 Tryz.results50 rfl inferInstance (fun _ => inferInstance) fun C => ?_
  refine Pc EOp y1 l1 56 fun hlen1 => ?_
  refine Tx ?_
  refine Al fun g1 => ?_
  refine Tx ?_
  refine Cd (b := decide ((l1.length : Int) > 30)) (fun hc1 => ?_) fun hc1 => ?_
  · have hc1p := of_decide_eq_true hc1
    refine Tx ?_
    refine Fc EStep ?_
    refine Fc EPlace ?_
    have hr1 : (history_Fold l1) = ((⟨([] : List Step), ([] : List Place)⟩ : History), 2) := by simp only [history_Fold, hc1, cond_true, cond_false]
    refine cw_ret ?_; rw [hr1]; exact Re ⟨(⟨none, 0⟩ : SlV), (⟨none, 0⟩ : SlV)⟩ (Va (Vt Vn))
  · have hc1p := of_decide_eq_false hc1
    refine Tx ?_
    (repeat refine cw_seq ?_); refine Lp [0,2,3,17,18] [true] (fun (n1 : Nat) => (⟨[(19, .v (.int .i64 (n1 : Int)))], [], [], [], (n1 ≤ l1.length) ∧ (history_Fold_L0 l1 (l1.drop n1)) = (history_Fold l1), l1.length - n1⟩ : Ls)) 0 (Sc (Sc (Sc (Sc (Sc Sn))))) (.keep (.nil)) ⟨Nat.zero_le _, (by simp only [history_Fold, hc1, cond_true, cond_false] : (history_Fold l1) = (history_Fold_L0 l1 l1)).symm⟩ Le4 ?_
    rintro n1 ⟨hkn1, hf1⟩
    simp only [List.cons_append, List.nil_append]
    refine Tx ?_
    refine Cd (b := decide ((n1 : Int) < (l1.length : Int))) (fun hc2 => ?_) fun hc2 => ?_
    · have hlt0 : n1 < l1.length := Int.ofNat_lt.1 (of_decide_eq_true hc2)
      refine Tx ?_
      refine rw_q rfl rfl rfl (q_idx EOp n1 rfl rfl (fun _ => rfl) rfl (fun _ => rfl) rfl rfl rfl Mm rfl (fun _ => rfl) (fun _ => by first | assumption | omega)) ?_
      refine rw_q rfl rfl rfl (q_leA EOp rfl rfl (fun _ => rfl) rfl rfl Mm (fun _ => by first | assumption | omega)) ?_
      refine Al fun g2 => ?_
      refine Tx ?_
      refine Cl (move_Check_spec (gt l1 n1)) fun _ => ?_
      refine Tx ?_
      refine Cd (b := ((move_Check (gt l1 n1)) != 0)) (fun hc3 => ?_) fun hc3 => ?_
      · have hc3p := bne_iff_ne.1 hc3
        refine Tx ?_
        refine Fc EStep ?_
        refine Fc EPlace ?_
        have hr2 : (history_Fold l1) = ((⟨([] : List Step), ([] : List Place)⟩ : History), (move_Check (gt l1 n1))) := by rw [← hf1, drop_gt hlt0]; simp only [history_Fold_L0, hc3, cond_true, cond_false]
        refine cw_ret ?_; rw [hr2]; exact Re ⟨(⟨none, 0⟩ : SlV), (⟨none, 0⟩ : SlV)⟩ (Va (Vt Vn))
      · have hc3p := eq_of_bne_false hc3
        refine Tx ?_
        refine rw_q rfl rfl rfl (q_add rfl rfl (fun _ => rfl) rfl (fun _ => rfl) (fun _ => by omega)) ?_
        refine Tx ?_
        refine ⟨(n1 + 1), ⟨hlt0, (by rw [← hf1, drop_gt hlt0]; simp only [history_Fold_L0, hc3, cond_true, cond_false] : (history_Fold l1) = (history_Fold_L0 l1 (l1.drop (n1 + 1)))).symm⟩, (by simp only []; omega), Le4⟩
    · have hge0 : l1.length ≤ n1 := by have := of_decide_eq_false hc2; omega
      refine Tx ?_
      refine Cg (slices_Clone_Op_spec y1 l1) fun x1 => ?_
      refine Tx ?_
      refine rw_callG (slices_SortStableFunc_Op_spec x1.1 x1.2 l1 _ _ _ history_Fold_1 Kr (fun a0_ a1_ => history_Fold_1_spec a0_ a1_) (by omega)) .sq (.inl ⟨_, rfl⟩) (guard_none rfl) rfl rfl rfl Kr rfl rfl Sm (.nil _) (by first | exact .cons (.here _ _) (.nil _) | exact .cons (.there _ (.here _ _)) (.nil _) | exact .cons (.there _ (.there _ (.here _ _))) (.nil _) | exact .cons (.there _ (.there _ (.there _ (.here _ _)))) (.nil _)) ?_
      intro _
      have hv1l : l1.length = (slices_SortStableFunc_Op l1 history_Fold_1).length := (ST_Op_len l1 history_Fold_1 (by omega)).symm
      have hv1 : x1.1.val l1.length = x1.1.val (slices_SortStableFunc_Op l1 history_Fold_1).length := congrArg (SlV.val x1.1) hv1l
      try rw [hv1]
      refine Tx ?_
      refine Al fun g3 => ?_
      refine Tx ?_
      refine cw_le (le_freezeL EOp 41 x1.1 x1.2 (slices_SortStableFunc_Op l1 history_Fold_1) Uo) ?_
      refine Pc EOp x1.1 (slices_SortStableFunc_Op l1 history_Fold_1) 56 fun hlen2 => ?_
      (repeat refine cw_seq ?_); refine Lp [0,2,3,7,34,35] [false, true] (fun (i_ : Nat × List Step × SlV × Option Nat × List Place × SlV) => match i_ with | ⟨n2, l2, x2, x2b, p1, x3⟩ => (⟨[(36, .v (.int .i64 (n2 : Int)))], [⟨g3, 28, [x2.val l2.length, x3.val p1.length]⟩], [ownL EStep 98 x2 x2b l2], [RdL EPlace x3 p1], (n2 ≤ (slices_SortStableFunc_Op l1 history_Fold_1).length) ∧ (l2.length ≤ n2) ∧ (l2.length = n2) ∧ (history_Fold_L1 l1 ((slices_SortStableFunc_Op l1 history_Fold_1).drop n2) n2 l2 p1) = (history_Fold l1), (slices_SortStableFunc_Op l1 history_Fold_1).length - n2⟩ : Ls)) ⟨0, [], ⟨none, 0⟩, none, [], ⟨none, 0⟩⟩ (Sc (Sc (Sc (Sc (Sc (Sc Sn)))))) (.drop (.keep (.nil))) ⟨Nat.zero_le _, (by first | exact Nat.le_refl _ | exact Nat.zero_le _ | omega), rfl, (by rw [← hf1, List.drop_of_length_le hge0]; simp only [history_Fold_L0, cond_true, cond_false] : (history_Fold l1) = (history_Fold_L1 l1 (slices_SortStableFunc_Op l1 history_Fold_1) 0 [] [])).symm⟩ (Le.trans (le_nilL EStep 98) (Le.trans (le_fact (RdL EPlace ⟨none, 0⟩ ([] : List Place)) [] (.nil _) (fun M w _ => RdL.nil _ _ _ (by omega) M w)) Le4)) ?_
      rintro ⟨n2, l2, x2, x2b, p1, x3⟩ ⟨hkn2, hl2, hhl, hf2⟩
      simp only [List.cons_append, List.nil_append]
      refine Tx ?_
      refine Cd (b := decide ((n2 : Int) < ((slices_SortStableFunc_Op l1 history_Fold_1).length : Int))) (fun hc4 => ?_) fun hc4 => ?_
      · have hlt1 : n2 < (slices_SortStableFunc_Op l1 history_Fold_1).length := Int.ofNat_lt.1 (of_decide_eq_true hc4)
        refine Tx ?_
        refine rw_q rfl rfl rfl (q_idx EOp n2 rfl rfl (fun _ => rfl) rfl (fun _ => rfl) rfl rfl rfl Mm rfl (fun _ => rfl) (fun _ => by first | assumption | omega)) ?_
        refine rw_q rfl rfl rfl (q_leA EOp rfl rfl (fun _ => rfl) rfl rfl Mm (fun _ => by first | assumption | omega)) ?_
        refine Al fun g4 => ?_
        refine Tx ?_
        (repeat refine cw_seq ?_); refine cw_regionA (fun _ => some []) ?_
        refine Rb 0 [] [1,2,3,4,5,6,7,8,9,10,11,12] rfl Qp ?_
        refine Rb 1 [] [2,3,4,5,6,7,8,9,10,11,12] rfl Qp ?_
        refine Ra 2 [] rfl Qp ?_
        refine Gb 3 [4,5,9,10] [6,7,8,11,12] rfl (guard_vt rfl rfl rfl) (q_pev rfl Bt) ?_
        refine Gb 4 [9,10] [5,6,7,8,11,12] rfl (guard_vt rfl rfl rfl) (q_pev rfl Bt) ?_
        refine Gb 5 [9,10] [6,7,8,11,12] rfl (guard_vt rfl rfl rfl) (q_sub rfl rfl Bt rfl Bt (by intro h; first | omega | (simp at h; omega))) ?_
        refine Gb 6 [9,10] [7,8,11,12] rfl (guard_vt rfl rfl rfl) (q_idx EOp (n2 - 1) rfl rfl Bt rfl Bt rfl rfl rfl Mm rfl (by intro h; first | omega | rfl | (simp at h; omega)) (by first | (intro _; first | assumption | omega) | (intro h; simp at h; omega))) ?_
        refine Gb 7 [9,10] [8,11,12] rfl (guard_vt rfl rfl rfl) (q_fae rfl rfl Bt rfl rfl) ?_
        refine Gb 8 [9,10] [11,12] rfl (guard_vt rfl rfl rfl) (q_leP EOp rfl rfl Bt rfl rfl Mm (by first | (intro _; first | assumption | omega) | (intro h; simp at h; omega)) rfl) ?_
        refine Gb 9 [] [10,11,12] rfl (guard_vt rfl rfl rfl) (q_pev rfl Bt) ?_
        refine Gb 10 [] [11,12] rfl (guard_vt rfl rfl rfl) (q_ldP rfl rfl Bt rfl Mm rfl) ?_
        refine Ga 11 [] rfl (guard_vt rfl rfl rfl) (q_eqE eqT_Stamp (flatEq_Stamp (⟨(gt (slices_SortStableFunc_Op l1 history_Fold_1) (n2 - 1)).time, (gt (slices_SortStableFunc_Op l1 history_Fold_1) (n2 - 1)).who⟩ : Stamp) (⟨(gt (slices_SortStableFunc_Op l1 history_Fold_1) n2).time, (gt (slices_SortStableFunc_Op l1 history_Fold_1) n2).who⟩ : Stamp)) rfl rfl Bt rfl Bt rfl rfl) ?_
        refine Ra 12 [] rfl (q_pev rfl Bt) ?_
        refine ra_nil Kr ?_
        (repeat refine cw_seq ?_)
        refine Cd (b := (decide ((n2 : Int) > 0) && decide ((⟨(gt (slices_SortStableFunc_Op l1 history_Fold_1) (n2 - 1)).time, (gt (slices_SortStableFunc_Op l1 history_Fold_1) (n2 - 1)).who⟩ : Stamp) = (⟨(gt (slices_SortStableFunc_Op l1 history_Fold_1) n2).time, (gt (slices_SortStableFunc_Op l1 history_Fold_1) n2).who⟩ : Stamp)))) (fun hc5 => ?_) fun hc5 => ?_
        · refine Tx ?_
          refine Fc EStep ?_
          refine Fc EPlace ?_
          have hr3 : (history_Fold l1) = ((⟨([] : List Step), ([] : List Place)⟩ : History), 6) := by rw [← hf2, drop_gt hlt1]; simp only [history_Fold_L1, hc5, cond_true, cond_false]
          refine cw_ret ?_; rw [hr3]; exact Re ⟨(⟨none, 0⟩ : SlV), (⟨none, 0⟩ : SlV)⟩ (Va (Vt Vn))
        · refine Tx ?_
          refine Cl (move_Do_spec x3 p1 (gt (slices_SortStableFunc_Op l1 history_Fold_1) n2)) fun x4 => ?_
          refine Pr EPlace x4 ((move_Do p1 (gt (slices_SortStableFunc_Op l1 history_Fold_1) n2)).1) 24 fun hlen3 => ?_
          refine Tx ?_
          refine Al fun g5 => ?_
          refine Al fun g6 => ?_
          refine Tx ?_
          refine Cd (b := (((move_Do p1 (gt (slices_SortStableFunc_Op l1 history_Fold_1) n2)).2.2) != 0)) (fun hc6 => ?_) fun hc6 => ?_
          · have hc6p := bne_iff_ne.1 hc6
            refine Tx ?_
            refine Fc EStep ?_
            refine Fc EPlace ?_
            have hr4 : (history_Fold l1) = ((⟨([] : List Step), ([] : List Place)⟩ : History), (move_Do p1 (gt (slices_SortStableFunc_Op l1 history_Fold_1) n2)).2.2) := by rw [← hf2, drop_gt hlt1]; simp only [history_Fold_L1, hc5, hc6, cond_true, cond_false]
            refine cw_ret ?_; rw [hr4]; exact Re ⟨(⟨none, 0⟩ : SlV), (⟨none, 0⟩ : SlV)⟩ (Va (Vt Vn))
          · have hc6p := eq_of_bne_false hc6
            refine Tx ?_
            (repeat refine cw_seq ?_); refine cw_regionA (fun j => match j with | 5 => some x2b.toList | 7 => some [g3] | 9 => some [g3] | _ => some []) ?_
            refine ra_q (.an (i := 0) (js := [1, 2, 3, 4, 5]) rfl Kr Kr Kr Kr) (SplitB.all _) (by intro g hg; simp only [List.mem_append, List.mem_singleton, List.not_mem_nil, or_false, false_or, Option.mem_toList, Option.mem_def, List.append_nil] at hg; first | exact .inr ⟨ownL EStep 98 x2 x2b l2, Mm, hg⟩) rfl rfl rfl (q_ldA rfl rfl (fun _ => rfl) rfl Mm rfl) ?_
            refine Rb 1 [3,4] [2,5,6,7,8,9] rfl Qp ?_
            refine Ra 2 [3,4] rfl Q1 ?_
            refine Rb 3 [6] [4,5,7,8,9] rfl (q_ldA rfl rfl (fun _ => rfl) rfl Mm rfl) ?_
            refine ra_q (.an (i := 6) (js := [4, 5]) rfl Kr Kr Kr Kr) (SplitB.all _) (by intro g hg; simp only [List.mem_append, List.mem_singleton, List.not_mem_nil, or_false, false_or, Option.mem_toList, Option.mem_def, List.append_nil] at hg; first | exact .inr ⟨ownL EStep 98 x2 x2b l2, Mm, hg⟩) rfl rfl rfl (q_pev rfl (fun _ => rfl)) ?_
            refine ra_one 4 Kr ?_
            refine rw_bsliceL EStep [((move_Do p1 (gt (slices_SortStableFunc_Op l1 history_Fold_1) n2)).2.1)] (.an rfl rfl) (guard_none rfl) rfl rfl rfl rfl rfl rfl rfl rfl rfl rfl rfl rfl rfl rfl rfl fun x5 x5b => ?_
            refine ra_one 5 Kr ?_
            refine rw_appendL EStep l2 [((move_Do p1 (gt (slices_SortStableFunc_Op l1 history_Fold_1) n2)).2.1)] (b := x2b) (.an rfl rfl) (fun g h => .inr (by simp [h])) (guard_none rfl) rfl rfl rfl rfl rfl rfl rfl (fun _ _ => Uo) rfl rfl rfl rfl rfl rfl rfl (reads_ownL (e := 98) (b := x5b) Mm) (by show (l2.length + 1) * 88 ≤ 140737488355328; (try simp only [List.length_append, List.length_cons, List.length_nil]); omega) fun x6 x6b => ?_
            refine ra_one 7 Kr ?_
            refine rw_stP (.an rfl rfl) (.inr (by simp)) (guard_none rfl) rfl rfl rfl rfl rfl rfl rfl rfl rfl Ub rfl ?_
            refine Ra 8 [] rfl Qp ?_
            refine ra_one 9 Kr ?_
            refine rw_st1 (.an rfl rfl) (.inr (by simp)) (guard_none rfl) rfl rfl rfl rfl rfl rfl rfl rfl rfl Ub rfl ?_
            refine ra_nil Kr ?_
            refine Tx ?_
            refine rw_q rfl rfl rfl (q_add rfl rfl (fun _ => rfl) rfl (fun _ => rfl) (fun _ => by omega)) ?_
            refine Tx ?_
            refine ⟨⟨(n2 + 1), (l2 ++ [((move_Do p1 (gt (slices_SortStableFunc_Op l1 history_Fold_1) n2)).2.1)]), x6, x6b, (move_Do p1 (gt (slices_SortStableFunc_Op l1 history_Fold_1) n2)).1, x4⟩, ⟨hlt1, (by simp only [List.length_append, List.length_cons, List.length_nil]; omega), (by simp only [List.length_append, List.length_cons, List.length_nil]; omega), (by rw [← hf2, drop_gt hlt1]; simp only [history_Fold_L1, hc5, hc6, cond_true, cond_false] : (history_Fold l1) = (history_Fold_L1 l1 ((slices_SortStableFunc_Op l1 history_Fold_1).drop (n2 + 1)) (n2 + 1) (l2 ++ [((move_Do p1 (gt (slices_SortStableFunc_Op l1 history_Fold_1) n2)).2.1)]) ((move_Do p1 (gt (slices_SortStableFunc_Op l1 history_Fold_1) n2)).1))).symm⟩, (by simp only []; omega), Le4⟩
      · have hge1 : (slices_SortStableFunc_Op l1 history_Fold_1).length ≤ n2 := by have := of_decide_eq_false hc4; omega
        refine Tx ?_
        refine cw_le (le_freezeL EStep 98 x2 x2b l2 Uo) ?_
        have hr5 : (history_Fold l1) = ((⟨l2, p1⟩ : History), 0) := by rw [← hf2, List.drop_of_length_le hge1]; simp only [history_Fold_L1, cond_true, cond_false]
        refine cw_ret ?_; rw [hr5]; exact Re ⟨x2, x3⟩ (Va (Vt Vn))

def history_Ops_L0  : List Step → (List Op) → (List Op)
  | [], l1 => l1
  | pn1 :: rn1, l1 => (history_Ops_L0 rn1 (l1 ++ [(pn1.o)]))
def history_Ops (h1 : History) : List Op :=
  (history_Ops_L0 h1.l [])
theorem history_Ops_spec (y1 : SlV) (y2 : SlV) (h1 : History) : Does Tryz.prog 51 [.agg ⟨[y1.val h1.l.length, y2.val h1.t.length]⟩] [RdL EStep y1 h1.l, RdL EPlace y2 h1.t] (fun (X : SlV) => X.val (history_Ops h1).length) (fun (X : SlV) => [RdL EOp X (history_Ops h1)]) := by
  refine does_of tab_ok Tryz.func51 rfl Tryz.ntmps51 Tryz.results51 rfl inferInstance (fun _ => inferInstance) fun C => ?_
  refine Pc EStep y1 h1.l 88 fun hlen1 => ?_
  refine Pc EPlace y2 h1.t 24 fun hlen2 => ?_
  refine Tx ?_
  refine Bx fun g1 => ?_
  refine Tx ?_
  (repeat refine cw_seq ?_); refine Lp [2,7,8] [true] (fun (i_ : List Op × SlV × Option Nat × Nat) => match i_ with | ⟨l1, x1, x1b, n1⟩ => (⟨[(3, .v (x1.val l1.length)), (9, .v (.int .i64 (n1 : Int)))], [], [ownL EOp 41 x1 x1b l1], [], (n1 ≤ h1.l.length) ∧ (l1.length ≤ n1) ∧ (history_Ops_L0 (h1.l.drop n1) l1) = (history_Ops h1), h1.l.length - n1⟩ : Ls)) ⟨[], ⟨none, 0⟩, none, 0⟩ (Sc (Sc (Sc Sn))) (.keep (.nil)) ⟨Nat.zero_le _, (by first | exact Nat.le_refl _ | exact Nat.zero_le _ | omega), (by simp only [history_Ops, cond_true, cond_false] : (history_Ops h1) = (history_Ops_L0 h1.l [])).symm⟩ (Le.trans (le_nilL EOp 41) Le4) ?_
  rintro ⟨l1, x1, x1b, n1⟩ ⟨hkn1, hl1, hf1⟩
  simp only [List.cons_append, List.nil_append]
  refine Tx ?_
  refine Cd (b := decide ((n1 : Int) < (h1.l.length : Int))) (fun hc1 => ?_) fun hc1 => ?_
  · have hlt0 : n1 < h1.l.length := Int.ofNat_lt.1 (of_decide_eq_true hc1)
    refine Tx ?_
    refine rw_q rfl rfl rfl (q_idx EStep n1 rfl rfl (fun _ => rfl) rfl (fun _ => rfl) rfl rfl rfl Mm rfl (fun _ => rfl) (fun _ => by first | assumption | omega)) ?_
    refine rw_q rfl rfl rfl (q_leA EStep rfl rfl (fun _ => rfl) rfl rfl Mm (fun _ => by first | assumption | omega)) ?_
    refine Al fun g2 => ?_
    refine Tx ?_
    refine rw_bsliceL EOp [((gt h1.l n1).o)] .sq (guard_none rfl) rfl rfl rfl rfl rfl rfl rfl rfl rfl rfl rfl rfl rfl rfl rfl fun x2 x2b => ?_
    refine rw_appendL EOp l1 [((gt h1.l n1).o)] (b := x1b) .sq (fun _ _ => .inl ⟨_, rfl⟩) (guard_none rfl) rfl rfl rfl rfl rfl rfl rfl (fun _ _ => Uo) rfl rfl rfl rfl rfl rfl rfl (reads_ownL (e := 41) (b := x2b) Mm) (by show (l1.length + 1) * 56 ≤ 140737488355328; (try simp only [List.length_append, List.length_cons, List.length_nil]); omega) fun x3 x3b => ?_
    refine Tx ?_
    refine rw_q rfl rfl rfl (q_add rfl rfl (fun _ => rfl) rfl (fun _ => rfl) (fun _ => by omega)) ?_
    refine Tx ?_
    refine ⟨⟨(l1 ++ [((gt h1.l n1).o)]), x3, x3b, (n1 + 1)⟩, ⟨hlt0, (by simp only [List.length_append, List.length_cons, List.length_nil]; omega), (by rw [← hf1, drop_gt hlt0]; simp only [history_Ops_L0, cond_true, cond_false] : (history_Ops h1) = (history_Ops_L0 (h1.l.drop (n1 + 1)) (l1 ++ [((gt h1.l n1).o)]))).symm⟩, (by simp only []; omega), Le4⟩
  · have hge0 : h1.l.length ≤ n1 := by have := of_decide_eq_false hc1; omega
    refine Tx ?_
    refine cw_le (le_freezeL EOp 41 x1 x1b l1 Uo) ?_
    have hr1 : (history_Ops h1) = l1 := by rw [← hf1, List.drop_of_length_le hge0]; simp only [history_Ops_L0, cond_true, cond_false]
    refine cw_ret ?_; rw [hr1]; exact Re x1 (Vt Vn)

def history_Same (a1 : History) (b1 : History) : Bool :=
  ((decide (a1.l = b1.l)) && (decide (a1.t = b1.t)))
theorem history_Same_spec (y1 : SlV) (y2 : SlV) (a1 : History) (y3 : SlV) (y4 : SlV) (b1 : History) : Does Tryz.prog 26 [.agg ⟨[y1.val a1.l.length, y2.val a1.t.length]⟩, .agg ⟨[y3.val b1.l.length, y4.val b1.t.length]⟩] [RdL EStep y1 a1.l, RdL EPlace y2 a1.t, RdL EStep y3 b1.l, RdL EPlace y4 b1.t] (fun (_ : Unit) => .bool (history_Same a1 b1)) (fun (_ : Unit) => []) := by
  refine does_of tab_ok Tryz.func26 rfl Tryz.ntmps26 Tryz.results26 rfl inferInstance (fun _ => inferInstance) fun C => ?_
  refine Pc EStep y1 a1.l 88 fun hlen1 => ?_
  refine Pc EPlace y2 a1.t 24 fun hlen2 => ?_
  refine Pc EStep y3 b1.l 88 fun hlen3 => ?_
  refine Pc EPlace y4 b1.t 24 fun hlen4 => ?_
  refine Tx ?_
  refine Bx fun g1 => ?_
  refine Bx fun g2 => ?_
  refine Tx ?_
  refine Cl ((fun y1 a y2 b => slices_Equal_Step_spec' y1 y2 a b) y1 a1.l y3 b1.l) fun _ => ?_
  refine Tx ?_
  refine rw_callg (fun hG_ => (fun y1 a y2 b => slices_Equal_Place_spec' y1 y2 a b) y2 a1.t y4 b1.t) (fun _ => rfl) .sq (guard_vt rfl rfl rfl) rfl rfl rfl Kr rfl Bt Sm ?_
  refine Tx ?_
  have hr1 : (history_Same a1 b1) = ((decide (a1.l = b1.l)) && (decide (a1.t = b1.t))) := by simp only [history_Same, cond_true, cond_false]
  refine cw_ret ?_; rw [hr1]; exact Re () (Vt Vn)

def history_Check (h1 : History) : Int :=
  (bif ((((history_Fold (history_Ops h1)).2) == 0) && (!(history_Same ((history_Fold (history_Ops h1)).1) h1))) then 4 else (history_Fold (history_Ops h1)).2)
theorem history_Check_spec (y1 : SlV) (y2 : SlV) (h1 : History) : Does Tryz.prog 35 [.agg ⟨[y1.val h1.l.length, y2.val h1.t.length]⟩] [RdL EStep y1 h1.l, RdL EPlace y2 h1.t] (fun (_ : Unit) => .int .i64 (history_Check h1)) (fun (_ : Unit) => []) := by
  refine does_of tab_ok Tryz.func35 rfl Tryz.ntmps35 Tryz.results35 rfl inferInstance (fun _ => inferInstance) fun C => ?_
  refine Pc EStep y1 h1.l 88 fun hlen1 => ?_
  refine Pc EPlace y2 h1.t 24 fun hlen2 => ?_
  refine Tx ?_
  refine Bx fun g1 => ?_
  refine Tx ?_
  refine Cl (history_Ops_spec y1 y2 h1) fun x1 => ?_
  refine Pr EOp x1 (history_Ops h1) 56 fun hlen3 => ?_
  refine Cl (history_Fold_spec x1 (history_Ops h1)) fun x2 => ?_
  refine Pr EStep x2.1 (((history_Fold (history_Ops h1)).1).l) 88 fun hlen4 => ?_
  refine Pr EPlace x2.2 (((history_Fold (history_Ops h1)).1).t) 24 fun hlen5 => ?_
  refine Tx ?_
  refine Al fun g2 => ?_
  refine Tx ?_
  refine rw_callg (fun hG_ => history_Same_spec x2.1 x2.2 ((history_Fold (history_Ops h1)).1) y1 y2 h1) (fun _ => rfl) .sq (guard_vt rfl rfl rfl) rfl rfl rfl Kr rfl Bt Sm ?_
  refine Tx ?_
  refine Cd (b := ((((history_Fold (history_Ops h1)).2) == 0) && (!(history_Same ((history_Fold (history_Ops h1)).1) h1)))) (fun hc1 => ?_) fun hc1 => ?_
  · refine Tx ?_
    have hr1 : (history_Check h1) = 4 := by simp only [history_Check, hc1, cond_true, cond_false]
    refine cw_ret ?_; rw [hr1]; exact Re () (Vt Vn)
  · refine Tx ?_
    have hr2 : (history_Check h1) = (history_Fold (history_Ops h1)).2 := by simp only [history_Check, hc1, cond_true, cond_false]
    refine cw_ret ?_; rw [hr2]; exact Re () (Vt Vn)
end Go.Proofs.YtccmadehnoihnaaGreatDoor
