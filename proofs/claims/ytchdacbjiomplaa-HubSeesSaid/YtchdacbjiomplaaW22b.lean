/- Part of this claim. No condition. -/
import Derived.Test.YtchdacbjiomplaaW22
set_option linter.unusedVariables false
set_option linter.unusedSimpArgs false
namespace Go.Proofs.Ytchdacbjiomplaa
open Go Go.Proofs.Ytchdacbjiomplaa.Fw Go.Proofs
def bsearch (p : Int → Bool) : Nat → Int → Int → Int
  | 0, _, _ => default
  | f + 1, i, j => bif decide (i < j) then (bif p ((i + j) / 2) then bsearch p f ((i + j) / 2 + 1) j else bsearch p f i ((i + j) / 2)) else i
theorem bsearch_spec (p : Int → Bool) : ∀ (f : Nat) (i j : Int), i ≤ j → (j - i).toNat < f → (∀ x y, i ≤ x → x ≤ y → y < j → p y = true → p x = true) →
    i ≤ bsearch p f i j ∧ bsearch p f i j ≤ j ∧ (∀ x, i ≤ x → x < bsearch p f i j → p x = true) ∧ (∀ x, bsearch p f i j ≤ x → x < j → p x = false)
  | 0, _, _, _, h, _ => by omega
  | f + 1, i, j, hij, h, hm => by
    rw [bsearch]
    cases hc : decide (i < j) with
    | false =>
      have := of_decide_eq_false hc
      simp only [cond_false]
      exact ⟨Int.le_refl _, hij, fun x h1 h2 => by omega, fun x h1 h2 => by omega⟩
    | true =>
      have hc := of_decide_eq_true hc
      simp only [cond_true]
      cases hp : p ((i + j) / 2) with
      | true =>
        simp only [cond_true]
        obtain ⟨h1, h2, h3, h4⟩ := bsearch_spec p f ((i + j) / 2 + 1) j (by omega) (by omega) (fun x y hx hxy hy => hm x y (by omega) hxy hy)
        refine ⟨by omega, h2, fun x hx hxr => ?_, h4⟩
        by_cases hh : x ≤ (i + j) / 2
        · exact hm x _ hx hh (by omega) hp
        · exact h3 x (by omega) hxr
      | false =>
        simp only [cond_false]
        obtain ⟨h1, h2, h3, h4⟩ := bsearch_spec p f i ((i + j) / 2) (by omega) (by omega) (fun x y hx hxy hy => hm x y hx hxy (by omega))
        refine ⟨h1, by omega, h3, fun x hx hxj => ?_⟩
        by_cases hh : x < (i + j) / 2
        · exact h4 x hx hh
        · cases hpx : p x with
          | false => rfl
          | true => have := hm ((i + j) / 2) x (by omega) (by omega) hxj hpx; rw [hp] at this; cases this

theorem SR_Op_L0 (n : Int) (a b : Int) : ∀ (X2 Y2 P X1 Y1 M S : List Op) (f : Nat), X1.length = Y1.length → X2.length = Y2.length → a = (P.length : Int) → b = ((P.length + Y1.length + X2.length + M.length : Nat) : Int) → n = ((Y1.length + X2.length : Nat) : Int) → X2.length < f →
    slices_swapRangeCmpFunc_Op_L0 a b n f (P ++ (Y1 ++ (X2 ++ (M ++ (X1 ++ (Y2 ++ S)))))) (Y1.length : Int) = P ++ (Y1 ++ (Y2 ++ (M ++ (X1 ++ (X2 ++ S)))))
  | [], [], P, X1, Y1, M, S, f + 1, h1, h2, ha, hb, hn, hf => by
    rw [slices_swapRangeCmpFunc_Op_L0]
    have : decide ((Y1.length : Int) < n) = false := by rw [hn]; simp
    rw [this]; rfl
  | x :: X2, y :: Y2, P, X1, Y1, M, S, f + 1, h1, h2, ha, hb, hn, hf => by
    simp only [List.length_cons] at h2 hb hn hf
    rw [slices_swapRangeCmpFunc_Op_L0]
    have hc : decide ((Y1.length : Int) < n) = true := by rw [hn]; simp; omega
    have ea : (a + (Y1.length : Int)).toNat = (P ++ Y1).length := by rw [ha]; simp; omega
    have eb : (b + (Y1.length : Int)).toNat = (P ++ (Y1 ++ (x :: X2 ++ (M ++ X1)))).length := by rw [hb]; simp; omega
    have eb' : (b + (Y1.length : Int)).toNat = (P ++ (Y1 ++ (y :: X2 ++ (M ++ X1)))).length := by rw [hb]; simp; omega
    have d1 : P ++ (Y1 ++ (x :: X2 ++ (M ++ (X1 ++ (y :: Y2 ++ S))))) = (P ++ Y1) ++ x :: (X2 ++ (M ++ (X1 ++ (y :: Y2 ++ S)))) := by simp
    have d2 : P ++ (Y1 ++ (x :: X2 ++ (M ++ (X1 ++ (y :: Y2 ++ S))))) = (P ++ (Y1 ++ (x :: X2 ++ (M ++ X1)))) ++ y :: (Y2 ++ S) := by simp
    have d3 : (P ++ Y1) ++ y :: (X2 ++ (M ++ (X1 ++ (y :: Y2 ++ S)))) = (P ++ (Y1 ++ (y :: X2 ++ (M ++ X1)))) ++ y :: (Y2 ++ S) := by simp
    have g1 : gt (P ++ (Y1 ++ (x :: X2 ++ (M ++ (X1 ++ (y :: Y2 ++ S)))))) (a + (Y1.length : Int)).toNat = x := by rw [d1]; exact gt_mid _ _ _ _ ea
    have g2 : gt (P ++ (Y1 ++ (x :: X2 ++ (M ++ (X1 ++ (y :: Y2 ++ S)))))) (b + (Y1.length : Int)).toNat = y := by rw [d2]; exact gt_mid _ _ _ _ eb
    have s1 : (P ++ (Y1 ++ (x :: X2 ++ (M ++ (X1 ++ (y :: Y2 ++ S)))))).set (a + (Y1.length : Int)).toNat y = (P ++ Y1) ++ y :: (X2 ++ (M ++ (X1 ++ (y :: Y2 ++ S)))) := by rw [d1]; exact set_mid _ _ _ _ _ ea
    rw [hc, cond_true, g1, g2, s1, d3, set_mid _ _ _ _ _ eb']
    have ih := SR_Op_L0 n a b X2 Y2 P (X1 ++ [x]) (Y1 ++ [y]) M S f (by simp [h1]) (by omega) ha (by rw [hb]; simp; omega) (by rw [hn]; simp; omega) (by omega)
    simp only [List.length_append, List.length_cons, List.length_nil, List.append_assoc, List.cons_append, List.nil_append] at ih ⊢
    rw [show ((Y1.length : Int)) + 1 = ((Y1.length + (0 + 1) : Nat) : Int) by simp]
    exact ih
theorem SR_Op (P X M Y S : List Op) (a b n : Int) (cmp : Op → Op → Int) (h : X.length = Y.length) (ha : a = (P.length : Int)) (hb : b = ((P.length + X.length + M.length : Nat) : Int)) (hn : n = (X.length : Int)) :
    slices_swapRangeCmpFunc_Op (P ++ (X ++ (M ++ (Y ++ S)))) a b n cmp = P ++ (Y ++ (M ++ (X ++ S))) := by
  have := SR_Op_L0 n a b X Y P [] [] M S ((n - 0).toNat + 1) rfl h ha (by rw [hb]; simp) (by rw [hn]; simp) (by rw [hn]; simp)
  exact this
theorem RT_Op_L0 (m : Int) (cmp : Op → Op → Int) : ∀ (f : Nat) (P X Y S : List Op), 1 ≤ X.length → 1 ≤ Y.length → m = ((P.length + X.length : Nat) : Int) → X.length + Y.length < f →
    slices_rotateCmpFunc_Op_L0 m cmp f (P ++ (X ++ (Y ++ S))) (X.length : Int) (Y.length : Int) = P ++ (Y ++ (X ++ S))
  | 0, _, _, _, _, _, _, _, h => by omega
  | f + 1, P, X, Y, S, hx, hy, hm, hf => by
    rw [slices_rotateCmpFunc_Op_L0]
    cases hc : ((X.length : Int) != (Y.length : Int)) with
    | false =>
      have hc := eq_of_bne_false hc
      simp only [cond_false]
      exact SR_Op P X [] Y S _ _ _ cmp (by omega) (by rw [hm]; simp) (by rw [hm]; simp) rfl
    | true =>
      have hc := bne_iff_ne.1 hc
      simp only [cond_true]
      cases hd : decide ((X.length : Int) > (Y.length : Int)) with
      | true =>
        have hd := of_decide_eq_true hd
        simp only [cond_true]
        have hX : X = X.take Y.length ++ X.drop Y.length := (List.take_append_drop _ _).symm
        have hl : (X.take Y.length).length = Y.length := by simp; omega
        have e := SR_Op P (X.take Y.length) (X.drop Y.length) Y S (m - (X.length : Int)) m (Y.length : Int) cmp hl (by rw [hm]; simp) (by rw [hm]; simp; omega) (by rw [hl])
        rw [← List.append_assoc (X.take Y.length), List.take_append_drop] at e
        rw [e]
        have ih := RT_Op_L0 m cmp f (P ++ Y) (X.drop Y.length) (X.take Y.length) S (by simp; omega) (by rw [hl]; exact hy) (by rw [hm]; simp; omega) (by rw [hl]; simp; omega)
        rw [hl] at ih
        have hdl : ((X.drop Y.length).length : Int) = (X.length : Int) - (Y.length : Int) := by simp; omega
        rw [hdl] at ih
        simp only [List.append_assoc] at ih
        rw [ih, ← List.append_assoc (X.take Y.length), List.take_append_drop]
      | false =>
        have hd := of_decide_eq_false hd
        simp only [cond_false]
        have hl2 : (Y.drop (Y.length - X.length)).length = X.length := by simp; omega
        have hl1 : (Y.take (Y.length - X.length)).length = Y.length - X.length := by simp
        have e := SR_Op P X (Y.take (Y.length - X.length)) (Y.drop (Y.length - X.length)) S (m - (X.length : Int)) (m + (Y.length : Int) - (X.length : Int)) (X.length : Int) cmp hl2.symm (by rw [hm]; simp) (by rw [hm, hl1]; simp; omega) rfl
        rw [← List.append_assoc (Y.take _), List.take_append_drop] at e
        rw [e]
        have ih := RT_Op_L0 m cmp f P (Y.drop (Y.length - X.length)) (Y.take (Y.length - X.length)) (X ++ S) (by rw [hl2]; exact hx) (by rw [hl1]; omega) (by rw [hl2]; exact hm) (by rw [hl1, hl2]; omega)
        rw [hl2, hl1] at ih
        have hdl : ((Y.length - X.length : Nat) : Int) = (Y.length : Int) - (X.length : Int) := by omega
        rw [hdl] at ih
        rw [ih, ← List.append_assoc (Y.take _), List.take_append_drop]
theorem RT_Op (P X Y S : List Op) (a m b : Int) (cmp : Op → Op → Int) (hx : 1 ≤ X.length) (hy : 1 ≤ Y.length) (ha : a = (P.length : Int)) (hm : m = ((P.length + X.length : Nat) : Int)) (hb : b = ((P.length + X.length + Y.length : Nat) : Int)) :
    slices_rotateCmpFunc_Op (P ++ (X ++ (Y ++ S))) a m b cmp = P ++ (Y ++ (X ++ S)) := by
  unfold slices_rotateCmpFunc_Op
  have h := RT_Op_L0 m cmp ((b - a).toNat + 1) P X Y S hx hy hm (by rw [ha, hb]; omega)
  rw [show m - a = (X.length : Int) by rw [ha, hm]; omega, show b - m = (Y.length : Int) by rw [hm, hb]; omega]
  exact h

theorem gt_app {α : Type} [Inhabited α] (A B C : List α) (i : Nat) (h1 : A.length ≤ i) (h2 : i < A.length + B.length) : gt (A ++ (B ++ C)) i = gt B (i - A.length) := by
  unfold gt
  rw [List.getD_eq_getElem?_getD, List.getD_eq_getElem?_getD, List.getElem?_append_right h1, List.getElem?_append_left (by omega)]
theorem mem_take_gt {α : Type} [Inhabited α] {l : List α} {n : Nat} {x : α} (h : x ∈ l.take n) : ∃ i, i < n ∧ i < l.length ∧ x = gt l i := by
  obtain ⟨i, hi, rfl⟩ := List.getElem_of_mem h
  simp only [List.length_take] at hi
  refine ⟨i, by omega, by omega, ?_⟩
  rw [gt_eq (by omega), List.getElem_take]
theorem mem_drop_gt {α : Type} [Inhabited α] {l : List α} {n : Nat} {x : α} (h : x ∈ l.drop n) : ∃ i, n ≤ i ∧ i < l.length ∧ x = gt l i := by
  obtain ⟨i, hi, rfl⟩ := List.getElem_of_mem h
  simp only [List.length_drop] at hi
  refine ⟨n + i, by omega, by omega, ?_⟩
  rw [gt_eq (by omega), List.getElem_drop]
theorem sorted_gt {α : Type} [Inhabited α] {lt : α → α → Bool} (has : ∀ a b, lt a b = true → lt b a = false) {l : List α} (h : Sorted lt l) {i j : Nat} (hij : i ≤ j) (hj : j < l.length) : lt (gt l j) (gt l i) = false := by
  rcases Nat.eq_or_lt_of_le hij with rfl | hij
  · cases hh : lt (gt l i) (gt l i) with
    | false => rfl
    | true => have := has _ _ hh; rw [hh] at this; exact this
  · rw [gt_eq hj, gt_eq (by omega)]
    exact List.pairwise_iff_getElem.1 h i j (by omega) hj hij

theorem SM_Op_L1 (i : Int) : ∀ (V P R : List Op) (x : Op) (f : Nat), i - 1 = ((P.length + V.length : Nat) : Int) → V.length < f →
    slices_symMergeCmpFunc_Op_L1 i f (P ++ x :: (V ++ R)) (P.length : Int) = P ++ (V ++ x :: R)
  | [], P, R, x, f + 1, hi, hf => by
    rw [slices_symMergeCmpFunc_Op_L1]
    have : decide ((P.length : Int) < i - 1) = false := by rw [hi]; simp
    rw [this]; rfl
  | v :: V, P, R, x, f + 1, hi, hf => by
    simp only [List.length_cons] at hi hf
    rw [slices_symMergeCmpFunc_Op_L1]
    have hc : decide ((P.length : Int) < i - 1) = true := by rw [hi]; simp; omega
    have e0 : ((P.length : Int)).toNat = P.length := by simp
    have e1 : ((P.length : Int) + 1).toNat = (P ++ [x]).length := by simp only [List.length_append, List.length_cons, List.length_nil]; omega
    have e2 : ((P.length : Int) + 1).toNat = (P ++ [v]).length := by simp only [List.length_append, List.length_cons, List.length_nil]; omega
    have d1 : P ++ x :: (v :: V ++ R) = (P ++ [x]) ++ v :: (V ++ R) := by simp
    have g0 : gt (P ++ x :: (v :: V ++ R)) ((P.length : Int)).toNat = x := gt_mid _ _ _ _ e0
    have g1 : gt (P ++ x :: (v :: V ++ R)) ((P.length : Int) + 1).toNat = v := by rw [d1]; exact gt_mid _ _ _ _ e1
    rw [hc, cond_true, g0, g1, set_mid _ _ _ _ _ e0, show P ++ v :: (v :: V ++ R) = (P ++ [v]) ++ v :: (V ++ R) by simp, set_mid _ _ _ _ _ e2]
    have ih := SM_Op_L1 i V (P ++ [v]) R x f (by rw [hi]; simp; omega) (by omega)
    simp only [List.length_append, List.length_cons, List.length_nil, List.append_assoc, List.cons_append, List.nil_append] at ih ⊢
    rw [show ((P.length : Int)) + 1 = ((P.length + (0 + 1) : Nat) : Int) by simp]
    exact ih
theorem SM_Op_L3 (i : Int) (P : List Op) (hi : i = (P.length : Int)) : ∀ (r R : List Op) (y : Op) (f : Nat), r.length < f →
    slices_symMergeCmpFunc_Op_L3 i f (P ++ (r.reverse ++ y :: R)) ((P.length + r.length : Nat) : Int) = P ++ (y :: (r.reverse ++ R))
  | [], R, y, f + 1, hf => by
    rw [slices_symMergeCmpFunc_Op_L3]
    have : decide (((P.length + ([] : List Op).length : Nat) : Int) > i) = false := by rw [hi]; simp
    rw [this]; rfl
  | u :: r, R, y, f + 1, hf => by
    simp only [List.length_cons] at hf
    rw [slices_symMergeCmpFunc_Op_L3]
    have hc : decide (((P.length + (u :: r).length : Nat) : Int) > i) = true := by rw [hi]; simp; omega
    have e0 : (((P.length + (u :: r).length : Nat) : Int)).toNat = (P ++ (r.reverse ++ [u])).length := by simp; omega
    have e1 : (((P.length + (u :: r).length : Nat) : Int) - 1).toNat = (P ++ r.reverse).length := by simp; omega
    have d0 : P ++ ((u :: r).reverse ++ y :: R) = (P ++ (r.reverse ++ [u])) ++ y :: R := by simp
    have d1 : (P ++ (r.reverse ++ [u])) ++ y :: R = (P ++ r.reverse) ++ u :: (y :: R) := by simp
    have g0 : gt (P ++ ((u :: r).reverse ++ y :: R)) (((P.length + (u :: r).length : Nat) : Int)).toNat = y := by rw [d0]; exact gt_mid _ _ _ _ e0
    have g1 : gt (P ++ ((u :: r).reverse ++ y :: R)) (((P.length + (u :: r).length : Nat) : Int) - 1).toNat = u := by rw [d0, d1]; exact gt_mid _ _ _ _ e1
    rw [hc, cond_true, g0, g1, d0, set_mid _ _ _ _ _ e0, show (P ++ (r.reverse ++ [u])) ++ u :: R = (P ++ r.reverse) ++ u :: (u :: R) by simp, set_mid _ _ _ _ _ e1]
    have ih := SM_Op_L3 i P hi r (u :: R) y f (by omega)
    rw [show ((P.length + (u :: r).length : Nat) : Int) - 1 = ((P.length + r.length : Nat) : Int) by simp; omega, List.append_assoc, ih]
    simp
theorem SM_Op_L0 (data : List Op) (a b : Int) (cmp : Op → Op → Int) : ∀ (f : Nat) (i j : Int), (j - i).toNat < f →
    slices_symMergeCmpFunc_Op_L0 data a b cmp f i j = slices_symMergeCmpFunc_Op_L1 (bsearch (fun h => decide (cmp (gt data h.toNat) (gt data a.toNat) < 0)) f i j) ((b - a).toNat + 1) data a
  | 0, _, _, h => by omega
  | f + 1, i, j, h => by
    rw [slices_symMergeCmpFunc_Op_L0, bsearch]
    cases hc : decide (i < j) with
    | false => rfl
    | true =>
      have hc := of_decide_eq_true hc
      simp only [cond_true]
      cases decide (cmp (gt data ((i + j) / 2).toNat) (gt data a.toNat) < 0) with
      | true => simp only [cond_true]; exact SM_Op_L0 data a b cmp f _ _ (by omega)
      | false => simp only [cond_false]; exact SM_Op_L0 data a b cmp f _ _ (by omega)
theorem SM_Op_L2 (data : List Op) (a m : Int) (cmp : Op → Op → Int) : ∀ (f : Nat) (i j : Int), (j - i).toNat < f →
    slices_symMergeCmpFunc_Op_L2 data a m cmp f i j = slices_symMergeCmpFunc_Op_L3 (bsearch (fun h => !decide (cmp (gt data m.toNat) (gt data h.toNat) < 0)) f i j) ((m - a).toNat + 1) data m
  | 0, _, _, h => by omega
  | f + 1, i, j, h => by
    rw [slices_symMergeCmpFunc_Op_L2, bsearch]
    cases hc : decide (i < j) with
    | false => rfl
    | true =>
      have hc := of_decide_eq_true hc
      simp only [cond_true]
      cases decide (cmp (gt data m.toNat) (gt data ((i + j) / 2).toNat) < 0) with
      | true => simp only [Bool.not_true, cond_false]; exact SM_Op_L2 data a m cmp f _ _ (by omega)
      | false => simp only [Bool.not_false, cond_true]; exact SM_Op_L2 data a m cmp f _ _ (by omega)
theorem SM_Op_L4 (data : List Op) (a m b : Int) (cmp : Op → Op → Int) : ∀ (f : Nat) (i j : Int),
    slices_symMergeCmpFunc_Op_L4 data a m b cmp f i j = bsearch (fun c => !decide (cmp (gt data ((a + b) / 2 + m - 1 - c).toNat) (gt data c.toNat) < 0)) f i j
  | 0, _, _ => rfl
  | f + 1, i, j => by
    rw [slices_symMergeCmpFunc_Op_L4, bsearch, SM_Op_L4 data a m b cmp f, SM_Op_L4 data a m b cmp f]
theorem SM_Op (cmp : Op → Op → Int) (lt : Op → Op → Bool) (hlt : ∀ a b, decide (cmp a b < 0) = lt a b) (htr : ∀ a b c, lt c b = false → lt b a = false → lt c a = false) (has : ∀ a b, lt a b = true → lt b a = false) : ∀ (k : Nat) (P U V S : List Op) (a m b : Int),
    1 ≤ U.length → 1 ≤ V.length → a = (P.length : Int) → m = ((P.length + U.length : Nat) : Int) → b = ((P.length + U.length + V.length : Nat) : Int) → U.length + V.length < k → Sorted lt U → Sorted lt V →
    ∃ W, slices_symMergeCmpFunc_Op k (P ++ (U ++ (V ++ S))) a m b cmp = P ++ (W ++ S) ∧ W.Perm (U ++ V) ∧ Sorted lt W
  | 0, _, _, _, _, _, _, _, _, _, _, _, _, h, _, _ => by omega
  | k + 1, P, U, V, S, a, m, b, hu, hv, ha, hm, hb, hk, sU, sV => by
    have gU : ∀ i : Int, a ≤ i → i < m → gt (P ++ (U ++ (V ++ S))) i.toNat = gt U (i - a).toNat := fun i h1 h2 => by
      rw [gt_app P U (V ++ S) i.toNat (by omega) (by omega)]; congr 1; omega
    have gV : ∀ i : Int, m ≤ i → i < b → gt (P ++ (U ++ (V ++ S))) i.toNat = gt V (i - m).toNat := fun i h1 h2 => by
      rw [← List.append_assoc P, gt_app (P ++ U) V S i.toNat (by simp; omega) (by simp; omega)]; congr 1; simp; omega
    rw [slices_symMergeCmpFunc_Op]
    cases h1 : (m - a == 1) with
    | true =>
      have h1 := eq_of_beq h1
      simp only [cond_true]
      obtain ⟨x, rfl⟩ : ∃ x, U = [x] := List.length_eq_one_iff.1 (by omega)
      rw [SM_Op_L0 _ a b cmp _ _ _ (by omega)]
      have ga : gt (P ++ ([x] ++ (V ++ S))) a.toNat = x := by rw [gU a (by omega) (by omega)]; simp [gt]
      rw [ga]
      obtain ⟨q1, q2, q3, q4⟩ := bsearch_spec (fun h => decide (cmp (gt (P ++ ([x] ++ (V ++ S))) h.toNat) x < 0)) ((b - m).toNat + 1) m b (by omega) (by omega) (fun z w hz hzw hw hp => by
        try simp only at hp ⊢
        rw [gV z hz (by omega)]
        rw [gV w (by omega) hw] at hp
        rw [hlt] at hp ⊢
        cases hh : lt (gt V (z - m).toNat) x with
        | true => rfl
        | false => rw [htr _ _ _ (sorted_gt has sV (i := (z - m).toNat) (j := (w - m).toNat) (by omega) (by omega)) hh] at hp; cases hp)
      generalize bsearch (fun h => decide (cmp (gt (P ++ ([x] ++ (V ++ S))) h.toNat) x < 0)) ((b - m).toNat + 1) m b = r at *
      have hV : V = V.take (r - m).toNat ++ V.drop (r - m).toNat := (List.take_append_drop _ _).symm
      refine ⟨V.take (r - m).toNat ++ x :: V.drop (r - m).toNat, ?_, ?_, ?_⟩
      · have := SM_Op_L1 r (V.take (r - m).toNat) P (V.drop (r - m).toNat ++ S) x ((b - a).toNat + 1) (by simp; omega) (by simp; omega)
        rw [← List.append_assoc (V.take _), List.take_append_drop] at this
        rw [ha]
        simp only [List.cons_append, List.nil_append]
        rw [ha] at this
        rw [this]; simp
      · refine List.perm_middle.trans ?_
        rw [List.take_append_drop]; exact .refl _
      · have sV' := sV
        unfold Sorted at sV'
        rw [hV] at sV'
        obtain ⟨p1, p2, p3⟩ := List.pairwise_append.1 sV'
        refine List.pairwise_append.2 ⟨p1, List.pairwise_cons.2 ⟨fun v hv9 => ?_, p2⟩, fun v hv9 w hw => ?_⟩
        · obtain ⟨i, hi1, hi2, rfl⟩ := mem_drop_gt hv9
          have := q4 (m + i) (by omega) (by omega)
          rw [gV (m + i) (by omega) (by omega), hlt] at this
          rw [show (m + (i : Int) - m).toNat = i by omega] at this
          exact this
        · rcases List.mem_cons.1 hw with rfl | hw
          · obtain ⟨i, hi1, hi2, rfl⟩ := mem_take_gt hv9
            have := q3 (m + i) (by omega) (by omega)
            rw [gV (m + i) (by omega) (by omega), hlt] at this
            rw [show (m + (i : Int) - m).toNat = i by omega] at this
            exact has _ _ this
          · exact p3 v hv9 w hw
    | false =>
      simp only [cond_false]
      have h1 : ¬ m - a = 1 := by simpa using h1
      cases h2 : (b - m == 1) with
      | true =>
        have h2 := eq_of_beq h2
        simp only [cond_true]
        obtain ⟨y, rfl⟩ : ∃ y, V = [y] := List.length_eq_one_iff.1 (by omega)
        rw [SM_Op_L2 _ a m cmp _ _ _ (by omega)]
        have gm : gt (P ++ (U ++ ([y] ++ S))) m.toNat = y := by rw [gV m (by omega) (by omega)]; simp [gt]
        rw [gm]
        obtain ⟨q1, q2, q3, q4⟩ := bsearch_spec (fun h => !decide (cmp y (gt (P ++ (U ++ ([y] ++ S))) h.toNat) < 0)) ((m - a).toNat + 1) a m (by omega) (by omega) (fun z w hz hzw hw hp => by
          try simp only at hp ⊢
          rw [gU z hz (by omega)]
          rw [gU w (by omega) hw] at hp
          rw [hlt] at hp ⊢
          have hp : lt y (gt U (w - a).toNat) = false := by simpa using hp
          rw [htr _ _ _ hp (sorted_gt has sU (i := (z - a).toNat) (j := (w - a).toNat) (by omega) (by omega))]; rfl)
        generalize bsearch (fun h => !decide (cmp y (gt (P ++ (U ++ ([y] ++ S))) h.toNat) < 0)) ((m - a).toNat + 1) a m = r at *
        have hU : U = U.take (r - a).toNat ++ U.drop (r - a).toNat := (List.take_append_drop _ _).symm
        refine ⟨U.take (r - a).toNat ++ y :: U.drop (r - a).toNat, ?_, ?_, ?_⟩
        · have := SM_Op_L3 r (P ++ U.take (r - a).toNat) (by simp; omega) (U.drop (r - a).toNat).reverse S y ((m - a).toNat + 1) (by simp; omega)
          rw [List.reverse_reverse] at this
          have e1 : P ++ U.take (r - a).toNat ++ (U.drop (r - a).toNat ++ y :: S) = P ++ (U ++ ([y] ++ S)) := by
            rw [List.append_assoc P, ← List.append_assoc (U.take _), List.take_append_drop]; rfl
          have e2 : (((P ++ U.take (r - a).toNat).length + (U.drop (r - a).toNat).reverse.length : Nat) : Int) = m := by simp; omega
          rw [e1, e2] at this
          rw [this]; simp
        · refine List.perm_middle.trans ?_
          rw [List.take_append_drop]
          exact (List.perm_append_comm (l₁ := [y]) (l₂ := U))
        · have sU' := sU
          unfold Sorted at sU'
          rw [hU] at sU'
          obtain ⟨p1, p2, p3⟩ := List.pairwise_append.1 sU'
          refine List.pairwise_append.2 ⟨p1, List.pairwise_cons.2 ⟨fun v hv9 => ?_, p2⟩, fun v hv9 w hw => ?_⟩
          · obtain ⟨i, hi1, hi2, rfl⟩ := mem_drop_gt hv9
            have := q4 (a + i) (by omega) (by omega)
            rw [gU (a + i) (by omega) (by omega), hlt] at this
            rw [show (a + (i : Int) - a).toNat = i by omega] at this
            exact has _ _ (by simpa using this)
          · rcases List.mem_cons.1 hw with rfl | hw
            · obtain ⟨i, hi1, hi2, rfl⟩ := mem_take_gt hv9
              have := q3 (a + i) (by omega) (by omega)
              rw [gU (a + i) (by omega) (by omega), hlt] at this
              rw [show (a + (i : Int) - a).toNat = i by omega] at this
              simpa using this
            · exact p3 v hv9 w hw
      | false =>
        simp only [cond_false]
        have h2 : ¬ b - m = 1 := by simpa using h2
        have hV8 : a ≤ (slices_symMergeCmpFunc_Op_V8 a m b).1 ∧ (slices_symMergeCmpFunc_Op_V8 a m b).1 ≤ (slices_symMergeCmpFunc_Op_V8 a m b).2 ∧ (slices_symMergeCmpFunc_Op_V8 a m b).2 ≤ m ∧ (slices_symMergeCmpFunc_Op_V8 a m b).2 ≤ (a + b) / 2 ∧ (a + b) / 2 + m - (slices_symMergeCmpFunc_Op_V8 a m b).1 ≤ b ∧
            ((slices_symMergeCmpFunc_Op_V8 a m b).1 = a ∨ (slices_symMergeCmpFunc_Op_V8 a m b).1 = (a + b) / 2 + m - b) ∧ ((slices_symMergeCmpFunc_Op_V8 a m b).2 = m ∨ (slices_symMergeCmpFunc_Op_V8 a m b).2 = (a + b) / 2) := by
          unfold slices_symMergeCmpFunc_Op_V8
          cases hc : decide (m > (a + b) / 2) with
          | true => have hc := of_decide_eq_true hc; exact ⟨by simp only [cond_true]; omega, by simp only [cond_true]; omega, by simp only [cond_true]; omega, by simp only [cond_true]; omega, by simp only [cond_true]; omega, .inr rfl, .inr rfl⟩
          | false => have hc := of_decide_eq_false hc; exact ⟨by simp only [cond_false]; omega, by simp only [cond_false]; omega, by simp only [cond_false]; omega, by simp only [cond_false]; omega, by simp only [cond_false]; omega, .inl rfl, .inl rfl⟩
        unfold slices_symMergeCmpFunc_Op_V11
        rw [SM_Op_L4]
        generalize (slices_symMergeCmpFunc_Op_V8 a m b).1 = lo at *
        generalize (slices_symMergeCmpFunc_Op_V8 a m b).2 = hi at *
        obtain ⟨w1, w2, w3, w4, w5, w6, w7⟩ := hV8
        obtain ⟨q1, q2, q3, q4⟩ := bsearch_spec (fun c => !decide (cmp (gt (P ++ (U ++ (V ++ S))) ((a + b) / 2 + m - 1 - c).toNat) (gt (P ++ (U ++ (V ++ S))) c.toNat) < 0)) ((b - a).toNat + 1) lo hi w2 (by omega) (fun z w hz hzw hw hp => by
          try simp only at hp ⊢
          rw [gU z (by omega) (by omega), gV _ (by omega) (by omega)]
          rw [gU w (by omega) (by omega), gV _ (by omega) (by omega)] at hp
          rw [hlt] at hp ⊢
          have hp : lt (gt V ((a + b) / 2 + m - 1 - w - m).toNat) (gt U (w - a).toNat) = false := by simpa using hp
          have hp2 := htr _ _ _ (sorted_gt has sV (i := ((a + b) / 2 + m - 1 - w - m).toNat) (j := ((a + b) / 2 + m - 1 - z - m).toNat) (by omega) (by omega)) hp
          rw [htr _ _ _ hp2 (sorted_gt has sU (i := (z - a).toNat) (j := (w - a).toNat) (by omega) (by omega))]; rfl)
        generalize bsearch (fun c => !decide (cmp (gt (P ++ (U ++ (V ++ S))) ((a + b) / 2 + m - 1 - c).toNat) (gt (P ++ (U ++ (V ++ S))) c.toNat) < 0)) ((b - a).toNat + 1) lo hi = s at *
        have hU : U = U.take (s - a).toNat ++ U.drop (s - a).toNat := (List.take_append_drop _ _).symm
        have hV : V = V.take ((a + b) / 2 - s).toNat ++ V.drop ((a + b) / 2 - s).toNat := (List.take_append_drop _ _).symm
        have lU1 : (U.take (s - a).toNat).length = (s - a).toNat := by simp; omega
        have lU2 : (U.drop (s - a).toNat).length = (m - s).toNat := by simp; omega
        have lV1 : (V.take ((a + b) / 2 - s).toNat).length = ((a + b) / 2 - s).toNat := by simp; omega
        have lV2 : (V.drop ((a + b) / 2 - s).toNat).length = (b - ((a + b) / 2 + m - s)).toNat := by simp; omega
        have c1 : ∀ u ∈ U.take (s - a).toNat, ∀ v ∈ V.drop ((a + b) / 2 - s).toNat, lt v u = false := fun u hu' v hv' => by
          obtain ⟨i, hi1, hi2, rfl⟩ := mem_take_gt hu'
          obtain ⟨j, hj1, hj2, rfl⟩ := mem_drop_gt hv'
          have hs : lo < s := by rcases w6 with w6 | w6 <;> omega
          have := q3 (s - 1) (by omega) (by omega)
          rw [gU (s - 1) (by omega) (by omega), gV _ (by omega) (by omega), hlt] at this
          have this : lt (gt V ((a + b) / 2 + m - 1 - (s - 1) - m).toNat) (gt U (s - 1 - a).toNat) = false := by simpa using this
          exact htr _ _ _ (htr _ _ _ (sorted_gt has sV (i := ((a + b) / 2 + m - 1 - (s - 1) - m).toNat) (j := j) (by omega) hj2) this) (sorted_gt has sU (i := i) (j := (s - 1 - a).toNat) (by omega) (by omega))
        have c2 : ∀ v ∈ V.take ((a + b) / 2 - s).toNat, ∀ u ∈ U.drop (s - a).toNat, lt u v = false := fun v hv' u hu' => by
          obtain ⟨j, hj1, hj2, rfl⟩ := mem_take_gt hv'
          obtain ⟨i, hi1, hi2, rfl⟩ := mem_drop_gt hu'
          have hs : s < hi := by rcases w7 with w7 | w7 <;> omega
          have := q4 s (by omega) hs
          rw [gU s (by omega) (by omega), gV _ (by omega) (by omega), hlt] at this
          have this : lt (gt V ((a + b) / 2 + m - 1 - s - m).toNat) (gt U (s - a).toNat) = true := by simpa using this
          exact htr _ _ _ (htr _ _ _ (sorted_gt has sU (i := (s - a).toNat) (j := i) (by omega) hi2) (has _ _ this)) (sorted_gt has sV (i := j) (j := ((a + b) / 2 + m - 1 - s - m).toNat) (by omega) (by omega))
        have sU' := sU
        have sV' := sV
        unfold Sorted at sU' sV'
        rw [hU] at sU'
        rw [hV] at sV'
        obtain ⟨u1, u2, u3⟩ := List.pairwise_append.1 sU'
        obtain ⟨v1, v2, v3⟩ := List.pairwise_append.1 sV'
        have hrot : (bif (decide (s < m) && decide (m < (a + b) / 2 + m - s)) then slices_rotateCmpFunc_Op (P ++ (U ++ (V ++ S))) s m ((a + b) / 2 + m - s) cmp else P ++ (U ++ (V ++ S))) = P ++ (U.take (s - a).toNat ++ (V.take ((a + b) / 2 - s).toNat ++ (U.drop (s - a).toNat ++ (V.drop ((a + b) / 2 - s).toNat ++ S)))) := by
          cases hc : (decide (s < m) && decide (m < (a + b) / 2 + m - s)) with
          | true =>
            simp only [Bool.and_eq_true, decide_eq_true_eq] at hc
            have := RT_Op (P ++ U.take (s - a).toNat) (U.drop (s - a).toNat) (V.take ((a + b) / 2 - s).toNat) (V.drop ((a + b) / 2 - s).toNat ++ S) s m ((a + b) / 2 + m - s) cmp (by omega) (by omega) (by simp; omega) (by simp; omega) (by simp; omega)
            have e1 : P ++ U.take (s - a).toNat ++ (U.drop (s - a).toNat ++ (V.take ((a + b) / 2 - s).toNat ++ (V.drop ((a + b) / 2 - s).toNat ++ S))) = P ++ (U ++ (V ++ S)) := by
              rw [List.append_assoc P, ← List.append_assoc (U.take _), List.take_append_drop, ← List.append_assoc (V.take _), List.take_append_drop]
            rw [e1] at this
            rw [cond_true, this]; simp
          | false =>
            simp only [Bool.and_eq_false_iff, decide_eq_false_iff_not] at hc
            rw [cond_false]
            rcases hc with hc | hc
            · have e : U.drop (s - a).toNat = [] := List.length_eq_zero_iff.1 (by omega)
              have e' : U.take (s - a).toNat = U := List.take_of_length_le (by omega)
              rw [e, e', List.nil_append, ← List.append_assoc (V.take _), List.take_append_drop]
            · have e : V.take ((a + b) / 2 - s).toNat = [] := List.length_eq_zero_iff.1 (by omega)
              have e' : V.drop ((a + b) / 2 - s).toNat = V := by rw [show ((a + b) / 2 - s).toNat = 0 by omega]; rfl
              rw [e, e', List.nil_append, ← List.append_assoc (U.take _), List.take_append_drop]
        rw [hrot]
        obtain ⟨W1, hW1, pW1, sW1⟩ : ∃ W1, (bif (decide (a < s) && decide (s < (a + b) / 2)) then slices_symMergeCmpFunc_Op k (P ++ (U.take (s - a).toNat ++ (V.take ((a + b) / 2 - s).toNat ++ (U.drop (s - a).toNat ++ (V.drop ((a + b) / 2 - s).toNat ++ S))))) a s ((a + b) / 2) cmp else P ++ (U.take (s - a).toNat ++ (V.take ((a + b) / 2 - s).toNat ++ (U.drop (s - a).toNat ++ (V.drop ((a + b) / 2 - s).toNat ++ S))))) = P ++ (W1 ++ (U.drop (s - a).toNat ++ (V.drop ((a + b) / 2 - s).toNat ++ S))) ∧ W1.Perm (U.take (s - a).toNat ++ V.take ((a + b) / 2 - s).toNat) ∧ Sorted lt W1 := by
          cases hc : (decide (a < s) && decide (s < (a + b) / 2)) with
          | true =>
            simp only [Bool.and_eq_true, decide_eq_true_eq] at hc
            rw [cond_true]
            exact SM_Op cmp lt hlt htr has k P (U.take (s - a).toNat) (V.take ((a + b) / 2 - s).toNat) _ a s ((a + b) / 2) (by omega) (by omega) ha (by omega) (by omega) (by omega) u1 v1
          | false =>
            simp only [Bool.and_eq_false_iff, decide_eq_false_iff_not] at hc
            refine ⟨U.take (s - a).toNat ++ V.take ((a + b) / 2 - s).toNat, by rw [cond_false]; simp, .refl _, ?_⟩
            rcases hc with hc | hc
            · have e : U.take (s - a).toNat = [] := List.length_eq_zero_iff.1 (by omega)
              rw [e]; exact v1
            · have e : V.take ((a + b) / 2 - s).toNat = [] := List.length_eq_zero_iff.1 (by omega)
              rw [e, List.append_nil]; exact u1
        have lW1 : W1.length = ((a + b) / 2 - a).toNat := by rw [pW1.length_eq]; simp only [List.length_append]; omega
        obtain ⟨W2, hW2, pW2, sW2⟩ : ∃ W2, (bif (decide ((a + b) / 2 < (a + b) / 2 + m - s) && decide ((a + b) / 2 + m - s < b)) then slices_symMergeCmpFunc_Op k (P ++ (W1 ++ (U.drop (s - a).toNat ++ (V.drop ((a + b) / 2 - s).toNat ++ S)))) ((a + b) / 2) ((a + b) / 2 + m - s) b cmp else P ++ (W1 ++ (U.drop (s - a).toNat ++ (V.drop ((a + b) / 2 - s).toNat ++ S)))) = P ++ (W1 ++ (W2 ++ S)) ∧ W2.Perm (U.drop (s - a).toNat ++ V.drop ((a + b) / 2 - s).toNat) ∧ Sorted lt W2 := by
          cases hc : (decide ((a + b) / 2 < (a + b) / 2 + m - s) && decide ((a + b) / 2 + m - s < b)) with
          | true =>
            simp only [Bool.and_eq_true, decide_eq_true_eq] at hc
            rw [cond_true]
            obtain ⟨W2, g1, g2, g3⟩ := SM_Op cmp lt hlt htr has k (P ++ W1) (U.drop (s - a).toNat) (V.drop ((a + b) / 2 - s).toNat) S ((a + b) / 2) ((a + b) / 2 + m - s) b (by omega) (by omega) (by simp; omega) (by simp; omega) (by simp; omega) (by omega) u2 v2
            exact ⟨W2, by rw [List.append_assoc, List.append_assoc] at g1; exact g1, g2, g3⟩
          | false =>
            simp only [Bool.and_eq_false_iff, decide_eq_false_iff_not] at hc
            refine ⟨U.drop (s - a).toNat ++ V.drop ((a + b) / 2 - s).toNat, by rw [cond_false]; simp, .refl _, ?_⟩
            rcases hc with hc | hc
            · have e : U.drop (s - a).toNat = [] := List.length_eq_zero_iff.1 (by omega)
              rw [e]; exact v2
            · have e : V.drop ((a + b) / 2 - s).toNat = [] := List.length_eq_zero_iff.1 (by omega)
              rw [e, List.append_nil]; exact u2
        refine ⟨W1 ++ W2, ?_, ?_, ?_⟩
        · rw [List.append_assoc, ← hW2, ← hW1]
          cases (decide (a < s) && decide (s < (a + b) / 2)) <;> cases (decide ((a + b) / 2 < (a + b) / 2 + m - s) && decide ((a + b) / 2 + m - s < b)) <;> rfl
        · refine (pW1.append pW2).trans ?_
          conv => rhs; rw [hU, hV]
          simp only [List.append_assoc]
          refine List.Perm.append_left _ ?_
          rw [← List.append_assoc, ← List.append_assoc]
          exact List.Perm.append_right _ List.perm_append_comm
        · refine List.pairwise_append.2 ⟨sW1, sW2, fun x hx y hy => ?_⟩
          have hx := pW1.mem_iff.1 hx
          have hy := pW2.mem_iff.1 hy
          rcases List.mem_append.1 hx with hx | hx <;> rcases List.mem_append.1 hy with hy | hy
          · exact u3 x hx y hy
          · exact c1 x hx y hy
          · exact c2 x hx y hy
          · exact v3 x hx y hy
end Go.Proofs.Ytchdacbjiomplaa
