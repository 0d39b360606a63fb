/- Part of this claim. No condition. -/
import Derived.Test.YtchdacbjiomplaaLPdqA
set_option linter.unusedVariables false
set_option linter.unusedSimpArgs false
set_option maxHeartbeats 2000000
namespace Go.Proofs.Ytchdacbjiomplaa
open Go Go.Proofs.Ytchdacbjiomplaa.Fw Go.Proofs
structure PartOK (cmp : Place → Place → Int) (e : List Place) (a b : Int) (v : Place) (m : Int) (d' : List Place) : Prop where
  r : Rearr e d' a b
  hm : a ≤ m ∧ m < b
  hv : At d' m = v
  lo : ∀ x, a ≤ x → x < m → cmp (At d' x) v < 0
  hi : ∀ x, m < x → x < b → ¬ cmp (At d' x) v < 0
theorem part_fin {cmp : Place → Place → Int} {e d : List Place} {a b i j : Int} {v : Place} (hr : Rearr e d a b) (h0 : 0 ≤ a ∧ b ≤ e.length) (hv : At d a = v) (hj : a ≤ j ∧ j < b) (hij : i > j)
    (lo : ∀ x, a < x → x < i → cmp (At d x) v < 0) (hi : ∀ x, j < x → x < b → ¬ cmp (At d x) v < 0) : PartOK cmp e a b v j (swapL d j a) := by
  have hl := hr.len
  have hs : ∀ x, 0 ≤ x → At (swapL d j a) x = if x = a then At d j else if x = j then At d a else At d x := fun x h => at_swap d j a x (by omega) (by omega) h
  refine ⟨hr.trans (Rearr.swap d h0.1 hj (by omega) (by omega)), hj, ?_, fun x h1 h2 => ?_, fun x h1 h2 => ?_⟩
  · rw [hs j (by omega)]
    by_cases h : j = a
    · rw [if_pos h, h]; exact hv
    · rw [if_neg h, if_pos rfl]; exact hv
  · rw [hs x (by omega)]
    by_cases h : x = a
    · rw [if_pos h]; exact lo j (by omega) (by omega)
    · rw [if_neg h, if_neg (by omega)]; exact lo x (by omega) (by omega)
  · rw [hs x (by omega), if_neg (by omega), if_neg (by omega)]; exact hi x h1 h2
theorem pt_L2 (data : List Place) (a b pv : Int) (cmp : Place → Place → Int) {e : List Place} {v : Place} (h0 : 0 ≤ a ∧ b ≤ e.length) : ∀ (f : Nat) (d : List Place) (i j : Int), Rearr e d a b → At d a = v → a + 2 ≤ i ∧ i ≤ j + 2 ∧ j ≤ b - 2 →
    (∀ x, a < x → x < i → cmp (At d x) v < 0) → (∀ x, j < x → x < b → ¬ cmp (At d x) v < 0) → (j + 2 - i).toNat < f →
    PartOK cmp e a b v (slices_partitionCmpFunc_Place_L2 data a b pv cmp f d i j).1 (slices_partitionCmpFunc_Place_L2 data a b pv cmp f d i j).2.2
  | 0, _, _, _, _, _, _, _, _, h => by omega
  | f + 1, d, i, j, hr, hv, hij, lo, hi, h => by
    rw [slices_partitionCmpFunc_Place_L2, pt_L4, pt_L3]
    have u1 := up_spec (fun x => decide (cmp (At d x) (At d a) < 0)) j ((j + 1 - i).toNat + 1) i (by omega)
    generalize up (fun x => decide (cmp (At d x) (At d a) < 0)) j ((j + 1 - i).toNat + 1) i = I at u1 ⊢
    have d1 := dn_spec (fun x => !decide (cmp (At d x) (At d a) < 0)) I ((j - I + 1).toNat + 1) j (by omega)
    generalize dn (fun x => !decide (cmp (At d x) (At d a) < 0)) I ((j - I + 1).toNat + 1) j = J at d1 ⊢
    obtain ⟨u1, u2, u3, u4⟩ := u1
    obtain ⟨d1, d2, d3, d4⟩ := d1
    simp only [hv, decide_eq_true_eq, decide_eq_false_iff_not, Bool.not_eq_true', Bool.not_eq_false'] at u3 u4 d3 d4
    have hl := hr.len
    by_cases hc : I > J
    · rw [decide_eq_true hc, cond_true]
      exact part_fin hr h0 hv (by omega) hc (fun x h1 h2 => if hx : x < i then lo x h1 hx else u3 x (by omega) h2) (fun x h1 h2 => if hx : x ≤ j then d3 x h1 hx else hi x (by omega) h2)
    · rw [decide_eq_false hc, cond_false]
      have hne : I ≠ J := fun h => u4 (by omega) (by rw [h]; exact d4 (by omega))
      have hs : ∀ x, 0 ≤ x → At (swapL d I J) x = if x = J then At d I else if x = I then At d J else At d x := fun x h => at_swap d I J x (by omega) (by omega) h
      refine pt_L2 data a b pv cmp h0 f (swapL d I J) (I + 1) (J - 1) (hr.trans (Rearr.swap d h0.1 (by omega) (by omega) (by omega))) ?_ (by omega) (fun x h1 h2 => ?_) (fun x h1 h2 => ?_) (by omega)
      · rw [hs a h0.1, if_neg (by omega), if_neg (by omega)]; exact hv
      · rw [hs x (by omega), if_neg (by omega)]
        by_cases hx : x = I
        · rw [if_pos hx]; exact d4 (by omega)
        · rw [if_neg hx]; exact if hy : x < i then lo x h1 hy else u3 x (by omega) (by omega)
      · rw [hs x (by omega)]
        by_cases hx : x = J
        · rw [if_pos hx]; exact u4 (by omega)
        · rw [if_neg hx, if_neg (by omega)]; exact if hy : x ≤ j then d3 x (by omega) hy else hi x (by omega) h2
theorem pt_main (data : List Place) (a b pv : Int) (cmp : Place → Place → Int) (h : 0 ≤ a ∧ a + 1 < b ∧ b ≤ data.length) (hp : a ≤ pv ∧ pv < b) :
    PartOK cmp data a b (At data pv) (slices_partitionCmpFunc_Place data a b pv cmp).1 (slices_partitionCmpFunc_Place data a b pv cmp).2.2 := by
  have hr : Rearr data (swapL data a pv) a b := Rearr.swap data h.1 (by omega) hp h.2.2
  have hv : At (swapL data a pv) a = At data pv := by
    rw [at_swap data a pv a (by omega) (by omega) h.1]
    by_cases e : a = pv
    · rw [if_pos e, e]
    · rw [if_neg e, if_pos rfl]
  unfold slices_partitionCmpFunc_Place
  rw [pt_L1, pt_L0]
  have hl := hr.len
  have e0 : (data.set a.toNat (gt data pv.toNat)).set pv.toNat (gt data a.toNat) = swapL data a pv := rfl
  rw [e0]
  generalize swapL data a pv = d at hr hv hl ⊢
  have u1 := up_spec (fun x => decide (cmp (At d x) (At d a) < 0)) (b - 1) ((b - (a + 1)).toNat + 1) (a + 1) (by omega)
  generalize up (fun x => decide (cmp (At d x) (At d a) < 0)) (b - 1) ((b - (a + 1)).toNat + 1) (a + 1) = I at u1 ⊢
  have d1 := dn_spec (fun x => !decide (cmp (At d x) (At d a) < 0)) I ((b - 1 - I + 1).toNat + 1) (b - 1) (by omega)
  generalize dn (fun x => !decide (cmp (At d x) (At d a) < 0)) I ((b - 1 - I + 1).toNat + 1) (b - 1) = J at d1 ⊢
  obtain ⟨u1, u2, u3, u4⟩ := u1
  obtain ⟨d1, d2, d3, d4⟩ := d1
  simp only [hv, decide_eq_true_eq, decide_eq_false_iff_not, Bool.not_eq_true', Bool.not_eq_false'] at u3 u4 d3 d4
  by_cases hc : I > J
  · rw [decide_eq_true hc, cond_true]
    exact part_fin hr ⟨h.1, h.2.2⟩ hv (by omega) hc (fun x h1 h2 => u3 x (by omega) h2) (fun x h1 h2 => d3 x h1 (by omega))
  · rw [decide_eq_false hc, cond_false]
    have hne : I ≠ J := fun h => u4 (by omega) (by rw [h]; exact d4 (by omega))
    have hs : ∀ x, 0 ≤ x → At (swapL d I J) x = if x = J then At d I else if x = I then At d J else At d x := fun x h => at_swap d I J x (by omega) (by omega) h
    refine pt_L2 data a b pv cmp ⟨h.1, h.2.2⟩ _ (swapL d I J) (I + 1) (J - 1) (hr.trans (Rearr.swap d h.1 (by omega) (by omega) (by omega))) ?_ (by omega) (fun x h1 h2 => ?_) (fun x h1 h2 => ?_) (by omega)
    · rw [hs a h.1, if_neg (by omega), if_neg (by omega)]; exact hv
    · rw [hs x (by omega), if_neg (by omega)]
      by_cases hx : x = I
      · rw [if_pos hx]; exact d4 (by omega)
      · rw [if_neg hx]; exact u3 x (by omega) (by omega)
    · rw [hs x (by omega)]
      by_cases hx : x = J
      · rw [if_pos hx]; exact u4 (by omega)
      · rw [if_neg hx, if_neg (by omega)]; exact d3 x (by omega) (by omega)
end Go.Proofs.Ytchdacbjiomplaa
