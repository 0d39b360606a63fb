/- Part of this claim. No condition. -/
import Derived.Test.YtchdacbjiomplaaW73a
set_option linter.unusedVariables false
set_option linter.unusedSimpArgs false
set_option maxHeartbeats 2000000
namespace Go.Proofs.Ytchdacbjiomplaa
open Go Go.Proofs.Ytchdacbjiomplaa.Fw Go.Proofs
def At (d : List Place) (i : Int) : Place := gt d i.toNat
def swapL (d : List Place) (i j : Int) : List Place := (d.set i.toNat (gt d j.toNat)).set j.toNat (gt d i.toNat)
theorem pgt_set (l : List Place) (i j : Nat) (a : Place) (h : i < l.length) : gt (l.set i a) j = if j = i then a else gt l j := by
  by_cases e : j = i
  · subst e; simp [gt, List.getD_eq_getElem?_getD, h]
  · simp [gt, List.getD_eq_getElem?_getD, List.getElem?_set_ne (Ne.symm e), e]
theorem pgt_get (l : List Place) (i : Nat) (h : i < l.length) : gt l i = l[i] := by simp [gt, List.getD_eq_getElem?_getD, h]
theorem at_swap (d : List Place) (i j x : Int) (hi : 0 ≤ i ∧ i < d.length) (hj : 0 ≤ j ∧ j < d.length) (hx : 0 ≤ x) : At (swapL d i j) x = if x = j then At d i else if x = i then At d j else At d x := by
  unfold At swapL
  rw [pgt_set _ _ _ _ (by rw [List.length_set]; omega), pgt_set _ _ _ _ (by omega)]
  by_cases h1 : x = j
  · rw [if_pos h1, if_pos (by omega)]
  · rw [if_neg h1, if_neg (by omega)]
    by_cases h2 : x = i
    · rw [if_pos h2, if_pos (by omega)]
    · rw [if_neg h2, if_neg (by omega)]
theorem swapL_perm (d : List Place) (i j : Int) (hi : 0 ≤ i ∧ i < d.length) (hj : 0 ≤ j ∧ j < d.length) : (swapL d i j).Perm d := by
  unfold swapL
  have h1 : i.toNat < d.length := by omega
  have h2 : j.toNat < d.length := by omega
  rw [pgt_get _ _ h1, pgt_get _ _ h2]
  exact List.set_set_perm h1 h2
structure Rearr (d d' : List Place) (a b : Int) : Prop where
  p : d'.Perm d
  o : ∀ i : Int, 0 ≤ i → (i < a ∨ b ≤ i) → At d' i = At d i
theorem Rearr.len {d d' : List Place} {a b : Int} (h : Rearr d d' a b) : d'.length = d.length := h.p.length_eq
theorem Rearr.refl (d : List Place) (a b : Int) : Rearr d d a b := ⟨.refl _, fun _ _ _ => rfl⟩
theorem Rearr.symm {d d' : List Place} {a b : Int} (h : Rearr d d' a b) : Rearr d' d a b := ⟨h.p.symm, fun i h0 hi => (h.o i h0 hi).symm⟩
theorem Rearr.trans {d d' e : List Place} {a b : Int} (h : Rearr d d' a b) (g : Rearr d' e a b) : Rearr d e a b := ⟨g.p.trans h.p, fun i h0 hi => (g.o i h0 hi).trans (h.o i h0 hi)⟩
theorem Rearr.mono {d d' : List Place} {a b a' b' : Int} (h : Rearr d d' a b) (ha : a' ≤ a) (hb : b ≤ b') : Rearr d d' a' b' := ⟨h.p, fun i h0 hi => h.o i h0 (by omega)⟩
theorem Rearr.swap (d : List Place) {a b i j : Int} (ha : 0 ≤ a) (hi : a ≤ i ∧ i < b) (hj : a ≤ j ∧ j < b) (hb : b ≤ d.length) : Rearr d (swapL d i j) a b :=
  ⟨swapL_perm d i j (by omega) (by omega), fun x h0 hx => by rw [at_swap d i j x (by omega) (by omega) h0, if_neg (by omega), if_neg (by omega)]⟩
theorem Good.perm {cmp : Place → Place → Int} {d d' : List Place} (h : Good cmp d) (p : d'.Perm d) : Good cmp d' :=
  ⟨fun x hx y hy => h.ord x (p.mem_iff.1 hx) y (p.mem_iff.1 hy), (p.map Place.node).nodup_iff.2 h.nd⟩
theorem at_mem (d : List Place) (i : Int) (h : 0 ≤ i ∧ i < d.length) : At d i ∈ d := by
  unfold At; rw [pgt_get _ _ (by omega)]; exact List.getElem_mem _
theorem mem_at {d : List Place} {p : Place} (h : p ∈ d) : ∃ i : Int, 0 ≤ i ∧ i < d.length ∧ At d i = p := by
  obtain ⟨i, hi, e⟩ := List.mem_iff_getElem.1 h
  exact ⟨i, by omega, by omega, by unfold At; rw [pgt_get _ _ (by omega)]; exact e⟩
theorem Good.inj {cmp : Place → Place → Int} {d : List Place} (h : Good cmp d) {i j : Int} (hi : 0 ≤ i ∧ i < d.length) (hj : 0 ≤ j ∧ j < d.length) (e : (At d i).node = (At d j).node) : i = j := by
  unfold At at e
  rw [pgt_get _ _ (by omega), pgt_get _ _ (by omega)] at e
  have h1 : i.toNat < (d.map Place.node).length := by rw [List.length_map]; omega
  have h2 : j.toNat < (d.map Place.node).length := by rw [List.length_map]; omega
  have := (List.getElem_inj (h₀ := h1) (h₁ := h2) h.nd).1 (by rw [List.getElem_map, List.getElem_map]; exact e)
  omega
theorem Good.lt {cmp : Place → Place → Int} {d : List Place} (h : Good cmp d) {i j : Int} (hi : 0 ≤ i ∧ i < d.length) (hj : 0 ≤ j ∧ j < d.length) : cmp (At d i) (At d j) < 0 ↔ (At d i).node < (At d j).node :=
  h.ord _ (at_mem d i hi) _ (at_mem d j hj)
theorem Rearr.seg {cmp : Place → Place → Int} {d d' : List Place} {a b : Int} (h : Rearr d d' a b) (g : Good cmp d) {x : Int} (h0 : 0 ≤ a) (hx : a ≤ x ∧ x < b) (hb : b ≤ d.length) : ∃ y, a ≤ y ∧ y < b ∧ At d' y = At d x := by
  obtain ⟨y, hy0, hyl, e⟩ := mem_at (h.p.mem_iff.2 (at_mem d x (by omega)))
  have hl := h.len
  by_cases ho : y < a ∨ b ≤ y
  · have := h.o y hy0 ho
    rw [e] at this
    have := g.inj (i := x) (j := y) (by omega) (by omega) (by rw [this])
    omega
  · exact ⟨y, by omega, by omega, e⟩
theorem Rearr.gse {cmp : Place → Place → Int} {d d' : List Place} {a b : Int} (h : Rearr d d' a b) (g : Good cmp d) {y : Int} (h0 : 0 ≤ a) (hy : a ≤ y ∧ y < b) (hb : b ≤ d.length) : ∃ x, a ≤ x ∧ x < b ∧ At d' y = At d x := by
  obtain ⟨x, h1, h2, h3⟩ := h.symm.seg (g.perm h.p) h0 hy (by rw [h.len]; exact hb)
  exact ⟨x, h1, h2, h3.symm⟩
-- the scans
def up (p : Int → Bool) (j : Int) : Nat → Int → Int
  | 0, _ => default
  | f + 1, i => bif decide (i ≤ j) then (bif (decide (i ≤ j) && p i) then up p j f (i + 1) else i) else i
def dn (p : Int → Bool) (i : Int) : Nat → Int → Int
  | 0, _ => default
  | f + 1, j => bif decide (i ≤ j) then (bif (decide (i ≤ j) && p j) then dn p i f (j - 1) else j) else j
theorem up_spec (p : Int → Bool) (j : Int) : ∀ (f : Nat) (i : Int), (j + 1 - i).toNat < f → i ≤ up p j f i ∧ (up p j f i ≤ j + 1 ∨ up p j f i = i) ∧ (∀ x, i ≤ x → x < up p j f i → p x = true) ∧ (up p j f i ≤ j → p (up p j f i) = false)
  | 0, _, h => by omega
  | f + 1, i, h => by
    rw [up]
    by_cases h1 : i ≤ j
    · rw [decide_eq_true h1, cond_true, Bool.true_and]
      cases hp : p i with
      | true =>
        rw [cond_true]
        have ih := up_spec p j f (i + 1) (by omega)
        refine ⟨by omega, by omega, fun x hx hy => ?_, ih.2.2.2⟩
        by_cases e : x = i
        · rw [e]; exact hp
        · exact ih.2.2.1 x (by omega) hy
      | false => rw [cond_false]; exact ⟨by omega, .inr rfl, fun x h2 h3 => by omega, fun _ => hp⟩
    · rw [decide_eq_false h1, cond_false]; exact ⟨by omega, .inr rfl, fun x h2 h3 => by omega, fun h => absurd h h1⟩
theorem dn_spec (p : Int → Bool) (i : Int) : ∀ (f : Nat) (j : Int), (j - i + 1).toNat < f → dn p i f j ≤ j ∧ (i - 1 ≤ dn p i f j ∨ dn p i f j = j) ∧ (∀ x, dn p i f j < x → x ≤ j → p x = true) ∧ (i ≤ dn p i f j → p (dn p i f j) = false)
  | 0, _, h => by omega
  | f + 1, j, h => by
    rw [dn]
    by_cases h1 : i ≤ j
    · rw [decide_eq_true h1, cond_true, Bool.true_and]
      cases hp : p j with
      | true =>
        rw [cond_true]
        have ih := dn_spec p i f (j - 1) (by omega)
        refine ⟨by omega, by omega, fun x hx hy => ?_, ih.2.2.2⟩
        by_cases e : x = j
        · rw [e]; exact hp
        · exact ih.2.2.1 x hx (by omega)
      | false => rw [cond_false]; exact ⟨by omega, .inr rfl, fun x h2 h3 => by omega, fun _ => hp⟩
    · rw [decide_eq_false h1, cond_false]; exact ⟨by omega, .inr rfl, fun x h2 h3 => by omega, fun h => absurd h h1⟩
theorem pt_L3 (data : List Place) (a b pv : Int) (cmp : Place → Place → Int) (d : List Place) (j : Int) : ∀ (f : Nat) (i : Int), slices_partitionCmpFunc_Place_L3 data a b pv cmp d j f i = up (fun x => decide (cmp (At d x) (At d a) < 0)) j f i
  | 0, _ => rfl
  | f + 1, i => by rw [slices_partitionCmpFunc_Place_L3, up, pt_L3 data a b pv cmp d j f (i + 1)]; rfl
theorem pt_L0 (data : List Place) (a b pv : Int) (cmp : Place → Place → Int) : ∀ (f : Nat) (i : Int), slices_partitionCmpFunc_Place_L0 data a b pv cmp f i = up (fun x => decide (cmp (At (swapL data a pv) x) (At (swapL data a pv) a) < 0)) (b - 1) f i
  | 0, _ => rfl
  | f + 1, i => by rw [slices_partitionCmpFunc_Place_L0, up, pt_L0 data a b pv cmp f (i + 1)]; rfl
theorem pt_L4 (data : List Place) (a b pv : Int) (cmp : Place → Place → Int) (d : List Place) (i j : Int) : ∀ (f : Nat) (x : Int), slices_partitionCmpFunc_Place_L4 data a b pv cmp d i j f x = dn (fun x => !decide (cmp (At d x) (At d a) < 0)) (up (fun x => decide (cmp (At d x) (At d a) < 0)) j ((j + 1 - i).toNat + 1) i) f x
  | 0, _ => rfl
  | f + 1, x => by rw [slices_partitionCmpFunc_Place_L4, dn, pt_L4 data a b pv cmp d i j f (x - 1), pt_L3]; rfl
theorem pt_L1 (data : List Place) (a b pv : Int) (cmp : Place → Place → Int) : ∀ (f : Nat) (x : Int), slices_partitionCmpFunc_Place_L1 data a b pv cmp f x = dn (fun x => !decide (cmp (At (swapL data a pv) x) (At (swapL data a pv) a) < 0)) (up (fun x => decide (cmp (At (swapL data a pv) x) (At (swapL data a pv) a) < 0)) (b - 1) ((b - (a + 1)).toNat + 1) (a + 1)) f x
  | 0, _ => rfl
  | f + 1, x => by rw [slices_partitionCmpFunc_Place_L1, dn, pt_L1 data a b pv cmp f (x - 1), pt_L0]; rfl
end Go.Proofs.Ytchdacbjiomplaa
