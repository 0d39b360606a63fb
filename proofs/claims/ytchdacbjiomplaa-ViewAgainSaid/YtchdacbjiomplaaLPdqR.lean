/- Part of this claim. No condition. -/
import Derived.Test.YtchdacbjiomplaaW74
set_option linter.unusedVariables false
set_option linter.unusedSimpArgs false
set_option maxHeartbeats 2000000
namespace Go.Proofs.Ytchdacbjiomplaa
open Go Go.Proofs.Ytchdacbjiomplaa.Fw Go.Proofs
theorem pins {cmp : Place → Place → Int} (d : List Place) (a b : Int) : ∀ (f : Nat) (i : Int), i ≤ b → slices_partialInsertionSortCmpFunc_Place_L1 d a b cmp f i = true → ∀ x, i ≤ x → x < b → ¬ cmp (At d x) (At d (x - 1)) < 0
  | 0, _, _, h => by rw [slices_partialInsertionSortCmpFunc_Place_L1] at h; cases h
  | f + 1, i, hi, h => by
    rw [slices_partialInsertionSortCmpFunc_Place_L1] at h
    intro x h1 h2
    by_cases c : i < b
    · rw [decide_eq_true c, cond_true, Bool.true_and] at h
      by_cases c2 : cmp (gt d i.toNat) (gt d (i - 1).toNat) < 0
      · rw [decide_eq_true c2, Bool.not_true, cond_false, beq_eq_false_iff_ne.2 (show i ≠ b by omega), cond_false] at h
        revert h; cases decide (b - a < 50) <;> exact fun h => by cases h
      · rw [decide_eq_false c2, Bool.not_false, cond_true] at h
        by_cases e : x = i
        · rw [e]; exact c2
        · exact pins d a b f (i + 1) (by omega) h x (by omega) h2
    · omega
theorem mono_sorted {d : List Place} {a b : Int} (h : ∀ x, a < x → x < b → (At d (x - 1)).node < (At d x).node) : ∀ (k : Nat) (x : Int), a ≤ x → x + k + 1 < b → (At d x).node < (At d (x + k + 1)).node
  | 0, x, h1, h2 => by have := h (x + 1) (by omega) (by omega); rw [show x + 1 - 1 = x by omega] at this; simpa using this
  | k + 1, x, h1, h2 => by
    have h3 := mono_sorted h k x h1 (by omega)
    have h4 := h (x + (k + 1 : Nat) + 1) (by omega) h2
    rw [show x + (k + 1 : Nat) + 1 - 1 = x + k + 1 by omega] at h4
    omega
theorem pins_sorted {cmp : Place → Place → Int} {d : List Place} (g : Good cmp d) {a b : Int} (h : 0 ≤ a ∧ a < b ∧ b ≤ d.length) (hp : slices_partialInsertionSortCmpFunc_Place d a b cmp = true) : SortedIn d a b := by
  unfold slices_partialInsertionSortCmpFunc_Place at hp
  have h1 := pins d a b _ (a + 1) (by omega) hp
  have h2 : ∀ x, a < x → x < b → (At d (x - 1)).node < (At d x).node := fun x hx hy => by
    have a1 := h1 x (by omega) hy
    rw [g.lt (by omega) (by omega)] at a1
    have a2 : (At d x).node ≠ (At d (x - 1)).node := fun e => by have := g.inj (i := x) (j := x - 1) (by omega) (by omega) e; omega
    omega
  intro x y hx hxy hy
  have := mono_sorted h2 (y - x - 1).toNat x hx (by omega)
  rw [show x + ((y - x - 1).toNat : Int) + 1 = y by omega] at this
  exact this
/-- a round, its smaller side sorted, its other side sorted then -/
theorem round_join {cmp : Place → Place → Int} {d d' e r : List Place} {a b m s t u v : Int} (g : Good cmp d) (h0 : 0 ≤ a ∧ b ≤ d.length) (R : Round cmp d d' a b m)
    (h1 : Rearr d' e s t ∧ SortedIn e s t) (h2 : Rearr e r u v ∧ SortedIn r u v) (hc : (s = a ∧ t = m ∧ u = m + 1 ∧ v = b) ∨ (s = m + 1 ∧ t = b ∧ u = a ∧ v = m)) : Rearr d r a b ∧ SortedIn r a b := by
  have hm := R.hm
  have g1 := g.perm R.r.p
  have g2 := g1.perm h1.1.p
  have l1 := R.r.len
  have l2 := h1.1.len
  have hr : Rearr d' r a b := (h1.1.mono (by omega) (by omega)).trans (h2.1.mono (by omega) (by omega))
  have hmm : At r m = At d' m := by rw [h2.1.o m (by omega) (by omega), h1.1.o m (by omega) (by omega)]
  have lo : ∀ x, a ≤ x → x < m → (At r x).node < (At r m).node := fun x hx hy => by
    rw [hmm]
    rcases hc with ⟨rfl, rfl, rfl, rfl⟩ | ⟨rfl, rfl, rfl, rfl⟩
    · rw [h2.1.o x (by omega) (by omega)]
      obtain ⟨z, z1, z2, e⟩ := h1.1.gse g1 (y := x) h0.1 ⟨hx, hy⟩ (by omega)
      rw [e]; exact R.lo z z1 z2
    · obtain ⟨z, z1, z2, e⟩ := h2.1.gse g2 (y := x) h0.1 ⟨hx, hy⟩ (by omega)
      rw [e, h1.1.o z (by omega) (by omega)]; exact R.lo z z1 z2
  have hi : ∀ x, m < x → x < b → (At r m).node < (At r x).node := fun x hx hy => by
    rw [hmm]
    rcases hc with ⟨rfl, rfl, rfl, rfl⟩ | ⟨rfl, rfl, rfl, rfl⟩
    · obtain ⟨z, z1, z2, e⟩ := h2.1.gse g2 (y := x) (by omega) ⟨by omega, hy⟩ (by omega)
      rw [e, h1.1.o z (by omega) (by omega)]; exact R.hi z (by omega) z2
    · rw [h2.1.o x (by omega) (by omega)]
      obtain ⟨z, z1, z2, e⟩ := h1.1.gse g1 (y := x) (by omega) ⟨by omega, hy⟩ (by omega)
      rw [e]; exact R.hi z (by omega) z2
  have sl : ∀ x y, a ≤ x → x < y → y < m → (At r x).node < (At r y).node := fun x y hx hxy hy => by
    rcases hc with ⟨rfl, rfl, rfl, rfl⟩ | ⟨rfl, rfl, rfl, rfl⟩
    · rw [h2.1.o x (by omega) (by omega), h2.1.o y (by omega) (by omega)]; exact h1.2 x y hx hxy hy
    · exact h2.2 x y hx hxy hy
  have sr : ∀ x y, m < x → x < y → y < b → (At r x).node < (At r y).node := fun x y hx hxy hy => by
    rcases hc with ⟨rfl, rfl, rfl, rfl⟩ | ⟨rfl, rfl, rfl, rfl⟩
    · exact h2.2 x y (by omega) hxy hy
    · rw [h2.1.o x (by omega) (by omega), h2.1.o y (by omega) (by omega)]; exact h1.2 x y (by omega) hxy hy
  refine ⟨R.r.trans hr, fun x y hx hxy hy => ?_⟩
  by_cases c1 : y < m
  · exact sl x y hx hxy c1
  · by_cases c2 : m < x
    · exact sr x y c2 hxy hy
    · have e1 : x = m ∨ (At r x).node < (At r m).node := if c : x = m then .inl c else .inr (lo x hx (by omega))
      have e2 : y = m ∨ (At r m).node < (At r y).node := if c : y = m then .inl c else .inr (hi y (by omega) hy)
      rcases e1 with e1 | e1 <;> rcases e2 with e2 | e2
      · omega
      · rw [e1]; exact e2
      · rw [e2]; exact e1
      · omega
theorem pdq_L0 {cmp : Place → Place → Int} (l : Int) : ∀ (f : Nat) (d : List Place) (a b : Int) (wp : Bool), Good cmp d → Below cmp d a b → 0 ≤ a ∧ a ≤ b ∧ b ≤ a + 15 ∧ b ≤ d.length → (12 < b - a → 1 ≤ l) → (b - a).toNat < f →
    Rearr d (slices_pdqsortCmpFunc_Place_L0 l cmp f d a b true wp) a b ∧ SortedIn (slices_pdqsortCmpFunc_Place_L0 l cmp f d a b true wp) a b
  | 0, _, _, _, _, _, _, _, _, h => by omega
  | f + 1, d, a, b, wp, g, hb, h, hl, hf => by
    rw [slices_pdqsortCmpFunc_Place_L0]
    by_cases c : b - a ≤ 12
    · rw [decide_eq_true c, cond_true]; exact is_ok g (by omega)
    · have S := pdq_step cmp d a b l g hb (by omega)
      have R := round_of g (a := a) (b := b) (by omega)
      have eh := S.hint
      have tl : ∀ T : List Place, (bif decide (a > 0) then (bif (decide (a > 0) && (!(decide ((cmp (gt d ((a - 1).toNat)) (gt d (((slices_choosePivotCmpFunc_Place d a b cmp).1).toNat))) < 0)))) then [] else T) else T) = T := fun T => by
        by_cases h0 : a > 0
        · rw [decide_eq_true h0, decide_eq_true (S.low h0)]; rfl
        · rw [decide_eq_false h0]; rfl
      rw [decide_eq_false c, cond_false, beq_eq_false_iff_ne.2 (show l ≠ 0 by omega), cond_false, Bool.not_true, cond_false, beq_eq_false_iff_ne.2 S.hint, cond_false, tl, Bool.true_and]
      obtain ⟨-, -, -, -, -, gl, bl, gr, br, ll, lr⟩ := S
      have hm := R.hm
      have l1 := R.r.len
      have g1 := g.perm R.r.p
      have ps : ∀ h : slices_partialInsertionSortCmpFunc_Place d a b cmp = true, SortedIn d a b := pins_sorted g (by omega)
      generalize (slices_choosePivotCmpFunc_Place d a b cmp).2 = hint at *
      generalize (slices_choosePivotCmpFunc_Place d a b cmp).1 = pv at *
      generalize (slices_partitionCmpFunc_Place d a b pv cmp).2.1 = wp' at *
      generalize (slices_partitionCmpFunc_Place d a b pv cmp).1 = m at *
      generalize (slices_partitionCmpFunc_Place d a b pv cmp).2.2 = d' at *
      rw [decide_eq_true (show m - a ≥ (b - a) / 8 by omega), decide_eq_true (show b - m ≥ (b - a) / 8 by omega)]
      have key : Rearr d (bif decide (m - a < b - m) then slices_pdqsortCmpFunc_Place_L0 l cmp f (slices_pdq12_Place d' a m l cmp) (m + 1) b true wp' else slices_pdqsortCmpFunc_Place_L0 l cmp f (slices_pdq12_Place d' (m + 1) b l cmp) a m true wp') a b ∧ SortedIn (bif decide (m - a < b - m) then slices_pdqsortCmpFunc_Place_L0 l cmp f (slices_pdq12_Place d' a m l cmp) (m + 1) b true wp' else slices_pdqsortCmpFunc_Place_L0 l cmp f (slices_pdq12_Place d' (m + 1) b l cmp) a m true wp') a b := by
        by_cases c2 : m - a < b - m
        · rw [decide_eq_true c2, cond_true]
          have I := is_ok g1 (a := a) (b := m) (by omega)
          have L := ll (by omega)
          have ih := pdq_L0 l f (slices_pdq12_Place d' a m l cmp) (m + 1) b wp' (gl (by omega)) (bl (by omega)) (by omega) (by omega) (by omega)
          rw [pdq12_eq d' a m l cmp (by omega)] at ih ⊢
          exact round_join g (by omega) R I ih (.inl ⟨rfl, rfl, rfl, rfl⟩)
        · rw [decide_eq_false c2, cond_false]
          have I := is_ok g1 (a := m + 1) (b := b) (by omega)
          have L := lr (by omega)
          have ih := pdq_L0 l f (slices_pdq12_Place d' (m + 1) b l cmp) a m wp' (gr (by omega)) (br (by omega)) (by omega) (by omega) (by omega)
          rw [pdq12_eq d' (m + 1) b l cmp (by omega)] at ih ⊢
          exact round_join g (by omega) R I ih (.inr ⟨rfl, rfl, rfl, rfl⟩)
      cases wp && (hint == 1) with
      | false => rw [cond_false]; exact key
      | true =>
        rw [cond_true]
        cases hp : slices_partialInsertionSortCmpFunc_Place d a b cmp with
        | true => rw [cond_true]; exact ⟨Rearr.refl d a b, ps hp⟩
        | false => rw [cond_false]; exact key
theorem sort_ok {cmp : Place → Place → Int} {d : List Place} (g : Good cmp d) (h : d.length ≤ 15) : (slices_SortFunc_Place d cmp).Perm d ∧ (slices_SortFunc_Place d cmp).Pairwise (fun p q => p.node < q.node) := by
  unfold slices_SortFunc_Place slices_pdqsortCmpFunc_Place
  have hb := bits_Len_in (n := (d.length : Int)) (by omega)
  have := pdq_L0 (bits_Len (d.length : Int)) (((d.length : Int) - 0).toNat + 1) d 0 (d.length : Int) true g (fun _ _ _ h => absurd h (by omega)) (by omega) (by omega) (by omega)
  generalize slices_pdqsortCmpFunc_Place_L0 (bits_Len (d.length : Int)) cmp (((d.length : Int) - 0).toNat + 1) d 0 (d.length : Int) true true = r at this ⊢
  refine ⟨this.1.p, List.pairwise_iff_getElem.2 fun i j hi hj hij => ?_⟩
  have hl := this.1.len
  have := this.2 i j (by omega) (by omega) (by omega)
  unfold At at this
  rw [pgt_get _ _ (by omega), pgt_get _ _ (by omega)] at this
  exact this
end Go.Proofs.Ytchdacbjiomplaa
