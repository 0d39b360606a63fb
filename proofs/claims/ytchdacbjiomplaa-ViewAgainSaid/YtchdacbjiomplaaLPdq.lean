/- Part of this claim. No condition. -/
import Derived.Test.YtchdacbjiomplaaLPdqC
set_option linter.unusedVariables false
set_option linter.unusedSimpArgs false
set_option maxHeartbeats 2000000
namespace Go.Proofs.Ytchdacbjiomplaa
open Go Go.Proofs.Ytchdacbjiomplaa.Fw Go.Proofs
/-- what one round of the sort makes of [a,b) -/
structure Round (cmp : Place → Place → Int) (d d' : List Place) (a b m : Int) : Prop where
  r : Rearr d d' a b
  hm : a + 1 ≤ m ∧ m + 2 ≤ b
  lo : ∀ x, a ≤ x → x < m → (At d' x).node < (At d' m).node
  hi : ∀ x, m < x → x < b → (At d' m).node < (At d' x).node
theorem round_of {cmp : Place → Place → Int} {d : List Place} (g : Good cmp d) {a b : Int} (h : 0 ≤ a ∧ a + 12 < b ∧ b ≤ a + 15 ∧ b ≤ d.length) :
    Round cmp d (slices_partitionCmpFunc_Place d a b (slices_choosePivotCmpFunc_Place d a b cmp).1 cmp).2.2 a b (slices_partitionCmpFunc_Place d a b (slices_choosePivotCmpFunc_Place d a b cmp).1 cmp).1 := by
  obtain ⟨hp, -, x, y, hx, hy, h1, h2⟩ := piv_spec g h
  have pm := pt_main d a b (slices_choosePivotCmpFunc_Place d a b cmp).1 cmp (by omega) hp
  generalize (slices_choosePivotCmpFunc_Place d a b cmp).1 = pv at *
  generalize (slices_partitionCmpFunc_Place d a b pv cmp).1 = m at *
  generalize (slices_partitionCmpFunc_Place d a b pv cmp).2.2 = d' at *
  have g' := g.perm pm.r.p
  have hl := pm.r.len
  have hm := pm.hm
  have hlo : ∀ x, a ≤ x → x < m → (At d' x).node < (At d' m).node := fun x h1 h2 => (g'.lt (by omega) (by omega)).1 (by rw [pm.hv]; exact pm.lo x h1 h2)
  have hhi : ∀ x, m < x → x < b → (At d' m).node < (At d' x).node := fun x h1 h2 => by
    have a1 := pm.hi x h1 h2
    rw [← pm.hv, g'.lt (by omega) (by omega)] at a1
    have a2 : (At d' x).node ≠ (At d' m).node := fun e => by have := g'.inj (i := x) (j := m) (by omega) (by omega) e; omega
    omega
  obtain ⟨x', hx1, hx2, ex⟩ := pm.r.seg g h.1 hx (by omega)
  obtain ⟨y', hy1, hy2, ey⟩ := pm.r.seg g h.1 hy (by omega)
  rw [← ex, ← pm.hv] at h1
  rw [← ey, ← pm.hv] at h2
  refine ⟨pm.r, ⟨?_, ?_⟩, hlo, hhi⟩
  · by_cases c : x' = m
    · rw [c] at h1; omega
    · by_cases c2 : m < x'
      · have := hhi x' c2 hx2; omega
      · omega
  · by_cases c : y' = m
    · rw [c] at h2; omega
    · by_cases c2 : y' < m
      · have := hlo y' hy1 c2; omega
      · omega
theorem pdq_step (cmp : Place → Place → Int) (d : List Place) (a b l : Int) (hg : Good cmp d) (hb : Below cmp d a b) (h : 0 ≤ a ∧ a + 12 < b ∧ b ≤ a + 15 ∧ b ≤ d.length) : PdqStep cmp d a b l := by
  have R := round_of hg h
  obtain ⟨hp, hh, -⟩ := piv_spec hg h
  have g' := hg.perm R.r.p
  have hl := R.r.len
  have hm := R.hm
  have hL := is_ok g' (a := a) (b := (slices_partitionCmpFunc_Place d a b (slices_choosePivotCmpFunc_Place d a b cmp).1 cmp).1) (by omega)
  have hR := is_ok g' (a := (slices_partitionCmpFunc_Place d a b (slices_choosePivotCmpFunc_Place d a b cmp).1 cmp).1 + 1) (b := b) (by omega)
  have eL := pdq12_eq (slices_partitionCmpFunc_Place d a b (slices_choosePivotCmpFunc_Place d a b cmp).1 cmp).2.2 a (slices_partitionCmpFunc_Place d a b (slices_choosePivotCmpFunc_Place d a b cmp).1 cmp).1 l cmp
  have eR := pdq12_eq (slices_partitionCmpFunc_Place d a b (slices_choosePivotCmpFunc_Place d a b cmp).1 cmp).2.2 ((slices_partitionCmpFunc_Place d a b (slices_choosePivotCmpFunc_Place d a b cmp).1 cmp).1 + 1) b l cmp
  refine ⟨hp, hh, fun h0 => hb _ hp.1 hp.2 h0, hm, hl, fun hs => ?_, fun hs => ?_, fun hs => ?_, fun hs => ?_, fun hs => ?_, fun hs => ?_⟩
  · rw [eL (by omega)]; exact g'.perm hL.1.p
  · rw [eL (by omega)]
    intro i h1 h2 h0
    show cmp (At _ _) (At _ _) < 0
    rw [show (slices_partitionCmpFunc_Place d a b (slices_choosePivotCmpFunc_Place d a b cmp).1 cmp).1 + 1 - 1 = (slices_partitionCmpFunc_Place d a b (slices_choosePivotCmpFunc_Place d a b cmp).1 cmp).1 by omega, hL.1.o _ (by omega) (by omega), hL.1.o _ (by omega) (by omega)]
    exact (g'.lt (by omega) (by omega)).2 (R.hi i (by omega) h2)
  · rw [eR (by omega)]; exact g'.perm hR.1.p
  · rw [eR (by omega)]
    intro i h1 h2 h0
    show cmp (At _ _) (At _ _) < 0
    rw [hR.1.o _ (by omega) (by omega), hR.1.o _ (by omega) (by omega), R.r.o _ (by omega) (by omega)]
    obtain ⟨x, hx1, hx2, e⟩ := R.r.gse hg h.1 (y := i) (by omega) (by omega)
    rw [e]
    exact hb x hx1 hx2 h0
  · rw [eL (by omega), hL.1.len]; exact hl
  · rw [eR (by omega), hR.1.len]; exact hl
end Go.Proofs.Ytchdacbjiomplaa
