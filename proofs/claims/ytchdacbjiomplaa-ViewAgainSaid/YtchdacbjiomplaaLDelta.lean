/- Part of this claim. No condition. -/
import Derived.Test.YtchdacbjiomplaaLV
import Derived.Test.YtchdacbjiomplaaW16
set_option linter.unusedVariables false
set_option linter.unusedSimpArgs false
namespace Go.Proofs.Ytchdacbjiomplaa
open Go Go.Proofs.Ytchdacbjiomplaa.Fw Go.Proofs
/-! ### The check of a delta -/
def plcB (p : Place) : Bool := (((((decide (p.node < 1) || decide (p.node ≥ 16)) || decide (p.parent < 0)) || decide (p.parent > 16)) || decide (p.name < 0)) || decide (p.name > 99))
theorem place_plcB (p : Place) : place p = bif plcB p then 3 else 0 := rfl
theorem plcB_iff (p : Place) : plcB p = false ↔ place p = 0 := by rw [place_plcB]; cases plcB p <;> simp
def gl (l : List Int) (e : Int) : List Int → Nat → Int
  | [], _ => e
  | n :: r, k => bif (decide (n < 1) || decide (n ≥ 16)) then 5 else bif (decide ((k : Int) > 0) && decide (gt l (k - 1) ≥ n)) then 6 else gl l e r (k + 1)
def hl (gone : List Int) (l : List Place) (e : Int) : List Place → Nat → Int
  | [], _ => e
  | p :: r, k => bif plcB p then 3 else bif ((decide ((k : Int) > 0) && decide ((gt l (k - 1)).node ≥ p.node)) || decide (p.node ∈ gone)) then 6 else hl gone l e r (k + 1)
def half (gone : List Int) (here : List Place) (e : Int) : Int := bif (decide ((gone.length : Int) > 16) || decide ((here.length : Int) > 16)) then 2 else gl gone (hl gone here e here 0) gone 0
theorem L2a_eq (d : Delta) : ∀ (r : List Place) (k : Nat), delta_Check_L2a d r k = hl d.gone d.here (delta_Check_U0_1 d) r k
  | [], _ => rfl
  | p :: r, k => by rw [delta_Check_L2a, hl, L2a_eq d r]; rfl
theorem L1a_eq (d : Delta) : ∀ (r : List Int) (k : Nat), delta_Check_L1a d r k = gl d.gone (delta_Check_L2a d d.here 0) r k
  | [], _ => rfl
  | p :: r, k => by rw [delta_Check_L1a, gl, L1a_eq d r]
theorem L2b_eq (d : Delta) : ∀ (r : List Place) (k : Nat), delta_Check_L2b d r k = hl d.wayGone d.wayHere 0 r k
  | [], _ => rfl
  | p :: r, k => by rw [delta_Check_L2b, hl, L2b_eq d r]; rfl
theorem L1b_eq (d : Delta) : ∀ (r : List Int) (k : Nat), delta_Check_L1b d r k = gl d.wayGone (delta_Check_L2b d d.wayHere 0) r k
  | [], _ => rfl
  | p :: r, k => by rw [delta_Check_L1b, gl, L1b_eq d r]
theorem delta_Check_eq (d : Delta) : delta_Check d = half d.gone d.here (half d.wayGone d.wayHere 0) := by
  have e1 : delta_Check_U0_1 d = half d.wayGone d.wayHere 0 := by unfold delta_Check_U0_1 half; rw [L1b_eq, L2b_eq]
  unfold delta_Check delta_Check_U0_0
  rw [L1a_eq, L2a_eq, e1]; rfl
theorem gl_iff (l : List Int) (e : Int) : ∀ (r : List Int) (k : Nat), r = l.drop k → (gl l e r k = 0 ↔ (∀ n ∈ r, 1 ≤ n ∧ n < 16) ∧ (∀ i, k ≤ i → i < l.length → 0 < i → gt l (i - 1) < gt l i) ∧ e = 0)
  | [], k, hr => by
    have hk : l.length ≤ k := by have := congrArg List.length hr; simp at this; omega
    rw [gl]
    exact ⟨fun h => ⟨by simp, fun i h1 h2 => by omega, h⟩, fun h => h.2.2⟩
  | n :: r, k, hr => by
    have hk : k < l.length := by have := congrArg List.length hr; simp at this; omega
    rw [drop_gt hk] at hr
    obtain ⟨hn, hr'⟩ := List.cons.inj hr
    have ih := gl_iff l e r (k + 1) hr'
    rw [gl]
    cases h1 : (decide (n < 1) || decide (n ≥ 16)) with
    | true =>
      simp only [cond_true]
      refine ⟨fun h => by omega, fun h => ?_⟩
      have := h.1 n (.head _)
      simp at h1; omega
    | false =>
      simp at h1
      cases h2 : (decide ((k : Int) > 0) && decide (gt l (k - 1) ≥ n)) with
      | true =>
        simp only [cond_true, cond_false]
        simp only [Bool.and_eq_true, decide_eq_true_eq] at h2
        refine ⟨fun h => by omega, fun h => ?_⟩
        have := h.2.1 k (Nat.le_refl _) hk (by omega)
        rw [← hn] at this
        omega
      | false =>
        simp only [cond_false]
        rw [ih]
        constructor
        · rintro ⟨a, b, c⟩
          refine ⟨fun m hm => ?_, fun i hi hl hp => ?_, c⟩
          · cases hm with
            | head => omega
            | tail _ hm => exact a m hm
          · by_cases he : i = k
            · subst he
              simp at h2
              have := h2 (by omega)
              rw [← hn]; omega
            · exact b i (by omega) hl hp
        · rintro ⟨a, b, c⟩
          exact ⟨fun m hm => a m (.tail _ hm), fun i hi hl hp => b i (by omega) hl hp, c⟩
theorem hl_iff (gone : List Int) (l : List Place) (e : Int) : ∀ (r : List Place) (k : Nat), r = l.drop k → (hl gone l e r k = 0 ↔ (∀ p ∈ r, place p = 0 ∧ p.node ∉ gone) ∧ (∀ i, k ≤ i → i < l.length → 0 < i → (gt l (i - 1)).node < (gt l i).node) ∧ e = 0)
  | [], k, hr => by
    have hk : l.length ≤ k := by have := congrArg List.length hr; simp at this; omega
    rw [hl]
    exact ⟨fun h => ⟨by simp, fun i h1 h2 => by omega, h⟩, fun h => h.2.2⟩
  | p :: r, k, hr => by
    have hk : k < l.length := by have := congrArg List.length hr; simp at this; omega
    rw [drop_gt hk] at hr
    obtain ⟨hn, hr'⟩ := List.cons.inj hr
    have ih := hl_iff gone l e r (k + 1) hr'
    rw [hl]
    cases h1 : plcB p with
    | true =>
      simp only [cond_true]
      refine ⟨fun h => by omega, fun h => ?_⟩
      have := (plcB_iff p).2 (h.1 p (.head _)).1
      rw [this] at h1; cases h1
    | false =>
      have hp := (plcB_iff p).1 h1
      cases h2 : ((decide ((k : Int) > 0) && decide ((gt l (k - 1)).node ≥ p.node)) || decide (p.node ∈ gone)) with
      | true =>
        simp only [cond_true, cond_false]
        simp only [Bool.or_eq_true, Bool.and_eq_true, decide_eq_true_eq] at h2
        refine ⟨fun h => by omega, fun h => ?_⟩
        rcases h2 with h2 | h2
        · have := h.2.1 k (Nat.le_refl _) hk (by omega)
          rw [← hn] at this
          omega
        · exact absurd h2 (h.1 p (.head _)).2
      | false =>
        simp only [cond_false]
        rw [ih]
        simp only [Bool.or_eq_false_iff, Bool.and_eq_false_iff, decide_eq_false_iff_not] at h2
        constructor
        · rintro ⟨a, b, c⟩
          refine ⟨fun m hm => ?_, fun i hi hl hp => ?_, c⟩
          · cases hm with
            | head => exact ⟨hp, h2.2⟩
            | tail _ hm => exact a m hm
          · by_cases he : i = k
            · subst he
              rw [← hn]; omega
            · exact b i (by omega) hl hp
        · rintro ⟨a, b, c⟩
          exact ⟨fun m hm => a m (.tail _ hm), fun i hi hl hp => b i (by omega) hl hp, c⟩
structure Half (gone : List Int) (here : List Place) : Prop where
  len1 : gone.length ≤ 16
  len2 : here.length ≤ 16
  rng : ∀ n ∈ gone, 1 ≤ n ∧ n < 16
  gup : gone.Pairwise (fun a b => a < b)
  ok : ∀ p ∈ here, place p = 0
  apart : ∀ p ∈ here, p.node ∉ gone
  hup : here.Pairwise (fun a b => a.node < b.node)
theorem half_iff (gone : List Int) (here : List Place) (e : Int) : half gone here e = 0 ↔ Half gone here ∧ e = 0 := by
  unfold half
  cases h : (decide ((gone.length : Int) > 16) || decide ((here.length : Int) > 16)) with
  | true =>
    simp at h
    simp only [cond_true]
    exact ⟨fun h => by omega, fun h' => by have := h'.1.len1; have := h'.1.len2; omega⟩
  | false =>
    simp at h
    rw [cond_false, gl_iff gone _ gone 0 rfl, hl_iff gone here e here 0 rfl]
    constructor
    · rintro ⟨a, b, c, d, e⟩
      exact ⟨⟨by omega, by omega, a, pairwise_of id gone fun i hi => by have := b (i + 1) (by omega) hi (by omega); simpa using this, fun p hp => (c p hp).1, fun p hp => (c p hp).2,
        pairwise_of Place.node here fun i hi => by have := d (i + 1) (by omega) hi (by omega); simpa using this⟩, e⟩
    · rintro ⟨h', he⟩
      refine ⟨h'.rng, fun i _ hl hp => ?_, fun p hp => ⟨h'.ok p hp, h'.apart p hp⟩, fun i _ hl hp => ?_, he⟩
      · have := of_pairwise id h'.gup (i - 1) (by omega)
        rw [show i - 1 + 1 = i by omega] at this
        exact this
      · have := of_pairwise Place.node h'.hup (i - 1) (by omega)
        rw [show i - 1 + 1 = i by omega] at this
        exact this
theorem delta_Check_iff (d : Delta) : delta_Check d = 0 ↔ Half d.gone d.here ∧ Half d.wayGone d.wayHere := by
  rw [delta_Check_eq, half_iff, half_iff]
  simp
/-! ### The check of a view -/
structure IsView (v : View) : Prop where
  roots : IsRoots v.roots
  known : IsTree v.known
  way : IsTree v.way
  all : checkT (view_All v) = 0
  is : seenAll (view_All v) v.roots = v
theorem view_Check_iff (v : View) : view_Check v = 0 ↔ IsView v := by
  rw [view_Check_eq]
  cases h0 : (view_Roots v.roots != 0) with
  | true => exact ⟨fun h => by rw [cond_true] at h; rw [h] at h0; simp at h0, fun h => by have := (Roots_iff _).2 h.roots; rw [this] at h0; simp at h0⟩
  | false =>
    have g0 := (Roots_iff _).1 (eq_of_bne_false h0)
    cases h1 : (checkT v.known != 0) with
    | true => exact ⟨fun h => by simp only [cond_true, cond_false] at h; rw [h] at h1; simp at h1, fun h => by have := (checkT_iff _).2 h.known; rw [this] at h1; simp at h1⟩
    | false =>
      have g1 := (checkT_iff _).1 (eq_of_bne_false h1)
      cases h2 : (checkT v.way != 0) with
      | true => exact ⟨fun h => by simp only [cond_true, cond_false] at h; rw [h] at h2; simp at h2, fun h => by have := (checkT_iff _).2 h.way; rw [this] at h2; simp at h2⟩
      | false =>
        have g2 := (checkT_iff _).1 (eq_of_bne_false h2)
        simp only [cond_false]
        constructor
        · intro h
          cases h3 : ((view_Of (view_All v) v.roots).2 == 0 && !(view_Same (view_Of (view_All v) v.roots).1 v)) with
          | true => rw [h3] at h; simp at h
          | false =>
            rw [h3, cond_false] at h
            obtain ⟨h4, h5, h6⟩ := Of_ok h
            rw [h6] at h3
            simp only [BEq.rfl, Bool.true_and, Bool.not_eq_false'] at h3
            exact ⟨g0, g1, g2, h4, (Same_iff _ _).1 h3⟩
        · intro h
          have := Of_of h.all ((Roots_iff _).2 h.roots)
          rw [this, h.is, Same_refl]
          rfl
theorem view_len {v : View} (h : view_Check v = 0) : v.known.length ≤ 15 ∧ v.way.length ≤ 15 := by
  have h := (view_Check_iff v).1 h
  exact ⟨checkT_len ((checkT_iff _).2 h.known), checkT_len ((checkT_iff _).2 h.way)⟩
theorem delta_len {d : Delta} (h : delta_Check d = 0) : d.gone.length ≤ 16 ∧ d.here.length ≤ 16 ∧ d.wayGone.length ≤ 16 ∧ d.wayHere.length ≤ 16 := by
  obtain ⟨h1, h2⟩ := (delta_Check_iff d).1 h
  exact ⟨h1.len1, h1.len2, h2.len1, h2.len2⟩
end Go.Proofs.Ytchdacbjiomplaa
