/- Part of this claim. No condition. -/
import Derived.Test.YtchdacbjiomplaaLDelta
import Derived.Test.YtchdacbjiomplaaLViewB
import Derived.Test.YtchdacbjiomplaaW18
set_option linter.unusedVariables false
set_option linter.unusedSimpArgs false
namespace Go.Proofs.Ytchdacbjiomplaa
open Go Go.Proofs.Ytchdacbjiomplaa.Fw Go.Proofs
/-! ### The document's check of a delta -/
theorem hl_e (gone : List Int) (l : List Place) (e : Int) : ∀ (r : List Place) (k : Nat), hl gone l e r k = bif hl gone l 0 r k != 0 then hl gone l 0 r k else e
  | [], _ => rfl
  | p :: r, k => by
    rw [hl, hl]
    cases plcB p with
    | true => rfl
    | false =>
      cases ((decide ((k : Int) > 0) && decide ((gt l (k - 1)).node ≥ p.node)) || decide (p.node ∈ gone)) with
      | true => rfl
      | false => exact hl_e gone l e r (k + 1)
theorem gl_e (l : List Int) (e : Int) : ∀ (r : List Int) (k : Nat), gl l e r k = bif gl l 0 r k != 0 then gl l 0 r k else e
  | [], _ => rfl
  | p :: r, k => by
    rw [gl, gl]
    cases (decide (p < 1) || decide (p ≥ 16)) with
    | true => rfl
    | false =>
      cases (decide ((k : Int) > 0) && decide (gt l (k - 1) ≥ p)) with
      | true => rfl
      | false => exact gl_e l e r (k + 1)
theorem half_e (g : List Int) (h : List Place) (e : Int) : half g h e = bif half g h 0 != 0 then half g h 0 else e := by
  unfold half
  cases (decide ((g.length : Int) > 16) || decide ((h.length : Int) > 16)) with
  | true => rfl
  | false =>
    simp only [cond_false]
    rw [gl_e g (hl g h e h 0), gl_e g (hl g h 0 h 0), hl_e g h e]
    cases h1 : (gl g 0 g 0 != 0) with
    | true => simp [h1]
    | false => simp
theorem half_L1_eq (gone : List Int) (l : List Place) : ∀ (r : List Place) (k : Nat) (last : Int), r = l.drop k → last = (if k = 0 then 0 else (gt l (k - 1)).node) → orangeryref_half_L1 gone r last = hl gone l 0 r k
  | [], _, _, _, _ => rfl
  | p :: r, k, last, hr, hl' => by
    have hk : k < l.length := by have := congrArg List.length hr; simp at this; omega
    rw [drop_gt hk] at hr
    obtain ⟨hn, hr'⟩ := List.cons.inj hr
    rw [orangeryref_half_L1, hl, CheckPlace_eq, place_plcB]
    cases h1 : plcB p with
    | true => rfl
    | false =>
      have hp := plc_ok ((plcB_iff p).1 h1)
      have h3 : decide (p.node ≤ last) = (decide ((k : Int) > 0) && decide ((gt l (k - 1)).node ≥ p.node)) := by
        rw [Bool.eq_iff_iff]
        simp only [Bool.and_eq_true, decide_eq_true_eq]
        rw [hl']
        by_cases hz : k = 0
        · subst hz; simp; omega
        · simp [hz]; omega
      rw [h3, half_L1_eq gone l r (k + 1) p.node hr' (by simp [hn])]
      rfl
theorem half_L0_eq (gone : List Int) (here : List Place) : ∀ (r : List Int) (k : Nat) (last : Int), r = gone.drop k → last = (if k = 0 then 0 else gt gone (k - 1)) → orangeryref_half_L0 gone here r last = gl gone (orangeryref_half_L1 gone here 0) r k
  | [], _, _, _, _ => rfl
  | n :: r, k, last, hr, hl' => by
    have hk : k < gone.length := by have := congrArg List.length hr; simp at this; omega
    rw [drop_gt hk] at hr
    obtain ⟨hn, hr'⟩ := List.cons.inj hr
    rw [orangeryref_half_L0, gl]
    have h0 : (!(orangeryref_in n 1 15)) = (decide (n < 1) || decide (n ≥ 16)) := by
      unfold orangeryref_in
      rw [Bool.eq_iff_iff]
      simp only [Bool.or_eq_true, Bool.not_eq_true', Bool.and_eq_false_iff, decide_eq_false_iff_not, decide_eq_true_eq]
      omega
    rw [h0]
    cases h1 : (decide (n < 1) || decide (n ≥ 16)) with
    | true => rfl
    | false =>
      simp at h1
      have h3 : decide (n ≤ last) = (decide ((k : Int) > 0) && decide (gt gone (k - 1) ≥ n)) := by
        rw [Bool.eq_iff_iff]
        simp only [Bool.and_eq_true, decide_eq_true_eq]
        rw [hl']
        by_cases hz : k = 0
        · subst hz; simp; omega
        · simp [hz]; omega
      rw [h3, cond_false, cond_false, half_L0_eq gone here r (k + 1) n hr' (by simp [hn])]
theorem rhalf_eq (g : List Int) (h : List Place) : orangeryref_half g h = half g h 0 := by
  unfold orangeryref_half half
  rw [half_L0_eq g h g 0 0 rfl rfl, half_L1_eq g h h 0 0 rfl rfl]
theorem CheckDelta_eq (d : Delta) : orangeryref_CheckDelta d = delta_Check d := by
  unfold orangeryref_CheckDelta
  rw [rhalf_eq, rhalf_eq, delta_Check_eq, half_e d.gone d.here (half d.wayGone d.wayHere 0)]
/-! ### For the walks -/
theorem CheckView_nodes {v : View} (h : orangeryref_CheckView v = 0) : (∀ p ∈ v.known, 0 ≤ p.node ∧ p.node < 16) ∧ (∀ p ∈ v.way, 0 ≤ p.node ∧ p.node < 16) := by
  rw [CheckView_eq] at h
  have h := (view_Check_iff v).1 h
  exact ⟨fun p hp => by have := h.known.rising.rng p hp; omega, fun p hp => by have := h.way.rising.rng p hp; omega⟩
theorem CheckDelta_nodes {d : Delta} (h : orangeryref_CheckDelta d = 0) : (∀ n ∈ d.gone, 0 ≤ n ∧ n < 16) ∧ (∀ p ∈ d.here, 0 ≤ p.node ∧ p.node < 16) ∧ (∀ n ∈ d.wayGone, 0 ≤ n ∧ n < 16) ∧ (∀ p ∈ d.wayHere, 0 ≤ p.node ∧ p.node < 16) := by
  rw [CheckDelta_eq] at h
  obtain ⟨h1, h2⟩ := (delta_Check_iff d).1 h
  exact ⟨fun n hn => by have := h1.rng n hn; omega, fun p hp => by have := plc_ok (h1.ok p hp); omega, fun n hn => by have := h2.rng n hn; omega, fun p hp => by have := plc_ok (h2.ok p hp); omega⟩
end Go.Proofs.Ytchdacbjiomplaa
