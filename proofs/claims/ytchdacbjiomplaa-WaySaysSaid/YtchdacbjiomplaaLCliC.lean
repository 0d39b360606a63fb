/- Part of this claim. No condition. -/
import Derived.Test.YtchdacbjiomplaaW35
import Derived.Test.YtchdacbjiomplaaLCli
import Derived.Test.YtchdacbjiomplaaLDeltaC
import Derived.Test.YtchdacbjiomplaaLWaySame
import Derived.Test.YtchdacbjiomplaaWB
set_option linter.unusedVariables false
set_option linter.unusedSimpArgs false
namespace Go.Proofs.Ytchdacbjiomplaa
open Go Go.Proofs.Ytchdacbjiomplaa.Fw Go.Proofs
/-! ### Mail and clients, as the document says -/
theorem CheckClient_L0_eq (c : Client) (me : Int) (ht : ∀ o ∈ c.pending, chkO o = 0 → 0 < o.time) : ∀ (r : List Op) (k : Nat) (seq last : Int), r = c.pending.drop k → seq = c.seq - (c.pending.length : Int) + (k : Int) → last = (if k = 0 then 0 else (gt c.pending (k - 1)).time) → orangeryref_CheckClient_L0 c me r seq last = client_Check_L0 c me r k
  | [], k, _, _, _, _, _ => rfl
  | p :: r, k, seq, last, h, hs, hl => by
    have hk : k < c.pending.length := by
      rcases Nat.lt_or_ge k c.pending.length with h' | h'
      · exact h'
      · rw [List.drop_of_length_le h'] at h; cases h
    rw [drop_gt hk] at h
    obtain ⟨rfl, h'⟩ := List.cons.inj h
    rw [orangeryref_CheckClient_L0, client_Check_L0, CheckOp_eq, move_Check_eq]
    cases h1 : (chkO (gt c.pending k) != 0) with
    | true => rfl
    | false =>
      rw [cond_false, cond_false]
      have h2 := ht _ (gt_mem hk) (eq_of_bne_false h1)
      have h3 := CheckClient_L0_eq c me ht r (k + 1) (seq + 1) (gt c.pending k).time h' (by omega) (by simp)
      rw [h3]
      congr 1
      rw [Bool.eq_iff_iff]
      simp only [Bool.or_eq_true, bne_iff_ne, decide_eq_true_eq, Bool.and_eq_true]
      rcases Nat.eq_zero_or_pos k with h4 | h4
      · rw [if_pos h4] at hl
        subst hl hs; omega
      · rw [if_neg (by omega)] at hl
        subst hl hs; omega
theorem CheckClient_eq (c : Client) (me : Int) : orangeryref_CheckClient c me = client_Check c me := by
  unfold orangeryref_CheckClient client_Check
  refine bif_congr ?_ (fun _ => rfl) fun _ => bif_congr ?_ (fun _ => rfl) fun h2 => bif_congr rfl (fun _ => rfl) fun _ => ?_
  · rw [Bool.eq_iff_iff]
    simp only [Bool.not_eq_true', in_iffF, Bool.or_eq_true, decide_eq_true_eq]; omega
  · rw [Bool.eq_iff_iff]
    simp only [Bool.not_eq_true', in_iffF, Bool.or_eq_true, decide_eq_true_eq]; omega
  rw [CheckView_eq]
  refine bif_congr rfl (fun _ => rfl) fun _ => bif_congr ?_ (fun _ => rfl) fun _ => ?_
  · simp only [Bool.or_eq_false_iff, decide_eq_false_iff_not] at h2
    rw [Bool.eq_iff_iff]
    simp only [Bool.or_eq_true, decide_eq_true_eq, Bool.and_eq_true, beq_iff_eq, bne_iff_ne]; omega
  · exact CheckClient_L0_eq c me (fun o _ ho => by have := chkO_ok ho; omega) c.pending 0 _ 0 rfl (by simp) rfl
theorem len3_iff (a b c : Nat) : decide ((a : Int) + (b : Int) + (c : Int) > 0) = false ↔ a = 0 ∧ b = 0 ∧ c = 0 := by
  rw [decide_eq_false_iff_not]; omega
theorem len4_iff (a b c d : Nat) : decide ((a : Int) + (b : Int) + (c : Int) + (d : Int) > 0) = false ↔ a = 0 ∧ b = 0 ∧ c = 0 ∧ d = 0 := by
  rw [decide_eq_false_iff_not]; omega
theorem CheckMail_one (m : Mail) : orangeryref_CheckMail [m] = way_check m := by
  show orangeryref_CheckMail_L0 [m] = way_check m
  rw [orangeryref_CheckMail_L0, orangeryref_CheckMail_L0, way_check_eq]
  obtain ⟨kind, who, life, seq, time, version, frm, o, v, d⟩ := m
  simp only [CheckOp_eq, CheckDelta_eq, CheckView_eq]
  have one : ∀ x : Int, (bif x != 0 then x else 0) = x := fun x => by
    cases h : (x != 0) with
    | true => rfl
    | false => exact (eq_of_bne_false h).symm
  simp only [one]
  have hv : decide ((v.roots.length : Int) + (v.known.length : Int) + (v.way.length : Int) > 0) = !decide (v = ⟨[], [], []⟩) := by
    rw [Bool.eq_iff_iff, ← Bool.not_eq_false, len3_iff]
    obtain ⟨a, b, c⟩ := v
    simp only [List.length_eq_zero_iff, Bool.not_eq_true', decide_eq_false_iff_not, View.mk.injEq]
  have hd : decide ((d.gone.length : Int) + (d.here.length : Int) + (d.wayGone.length : Int) + (d.wayHere.length : Int) > 0) = !decide (d = ⟨[], [], [], []⟩) := by
    rw [Bool.eq_iff_iff, ← Bool.not_eq_false, len4_iff]
    obtain ⟨a, b, c, e⟩ := d
    simp only [List.length_eq_zero_iff, Bool.not_eq_true', decide_eq_false_iff_not, Delta.mk.injEq]
  rw [hv, hd]
  refine bif_congr ?_ (fun _ => rfl) fun h1 => bif_congr ?_ (fun _ => rfl) fun h2 => ?_
  · rw [Bool.eq_iff_iff]
    simp only [Bool.not_eq_true', in_iffF, Bool.or_eq_true, decide_eq_true_eq]; omega
  · rw [Bool.eq_iff_iff]
    simp only [Bool.not_eq_true', in_iffF, Bool.or_eq_true, decide_eq_true_eq]; omega
  have hbad : ((((!orangeryref_in life 1 50 || !orangeryref_in seq 0 30) || !orangeryref_in time 0 10000) || !orangeryref_in version 1 60) || !orangeryref_in frm 0 (version - 1)) = mailBad ⟨kind, who, life, seq, time, version, frm, o, v, d⟩ := by
    rw [Bool.eq_iff_iff]
    simp only [mailBad, Bool.not_eq_true', in_iffF, Bool.or_eq_true, decide_eq_true_eq]; omega
  cases h3 : (kind == 1) with
  | true =>
    simp only [Bool.true_and, cond_true]
    have hw : way_same ⟨kind, who, life, seq, time, version, frm, o, v, d⟩ (want1 ⟨kind, who, life, seq, time, version, frm, o, v, d⟩) = !((((((life != 0 || seq != 0) || time != 0) || version != 0) || frm != 0) || !decide (v = ⟨[], [], []⟩)) || !decide (d = ⟨[], [], [], []⟩)) := by
      rw [Bool.eq_iff_iff, way_same_iff]
      simp only [want1, Mail.mk.injEq, Bool.not_eq_true', Bool.or_eq_false_iff, bne_eq_false_iff_eq, Bool.not_eq_false', decide_eq_true_eq]
      simp only [true_and, and_assoc]
    rw [hw, Bool.not_not]
    cases ((((((life != 0 || seq != 0) || time != 0) || version != 0) || frm != 0) || !decide (v = ⟨[], [], []⟩)) || !decide (d = ⟨[], [], [], []⟩)) <;> rfl
  | false =>
    simp only [Bool.false_and, cond_false]
    rw [hbad]
    cases h4 : (kind == 2) with
    | true =>
      have h5 : (kind == 3) = false := by have := eq_of_beq h4; subst this; rfl
      rw [h5]
      simp only [Bool.true_and, Bool.false_and, cond_true, cond_false]
      have hw : way_same ⟨kind, who, life, seq, time, version, frm, o, v, d⟩ (want2 ⟨kind, who, life, seq, time, version, frm, o, v, d⟩) = !((!decide (o = ⟨0, 0, 0, 0, 0, 0, 0⟩)) || (frm != 0 || !decide (d = ⟨[], [], [], []⟩))) := by
        rw [Bool.eq_iff_iff, way_same_iff]
        simp only [want2, Mail.mk.injEq, Bool.not_eq_true', Bool.or_eq_false_iff, bne_eq_false_iff_eq, Bool.not_eq_false', decide_eq_true_eq, true_and, and_true]
        constructor <;> exact fun ⟨x, y, z⟩ => ⟨y, x, z⟩
      rw [hw, Bool.not_not]
      cases (!decide (o = ⟨0, 0, 0, 0, 0, 0, 0⟩)) <;> cases (frm != 0 || !decide (d = ⟨[], [], [], []⟩)) <;> rfl
    | false =>
      have h5 : (kind == 3) = true := by
        simp only [Bool.or_eq_false_iff, decide_eq_false_iff_not] at h1
        have := beq_eq_false_iff_ne.1 h3; have := beq_eq_false_iff_ne.1 h4
        simp only [beq_iff_eq]; omega
      rw [h5]
      simp only [Bool.true_and, Bool.false_and, cond_true, cond_false]
      have hw : way_same ⟨kind, who, life, seq, time, version, frm, o, v, d⟩ (want3 ⟨kind, who, life, seq, time, version, frm, o, v, d⟩) = !((!decide (o = ⟨0, 0, 0, 0, 0, 0, 0⟩)) || !decide (v = ⟨[], [], []⟩)) := by
        rw [Bool.eq_iff_iff, way_same_iff]
        simp only [want3, Mail.mk.injEq, Bool.not_eq_true', Bool.or_eq_false_iff, Bool.not_eq_false', decide_eq_true_eq, true_and, and_true]
      rw [hw, Bool.not_not]
      cases (!decide (o = ⟨0, 0, 0, 0, 0, 0, 0⟩)) <;> cases (!decide (v = ⟨[], [], []⟩)) <;> rfl
end Go.Proofs.Ytchdacbjiomplaa
