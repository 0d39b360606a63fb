/- Part of this claim. No condition. -/
import Derived.Test.YtchdacbjiomplaaW39
import Derived.Test.YtchdacbjiomplaaLCliC
import Derived.Test.YtchdacbjiomplaaLDeltaA
set_option linter.unusedVariables false
set_option linter.unusedSimpArgs false
namespace Go.Proofs.Ytchdacbjiomplaa
open Go Go.Proofs.Ytchdacbjiomplaa.Fw Go.Proofs
/-! ### Heard, as the document says -/
theorem HeardOf_L0_eq (c : Client) (m : Mail) (v : View) : ∀ (l acc : List Op), orangeryref_HeardOf_L0 c m v.roots v.known v.way l acc = (⟨c.life, (if m.time > c.time then m.time else c.time), c.seq, acc ++ l.filter (fun o => !decide (o.seq ≤ m.seq)), m.version, v⟩, 0)
  | [], acc => by simp [orangeryref_HeardOf_L0]
  | o :: l, acc => by
    rw [orangeryref_HeardOf_L0, HeardOf_L0_eq c m v l, HeardOf_L0_eq c m v l]
    by_cases h : o.seq ≤ m.seq
    · have : decide (o.seq > m.seq) = false := by simp; omega
      rw [this, cond_false, List.filter_cons_of_neg (by simp [h])]
    · have : decide (o.seq > m.seq) = true := by simp; omega
      rw [this, cond_true, List.filter_cons_of_pos (by simp; omega), List.append_assoc]; rfl
theorem HeardOf_J1_eq (c : Client) (m : Mail) (v : View) : orangeryref_HeardOf_J1 c m v.roots v.known v.way = (heardBy c m v, 0) := by
  unfold orangeryref_HeardOf_J1
  rw [HeardOf_L0_eq]; rfl
theorem HeardOf_eq (c : Client) (me : Int) (m : Mail) : orangeryref_HeardOf c me m = client_Hear c me m := by
  rw [Hear_eq]
  unfold orangeryref_HeardOf
  rw [CheckClient_eq, CheckMail_one, Applied_eq, HeardOf_J1_eq, HeardOf_J1_eq]
  by_cases h1 : client_Check c me = 0
  case neg =>
    have e1 : (client_Check c me == 0) = false := by simpa using h1
    have e2 : (client_Check c me != 0) = true := by simpa using h1
    rw [e1, e2]; rfl
  rw [h1]
  simp only [beq_self_eq_true, bne_self_eq_false, cond_true, cond_false]
  by_cases h2 : way_check m = 0
  case neg =>
    have e1 : (way_check m == 0) = false := by simpa using h2
    have e2 : (way_check m != 0) = true := by simpa using h2
    rw [e1, e2]; rfl
  rw [h2]
  simp only [beq_self_eq_true, bne_self_eq_false, Bool.true_and, cond_false]
  cases h3 : (m.kind == 1 || m.who != me) with
  | true => rfl
  | false =>
    rw [cond_false, cond_false]
    have hs : ((c.life != m.life || decide (c.version ≥ m.version)) || decide (c.seq < m.seq)) = stale c m := by
      rw [show (c.life != m.life) = (m.life != c.life) by rw [bne, bne, Bool.beq_comm]]; rfl
    rw [hs]
    cases stale c m with
    | true => rfl
    | false =>
      cases m.kind == 3 with
      | false => rfl
      | true => cases m.frm != c.version <;> rfl
theorem SameClient_iff (a b : Client) : orangeryref_SameClient a b = true ↔ a = b := by
  obtain ⟨a1, a2, a3, a4, a5, a6⟩ := a
  obtain ⟨b1, b2, b3, b4, b5, b6⟩ := b
  simp only [orangeryref_SameClient, SameView_eq, Bool.and_eq_true, beq_iff_eq, decide_eq_true_eq, Same_iff, Client.mk.injEq]
  constructor
  · rintro ⟨⟨⟨⟨⟨rfl, rfl⟩, rfl⟩, rfl⟩, rfl⟩, rfl⟩; simp
  · rintro ⟨rfl, rfl, rfl, rfl, rfl, rfl⟩; simp
theorem ClientHears_true (c : Client) (me : Int) (m : Mail) : orangerylaw_ClientHears c me m = true := by
  unfold orangerylaw_ClientHears
  rw [lives_true, HeardOf_eq, (SameClient_iff _ _).2 rfl]
  simp
end Go.Proofs.Ytchdacbjiomplaa
