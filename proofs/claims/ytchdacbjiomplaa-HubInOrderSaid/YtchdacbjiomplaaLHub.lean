/- Part of this claim. No condition. -/
import Derived.Test.YtchdacbjiomplaaWU
import Derived.Test.YtchdacbjiomplaaLH
import Derived.Test.YtchdacbjiomplaaLV
set_option linter.unusedVariables false
set_option linter.unusedSimpArgs false
namespace Go.Proofs.Ytchdacbjiomplaa
open Go Go.Proofs.Ytchdacbjiomplaa.Fw Go.Proofs
/-! ### A hub, plainly -/
structure PeerOk (p : Peer) : Prop where
  rng : 0 ≤ p.life ∧ p.life ≤ 50 ∧ 0 ≤ p.seq ∧ p.seq ≤ 30
  new : p.life = 0 → p.seq = 0 ∧ p.roots = []
  roots : view_Roots p.roots = 0
structure IsHub (h : Hub) : Prop where
  hist : history_Check h.h = 0
  vers : 0 ≤ h.version ∧ h.version ≤ 60
  three : h.peers.length = 3
  peers : ∀ p ∈ h.peers, PeerOk p
theorem hub_L0_of : ∀ {l : List Peer}, (∀ p ∈ l, PeerOk p) → hub_Check_L0 l = 0
  | [], _ => rfl
  | q :: l, h => by
    obtain ⟨h1, h2, h3⟩ := h q (.head _)
    have e1 : (((decide (q.life < 0) || decide (q.life > 50)) || decide (q.seq < 0)) || decide (q.seq > 30)) = false := by
      simp only [Bool.or_eq_false_iff, decide_eq_false_iff_not]; omega
    have e2 : ((q.life == 0) && (decide (q.seq > 0) || decide ((q.roots.length : Int) > 0))) = false := by
      cases hl : (q.life == 0) with
      | false => rfl
      | true =>
        obtain ⟨h4, h5⟩ := h2 (eq_of_beq hl)
        rw [h4, h5]; rfl
    rw [hub_Check_L0, e1, cond_false, e2, cond_false, h3]
    exact hub_L0_of fun p hp => h p (.tail _ hp)
theorem hub_Check_iff (h : Hub) : hub_Check h = 0 ↔ IsHub h := by
  constructor
  · intro hc
    obtain ⟨h1, h2, h3, h4⟩ := hub_Check_len hc
    exact ⟨h1, ⟨h2, h3⟩, h4, fun p hp => by obtain ⟨a, b, c⟩ := hub_peers hc p hp; exact ⟨a, b, c⟩⟩
  · intro ⟨h1, h2, h3, h4⟩
    have e1 : (history_Check h.h != 0) = false := by rw [h1]; rfl
    have e2 : (decide (h.version < 0) || decide (h.version > 60)) = false := by simp only [Bool.or_eq_false_iff, decide_eq_false_iff_not]; omega
    have e3 : ((h.peers.length : Int) != 3) = false := by rw [h3]; rfl
    unfold hub_Check
    rw [e1, cond_false, e2, cond_false, e3, cond_false]
    exact hub_L0_of h4
theorem peers_set {h : Hub} (hh : IsHub h) {i : Nat} {q : Peer} (hq : PeerOk q) : ∀ p ∈ h.peers.set i q, PeerOk p := fun p hp => by
  rcases List.mem_or_eq_of_mem_set hp with h1 | h1
  · exact hh.peers p h1
  · rw [h1]; exact hq
/-! ### Accepted -/
theorem Insert_put {h : History} (hc : history_Check h = 0) (o : Op) : history_Insert h o = history_Put h o := by
  unfold history_Insert
  have e1 : (history_Check h != 0) = false := by rw [hc]; rfl
  rw [e1, cond_false]
theorem Put_check {h : History} (hc : history_Check h = 0) {o : Op} (h0 : (history_Put h o).2 = 0) : history_Check (history_Put h o).1 = 0 := by
  rw [← Insert_put hc] at h0 ⊢
  obtain ⟨S, h1, h2, h3, h4, h5, h6⟩ := Insert_inv h0
  rw [Check_iff, h6.ops]
  exact h6
theorem accept_ok {h : Hub} (hh : IsHub h) {o : Op} (ho : chkO o = 0) (h0 : (hub_accept h o).1 = 0) : IsHub (hub_accept h o).2 ∧ (hub_accept h o).2.version = h.version := by
  unfold hub_accept at h0 ⊢
  cases h1 : (((gt h.peers o.who.toNat).life != o.life) || ((gt h.peers o.who.toNat).seq + 1 != o.seq)) with
  | true => rw [h1, cond_true] at h0; cases h0
  | false =>
  rw [h1, cond_false] at h0
  rw [cond_false]
  cases h2 : ((history_Put h.h o).2 == 0) with
  | false =>
    rw [h2, cond_false] at h0
    simp only at h0
    rw [h0] at h2; cases h2
  | true =>
    rw [cond_true]
    have hc := chkO_ok ho
    have hm : gt h.peers o.who.toNat ∈ h.peers := gt_mem (by rw [hh.three]; omega)
    have hp := hh.peers _ hm
    simp only [Bool.or_eq_false_iff, bne_eq_false_iff_eq] at h1
    have hr := hp.rng
    refine ⟨⟨Put_check hh.hist (eq_of_beq h2), hh.vers, by rw [List.length_set]; exact hh.three, peers_set hh ⟨?_, ?_, hp.roots⟩⟩, rfl⟩
    · simp only; omega
    · simp only; intro hl; omega
theorem next_ok {h : Hub} (hh : IsHub h) {r : Rec} (h0 : (hub_next h r).2 = 0) : IsHub (hub_next h r).1 ∧ (hub_next h r).1.version = h.version + 1 := by
  unfold hub_next at h0 ⊢
  cases h1 : (note_Check r != 0) with
  | true => rw [h1, cond_true] at h0; simp only at h0; rw [h0] at h1; cases h1
  | false =>
  rw [h1, cond_false] at h0
  rw [cond_false]
  obtain ⟨w1, w2, w3, w4, w5⟩ := note_who (eq_of_bne_false h1)
  cases h2 : (h.version == 60) with
  | true => rw [h2, cond_true] at h0; cases h0
  | false =>
  rw [h2, cond_false] at h0
  rw [cond_false]
  have hv := hh.vers
  have h2 := beq_eq_false_iff_ne.1 h2
  have hh' : IsHub ⟨h.h, h.version + 1, h.peers⟩ := ⟨hh.hist, by simp only; omega, hh.three, hh.peers⟩
  cases h3 : (r.kind == 1) with
  | true =>
    rw [h3, cond_true] at h0
    rw [cond_true]
    cases h4 : ((hub_accept ⟨h.h, h.version + 1, h.peers⟩ r.o).1 != 0) with
    | true => rw [h4, cond_true] at h0; simp only at h0; rw [h0] at h4; cases h4
    | false =>
      have ho : chkO r.o = 0 := by
        have hn := eq_of_bne_false h1
        unfold note_Check at hn
        rw [h3, cond_true] at hn
        cases h5 : (decide (r.kind < 1) || decide (r.kind > 3)) with
        | true => rw [h5, cond_true] at hn; cases hn
        | false =>
          rw [h5, cond_false] at hn
          cases h6 : (((r.who != 0) || (r.life != 0)) || decide ((r.roots.length : Int) > 0)) with
          | true => rw [h6, cond_true] at hn; cases hn
          | false => rw [h6, cond_false, move_Check_eq] at hn; exact hn
      exact accept_ok hh' ho (eq_of_bne_false h4)
  | false =>
    rw [h3, cond_false] at h0
    rw [cond_false]
    have h3 := beq_eq_false_iff_ne.1 h3
    have hw := w2 h3
    have hm : gt h.peers r.who.toNat ∈ h.peers := gt_mem (by rw [hh.three]; omega)
    have hp := hh.peers _ hm
    have hr := hp.rng
    cases h4 : (r.kind == 2) with
    | true =>
      rw [h4, cond_true] at h0
      rw [cond_true]
      cases h5 : (r.life != (gt h.peers r.who.toNat).life + 1) with
      | true => rw [h5, cond_true] at h0; cases h0
      | false =>
        have h5 := eq_of_bne_false h5
        rw [cond_false]
        have hl : 1 ≤ r.life ∧ r.life ≤ 50 := by
          have hn := eq_of_bne_false h1
          unfold note_Check at hn
          have e1 : (r.kind == 1) = false := beq_eq_false_iff_ne.2 h3
          rw [e1, h4] at hn
          cases h6 : (decide (r.kind < 1) || decide (r.kind > 3)) with
          | true => rw [h6, cond_true] at hn; cases hn
          | false =>
            rw [h6, cond_false, cond_false] at hn
            simp only [Bool.true_and] at hn
            cases h7 : (((!(decide (r.o = (⟨0, 0, 0, 0, 0, 0, 0⟩ : Op)))) || ((r.kind == 3) && (r.life != 0))) || decide ((r.roots.length : Int) > 0)) with
            | true => rw [h7, cond_true] at hn; cases hn
            | false =>
              rw [h7, cond_false] at hn
              cases h8 : ((decide (r.who < 0) || decide (r.who ≥ 3)) || (decide (r.life < 1) || decide (r.life > 50))) with
              | true => rw [h8, cond_true] at hn; cases hn
              | false => simp only [Bool.or_eq_false_iff, decide_eq_false_iff_not] at h8; omega
        exact ⟨⟨hh.hist, by simp only; omega, by rw [List.length_set]; exact hh.three, peers_set hh ⟨by simp only; omega, fun hz => by simp only at hz; omega, rfl⟩⟩, rfl⟩
    | false =>
      rw [h4, cond_false] at h0
      rw [cond_false]
      cases h5 : (r.kind == 3) with
      | false => exact ⟨hh', rfl⟩
      | true =>
        rw [h5, cond_true] at h0
        rw [cond_true]
        cases h6 : ((gt h.peers r.who.toNat).life == 0) with
        | true => rw [h6, cond_true] at h0; cases h0
        | false =>
          have h6 := beq_eq_false_iff_ne.1 h6
          rw [cond_false]
          exact ⟨⟨hh.hist, by simp only; omega, by rw [List.length_set]; exact hh.three, peers_set hh ⟨hp.rng, fun hz => absurd hz h6, w5 h3⟩⟩, rfl⟩
theorem hub_New_ok : IsHub ⟨⟨[], []⟩, 0, [⟨0, 0, []⟩, ⟨0, 0, []⟩, ⟨0, 0, []⟩]⟩ :=
  ⟨by decide +kernel, by decide, rfl, fun p hp => by
    simp only [List.mem_cons, List.not_mem_nil, or_false, or_self] at hp
    subst hp
    exact ⟨by decide, fun _ => ⟨rfl, rfl⟩, by decide +kernel⟩⟩
theorem Next_ok {h : Hub} {r : Rec} (h0 : (hub_Next h r).2 = 0) : IsHub h ∧ hub_Next h r = hub_next h r ∧ IsHub (hub_Next h r).1 ∧ (hub_Next h r).1.version = h.version + 1 := by
  unfold hub_Next at h0 ⊢
  cases h1 : (hub_Check h != 0) with
  | true => rw [h1, cond_true] at h0; simp only at h0; rw [h0] at h1; cases h1
  | false =>
    rw [h1, cond_false] at h0
    rw [cond_false]
    have hh := (hub_Check_iff h).1 (eq_of_bne_false h1)
    exact ⟨hh, rfl, next_ok hh h0⟩
theorem hub_three {h : Hub} (hc : hub_Check h = 0) : h.peers.length = 3 := ((hub_Check_iff h).1 hc).three
end Go.Proofs.Ytchdacbjiomplaa
