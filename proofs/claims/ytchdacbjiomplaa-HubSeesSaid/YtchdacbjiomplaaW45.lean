/- Part of this claim. No condition. -/
import Derived.Test.YtchdacbjiomplaaW42
import Derived.Test.YtchdacbjiomplaaLEq
set_option linter.unusedVariables false
set_option linter.unusedSimpArgs false
namespace Go.Proofs.Ytchdacbjiomplaa
open Go Go.Proofs.Ytchdacbjiomplaa.Fw Go.Proofs
attribute [local irreducible] RdL RdN VarP
theorem hub_L0_ok : ∀ {l : List Peer}, hub_Check_L0 l = 0 → ∀ p ∈ l, (0 ≤ p.life ∧ p.life ≤ 50 ∧ 0 ≤ p.seq ∧ p.seq ≤ 30) ∧ (p.life = 0 → p.seq = 0 ∧ p.roots = []) ∧ view_Roots p.roots = 0
  | [], _ => by simp
  | q :: l, h => by
    rw [hub_Check_L0] at h
    cases h1 : (((decide (q.life < 0) || decide (q.life > 50)) || decide (q.seq < 0)) || decide (q.seq > 30)) with
    | true => rw [h1, cond_true] at h; cases h
    | false =>
    rw [h1, cond_false] at h
    cases h2 : ((q.life == 0) && (decide (q.seq > 0) || decide ((q.roots.length : Int) > 0))) with
    | true => rw [h2, cond_true] at h; cases h
    | false =>
    rw [h2, cond_false] at h
    cases h3 : (view_Roots q.roots != 0) with
    | true => rw [h3, cond_true] at h; rw [h] at h3; cases h3
    | false =>
    rw [h3, cond_false] at h
    intro p hp
    rcases List.mem_cons.1 hp with rfl | hp
    · simp only [Bool.or_eq_false_iff, decide_eq_false_iff_not] at h1
      refine ⟨by omega, fun hl => ?_, eq_of_bne_false h3⟩
      simp only [Bool.and_eq_false_iff, beq_eq_false_iff_ne, Bool.or_eq_false_iff, decide_eq_false_iff_not] at h2
      rcases h2 with h2 | h2
      · exact absurd hl h2
      · exact ⟨by omega, List.length_eq_zero_iff.1 (by omega)⟩
    · exact hub_L0_ok h p hp
theorem hub_peers {h : Hub} (hc : hub_Check h = 0) : ∀ p ∈ h.peers, (0 ≤ p.life ∧ p.life ≤ 50 ∧ 0 ≤ p.seq ∧ p.seq ≤ 30) ∧ (p.life = 0 → p.seq = 0 ∧ p.roots = []) ∧ view_Roots p.roots = 0 := by
  obtain ⟨h1, h2, h3, h4⟩ := hub_Check_len hc
  have e1 : (history_Check h.h != 0) = false := by rw [h1]; rfl
  have e2 : (decide (h.version < 0) || decide (h.version > 60)) = false := by simp; omega
  have e3 : ((h.peers.length : Int) != 3) = false := by rw [h4]; rfl
  unfold hub_Check at hc
  rw [e1, cond_false, e2, cond_false, e3, cond_false] at hc
  exact hub_L0_ok hc
theorem hub_seq {h : Hub} (hc : hub_Check h = 0) : ∀ p ∈ h.peers, 0 ≤ p.seq ∧ p.seq ≤ 30 := fun p hp => by have := (hub_peers hc p hp).1; omega
theorem note_who {r : Rec} (h : note_Check r = 0) : (r.kind = 1 → 0 ≤ r.o.who ∧ r.o.who < 3) ∧ (r.kind ≠ 1 → 0 ≤ r.who ∧ r.who < 3) ∧ 1 ≤ r.kind ∧ r.kind ≤ 3 ∧ (r.kind ≠ 1 → view_Roots r.roots = 0) := by
  unfold note_Check at h
  cases h1 : (decide (r.kind < 1) || decide (r.kind > 3)) with
  | true => rw [h1, cond_true] at h; cases h
  | false =>
  rw [h1, cond_false] at h
  simp only [Bool.or_eq_false_iff, decide_eq_false_iff_not] at h1
  cases h2 : (r.kind == 1) with
  | true =>
    rw [h2, cond_true] at h
    have h2 := eq_of_beq h2
    cases h3 : (((r.who != 0) || (r.life != 0)) || decide ((r.roots.length : Int) > 0)) with
    | true => rw [h3, cond_true] at h; cases h
    | false =>
      rw [h3, cond_false, move_Check_eq] at h
      have := chkO_ok h
      exact ⟨fun _ => by omega, fun hn => absurd h2 hn, by omega, by omega, fun hn => absurd h2 hn⟩
  | false =>
    rw [h2, cond_false] at h
    have h2 := beq_eq_false_iff_ne.1 h2
    cases h3 : (((!(decide (r.o = (⟨0, 0, 0, 0, 0, 0, 0⟩ : Op)))) || ((r.kind == 3) && (r.life != 0))) || ((r.kind == 2) && decide ((r.roots.length : Int) > 0))) with
    | true => rw [h3, cond_true] at h; cases h
    | false =>
      rw [h3, cond_false] at h
      cases h4 : ((decide (r.who < 0) || decide (r.who ≥ 3)) || ((r.kind == 2) && (decide (r.life < 1) || decide (r.life > 50)))) with
      | true => rw [h4, cond_true] at h; cases h
      | false =>
        rw [h4, cond_false] at h
        simp only [Bool.or_eq_false_iff, decide_eq_false_iff_not] at h4
        exact ⟨fun he => absurd he h2, fun _ => by omega, by omega, by omega, fun _ => h⟩

def hub_accept (h1 : Hub) (o1 : Op) : Int × Hub :=
  (bif ((((gt h1.peers o1.who.toNat).life) != o1.life) || ((((gt h1.peers o1.who.toNat).seq) + 1) != o1.seq)) then (7, h1) else (bif (((history_Put h1.h o1).2) == 0) then ((history_Put h1.h o1).2, (⟨((history_Put h1.h o1).1), h1.version, (h1.peers.set o1.who.toNat (⟨(gt h1.peers o1.who.toNat).life, o1.seq, (gt h1.peers o1.who.toNat).roots⟩ : Peer))⟩ : Hub)) else ((history_Put h1.h o1).2, h1)))
theorem hub_accept_spec (c1 : Nat) (y1 : SlV) (y2 : SlV) (y3 : SlV) (y3b : Option Nat) (γ1 : Nat → SlV) (h1 : Hub) (o1 : Op) (hp : h1.peers.length = 3) (hw : 0 ≤ o1.who ∧ o1.who < 3) (hl : h1.h.l.length ≤ 1000) (hs : ∀ p ∈ h1.peers, 0 ≤ p.seq ∧ p.seq ≤ 30) : DoesG Try.prog 203 [.pointer (some ⟨c1, 0, none⟩), .agg ⟨[.int .i64 o1.time, .int .i64 o1.who, .int .i64 o1.node, .int .i64 o1.parent, .int .i64 o1.name, .int .i64 o1.life, .int .i64 o1.seq]⟩] [RdL EStep y1 h1.h.l, RdL EPlace y2 h1.h.t, FactsG NPeer γ1 h1.peers] ⟨[⟨c1, 131, [y1.val h1.h.l.length, y2.val h1.h.t.length, .int .i64 h1.version, y3.val h1.peers.length]⟩], [ownL NPeer.E 144 y3 y3b (zipG γ1 0 h1.peers)]⟩ (fun (X : SlV × SlV × SlV × Option Nat × (Nat → SlV)) => .int .i64 ((hub_accept h1 o1).1)) (fun (X : SlV × SlV × SlV × Option Nat × (Nat → SlV)) => [RdL EStep X.1 ((((hub_accept h1 o1).2).h).l), RdL EPlace X.2.1 ((((hub_accept h1 o1).2).h).t), FactsG NPeer X.2.2.2.2 (((hub_accept h1 o1).2).peers)]) (fun (X : SlV × SlV × SlV × Option Nat × (Nat → SlV)) => ⟨[⟨c1, 131, [X.1.val ((((hub_accept h1 o1).2).h).l).length, X.2.1.val ((((hub_accept h1 o1).2).h).t).length, .int .i64 (((hub_accept h1 o1).2).version), X.2.2.1.val (((hub_accept h1 o1).2).peers).length]⟩], [ownL NPeer.E 144 X.2.2.1 X.2.2.2.1 (zipG X.2.2.2.2 0 (((hub_accept h1 o1).2).peers))]⟩) := by
  refine does_ofG tab_ok Try.func203 rfl Try.ntmps203 Try.results203 rfl inferInstance (fun _ => inferInstance) fun C => ?_
  (repeat refine cw_seq ?_); refine cw_region ?_
  refine rw_box_agg .sq (guard_none rfl) rfl rfl rfl rfl rfl fun g1 => ?_
  refine Rp rfl rfl rfl rfl ?_
  refine rw_nil ?_
  have hsb := hs (gt h1.peers o1.who.toNat) (gt_mem (by omega))
  (repeat refine cw_seq ?_); refine cw_regionA (fun _ => some []) ?_
  refine ra_q (.ab (i := 0) (js := [4, 5, 6]) [1, 2, 3, 7, 8] rfl Kr Kr Kr Kr Kr) (SplitB.all _) (by simp) rfl rfl rfl (q_pev rfl (fun _ => rfl)) ?_
  refine ra_q (.ab (i := 1) (js := [4, 5, 6]) [2, 3, 7, 8] rfl Kr Kr Kr Kr Kr) (SplitB.all _) (by simp) rfl rfl rfl (q_pev rfl (fun _ => rfl)) ?_
  refine ra_q (.ab (i := 2) (js := [4, 5, 6]) [3, 7, 8] rfl Kr Kr Kr Kr Kr) (SplitB.all _) (by simp) rfl rfl rfl (q_pev rfl (fun _ => rfl)) ?_
  refine ra_q (.an (i := 3) (js := [4, 5, 6]) rfl Kr Kr Kr Kr) (SplitB.all _) (by simp) rfl rfl rfl (q_ld1 rfl rfl (fun _ => rfl) rfl Mm rfl) ?_
  refine ra_q (.ab (i := 4) (js := []) [5, 6, 7, 8] rfl Kr Kr Kr Kr Kr) (SplitB.all _) (by simp) rfl rfl rfl (q_pev rfl (fun _ => rfl)) ?_
  refine ra_q (.ab (i := 5) (js := []) [6, 7, 8] rfl Kr Kr Kr Kr Kr) (SplitB.all _) (by simp) rfl rfl rfl (q_pev rfl (fun _ => rfl)) ?_
  refine ra_q (.an (i := 6) (js := []) rfl Kr Kr Kr Kr) (SplitB.all _) (by simp) rfl rfl rfl (q_ld1 rfl rfl (fun _ => rfl) rfl Mm rfl) ?_
  refine rw_qO NPeer.E (e := 144) (X := y3) (b := y3b) (l := zipG γ1 0 h1.peers) Mm (.an (i := 7) (js := []) rfl Kr Kr Kr Kr) rfl rfl rfl (q_idxN NPeer γ1 o1.who.toNat rfl rfl (fun _ => rfl) rfl (fun _ => rfl) rfl rfl rfl (.head _) rfl (fun _ => by omega) (fun _ => by first | assumption | omega | (simp only [List.length_set]; omega))) ?_
  refine ra_q (.an (i := 8) (js := []) rfl Kr Kr Kr Kr) (SplitB.all _) (by simp) rfl rfl rfl (q_pev rfl (fun _ => rfl)) ?_
  refine ra_nil Kr ?_
  (repeat refine cw_seq ?_); refine cw_regionA (fun _ => some []) ?_
  refine ra_q (.ab (i := 0) (js := [4, 5]) [1, 2, 3, 6, 7, 8, 9, 10, 11, 12, 13, 14, 15, 16] rfl Kr Kr Kr Kr Kr) (SplitB.all _) (by simp) rfl rfl rfl (q_pev rfl (fun _ => rfl)) ?_
  refine ra_q (.ab (i := 1) (js := [4, 5]) [2, 3, 6, 7, 8, 9, 10, 11, 12, 13, 14, 15, 16] rfl Kr Kr Kr Kr Kr) (SplitB.all _) (by simp) rfl rfl rfl (q_pev rfl (fun _ => rfl)) ?_
  refine ra_q (.ab (i := 2) (js := [4, 5]) [3, 6, 7, 8, 9, 10, 11, 12, 13, 14, 15, 16] rfl Kr Kr Kr Kr Kr) (SplitB.all _) (by simp) rfl rfl rfl (q_fae rfl rfl (fun _ => rfl) rfl rfl) ?_
  refine rw_qO NPeer.E (e := 144) (X := y3) (b := y3b) (l := zipG γ1 0 h1.peers) Mm (.ab (i := 3) (js := [4, 5]) [6, 7, 8, 9, 10, 11, 12, 13, 14, 15, 16] rfl Kr Kr Kr Kr Kr) rfl rfl rfl (q_le1N NPeer γ1 (v := .int .i64 ((gt h1.peers o1.who.toNat).life)) rfl rfl (fun _ => rfl) rfl rfl (.head _) (fun _ => by first | assumption | omega | (simp only [List.length_set]; omega)) rfl) ?_
  refine ra_q (.ab (i := 4) (js := []) [5, 6, 7, 8, 9, 10, 11, 12, 13, 14, 15, 16] rfl Kr Kr Kr Kr Kr) (SplitB.all _) (by simp) rfl rfl rfl (q_pev rfl (fun _ => rfl)) ?_
  refine ra_q (.ab (i := 5) (js := []) [6, 7, 8, 9, 10, 11, 12, 13, 14, 15, 16] rfl Kr Kr Kr Kr Kr) (SplitB.all _) (by simp) rfl rfl rfl (q_ld1 rfl rfl (fun _ => rfl) rfl Mm rfl) ?_
  refine ra_q (.ab (i := 6) (js := []) [7, 8, 9, 10, 11, 12, 13, 14, 15, 16] rfl Kr Kr Kr Kr Kr) (SplitB.all _) (by simp) rfl rfl rfl (q_pev rfl (fun _ => rfl)) ?_
  refine ra_q (.an (i := 7) (js := []) rfl Kr Kr Kr Kr) (SplitB.all _) (by simp) rfl rfl rfl (q_pev rfl (fun _ => rfl)) ?_
  refine ra_qg (.ab (i := 8) (js := [13, 14]) [9, 10, 11, 12, 15, 16] rfl Kr Kr Kr Kr Kr) (SplitB.all _) (by simp) (guard_vf rfl rfl rfl) rfl rfl (q_pev rfl Bt) ?_
  refine ra_qg (.ab (i := 9) (js := [13, 14]) [10, 11, 12, 15, 16] rfl Kr Kr Kr Kr Kr) (SplitB.all _) (by simp) (guard_vf rfl rfl rfl) rfl rfl (q_pev rfl Bt) ?_
  refine ra_qg (.ab (i := 10) (js := [13, 14]) [11, 12, 15, 16] rfl Kr Kr Kr Kr Kr) (SplitB.all _) (by simp) (guard_vf rfl rfl rfl) rfl rfl (q_fae rfl rfl Bt rfl rfl) ?_
  refine rw_qgO NPeer.E (e := 144) (X := y3) (b := y3b) (l := zipG γ1 0 h1.peers) Mm (.ab (i := 11) (js := [13, 14]) [12, 15, 16] rfl Kr Kr Kr Kr Kr) (guard_vf rfl rfl rfl) rfl rfl (q_le1N NPeer γ1 (v := .int .i64 ((gt h1.peers o1.who.toNat).seq)) rfl rfl Bt rfl rfl (.head _) (by first | (intro _; first | assumption | omega | (simp only [List.length_set]; omega)) | (intro h; simp at h; omega)) rfl) ?_
  refine ra_qg (.ab (i := 12) (js := [13, 14]) [15, 16] rfl Kr Kr Kr Kr Kr) (SplitB.all _) (by simp) (guard_vf rfl rfl rfl) rfl rfl (q_add rfl rfl Bt rfl Bt (by intro h; first | omega | (simp at h; omega))) ?_
  refine ra_qg (.ab (i := 13) (js := []) [14, 15, 16] rfl Kr Kr Kr Kr Kr) (SplitB.all _) (by simp) (guard_vf rfl rfl rfl) rfl rfl (q_pev rfl Bt) ?_
  refine ra_qg (.ab (i := 14) (js := []) [15, 16] rfl Kr Kr Kr Kr Kr) (SplitB.all _) (by simp) (guard_vf rfl rfl rfl) rfl rfl (q_ld1 rfl rfl Bt rfl Mm rfl) ?_
  refine ra_qg (.an (i := 15) (js := []) rfl Kr Kr Kr Kr) (SplitB.all _) (by simp) (guard_vf rfl rfl rfl) rfl rfl (q_pev rfl Bt) ?_
  refine ra_q (.an (i := 16) (js := []) rfl Kr Kr Kr Kr) (SplitB.all _) (by simp) rfl rfl rfl (q_pev rfl Bt) ?_
  refine ra_nil Kr ?_
  (repeat refine cw_seq ?_); refine cw_cond (b := ((((gt h1.peers o1.who.toNat).life) != o1.life) || ((((gt h1.peers o1.who.toNat).seq) + 1) != o1.seq))) rfl rfl (fun hc1 => ?_) (fun hc1 => ?_)
  · skip
    (repeat refine cw_seq ?_); refine cw_region ?_
    refine Rp rfl rfl rfl rfl ?_
    refine rw_nil ?_
    (repeat refine cw_seq ?_)
    have hr1 : (hub_accept h1 o1) = (7, h1) := by simp only [hub_accept, hc1, cond_true, cond_false]
    refine cw_ret ?_
    rw [hr1]
    exact ⟨⟨y1, y2, y3, y3b, γ1⟩, _, (.cons (.tmp rfl) .nil), rfl, Sm, Sp, Sp⟩
  · skip
    (repeat refine cw_seq ?_); refine cw_skip ?_
    (repeat refine cw_seq ?_)
    refine cw_join [0, 3, 4, 5] [true, true] (fun (i_ : Nat × SlV × SlV) => match i_ with | ⟨g2, x1, x2⟩ => [(6, .v (.pointer (some ⟨g2, 0, none⟩))), (7, .v (.int .i64 ((history_Put h1.h o1).2)))]) (fun (i_ : Nat × SlV × SlV) => match i_ with | ⟨g2, x1, x2⟩ => [⟨g2, 94, [x1.val (((history_Put h1.h o1).1).l).length, x2.val (((history_Put h1.h o1).1).t).length]⟩]) (fun (i_ : Nat × SlV × SlV) => match i_ with | ⟨g2, x1, x2⟩ => [ownL NPeer.E 144 y3 y3b (zipG γ1 0 h1.peers)]) (fun (i_ : Nat × SlV × SlV) => match i_ with | ⟨g2, x1, x2⟩ => [RdL EStep x1 (((history_Put h1.h o1).1).l), RdL EPlace x2 (((history_Put h1.h o1).1).t)]) (fun _ => True) (.cons rfl (.cons rfl (.cons rfl (.cons rfl (.nil _))))) (.keep (.keep (.nil))) ?_ ?_
    · skip
      refine cw_regionA (fun j => match j with | 10 => none | _ => some []) ?_
      refine ra_q (.ab (i := 0) (js := [4, 9]) [1, 2, 3, 5, 6, 7, 8, 10, 11] rfl Kr Kr Kr Kr Kr) (SplitB.all _) (by simp) rfl rfl rfl (q_pev rfl (fun _ => rfl)) ?_
      refine ra_q (.ab (i := 1) (js := [4, 9]) [2, 3, 5, 6, 7, 8, 10, 11] rfl Kr Kr Kr Kr Kr) (SplitB.all _) (by simp) rfl rfl rfl (q_pev rfl (fun _ => rfl)) ?_
      refine ra_q (.ab (i := 2) (js := [4, 9]) [3, 5, 6, 7, 8, 10, 11] rfl Kr Kr Kr Kr Kr) (SplitB.all _) (by simp) rfl rfl rfl (q_pev rfl (fun _ => rfl)) ?_
      refine ra_q (.ab (i := 3) (js := [4, 9]) [5, 6, 7, 8, 10, 11] rfl Kr Kr Kr Kr Kr) (SplitB.all _) (by simp) rfl rfl rfl (q_ldP rfl rfl (fun _ => rfl) rfl Mm rfl) ?_
      refine ra_q (.ab (i := 4) (js := [9]) [5, 6, 7, 8, 10, 11] rfl Kr Kr Kr Kr Kr) (SplitB.all _) (by simp) rfl rfl rfl (q_ldA rfl rfl (fun _ => rfl) rfl Mm rfl) ?_
      refine ra_two 5 9 Kr ?_ ?_
      · skip
        refine rw_call (history_Put_spec y1 y2 h1.h o1 (by first | assumption | omega)) (.an rfl rfl) (guard_none rfl) rfl rfl rfl Kr rfl rfl Sm ?_
        intro x3
        refine rw_pure (φ := (((history_Put h1.h o1).1).l).length * 88 ≤ 140737488355328) [RdL EStep x3.1 (((history_Put h1.h o1).1).l)] Sm (fun M w h => (allF1 h).len) fun hlen1 => ?_
        refine rw_pure (φ := (((history_Put h1.h o1).1).t).length * 24 ≤ 140737488355328) [RdL EPlace x3.2 (((history_Put h1.h o1).1).t)] Sm (fun M w h => (allF1 h).len) fun hlen2 => ?_
        refine ra_q (.an (i := 6) (js := [9]) rfl Kr Kr Kr Kr) (SplitB.all _) (by simp) rfl rfl rfl (q_pev rfl (fun _ => rfl)) ?_
        refine ra_q (.an (i := 7) (js := [8, 9]) rfl Kr Kr Kr Kr) (SplitB.all _) (by simp) rfl rfl rfl (q_pev rfl (fun _ => rfl)) ?_
        refine ra_p (.an (i := 8) (js := [9, 10]) rfl Kr Kr Kr Kr) rfl rfl rfl (q_pev rfl (fun _ => rfl)) ?_
        refine ra_one 9 Kr ?_
        refine rw_alloc (.an rfl rfl) (guard_none rfl) rfl rfl rfl rfl fun g3 => ?_
        refine ra_one 10 Kr ?_
        refine rw_stA (.lo [g3] rfl rfl) (.inr (by simp)) (guard_none rfl) rfl rfl rfl rfl rfl rfl rfl rfl rfl Ub rfl ?_
        refine ra_q (.an (i := 11) (js := []) rfl Kr Kr Kr Kr) (SplitB.all _) (by simp) rfl rfl rfl (q_pev rfl (fun _ => rfl)) ?_
        refine ra_nil Kr ?_
        refine ⟨⟨g3, x3.1, x3.2⟩, trivial, Le4⟩
      · skip
        refine rw_alloc (.an rfl rfl) (guard_none rfl) rfl rfl rfl rfl fun g4 => ?_
        refine ra_one 5 Kr ?_
        refine rw_call (history_Put_spec y1 y2 h1.h o1 (by first | assumption | omega)) (.an rfl rfl) (guard_none rfl) rfl rfl rfl Kr rfl rfl Sm ?_
        intro x4
        refine rw_pure (φ := (((history_Put h1.h o1).1).l).length * 88 ≤ 140737488355328) [RdL EStep x4.1 (((history_Put h1.h o1).1).l)] Sm (fun M w h => (allF1 h).len) fun hlen3 => ?_
        refine rw_pure (φ := (((history_Put h1.h o1).1).t).length * 24 ≤ 140737488355328) [RdL EPlace x4.2 (((history_Put h1.h o1).1).t)] Sm (fun M w h => (allF1 h).len) fun hlen4 => ?_
        refine ra_q (.an (i := 6) (js := []) rfl Kr Kr Kr Kr) (SplitB.all _) (by simp) rfl rfl rfl (q_pev rfl (fun _ => rfl)) ?_
        refine ra_q (.an (i := 7) (js := [8]) rfl Kr Kr Kr Kr) (SplitB.all _) (by simp) rfl rfl rfl (q_pev rfl (fun _ => rfl)) ?_
        refine ra_p (.an (i := 8) (js := [10]) rfl Kr Kr Kr Kr) rfl rfl rfl (q_pev rfl (fun _ => rfl)) ?_
        refine ra_one 10 Kr ?_
        refine rw_stA (.lo [g4] rfl rfl) (.inr (by simp)) (guard_none rfl) rfl rfl rfl rfl rfl rfl rfl rfl rfl Ub rfl ?_
        refine ra_q (.an (i := 11) (js := []) rfl Kr Kr Kr Kr) (SplitB.all _) (by simp) rfl rfl rfl (q_pev rfl (fun _ => rfl)) ?_
        refine ra_nil Kr ?_
        refine ⟨⟨g4, x4.1, x4.2⟩, trivial, Le4⟩
    · skip
      rintro ⟨g2, x1, x2⟩ -
      simp only [List.cons_append, List.nil_append]
      (repeat refine cw_seq ?_); refine cw_region ?_
      refine Rp rfl rfl rfl rfl ?_
      refine Rp rfl rfl rfl rfl ?_
      refine rw_nil ?_
      (repeat refine cw_seq ?_); refine cw_cond (b := (((history_Put h1.h o1).2) == 0)) rfl rfl (fun hc2 => ?_) (fun hc2 => ?_)
      · skip
        have hc2p := eq_of_beq hc2
        (repeat refine cw_seq ?_); refine cw_regionA (fun j => match j with | 7 => none | 10 => none | _ => some []) ?_
        refine ra_q (.an (i := 0) (js := [1, 2, 3, 4]) rfl Kr Kr Kr Kr) (SplitB.all _) (by simp) rfl rfl rfl (q_pev rfl (fun _ => rfl)) ?_
        refine ra_p (.an (i := 1) (js := [2, 3, 4, 5, 6, 7]) rfl Kr Kr Kr Kr) rfl rfl rfl (q_pev rfl (fun _ => rfl)) ?_
        refine ra_q (.an (i := 2) (js := [3, 4]) rfl Kr Kr Kr Kr) (SplitB.all _) (by simp) rfl rfl rfl (q_ldA rfl rfl (fun _ => rfl) rfl Mm rfl) ?_
        refine ra_p (.an (i := 3) (js := [5, 6, 7]) rfl Kr Kr Kr Kr) rfl rfl rfl (q_pev rfl (fun _ => rfl)) ?_
        refine ra_q (.ab (i := 5) (js := [4]) [6, 7, 8, 9, 10] rfl Kr Kr Kr Kr Kr) (SplitB.all _) (by simp) rfl rfl rfl (q_pev rfl (fun _ => rfl)) ?_
        refine ra_q (.an (i := 6) (js := [4]) rfl Kr Kr Kr Kr) (SplitB.all _) (by simp) rfl rfl rfl (q_pev rfl (fun _ => rfl)) ?_
        refine ra_two 4 7 Kr ?_ ?_
        · skip
          refine ra_now rfl rfl rfl rfl (q_ld1 rfl rfl (fun _ => rfl) rfl Mm rfl) ?_
          refine ra_one 7 Kr ?_
          refine rw_stP (.lo [c1] rfl rfl) (.inr (by simp)) (guard_none rfl) rfl rfl rfl rfl rfl rfl rfl rfl rfl Ub rfl ?_
          refine ra_q (.ab (i := 8) (js := []) [9, 10] rfl Kr Kr Kr Kr Kr) (SplitB.all _) (by simp) rfl rfl rfl (q_pev rfl (fun _ => rfl)) ?_
          refine ra_q (.an (i := 9) (js := []) rfl Kr Kr Kr Kr) (SplitB.all _) (by simp) rfl rfl rfl (q_fae rfl rfl (fun _ => rfl) rfl rfl) ?_
          refine ra_one 10 Kr ?_
          refine rw_stON NPeer γ1 h1.peers o1.who.toNat 1 (γ1 o1.who.toNat) (⟨(gt h1.peers o1.who.toNat).life, o1.seq, (gt h1.peers o1.who.toNat).roots⟩ : Peer) (e := 144) (X := y3) (b := y3b) (.lo y3b.toList rfl rfl) (.inr (fun g h => by simp [h])) (guard_none rfl) rfl rfl rfl rfl rfl rfl rfl rfl rfl rfl rfl (by first | assumption | omega | (simp only [List.length_set]; omega)) rfl Uo ?_
          refine rw_fact (F := RdL EInt (γ1 o1.who.toNat) ((gt h1.peers o1.who.toNat).roots)) [FactsG NPeer γ1 h1.peers] Sm (fun M w h => (allF1 h) o1.who.toNat (by first | assumption | omega) _ (.head _)) ?_
          refine rw_fact (F := FactsG NPeer (updG γ1 o1.who.toNat (γ1 o1.who.toNat)) (h1.peers.set o1.who.toNat (⟨(gt h1.peers o1.who.toNat).life, o1.seq, (gt h1.peers o1.who.toNat).roots⟩ : Peer))) [FactsG NPeer γ1 h1.peers, RdL EInt (γ1 o1.who.toNat) ((gt h1.peers o1.who.toNat).roots)] Sm (fun M w h => FactsG.upd NPeer (h _ (.head _)) (allF_sub Sm h)) ?_
          have hv1 : y3.val h1.peers.length = y3.val (h1.peers.set o1.who.toNat (⟨(gt h1.peers o1.who.toNat).life, o1.seq, (gt h1.peers o1.who.toNat).roots⟩ : Peer)).length := congrArg (SlV.val y3) List.length_set.symm
          try rw [hv1]
          refine ra_nil Kr ?_
          (repeat refine cw_seq ?_); refine cw_region ?_
          refine Rp rfl rfl rfl rfl ?_
          refine Rp rfl rfl rfl rfl ?_
          refine rw_nil ?_
          (repeat refine cw_seq ?_)
          have hr2 : (hub_accept h1 o1) = ((history_Put h1.h o1).2, (⟨((history_Put h1.h o1).1), h1.version, (h1.peers.set o1.who.toNat (⟨(gt h1.peers o1.who.toNat).life, o1.seq, (gt h1.peers o1.who.toNat).roots⟩ : Peer))⟩ : Hub)) := by simp only [hub_accept, hc1, hc2, cond_true, cond_false]
          refine cw_ret ?_
          rw [hr2]
          exact ⟨⟨x1, x2, y3, y3b, (updG γ1 o1.who.toNat (γ1 o1.who.toNat))⟩, _, (.cons (.tmp rfl) .nil), rfl, Sm, Sp, Sp⟩
        · skip
          refine rw_stP (.lo [c1] rfl rfl) (.inr (by simp)) (guard_none rfl) rfl rfl rfl rfl rfl rfl rfl rfl rfl Ub rfl ?_
          refine ra_q (.an (i := 4) (js := []) rfl Kr Kr Kr Kr) (SplitB.all _) (by simp) rfl rfl rfl (q_ld1 rfl rfl (fun _ => rfl) rfl Mm rfl) ?_
          refine ra_q (.ab (i := 8) (js := []) [9, 10] rfl Kr Kr Kr Kr Kr) (SplitB.all _) (by simp) rfl rfl rfl (q_pev rfl (fun _ => rfl)) ?_
          refine ra_q (.an (i := 9) (js := []) rfl Kr Kr Kr Kr) (SplitB.all _) (by simp) rfl rfl rfl (q_fae rfl rfl (fun _ => rfl) rfl rfl) ?_
          refine ra_one 10 Kr ?_
          refine rw_stON NPeer γ1 h1.peers o1.who.toNat 1 (γ1 o1.who.toNat) (⟨(gt h1.peers o1.who.toNat).life, o1.seq, (gt h1.peers o1.who.toNat).roots⟩ : Peer) (e := 144) (X := y3) (b := y3b) (.lo y3b.toList rfl rfl) (.inr (fun g h => by simp [h])) (guard_none rfl) rfl rfl rfl rfl rfl rfl rfl rfl rfl rfl rfl (by first | assumption | omega | (simp only [List.length_set]; omega)) rfl Uo ?_
          refine rw_fact (F := RdL EInt (γ1 o1.who.toNat) ((gt h1.peers o1.who.toNat).roots)) [FactsG NPeer γ1 h1.peers] Sm (fun M w h => (allF1 h) o1.who.toNat (by first | assumption | omega) _ (.head _)) ?_
          refine rw_fact (F := FactsG NPeer (updG γ1 o1.who.toNat (γ1 o1.who.toNat)) (h1.peers.set o1.who.toNat (⟨(gt h1.peers o1.who.toNat).life, o1.seq, (gt h1.peers o1.who.toNat).roots⟩ : Peer))) [FactsG NPeer γ1 h1.peers, RdL EInt (γ1 o1.who.toNat) ((gt h1.peers o1.who.toNat).roots)] Sm (fun M w h => FactsG.upd NPeer (h _ (.head _)) (allF_sub Sm h)) ?_
          have hv2 : y3.val h1.peers.length = y3.val (h1.peers.set o1.who.toNat (⟨(gt h1.peers o1.who.toNat).life, o1.seq, (gt h1.peers o1.who.toNat).roots⟩ : Peer)).length := congrArg (SlV.val y3) List.length_set.symm
          try rw [hv2]
          refine ra_nil Kr ?_
          (repeat refine cw_seq ?_); refine cw_region ?_
          refine Rp rfl rfl rfl rfl ?_
          refine Rp rfl rfl rfl rfl ?_
          refine rw_nil ?_
          (repeat refine cw_seq ?_)
          have hr3 : (hub_accept h1 o1) = ((history_Put h1.h o1).2, (⟨((history_Put h1.h o1).1), h1.version, (h1.peers.set o1.who.toNat (⟨(gt h1.peers o1.who.toNat).life, o1.seq, (gt h1.peers o1.who.toNat).roots⟩ : Peer))⟩ : Hub)) := by simp only [hub_accept, hc1, hc2, cond_true, cond_false]
          refine cw_ret ?_
          rw [hr3]
          exact ⟨⟨x1, x2, y3, y3b, (updG γ1 o1.who.toNat (γ1 o1.who.toNat))⟩, _, (.cons (.tmp rfl) .nil), rfl, Sm, Sp, Sp⟩
      · skip
        have hc2p := ne_of_beq_false hc2
        (repeat refine cw_seq ?_); refine cw_skip ?_
        (repeat refine cw_seq ?_); refine cw_region ?_
        refine Rp rfl rfl rfl rfl ?_
        refine Rp rfl rfl rfl rfl ?_
        refine rw_nil ?_
        (repeat refine cw_seq ?_)
        have hr4 : (hub_accept h1 o1) = ((history_Put h1.h o1).2, h1) := by simp only [hub_accept, hc1, hc2, cond_true, cond_false]
        refine cw_ret ?_
        rw [hr4]
        exact ⟨⟨y1, y2, y3, y3b, γ1⟩, _, (.cons (.tmp rfl) .nil), rfl, Sm, Sp, Sp⟩
end Go.Proofs.Ytchdacbjiomplaa
