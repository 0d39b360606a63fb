/- Part of this claim. No condition. -/
import Derived.Test.YtchdacbjiomplaaW61
import Derived.Test.YtchdacbjiomplaaLAcc
import Derived.Test.YtchdacbjiomplaaLHubI
import Derived.Test.YtchdacbjiomplaaLHub
set_option linter.unusedVariables false
set_option linter.unusedSimpArgs false
namespace Go.Proofs.Ytchdacbjiomplaa
open Go Go.Proofs.Ytchdacbjiomplaa.Fw Go.Proofs
/-! ### What was accepted, in order -/
theorem gt_set_if {α : Type} [Inhabited α] {l : List α} {i : Nat} (h : i < l.length) (a : α) (j : Nat) : gt (l.set i a) j = if j = i then a else gt l j := by
  by_cases hj : j = i
  · subst hj; simp [gt, List.getD_eq_getElem?_getD, h]
  · rw [if_neg hj]; simp [gt, List.getD_eq_getElem?_getD, List.getElem?_set_ne (Ne.symm hj)]
theorem next_inv {h : Hub} {r : Rec} (h0 : (hub_next h r).2 = 0) :
    ((r.kind = 1 ∧ (gt h.peers r.o.who.toNat).life = r.o.life ∧ (gt h.peers r.o.who.toNat).seq + 1 = r.o.seq ∧ (history_Put h.h r.o).2 = 0 ∧ (hub_next h r).1 = ⟨(history_Put h.h r.o).1, h.version + 1, h.peers.set r.o.who.toNat ⟨(gt h.peers r.o.who.toNat).life, r.o.seq, (gt h.peers r.o.who.toNat).roots⟩⟩) ∨
     (r.kind = 2 ∧ r.life = (gt h.peers r.who.toNat).life + 1 ∧ (hub_next h r).1 = ⟨h.h, h.version + 1, h.peers.set r.who.toNat ⟨r.life, 0, []⟩⟩) ∨
     (r.kind = 3 ∧ (hub_next h r).1 = ⟨h.h, h.version + 1, h.peers.set r.who.toNat ⟨(gt h.peers r.who.toNat).life, (gt h.peers r.who.toNat).seq, r.roots⟩⟩)) := by
  have hn := next_rec h0
  have hw := note_who hn
  unfold hub_next at h0 ⊢
  have e1 : (note_Check r != 0) = false := by rw [hn]; rfl
  rw [e1, cond_false] at h0
  rw [e1, cond_false]
  cases h2 : (h.version == 60) with
  | true => rw [h2, cond_true] at h0; cases h0
  | false =>
  rw [h2, cond_false] at h0
  rw [cond_false]
  cases h3 : (r.kind == 1) with
  | true =>
    left
    rw [h3, cond_true] at h0
    rw [cond_true]
    cases h4 : ((hub_accept ⟨h.h, h.version + 1, h.peers⟩ r.o).1 != 0) with
    | true => rw [h4, cond_true] at h0; simp only at h0; rw [h0] at h4; cases h4
    | false =>
      rw [cond_false]
      have h5 := eq_of_bne_false h4
      unfold hub_accept at h5 ⊢
      cases h6 : (((gt h.peers r.o.who.toNat).life != r.o.life) || ((gt h.peers r.o.who.toNat).seq + 1 != r.o.seq)) with
      | true => rw [h6, cond_true] at h5; cases h5
      | false =>
        rw [h6, cond_false] at h5
        rw [cond_false]
        cases h7 : ((history_Put h.h r.o).2 == 0) with
        | false => rw [h7, cond_false] at h5; simp only at h5; rw [h5] at h7; cases h7
        | true =>
          simp only [Bool.or_eq_false_iff, bne_eq_false_iff_eq] at h6
          exact ⟨eq_of_beq h3, h6.1, h6.2, eq_of_beq h7, rfl⟩
  | false =>
  right
  rw [h3, cond_false] at h0
  rw [cond_false]
  cases h4 : (r.kind == 2) with
  | true =>
    left
    rw [h4, cond_true] at h0
    rw [cond_true]
    cases h5 : (r.life != (gt h.peers r.who.toNat).life + 1) with
    | true => rw [h5, cond_true] at h0; cases h0
    | false => exact ⟨eq_of_beq h4, eq_of_bne_false h5, rfl⟩
  | false =>
  right
  rw [h4, cond_false] at h0
  rw [cond_false]
  have h3 := beq_eq_false_iff_ne.1 h3
  have h4 := beq_eq_false_iff_ne.1 h4
  have hk : r.kind = 3 := by omega
  have h5 : (r.kind == 3) = true := by rw [hk]; rfl
  rw [h5, cond_true] at h0
  rw [h5, cond_true]
  cases h6 : ((gt h.peers r.who.toNat).life == 0) with
  | true => rw [h6, cond_true] at h0; cases h0
  | false => exact ⟨hk, rfl⟩
theorem Put_hist {h : History} {S : List Op} (hh : IsHist h S) {o : Op} (ho : chkO o = 0) (h0 : (history_Put h o).2 = 0) : IsHist (history_Put h o).1 (sortOps (S ++ [o])) ∧ (sortOps (S ++ [o])).Perm (S ++ [o]) := by
  rw [Put_eq hh] at h0 ⊢
  have e1 : (chkO o != 0) = false := by rw [ho]; rfl
  rw [e1, cond_false] at h0
  rw [e1, cond_false]
  cases h2 : S.any (fun q => decide (stamp q = stamp o)) with
  | true => rw [h2, cond_true] at h0; cases h0
  | false =>
  rw [h2, cond_false] at h0
  rw [cond_false]
  cases h3 : S.length == 30 with
  | true => rw [h3, cond_true] at h0; cases h0
  | false =>
    rw [cond_false]
    have h3 : S.length ≠ 30 := by simpa using h3
    have hl := hh.len
    have hl2 : (S ++ [o]).length ≤ 30 := by simp only [List.length_append, List.length_cons, List.length_nil]; omega
    refine ⟨IsHist.run (by rw [(sortOps_perm hl2).length_eq]; exact hl2) (sortOps_ok hl2 fun q hq => ?_) (sort_rise hl2 (dist_snoc hh.rise.dist (not_any h2))), sortOps_perm hl2⟩
    rcases List.mem_append.1 hq with hq | hq
    · exact hh.ok q hq
    · rw [List.mem_singleton] at hq; rw [hq]; exact ho
theorem note_op {r : Rec} (hn : note_Check r = 0) (hk : r.kind = 1) : chkO r.o = 0 := by
  unfold note_Check at hn
  have e : (r.kind == 1) = true := by rw [hk]; rfl
  have e2 : (decide (r.kind < 1) || decide (r.kind > 3)) = false := by rw [hk]; rfl
  rw [e2, e, cond_false, cond_true] at hn
  cases h6 : (((r.who != 0) || (r.life != 0)) || decide ((r.roots.length : Int) > 0)) with
  | true => rw [h6, cond_true] at hn; cases hn
  | false => rw [h6, cond_false, move_Check_eq] at hn; exact hn
structure Along (h : Hub) (ops : List Op) (sq lf : List Int) : Prop where
  hub : IsHub h
  hist : ∃ S, IsHist h.h S ∧ S.Perm ops
  l1 : sq.length = 3
  l2 : lf.length = 3
  sq : ∀ i, i < 3 → gt sq i = (gt h.peers i).seq
  lf : ∀ i, i < 3 → gt lf i = (gt h.peers i).life
theorem InOrder_L0 (l : List Rec) : ∀ (r : List Rec) (h : Hub) (ops : List Op) (sq lf : List Int), Along h ops sq lf → hub_Replay_L0 r h.h.l h.h.t h.version h.peers = hub_Replay l → (hub_Replay l).2 = 0 → h.version + (r.length : Int) = (l.length : Int) → orangerylaw_HubInOrder_L0 l r ops sq lf = true
  | [], h, ops, sq, lf, ha, hr, h0, hv => by
    rw [hub_Replay_L0] at hr
    rw [orangerylaw_HubInOrder_L0, ← hr]
    obtain ⟨S, hS, hp⟩ := ha.hist
    have hl : ops.length ≤ 30 := by rw [← hp.length_eq]; exact hS.len
    have hf := Fold_ok hl (fun o ho => hS.ok o (hp.mem_iff.2 ho)) ((Dist.perm hp).1 hS.rise.dist)
    rw [sortOps_uniq hl hS.rise hp, ← hS.eq] at hf
    rw [hf]
    have e : history_Same h.h h.h = true := (hSame_iff _ _).2 rfl
    simp only [List.length_nil] at hv
    simp only [beq_self_eq_true, Bool.true_and]
    show (history_Same h.h h.h && (h.version == (l.length : Int))) = true
    rw [e, Bool.true_and, beq_iff_eq]; omega
  | q :: r, h, ops, sq, lf, ha, hr, h0, hv => by
    rw [hub_Replay_L0] at hr
    have hz : (hub_next h q).2 = 0 := by
      cases h1 : ((hub_next h q).2 != 0) with
      | false => exact eq_of_bne_false h1
      | true =>
        have hr2 := hr
        simp only [show (⟨⟨h.h.l, h.h.t⟩, h.version, h.peers⟩ : Hub) = h from rfl, h1, cond_true] at hr2
        rw [← hr2] at h0
        exact h0
    have e1 : ((hub_next h q).2 != 0) = false := by rw [hz]; rfl
    simp only [show (⟨⟨h.h.l, h.h.t⟩, h.version, h.peers⟩ : Hub) = h from rfl, e1, cond_false] at hr
    have hn := next_rec hz
    have hw := note_who hn
    have hok := next_ok ha.hub hz
    have h3 := ha.hub.three
    have hv2 : (hub_next h q).1.version + (r.length : Int) = (l.length : Int) := by
      rw [hok.2]; simp only [List.length_cons] at hv; omega
    have go := fun ops' sq' lf' (hx : Along (hub_next h q).1 ops' sq' lf') => InOrder_L0 l r (hub_next h q).1 ops' sq' lf' hx hr h0 hv2
    rw [orangerylaw_HubInOrder_L0]
    obtain ⟨S, hS, hp⟩ := ha.hist
    rcases next_inv hz with ⟨hk, a1, a2, a3, a4⟩ | ⟨hk, a1, a4⟩ | ⟨hk, a4⟩
    · have k2 : (q.kind == 2) = false := by rw [hk]; rfl
      have k1 : (q.kind == 1) = true := by rw [hk]; rfl
      have hwr := hw.1 hk
      have hj : q.o.who.toNat < 3 := by omega
      have b1 := ha.lf _ hj
      have b2 := ha.sq _ hj
      have c1 : ((q.o.life != gt lf q.o.who.toNat) || (q.o.seq != gt (sq.set q.o.who.toNat (gt sq q.o.who.toNat + 1)) q.o.who.toNat)) = false := by
        rw [gt_set_if (by rw [ha.l1]; exact hj), if_pos rfl, b1, b2, a1, a2]; simp
      rw [k2, k1, c1, cond_false, cond_true, cond_false]
      refine go _ _ _ ⟨hok.1, ?_, by rw [List.length_set]; exact ha.l1, ha.l2, fun i hi => ?_, fun i hi => ?_⟩
      · obtain ⟨p1, p2⟩ := Put_hist hS (note_op hn hk) a3
        rw [a4]
        exact ⟨_, p1, p2.trans (hp.append_right _)⟩
      · rw [a4]
        simp only
        rw [gt_set_if (by rw [ha.l1]; exact hj), gt_set_if (by rw [h3]; exact hj)]
        by_cases hij : i = q.o.who.toNat
        · rw [if_pos hij, if_pos hij, b2, a2]
        · rw [if_neg hij, if_neg hij]; exact ha.sq i hi
      · rw [a4]
        simp only
        rw [gt_set_if (by rw [h3]; exact hj)]
        by_cases hij : i = q.o.who.toNat
        · rw [if_pos hij, hij]; exact b1
        · rw [if_neg hij]; exact ha.lf i hi
    · have k2 : (q.kind == 2) = true := by rw [hk]; rfl
      have hwr := hw.2.1 (by rw [hk]; decide)
      have hj : q.who.toNat < 3 := by omega
      have b1 := ha.lf _ hj
      have c1 : (q.life != gt lf q.who.toNat + 1) = false := by rw [b1, a1]; simp
      rw [k2, c1, cond_true, cond_false]
      refine go _ _ _ ⟨hok.1, by rw [a4]; exact ⟨S, hS, hp⟩, by rw [List.length_set]; exact ha.l1, by rw [List.length_set]; exact ha.l2, fun i hi => ?_, fun i hi => ?_⟩
      · rw [a4]
        simp only
        rw [gt_set_if (by rw [ha.l1]; exact hj), gt_set_if (by rw [h3]; exact hj)]
        by_cases hij : i = q.who.toNat
        · rw [if_pos hij, if_pos hij]
        · rw [if_neg hij, if_neg hij]; exact ha.sq i hi
      · rw [a4]
        simp only
        rw [gt_set_if (by rw [ha.l2]; exact hj), gt_set_if (by rw [h3]; exact hj)]
        by_cases hij : i = q.who.toNat
        · rw [if_pos hij, if_pos hij]
        · rw [if_neg hij, if_neg hij]; exact ha.lf i hi
    · have k2 : (q.kind == 2) = false := by rw [hk]; rfl
      have k1 : (q.kind == 1) = false := by rw [hk]; rfl
      have hwr := hw.2.1 (by rw [hk]; decide)
      have hj : q.who.toNat < 3 := by omega
      rw [k2, k1, cond_false, cond_false]
      refine go _ _ _ ⟨hok.1, by rw [a4]; exact ⟨S, hS, hp⟩, ha.l1, ha.l2, fun i hi => ?_, fun i hi => ?_⟩
      · rw [a4]
        simp only
        rw [gt_set_if (by rw [h3]; exact hj)]
        by_cases hij : i = q.who.toNat
        · rw [if_pos hij, hij]; exact ha.sq _ hj
        · rw [if_neg hij]; exact ha.sq i hi
      · rw [a4]
        simp only
        rw [gt_set_if (by rw [h3]; exact hj)]
        by_cases hij : i = q.who.toNat
        · rw [if_pos hij, hij]; exact ha.lf _ hj
        · rw [if_neg hij]; exact ha.lf i hi
theorem HubInOrder_true (l : List Rec) : orangerylaw_HubInOrder l = true := by
  unfold orangerylaw_HubInOrder
  rw [accepted_true]
  cases h1 : ((!true) || ((hub_Replay l).2 != 0)) with
  | true => rfl
  | false =>
    have h0 := eq_of_bne_false (Bool.or_eq_false_iff.1 h1).2
    rw [cond_false]
    have hr := Replay_ok h0
    refine InOrder_L0 l l ⟨⟨[], []⟩, 0, [⟨0, 0, []⟩, ⟨0, 0, []⟩, ⟨0, 0, []⟩]⟩ [] _ _ ⟨hub_New_ok, ⟨[], (Check_iff _).1 hub_New_ok.hist, .refl _⟩, rfl, rfl, fun i hi => ?_, fun i hi => ?_⟩ hr.2.2.symm h0 (by simp)
    · rcases (by omega : i = 0 ∨ i = 1 ∨ i = 2) with rfl | rfl | rfl <;> rfl
    · rcases (by omega : i = 0 ∨ i = 1 ∨ i = 2) with rfl | rfl | rfl <;> rfl
end Go.Proofs.Ytchdacbjiomplaa
