/- Part of this claim. No condition. -/
import Derived.Test.YtchdacbjiomplaaW56
import Derived.Test.YtchdacbjiomplaaLHubR
set_option linter.unusedVariables false
set_option linter.unusedSimpArgs false
namespace Go.Proofs.Ytchdacbjiomplaa
open Go Go.Proofs.Ytchdacbjiomplaa.Fw Go.Proofs
abbrev hub0 : Hub := ⟨⟨[], []⟩, 0, []⟩
theorem nexted_L0_eq (h : Hub) (r : Rec) : ∀ l : List Step, orangeryref_nexted_L0 h r l = bif (orangeryref_Inserted_L0 h.h r.o l).2 != 0 then (hub0, (orangeryref_Inserted_L0 h.h r.o l).2) else (⟨(orangeryref_Inserted_L0 h.h r.o l).1, h.version + 1, h.peers.set r.o.who.toNat ⟨(gt h.peers r.o.who.toNat).life, (gt h.peers r.o.who.toNat).seq + 1, (gt h.peers r.o.who.toNat).roots⟩⟩, 0)
  | [] => rfl
  | s :: l => by
    rw [orangeryref_nexted_L0, orangeryref_Inserted_L0, nexted_L0_eq h r l]
    cases decide ((⟨s.o.time, s.o.who⟩ : Stamp) = ⟨r.o.time, r.o.who⟩) with
    | true => rfl
    | false => rfl
theorem Inserted_put {h : History} (hc : history_Check h = 0) {o : Op} (ho : chkO o = 0) : orangeryref_Inserted_L0 h o h.l = history_Put h o := by
  have h1 := Inserted_eq h o
  rw [Insert_put hc] at h1
  rw [← h1]
  unfold orangeryref_Inserted
  rw [CheckHistory_eq, hc, CheckOp_eq, ho]
  simp
theorem rec_op {r : Rec} (hn : note_Check r = 0) (hk : (r.kind == 1) = true) : chkO r.o = 0 := by
  unfold note_Check at hn
  rw [hk, cond_true] at hn
  cases h5 : (decide (r.kind < 1) || decide (r.kind > 3)) with
  | true => rw [h5, cond_true] at hn; cases hn
  | false =>
    rw [h5, cond_false] at hn
    cases h6 : (((r.who != 0) || (r.life != 0)) || decide ((r.roots.length : Int) > 0)) with
    | true => rw [h6, cond_true] at hn; cases hn
    | false => rw [h6, cond_false, move_Check_eq] at hn; exact hn
theorem nexted_eq {h : Hub} {r : Rec} (hk : hub_Check h = 0) (hn : note_Check r = 0) : orangeryref_nexted h r = hub_next h r := by
  have hh := (hub_Check_iff h).1 hk
  obtain ⟨w1, w2, w3, w4, w5⟩ := note_who hn
  have hnn : (note_Check r != 0) = false := by rw [hn]; rfl
  unfold orangeryref_nexted hub_next
  rw [hnn, cond_false]
  refine bif_congr rfl (fun _ => rfl) fun hv => bif_congr rfl (fun h1 => ?_) fun h1 => ?_
  · have ho := rec_op hn h1
    unfold hub_accept
    cases h2 : (((gt h.peers r.o.who.toNat).life != r.o.life) || ((gt h.peers r.o.who.toNat).seq + 1 != r.o.seq)) with
    | true =>
      have e : ((r.o.life != (gt h.peers r.o.who.toNat).life) || (r.o.seq != (gt h.peers r.o.who.toNat).seq + 1)) = true := by
        rw [← h2, Bool.eq_iff_iff]; simp only [Bool.or_eq_true, bne_iff_ne]; omega
      rw [e]; rfl
    | false =>
      have e : ((r.o.life != (gt h.peers r.o.who.toNat).life) || (r.o.seq != (gt h.peers r.o.who.toNat).seq + 1)) = false := by
        rw [← h2, Bool.eq_iff_iff]; simp only [Bool.or_eq_true, bne_iff_ne]; omega
      rw [e, cond_false, cond_false, nexted_L0_eq, Inserted_put hh.hist ho]
      have hs : (gt h.peers r.o.who.toNat).seq + 1 = r.o.seq := by
        simp only [Bool.or_eq_false_iff, bne_eq_false_iff_eq] at h2; exact h2.2
      rw [hs]
      cases h3 : ((history_Put h.h r.o).2 == 0) with
      | true => rw [eq_of_beq h3]; rfl
      | false =>
        have h4 : ((history_Put h.h r.o).2 != 0) = true := by rw [bne, h3]; rfl
        rw [h4]
        simp only [cond_true, cond_false, h4]
  · refine bif_congr rfl (fun h2 => ?_) fun h2 => bif_congr rfl (fun h3 => ?_) fun _ => rfl
    · refine bif_congr ?_ (fun _ => rfl) fun _ => rfl
      rw [Bool.eq_iff_iff]; simp only [bne_iff_ne]; omega
    · have hm : gt h.peers r.who.toNat ∈ h.peers := gt_mem (by have := w2 (beq_eq_false_iff_ne.1 h1); rw [hh.three]; omega)
      have hr := (hh.peers _ hm).rng
      refine bif_congr ?_ (fun _ => rfl) fun _ => rfl
      rw [Bool.eq_iff_iff]; simp only [decide_eq_true_eq, beq_iff_eq]; omega
theorem nexted_ok {h : Hub} {r : Rec} (hk : hub_Check h = 0) (hn : note_Check r = 0) (h0 : (orangeryref_nexted h r).2 = 0) : hub_Check (orangeryref_nexted h r).1 = 0 := by
  rw [nexted_eq hk hn] at h0 ⊢
  exact (hub_Check_iff _).2 (next_ok ((hub_Check_iff h).1 hk) h0).1
end Go.Proofs.Ytchdacbjiomplaa
