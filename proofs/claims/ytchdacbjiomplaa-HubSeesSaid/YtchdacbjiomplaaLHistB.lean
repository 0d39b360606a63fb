/- Part of this claim. No condition. -/
import Derived.Test.YtchdacbjiomplaaLHist
set_option linter.unusedVariables false
set_option linter.unusedSimpArgs false
namespace Go.Proofs.Ytchdacbjiomplaa
open Go Go.Proofs.Ytchdacbjiomplaa.Fw Go.Proofs
theorem Insert_eq {h : History} {S : List Op} (hh : IsHist h S) (o : Op) : history_Insert h o =
    bif chkO o != 0 then (e0, chkO o) else bif S.any (fun q => decide (stamp q = stamp o)) then (e0, 6) else bif S.length == 30 then (e0, 2) else (run e0 (sortOps (S ++ [o])), 0) := by
  have hS : S = h.l.map (·.o) := hh.ops.symm
  have hc : history_Check h = 0 := (Check_iff h).2 (hS ▸ hh)
  unfold history_Insert
  rw [hc, Put_eq hh]; rfl
theorem Insert_bad {h : History} (hc : history_Check h ≠ 0) (o : Op) : history_Insert h o = (e0, history_Check h) := by
  unfold history_Insert
  have : (history_Check h != 0) = true := by simpa using hc
  rw [this]; rfl
theorem IsHist.run {S : List Op} (h1 : S.length ≤ 30) (h2 : ∀ o ∈ S, chkO o = 0) (h3 : Rise S) : IsHist (run e0 S) S := ⟨h1, h2, h3, rfl⟩
theorem not_any {S : List Op} {o : Op} (h : S.any (fun q => decide (stamp q = stamp o)) = false) : ∀ q ∈ S, stamp q ≠ stamp o := fun q hq he => by
  have : S.any (fun q => decide (stamp q = stamp o)) = true := List.any_eq_true.2 ⟨q, hq, decide_eq_true he⟩
  rw [h] at this; cases this
theorem dist_snoc {S : List Op} {o : Op} (h : Dist S) (hne : ∀ q ∈ S, stamp q ≠ stamp o) : Dist (S ++ [o]) := by
  unfold Dist at *
  rw [List.map_append, List.nodup_append]
  refine ⟨h, by simp, fun a ha b hb => ?_⟩
  obtain ⟨q, hq, rfl⟩ := List.mem_map.1 ha
  simp only [List.map_cons, List.map_nil, List.mem_singleton] at hb
  rw [hb]; exact hne q hq
theorem sort_rise {l : List Op} (h : l.length ≤ 30) (hd : Dist l) : Rise (sortOps l) := rise_of (sortOps_sorted h) ((Dist.perm (sortOps_perm h)).2 hd)
theorem Insert_inv {h : History} {o : Op} (hi : (history_Insert h o).2 = 0) : ∃ S, IsHist h S ∧ chkO o = 0 ∧ (∀ q ∈ S, stamp q ≠ stamp o) ∧ S.length < 30 ∧ history_Insert h o = (run e0 (sortOps (S ++ [o])), 0) ∧ IsHist (history_Insert h o).1 (sortOps (S ++ [o])) := by
  by_cases hc : history_Check h = 0
  · have hh := (Check_iff h).1 hc
    refine ⟨_, hh, ?_⟩
    rw [Insert_eq hh] at hi ⊢
    cases h1 : chkO o != 0 with
    | true => rw [h1, cond_true] at hi; simp only at hi; rw [hi] at h1; simp at h1
    | false =>
      have ho := eq_of_bne_false h1
      rw [h1, cond_false] at hi
      cases h2 : (h.l.map (·.o)).any (fun q => decide (stamp q = stamp o)) with
      | true => rw [h2, cond_true] at hi; cases hi
      | false =>
        rw [h2, cond_false] at hi
        cases h3 : (h.l.map (·.o)).length == 30 with
        | true => rw [h3, cond_true] at hi; cases hi
        | false =>
          have h3 : (h.l.map (·.o)).length ≠ 30 := by simpa using h3
          have hl := hh.len
          have hne := not_any h2
          have hl2 : (h.l.map (·.o) ++ [o]).length ≤ 30 := by simp only [List.length_append, List.length_cons, List.length_nil]; omega
          refine ⟨ho, hne, by omega, rfl, ?_⟩
          simp only [cond_false]
          refine IsHist.run (by rw [(sortOps_perm hl2).length_eq]; exact hl2) (sortOps_ok hl2 fun q hq => ?_) (sort_rise hl2 (dist_snoc hh.rise.dist hne))
          rcases List.mem_append.1 hq with hq | hq
          · exact hh.ok q hq
          · rw [List.mem_singleton] at hq; rw [hq]; exact ho
  · rw [Insert_bad hc] at hi; exact absurd hi hc
theorem IsHist.llen {h : History} {S : List Op} (hh : IsHist h S) : h.l.length = S.length := by rw [← hh.ops, List.length_map]
theorem Insert_len {h : History} {o : Op} (hi : (history_Insert h o).2 = 0) : (history_Insert h o).1.l.length = h.l.length + 1 := by
  obtain ⟨S, h1, _, _, h4, _, h6⟩ := Insert_inv hi
  have hl2 : (S ++ [o]).length ≤ 30 := by simp only [List.length_append, List.length_cons, List.length_nil]; omega
  rw [h6.llen, (sortOps_perm hl2).length_eq, h1.llen]; simp
theorem Fold_hist {l : List Op} (h : (history_Fold l).2 = 0) : IsHist (history_Fold l).1 (sortOps l) := by
  obtain ⟨g1, g2, g3, g4⟩ := Fold_inv h
  rw [g4]
  exact IsHist.run (by rw [(sortOps_perm g1).length_eq]; exact g1) (sortOps_ok g1 g2) (sort_rise g1 g3)
theorem IsHist.at_ {h : History} {S : List Op} (hh : IsHist h S) {i : Nat} (hi : i < h.l.length) : (gt h.l i).o = gt S i := by
  have := hh.llen
  rw [gt_eq hi, gt_eq (by omega)]
  have e := hh.ops
  subst e
  simp
theorem Fold_time {l : List Op} (h : (history_Fold l).2 = 0) {i : Nat} (hi : i < (history_Fold l).1.l.length) : 1 ≤ (gt (history_Fold l).1.l i).o.time ∧ (gt (history_Fold l).1.l i).o.time ≤ 10000 := by
  have hh := Fold_hist h
  rw [hh.at_ hi]
  have := hh.llen
  have := chkO_ok (hh.ok _ (gt_mem (by omega : i < (sortOps l).length)))
  omega
/-! ### Who stands where -/
theorem find_moveDo {t : List Place} {o : Op} (h1 : checkT t = 0) (h2 : chkO o = 0) (n : Int) : find (moveDo t o).1 n = bif (o.node == n && (moveDo t o).2.1.did) then opPlace o else find t n := by
  have hm := moved_of (moveDo_err0 h1 h2)
  by_cases hn : o.node = n
  · subst hn
    cases hd : (moveDo t o).2.1.did with
    | true => simp [hm.node hd]
    | false =>
      have h3 := hm.did
      rw [hd] at h3
      rw [moveDo_eq h1 h2]
      have : stands t o.parent o.node = true := by simpa using h3.symm
      rw [this]; simp
  · have hb : (o.node == n) = false := by simpa using hn
    rw [hb, hm.else_ n (Ne.symm hn)]; rfl
theorem folded_true : orangerylaw_folded = true := by decide +kernel
end Go.Proofs.Ytchdacbjiomplaa
