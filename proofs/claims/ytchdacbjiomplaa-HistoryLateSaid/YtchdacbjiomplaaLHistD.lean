/- Part of this claim. No condition. -/
import Derived.Test.YtchdacbjiomplaaW28
set_option linter.unusedVariables false
set_option linter.unusedSimpArgs false
namespace Go.Proofs.Ytchdacbjiomplaa
open Go Go.Proofs.Ytchdacbjiomplaa.Fw Go.Proofs
theorem run_take (h : History) (l : List Op) : (run h l).l.take h.l.length = h.l := by
  induction l generalizing h with
  | nil => exact List.take_length
  | cons o r ih =>
    rw [run]
    have := ih ⟨h.l ++ [(moveDo h.t o).2.1], (moveDo h.t o).1⟩
    have h2 := congrArg (List.take h.l.length) this
    rw [List.take_take, Nat.min_eq_left (by simp)] at h2
    rw [h2]
    exact List.take_left
/-- one that is later than all others goes behind -/
theorem sort_later {S : List Op} {o : Op} (hl : (S ++ [o]).length ≤ 30) (hr : Rise S) (h : ∀ q ∈ S, before q o = true) : sortOps (S ++ [o]) = S ++ [o] :=
  sortOps_rise hl (List.pairwise_append.2 ⟨hr, by simp, fun q hq w hw => by rw [List.mem_singleton] at hw; rw [hw]; exact h q hq⟩)
theorem HistoryLate_true (l more : List Op) : orangerylaw_HistoryLate l more = true := by
  unfold orangerylaw_HistoryLate
  rw [folded_true]
  cases hc : (history_Fold l).2 != 0 with
  | true => rfl
  | false =>
    have h0 := eq_of_bne_false hc
    have hF := Fold_hist h0
    simp only [Bool.not_true, Bool.or_self, cond_false]
    have key1 : ∀ (r : List Op) (last : Int) (n : Nat) (L : List Step) (T : List Place) (S : List Op), IsHist ⟨L, T⟩ S → (history_Fold l).1.l.length ≤ L.length → L.take (history_Fold l).1.l.length = (history_Fold l).1.l → (∀ q ∈ S, q.time ≤ last + n) → orangerylaw_HistoryLate_L1 l last r n L T = true := by
      intro r
      induction r with
      | nil => intro last n L T S hh hl ht _; rw [orangerylaw_HistoryLate_L1]; exact decide_eq_true ht
      | cons p r ih =>
        intro last n L T S hh hl ht hm
        rw [orangerylaw_HistoryLate_L1]
        generalize hq : (⟨last + 1 + (n : Int), orangerylaw_at p.who 3, p.node, p.parent, p.name, p.life, p.seq⟩ : Op) = o
        have hot : o.time = last + 1 + n := by rw [← hq]
        cases h1 : decide (last + 1 + (n : Int) > 10000) with
        | true => exact decide_eq_true ht
        | false =>
          simp only [cond_false]
          have hlen := hh.llen
          cases h2 : (history_Insert (⟨L, T⟩ : History) o).2 != 0 with
          | true => exact ih last (n + 1) L T S hh hl ht fun q hq => by have := hm q hq; simp; omega
          | false =>
            have h2 := eq_of_bne_false h2
            obtain ⟨S', g1, g2, g3, g4, g5, g6⟩ := Insert_inv h2
            have e : S' = S := by rw [← g1.ops, ← hh.ops]
            subst e
            have hlater : ∀ q ∈ S', before q o = true := fun q hq => by
              rw [before_iff]; have := hm q hq; omega
            have hl2 : (S' ++ [o]).length ≤ 30 := by simp only [List.length_append, List.length_cons, List.length_nil]; omega
            have hs := sort_later hl2 g1.rise hlater
            rw [hs] at g5 g6
            have hx : (history_Insert (⟨L, T⟩ : History) o).1 = run ⟨L, T⟩ [o] := by rw [g5, run_app, ← hh.eq]
            have htk : ((history_Insert (⟨L, T⟩ : History) o).1.l.take L.length) = L := by rw [hx]; exact run_take ⟨L, T⟩ [o]
            have hxl : (history_Insert (⟨L, T⟩ : History) o).1.l.length = L.length + 1 := Insert_len h2
            have hxo : (gt (history_Insert (⟨L, T⟩ : History) o).1.l L.length).o = o := by
              rw [g6.at_ (by omega)]
              exact gt_mid S' o [] _ hlen
            rw [htk, hxl, hxo]
            have hn : (((L.length + 1 : Nat) : Int) != ((L.length : Int) + 1)) = false := by simp
            simp only [decide_true, Bool.not_true, hn, Bool.or_self, cond_false]
            refine ih last (n + 1) _ _ (S' ++ [o]) g6 (by omega) ?_ fun q hq => ?_
            · have h3 := congrArg (List.take (history_Fold l).1.l.length) htk
              rw [List.take_take, Nat.min_eq_left hl] at h3
              rw [h3]; exact ht
            · rcases List.mem_append.1 hq with hq | hq
              · have := hm q hq; simp; omega
              · rw [List.mem_singleton] at hq; rw [hq, hot]; simp; omega
    have key0 : ∀ (r : List Step) (last : Int), (∀ s ∈ (history_Fold l).1.l, s ∈ r ∨ s.o.time ≤ last) → orangerylaw_HistoryLate_L0 l more r last = true := by
      intro r
      induction r with
      | nil =>
        intro last h
        rw [orangerylaw_HistoryLate_L0]
        refine key1 _ last 0 _ _ (sortOps l) hF (Nat.le_refl _) List.take_length fun q hq => ?_
        rw [← hF.ops] at hq
        obtain ⟨s, hs, rfl⟩ := List.mem_map.1 hq
        rcases h s hs with h | h
        · cases h
        · simpa using h
      | cons s r ih =>
        intro last h
        rw [orangerylaw_HistoryLate_L0]
        refine ih _ fun q hq => ?_
        rcases h q hq with h | h
        · rcases List.mem_cons.1 h with rfl | h
          · right; split <;> omega
          · exact .inl h
        · right; split <;> omega
    exact key0 _ 0 fun s hs => .inl hs
end Go.Proofs.Ytchdacbjiomplaa
