/- Part of this claim. No condition. -/
import Derived.Test.YtchdacbjiomplaaW27
set_option linter.unusedVariables false
set_option linter.unusedSimpArgs false
namespace Go.Proofs.Ytchdacbjiomplaa
open Go Go.Proofs.Ytchdacbjiomplaa.Fw Go.Proofs
theorem HistoryAny_true (l : List Op) (k : Int) : orangerylaw_HistoryAny l k = true := by
  unfold orangerylaw_HistoryAny
  rw [folded_true]
  cases hc : (history_Fold l).2 != 0 with
  | true => rfl
  | false =>
    have h0 := eq_of_bne_false hc
    obtain ⟨g1, g2, g3, g4⟩ := Fold_inv h0
    simp only [Bool.not_true, Bool.or_self, cond_false]
    have key : ∀ (r done : List Op) (e : Int) (L : List Step) (T : List Place), (done ++ r).Perm l → (⟨L, T⟩ : History) = run e0 (sortOps done) → orangerylaw_HistoryAny_L0 l r e L T = true := by
      intro r
      induction r with
      | nil =>
        intro done e L T hp he
        rw [List.append_nil] at hp
        have hd : done.length ≤ 30 := by rw [hp.length_eq]; exact g1
        have hs : sortOps done = sortOps l := sortOps_uniq hd (sort_rise g1 g3) ((sortOps_perm g1).trans hp.symm)
        rw [orangerylaw_HistoryAny_L0, Same_iff, he, g4, hs]
      | cons o r ih =>
        intro done e L T hp he
        have hlen := hp.length_eq
        simp only [List.length_append, List.length_cons] at hlen
        have hd : done.length ≤ 30 := by omega
        have hmem : ∀ q ∈ done ++ [o], q ∈ l := fun q hq => hp.mem_iff.1 (by
          rcases List.mem_append.1 hq with hq | hq
          · exact List.mem_append_left _ hq
          · rw [List.mem_singleton] at hq; rw [hq]; simp)
        have hD : Dist (done ++ o :: r) := (Dist.perm hp).2 g3
        have hD2 : Dist (done ++ [o]) := by
          unfold Dist at *
          rw [List.map_append] at hD ⊢
          obtain ⟨a1, a2, a3⟩ := List.nodup_append.1 hD
          refine List.nodup_append.2 ⟨a1, by simp, fun x hx y hy => a3 x hx y ?_⟩
          simp only [List.map_cons, List.map_nil, List.mem_singleton] at hy
          rw [hy]; simp
        have hDd : Dist done := by
          unfold Dist at *
          rw [List.map_append] at hD2
          exact (List.nodup_append.1 hD2).1
        have hne : ∀ q ∈ sortOps done, stamp q ≠ stamp o := fun q hq => by
          have hq := (sortOps_perm hd).mem_iff.1 hq
          unfold Dist at hD2
          rw [List.map_append] at hD2
          exact (List.nodup_append.1 hD2).2.2 _ (List.mem_map.2 ⟨q, hq, rfl⟩) _ (by simp)
        have hcd : ∀ q ∈ done, chkO q = 0 := fun q hq => g2 q (hmem q (List.mem_append_left _ hq))
        have ho : chkO o = 0 := g2 o (hmem o (by simp))
        have hH : IsHist (run e0 (sortOps done)) (sortOps done) := IsHist.run (by rw [(sortOps_perm hd).length_eq]; exact hd) (sortOps_ok hd hcd) (sort_rise hd hDd)
        have hl2 : (done ++ [o]).length ≤ 30 := by simp only [List.length_append, List.length_cons, List.length_nil]; omega
        have hp2 : (sortOps done ++ [o]).Perm (done ++ [o]) := (sortOps_perm hd).append_right [o]
        have hs : sortOps (sortOps done ++ [o]) = sortOps (done ++ [o]) := sortOps_uniq (by rw [hp2.length_eq]; exact hl2) (sort_rise hl2 hD2) ((sortOps_perm hl2).trans hp2.symm)
        have hi : history_Insert (⟨L, T⟩ : History) o = (run e0 (sortOps (done ++ [o])), 0) := by
          rw [he, Insert_eq hH, ho]
          have h1 : (sortOps done).any (fun q => decide (stamp q = stamp o)) = false := by
            rw [List.any_eq_false]
            intro q hq; simp [hne q hq]
          have h2 : ((sortOps done).length == 30) = false := by rw [(sortOps_perm hd).length_eq]; simp; omega
          rw [h1, h2, hs]; rfl
        have hck : ∀ q ∈ sortOps (done ++ [o]), chkO q = 0 := sortOps_ok hl2 fun q hq => g2 q (hmem q hq)
        rw [orangerylaw_HistoryAny_L0, hi, tree_Check_eq, run_tree _ e0 rfl hck]
        simp only [bne_self_eq_false, Bool.or_self, cond_false]
        exact ih (done ++ [o]) _ _ _ (by simpa using hp) rfl
    refine key _ [] _ _ _ ?_ rfl
    rw [RV_Op, List.nil_append]
    refine (List.reverse_perm _).trans ?_
    simp only [List.flatten_cons, List.flatten_nil, List.append_nil]
    refine List.perm_append_comm.trans ?_
    rw [List.take_append_drop]
end Go.Proofs.Ytchdacbjiomplaa
