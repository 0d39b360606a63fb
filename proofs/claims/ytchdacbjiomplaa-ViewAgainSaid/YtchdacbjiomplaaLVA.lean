/- Part of this claim. No condition. -/
import Derived.Test.YtchdacbjiomplaaW75a
import Derived.Test.YtchdacbjiomplaaLPdqR
import Derived.Test.YtchdacbjiomplaaLSeen
import Derived.Test.YtchdacbjiomplaaLV
set_option linter.unusedVariables false
set_option linter.unusedSimpArgs false
set_option maxHeartbeats 2000000
namespace Go.Proofs.Ytchdacbjiomplaa
open Go Go.Proofs.Ytchdacbjiomplaa.Fw Go.Proofs
structure VaGood (l : List Place) : Prop where
  le : l.length ≤ 15
  good : Good orangerylaw_ViewAgain_1 l
  len : l.length = (slices_SortFunc_Place l orangerylaw_ViewAgain_1).length
theorem kept_perm (t : List Place) (roots : List Int) : ([(seenAll t roots).known, (seenAll t roots).way].flatten).Perm (kept t roots) := by
  have h := List.filter_append_perm (fun p : Place => view_below t p.node roots) (kept t roots)
  have e1 : (kept t roots).filter (fun p => view_below t p.node roots) = (seenAll t roots).known := by
    unfold kept seenAll
    rw [List.filter_filter]
    exact List.filter_congr fun p _ => by cases view_below t p.node roots <;> simp
  have e2 : (kept t roots).filter (fun p => !view_below t p.node roots) = (seenAll t roots).way := by
    unfold kept seenAll
    rw [List.filter_filter]
    exact List.filter_congr fun p _ => by cases view_below t p.node roots <;> cases view_above t p.node roots <;> rfl
  rw [e1, e2] at h
  simpa using h
theorem kept_good {t : List Place} (h : IsTree t) (roots : List Int) : Good orangerylaw_ViewAgain_1 (kept t roots) := by
  have hk := (h.filter (fun p => view_below t p.node roots || view_above t p.node roots)).rising
  refine ⟨fun p hp q hq => ?_, ?_⟩
  · have h1 := hk.rng p hp
    have h2 := hk.rng q hq
    unfold orangerylaw_ViewAgain_1
    rw [wsub_eq (by omega)]
    omega
  · refine List.Pairwise.map _ (fun a b hab => ?_) hk.up
    omega
theorem kept_len {t : List Place} (h : checkT t = 0) (roots : List Int) : (kept t roots).length ≤ 15 :=
  Nat.le_trans (List.length_filter_le _ _) (check_len (by rw [tree_Check_eq]; exact h))
theorem kept_sort {t : List Place} (h : IsTree t) (roots : List Int) : slices_SortFunc_Place ([(seenAll t roots).known, (seenAll t roots).way].flatten) orangerylaw_ViewAgain_1 = kept t roots := by
  have hp := kept_perm t roots
  have hg := (kept_good h roots).perm hp
  have hl := kept_len ((checkT_iff t).2 h) roots
  have hs := sort_ok hg (by rw [hp.length_eq]; exact hl)
  have hk := (h.filter (fun p => view_below t p.node roots || view_above t p.node roots)).rising
  exact (hs.1.trans hp).eq_of_pairwise (fun a b _ _ h1 h2 => by omega) hs.2 hk.up
theorem va_good (t : List Place) (roots : List Int) (h : ((!orangerylaw_seen) || ((view_Of t roots).2 != 0)) = false) : VaGood ([(view_Of t roots).1.known, (view_Of t roots).1.way].flatten) := by
  rw [Bool.or_eq_false_iff] at h
  obtain ⟨h1, h2, h3⟩ := Of_ok (eq_of_bne_false h.2)
  rw [h3]
  have ht := (checkT_iff t).1 h1
  have hp := kept_perm t roots
  exact ⟨by simp only; rw [hp.length_eq]; exact kept_len h1 roots, (kept_good ht roots).perm hp, by simp only; rw [kept_sort ht]; exact hp.length_eq⟩
end Go.Proofs.Ytchdacbjiomplaa
