/- Part of this claim. No condition. -/
import Derived.Test.YtchdacbjiomplaaW12
import Derived.Test.YtchdacbjiomplaaLSmall
set_option linter.unusedVariables false
set_option linter.unusedSimpArgs false
namespace Go.Proofs.Ytchdacbjiomplaa
open Go Go.Proofs.Ytchdacbjiomplaa.Fw Go.Proofs
def view_Check_U0_2 (v1 : View) : Int :=
  (bif ((((view_Of (view_All v1) v1.roots).2) == 0) && (!(view_Same ((view_Of (view_All v1) v1.roots).1) v1))) then 4 else (view_Of (view_All v1) v1.roots).2)
def view_Check_U0_1 (v1 : View) : Int :=
  (bif ((tree_Check v1.way) != 0) then (tree_Check v1.way) else (view_Check_U0_2 v1))
def view_Check_U0_0 (v1 : View) : Int :=
  (bif ((tree_Check v1.known) != 0) then (tree_Check v1.known) else (view_Check_U0_1 v1))
def view_Check (v1 : View) : Int :=
  (bif ((view_Roots v1.roots) != 0) then (view_Roots v1.roots) else (view_Check_U0_0 v1))
theorem view_Check_spec (y1 : SlV) (y2 : SlV) (y3 : SlV) (v1 : View) : Does Try.prog 47 [.agg ⟨[y1.val v1.roots.length, y2.val v1.known.length, y3.val v1.way.length]⟩] [RdL EInt y1 v1.roots, RdL EPlace y2 v1.known, RdL EPlace y3 v1.way] (fun (_ : Unit) => .int .i64 (view_Check v1)) (fun (_ : Unit) => []) := by
  refine does_of tab_ok Try.func47 rfl Try.ntmps47 Try.results47 rfl inferInstance (fun _ => inferInstance) fun C => ?_
  refine cw_pure (φ := v1.roots.length * 8 ≤ 140737488355328) [RdL EInt y1 v1.roots] Sm (fun M w h => (allF1 h).len) fun hlen1 => ?_
  refine cw_pure (φ := v1.known.length * 24 ≤ 140737488355328) [RdL EPlace y2 v1.known] Sm (fun M w h => (allF1 h).len) fun hlen2 => ?_
  refine cw_pure (φ := v1.way.length * 24 ≤ 140737488355328) [RdL EPlace y3 v1.way] Sm (fun M w h => (allF1 h).len) fun hlen3 => ?_
  (repeat refine cw_seq ?_); refine cw_region ?_
  refine rw_box_agg .sq (guard_none rfl) rfl rfl rfl rfl rfl fun g1 => ?_
  refine Rp rfl rfl rfl rfl ?_
  refine rw_nil ?_
  (repeat refine cw_seq ?_); refine cw_region ?_
  refine Rp rfl rfl rfl rfl ?_
  refine rw_q rfl rfl rfl (q_ld1 rfl rfl (fun _ => rfl) rfl Mm rfl) ?_
  refine rw_call (view_Roots_spec y1 v1.roots) .sq (guard_none rfl) rfl rfl rfl Kr rfl rfl Sm ?_
  intro _
  refine Rp rfl rfl rfl rfl ?_
  refine rw_nil ?_
  (repeat refine cw_seq ?_); refine cw_region ?_
  refine Rp rfl rfl rfl rfl ?_
  refine Rp rfl rfl rfl rfl ?_
  refine rw_nil ?_
  (repeat refine cw_seq ?_); refine cw_cond (b := ((view_Roots v1.roots) != 0)) rfl rfl (fun hc1 => ?_) (fun hc1 => ?_)
  · skip
    have hc1p := bne_iff_ne.1 hc1
    (repeat refine cw_seq ?_); refine cw_region ?_
    refine Rp rfl rfl rfl rfl ?_
    refine Rp rfl rfl rfl rfl ?_
    refine rw_nil ?_
    (repeat refine cw_seq ?_)
    have hr1 : (view_Check v1) = (view_Roots v1.roots) := by simp only [view_Check, hc1, cond_true, cond_false]
    refine cw_ret ?_
    rw [hr1]
    exact ⟨(), _, (.cons (.tmp rfl) .nil), rfl, Sm, .nil _, .nil _⟩
  · skip
    have hc1p := eq_of_bne_false hc1
    (repeat refine cw_seq ?_); refine cw_skip ?_
    (repeat refine cw_seq ?_); refine cw_region ?_
    refine Rp rfl rfl rfl rfl ?_
    refine rw_q rfl rfl rfl (q_ld1 rfl rfl (fun _ => rfl) rfl Mm rfl) ?_
    refine Rp rfl rfl rfl rfl ?_
    refine rw_q rfl rfl rfl (q_ld1 rfl rfl (fun _ => rfl) rfl Mm rfl) ?_
    refine rw_q rfl rfl rfl (q_buildA rfl rfl (fun _ => rfl) rfl rfl rfl rfl) ?_
    refine Rp rfl rfl rfl rfl ?_
    refine rw_nil ?_
    (repeat refine cw_seq ?_); refine cw_block ?_
    (repeat refine cw_seq ?_); refine cw_loopS [1, 2, 19] [true] (fun (n1 : Nat) => [(20, .v (.int .i64 (n1 : Int)))]) (fun (n1 : Nat) => []) (fun (n1 : Nat) => []) (fun (n1 : Nat) => []) (fun (n1 : Nat) => (n1 ≤ 2) ∧ ((1 ≤ n1 → tree_Check v1.known = 0)) ∧ ((2 ≤ n1 → tree_Check v1.way = 0)) ∧ (match n1 with | 0 => (view_Check_U0_0 v1) | 1 => (view_Check_U0_1 v1) | _ => (view_Check_U0_2 v1)) = (view_Check v1)) (fun (n1 : Nat) => 2 - n1) 0 (.cons rfl (.cons rfl (.cons rfl (.nil _)))) (.keep (.nil)) ⟨Nat.zero_le _, (fun h => absurd h (by omega)), (fun h => absurd h (by omega)), (by simp only [view_Check, hc1, cond_true, cond_false] : (view_Check v1) = (view_Check_U0_0 v1)).symm⟩ Le4 ?_
    rintro n1 ⟨hkn1, hi1, hi2, hf1⟩
    simp only [List.cons_append, List.nil_append]
    have hkn13 : n1 = 0 ∨ n1 = 1 ∨ n1 = 2 := by omega
    rcases hkn13 with rfl | rfl | rfl
    · skip
      have hf1 : (view_Check_U0_0 v1) = (view_Check v1) := hf1
      (repeat refine cw_seq ?_); refine cw_region ?_
      refine Rp rfl rfl rfl rfl ?_
      refine rw_nil ?_
      (repeat refine cw_seq ?_); refine cw_cond (b := decide ((0 : Int) < 2)) rfl rfl (fun hc2 => ?_) (fun hc2 => ?_)
      · skip
        (repeat refine cw_seq ?_); refine cw_skip ?_
        (repeat refine cw_seq ?_); refine cw_block ?_
        (repeat refine cw_seq ?_); refine cw_region ?_
        refine rw_q rfl rfl rfl (q_ixL 0 rfl rfl (fun _ => rfl) rfl (fun _ => rfl) rfl rfl rfl rfl rfl) ?_
        refine Rp rfl rfl rfl rfl ?_
        refine rw_nil ?_
        (repeat refine cw_seq ?_); refine cw_region ?_
        refine Rp rfl rfl rfl rfl ?_
        refine Rp rfl rfl rfl rfl ?_
        refine rw_call (tree_Check_spec y2 v1.known) .sq (guard_none rfl) rfl rfl rfl Kr rfl rfl Sm ?_
        intro _
        refine Rp rfl rfl rfl rfl ?_
        refine rw_nil ?_
        (repeat refine cw_seq ?_); refine cw_region ?_
        refine Rp rfl rfl rfl rfl ?_
        refine Rp rfl rfl rfl rfl ?_
        refine rw_nil ?_
        (repeat refine cw_seq ?_); refine cw_cond (b := ((tree_Check v1.known) != 0)) rfl rfl (fun hc3 => ?_) (fun hc3 => ?_)
        · skip
          have hc3p := bne_iff_ne.1 hc3
          (repeat refine cw_seq ?_); refine cw_region ?_
          refine Rp rfl rfl rfl rfl ?_
          refine Rp rfl rfl rfl rfl ?_
          refine rw_nil ?_
          (repeat refine cw_seq ?_)
          have hr2 : (view_Check v1) = (tree_Check v1.known) := by rw [← hf1]; simp only [view_Check_U0_0, hc3, cond_true, cond_false]
          refine cw_ret ?_
          rw [hr2]
          exact ⟨(), _, (.cons (.tmp rfl) .nil), rfl, Sm, .nil _, .nil _⟩
        · skip
          have hc3p := eq_of_bne_false hc3
          have hck := eq_of_bne_false hc3
          (repeat refine cw_seq ?_); refine cw_skip ?_
          (repeat refine cw_seq ?_); refine cw_region ?_
          refine rw_q rfl rfl rfl (q_add rfl rfl (fun _ => rfl) rfl (fun _ => rfl) (fun _ => by decide)) ?_
          refine Rp rfl rfl rfl rfl ?_
          refine rw_nil ?_
          refine ⟨1, ⟨by omega, (fun _ => by first | exact hck | exact hi1 (by omega) | omega), (fun _ => by first | exact hck | omega), (by rw [← hf1]; simp only [view_Check_U0_0, hc3, cond_true, cond_false] : (view_Check v1) = (view_Check_U0_1 v1)).symm⟩, (by decide), Le4⟩
      · skip
        exact Bool.noConfusion (hc2.symm.trans (decide_eq_true (by decide)))
    · skip
      have hf1 : (view_Check_U0_1 v1) = (view_Check v1) := hf1
      (repeat refine cw_seq ?_); refine cw_region ?_
      refine Rp rfl rfl rfl rfl ?_
      refine rw_nil ?_
      (repeat refine cw_seq ?_); refine cw_cond (b := decide ((1 : Int) < 2)) rfl rfl (fun hc4 => ?_) (fun hc4 => ?_)
      · skip
        (repeat refine cw_seq ?_); refine cw_skip ?_
        (repeat refine cw_seq ?_); refine cw_block ?_
        (repeat refine cw_seq ?_); refine cw_region ?_
        refine rw_q rfl rfl rfl (q_ixL 1 rfl rfl (fun _ => rfl) rfl (fun _ => rfl) rfl rfl rfl rfl rfl) ?_
        refine Rp rfl rfl rfl rfl ?_
        refine rw_nil ?_
        (repeat refine cw_seq ?_); refine cw_region ?_
        refine Rp rfl rfl rfl rfl ?_
        refine Rp rfl rfl rfl rfl ?_
        refine rw_call (tree_Check_spec y3 v1.way) .sq (guard_none rfl) rfl rfl rfl Kr rfl rfl Sm ?_
        intro _
        refine Rp rfl rfl rfl rfl ?_
        refine rw_nil ?_
        (repeat refine cw_seq ?_); refine cw_region ?_
        refine Rp rfl rfl rfl rfl ?_
        refine Rp rfl rfl rfl rfl ?_
        refine rw_nil ?_
        (repeat refine cw_seq ?_); refine cw_cond (b := ((tree_Check v1.way) != 0)) rfl rfl (fun hc5 => ?_) (fun hc5 => ?_)
        · skip
          have hc5p := bne_iff_ne.1 hc5
          (repeat refine cw_seq ?_); refine cw_region ?_
          refine Rp rfl rfl rfl rfl ?_
          refine Rp rfl rfl rfl rfl ?_
          refine rw_nil ?_
          (repeat refine cw_seq ?_)
          have hr3 : (view_Check v1) = (tree_Check v1.way) := by rw [← hf1]; simp only [view_Check_U0_1, hc5, cond_true, cond_false]
          refine cw_ret ?_
          rw [hr3]
          exact ⟨(), _, (.cons (.tmp rfl) .nil), rfl, Sm, .nil _, .nil _⟩
        · skip
          have hc5p := eq_of_bne_false hc5
          have hck := eq_of_bne_false hc5
          (repeat refine cw_seq ?_); refine cw_skip ?_
          (repeat refine cw_seq ?_); refine cw_region ?_
          refine rw_q rfl rfl rfl (q_add rfl rfl (fun _ => rfl) rfl (fun _ => rfl) (fun _ => by decide)) ?_
          refine Rp rfl rfl rfl rfl ?_
          refine rw_nil ?_
          refine ⟨2, ⟨by omega, (fun _ => by first | exact hck | exact hi1 (by omega) | omega), (fun _ => by first | exact hck | omega), (by rw [← hf1]; simp only [view_Check_U0_1, hc5, cond_true, cond_false] : (view_Check v1) = (view_Check_U0_2 v1)).symm⟩, (by decide), Le4⟩
      · skip
        exact Bool.noConfusion (hc4.symm.trans (decide_eq_true (by decide)))
    · skip
      have hf1 : (view_Check_U0_2 v1) = (view_Check v1) := hf1
      (repeat refine cw_seq ?_); refine cw_region ?_
      refine Rp rfl rfl rfl rfl ?_
      refine rw_nil ?_
      (repeat refine cw_seq ?_); refine cw_cond (b := decide ((2 : Int) < 2)) rfl rfl (fun hc6 => ?_) (fun hc6 => ?_)
      · skip
        exact Bool.noConfusion (hc6.symm.trans (decide_eq_false (by decide)))
      · skip
        (repeat refine cw_seq ?_); refine cw_exit ?_
        (repeat refine cw_seq ?_)
        refine cw_join [1, 2] [true] (fun (i_ : Nat × SlV × SlV × SlV) => match i_ with | ⟨g2, x1, x2, x3⟩ => [(7, .v (.pointer (some ⟨g2, 0, none⟩))), (8, .v (.int .i64 ((view_Of (view_All v1) v1.roots).2)))]) (fun (i_ : Nat × SlV × SlV × SlV) => match i_ with | ⟨g2, x1, x2, x3⟩ => [⟨g2, 51, [x1.val (((view_Of (view_All v1) v1.roots).1).roots).length, x2.val (((view_Of (view_All v1) v1.roots).1).known).length, x3.val (((view_Of (view_All v1) v1.roots).1).way).length]⟩]) (fun (i_ : Nat × SlV × SlV × SlV) => match i_ with | ⟨g2, x1, x2, x3⟩ => []) (fun (i_ : Nat × SlV × SlV × SlV) => match i_ with | ⟨g2, x1, x2, x3⟩ => [RdL EInt x1 (((view_Of (view_All v1) v1.roots).1).roots), RdL EPlace x2 (((view_Of (view_All v1) v1.roots).1).known), RdL EPlace x3 (((view_Of (view_All v1) v1.roots).1).way)]) (fun _ => True) (.cons rfl (.cons rfl (.nil _))) (.keep (.nil)) ?_ ?_
        · skip
          refine cw_regionA (fun j => match j with | 9 => none | _ => some []) ?_
          refine ra_q (.ab (i := 0) (js := [2, 3, 8]) [1, 4, 5, 6, 7, 9, 10] rfl Kr Kr Kr Kr Kr) (SplitB.all _) (by simp) rfl rfl rfl (q_ldA rfl rfl (fun _ => rfl) rfl Mm rfl) ?_
          refine ra_q (.ab (i := 2) (js := [1, 8]) [3, 4, 5, 6, 7, 9, 10] rfl Kr Kr Kr Kr Kr) (SplitB.all _) (by simp) rfl rfl rfl (q_pev rfl (fun _ => rfl)) ?_
          refine ra_q (.ab (i := 3) (js := [1, 8]) [4, 5, 6, 7, 9, 10] rfl Kr Kr Kr Kr Kr) (SplitB.all _) (by simp) rfl rfl rfl (q_ld1 rfl rfl (fun _ => rfl) rfl Mm rfl) ?_
          refine ra_two 1 8 Kr ?_ ?_
          · skip
            refine rw_call (view_All_spec y1 y2 y3 v1 (Nat.le_trans (check_len (hi1 (by omega))) (by omega)) (Nat.le_trans (check_len (hi2 (by omega))) (by omega))) (.an rfl rfl) (guard_none rfl) rfl rfl rfl Kr rfl rfl Sm ?_
            intro x4
            refine rw_pure (φ := (view_All v1).length * 24 ≤ 140737488355328) [RdL EPlace x4 (view_All v1)] Sm (fun M w h => (allF1 h).len) fun hlen4 => ?_
            refine ra_two 4 8 Kr ?_ ?_
            · skip
              refine rw_call (view_Of_spec x4 (view_All v1) y1 v1.roots) (.an rfl rfl) (guard_none rfl) rfl rfl rfl Kr rfl rfl Sm ?_
              intro x5
              refine rw_pure (φ := (((view_Of (view_All v1) v1.roots).1).roots).length * 8 ≤ 140737488355328) [RdL EInt x5.1 (((view_Of (view_All v1) v1.roots).1).roots)] Sm (fun M w h => (allF1 h).len) fun hlen5 => ?_
              refine rw_pure (φ := (((view_Of (view_All v1) v1.roots).1).known).length * 24 ≤ 140737488355328) [RdL EPlace x5.2.1 (((view_Of (view_All v1) v1.roots).1).known)] Sm (fun M w h => (allF1 h).len) fun hlen6 => ?_
              refine rw_pure (φ := (((view_Of (view_All v1) v1.roots).1).way).length * 24 ≤ 140737488355328) [RdL EPlace x5.2.2 (((view_Of (view_All v1) v1.roots).1).way)] Sm (fun M w h => (allF1 h).len) fun hlen7 => ?_
              refine ra_q (.an (i := 5) (js := [8]) rfl Kr Kr Kr Kr) (SplitB.all _) (by simp) rfl rfl rfl (q_pev rfl (fun _ => rfl)) ?_
              refine ra_q (.an (i := 6) (js := [7, 8]) rfl Kr Kr Kr Kr) (SplitB.all _) (by simp) rfl rfl rfl (q_pev rfl (fun _ => rfl)) ?_
              refine ra_p (.an (i := 7) (js := [8, 9]) rfl Kr Kr Kr Kr) rfl rfl rfl (q_pev rfl (fun _ => rfl)) ?_
              refine ra_one 8 Kr ?_
              refine rw_alloc (.an rfl rfl) (guard_none rfl) rfl rfl rfl rfl fun g3 => ?_
              refine ra_one 9 Kr ?_
              refine rw_stA (.lo [g3] rfl rfl) (.inr (by simp)) (guard_none rfl) rfl rfl rfl rfl rfl rfl rfl rfl rfl Ub rfl ?_
              refine ra_q (.an (i := 10) (js := []) rfl Kr Kr Kr Kr) (SplitB.all _) (by simp) rfl rfl rfl (q_pev rfl (fun _ => rfl)) ?_
              refine ra_nil Kr ?_
              refine ⟨⟨g3, x5.1, x5.2.1, x5.2.2⟩, trivial, Le4⟩
            · skip
              refine rw_alloc (.an rfl rfl) (guard_none rfl) rfl rfl rfl rfl fun g4 => ?_
              refine ra_one 4 Kr ?_
              refine rw_call (view_Of_spec x4 (view_All v1) y1 v1.roots) (.an rfl rfl) (guard_none rfl) rfl rfl rfl Kr rfl rfl Sm ?_
              intro x6
              refine rw_pure (φ := (((view_Of (view_All v1) v1.roots).1).roots).length * 8 ≤ 140737488355328) [RdL EInt x6.1 (((view_Of (view_All v1) v1.roots).1).roots)] Sm (fun M w h => (allF1 h).len) fun hlen8 => ?_
              refine rw_pure (φ := (((view_Of (view_All v1) v1.roots).1).known).length * 24 ≤ 140737488355328) [RdL EPlace x6.2.1 (((view_Of (view_All v1) v1.roots).1).known)] Sm (fun M w h => (allF1 h).len) fun hlen9 => ?_
              refine rw_pure (φ := (((view_Of (view_All v1) v1.roots).1).way).length * 24 ≤ 140737488355328) [RdL EPlace x6.2.2 (((view_Of (view_All v1) v1.roots).1).way)] Sm (fun M w h => (allF1 h).len) fun hlen10 => ?_
              refine ra_q (.an (i := 5) (js := []) rfl Kr Kr Kr Kr) (SplitB.all _) (by simp) rfl rfl rfl (q_pev rfl (fun _ => rfl)) ?_
              refine ra_q (.an (i := 6) (js := [7]) rfl Kr Kr Kr Kr) (SplitB.all _) (by simp) rfl rfl rfl (q_pev rfl (fun _ => rfl)) ?_
              refine ra_p (.an (i := 7) (js := [9]) rfl Kr Kr Kr Kr) rfl rfl rfl (q_pev rfl (fun _ => rfl)) ?_
              refine ra_one 9 Kr ?_
              refine rw_stA (.lo [g4] rfl rfl) (.inr (by simp)) (guard_none rfl) rfl rfl rfl rfl rfl rfl rfl rfl rfl Ub rfl ?_
              refine ra_q (.an (i := 10) (js := []) rfl Kr Kr Kr Kr) (SplitB.all _) (by simp) rfl rfl rfl (q_pev rfl (fun _ => rfl)) ?_
              refine ra_nil Kr ?_
              refine ⟨⟨g4, x6.1, x6.2.1, x6.2.2⟩, trivial, Le4⟩
          · skip
            refine rw_alloc (.an rfl rfl) (guard_none rfl) rfl rfl rfl rfl fun g5 => ?_
            refine ra_one 1 Kr ?_
            refine rw_call (view_All_spec y1 y2 y3 v1 (Nat.le_trans (check_len (hi1 (by omega))) (by omega)) (Nat.le_trans (check_len (hi2 (by omega))) (by omega))) (.an rfl rfl) (guard_none rfl) rfl rfl rfl Kr rfl rfl Sm ?_
            intro x7
            refine rw_pure (φ := (view_All v1).length * 24 ≤ 140737488355328) [RdL EPlace x7 (view_All v1)] Sm (fun M w h => (allF1 h).len) fun hlen11 => ?_
            refine ra_one 4 Kr ?_
            refine rw_call (view_Of_spec x7 (view_All v1) y1 v1.roots) (.an rfl rfl) (guard_none rfl) rfl rfl rfl Kr rfl rfl Sm ?_
            intro x8
            refine rw_pure (φ := (((view_Of (view_All v1) v1.roots).1).roots).length * 8 ≤ 140737488355328) [RdL EInt x8.1 (((view_Of (view_All v1) v1.roots).1).roots)] Sm (fun M w h => (allF1 h).len) fun hlen12 => ?_
            refine rw_pure (φ := (((view_Of (view_All v1) v1.roots).1).known).length * 24 ≤ 140737488355328) [RdL EPlace x8.2.1 (((view_Of (view_All v1) v1.roots).1).known)] Sm (fun M w h => (allF1 h).len) fun hlen13 => ?_
            refine rw_pure (φ := (((view_Of (view_All v1) v1.roots).1).way).length * 24 ≤ 140737488355328) [RdL EPlace x8.2.2 (((view_Of (view_All v1) v1.roots).1).way)] Sm (fun M w h => (allF1 h).len) fun hlen14 => ?_
            refine ra_q (.an (i := 5) (js := []) rfl Kr Kr Kr Kr) (SplitB.all _) (by simp) rfl rfl rfl (q_pev rfl (fun _ => rfl)) ?_
            refine ra_q (.an (i := 6) (js := [7]) rfl Kr Kr Kr Kr) (SplitB.all _) (by simp) rfl rfl rfl (q_pev rfl (fun _ => rfl)) ?_
            refine ra_p (.an (i := 7) (js := [9]) rfl Kr Kr Kr Kr) rfl rfl rfl (q_pev rfl (fun _ => rfl)) ?_
            refine ra_one 9 Kr ?_
            refine rw_stA (.lo [g5] rfl rfl) (.inr (by simp)) (guard_none rfl) rfl rfl rfl rfl rfl rfl rfl rfl rfl Ub rfl ?_
            refine ra_q (.an (i := 10) (js := []) rfl Kr Kr Kr Kr) (SplitB.all _) (by simp) rfl rfl rfl (q_pev rfl (fun _ => rfl)) ?_
            refine ra_nil Kr ?_
            refine ⟨⟨g5, x8.1, x8.2.1, x8.2.2⟩, trivial, Le4⟩
        · skip
          rintro ⟨g2, x1, x2, x3⟩ -
          simp only [List.cons_append, List.nil_append]
          (repeat refine cw_seq ?_); refine cw_region ?_
          refine Rp rfl rfl rfl rfl ?_
          refine Rp rfl rfl rfl rfl ?_
          refine Rp rfl rfl rfl rfl ?_
          refine rw_qg (guard_vt rfl rfl rfl) rfl rfl (q_ldA rfl rfl Bt rfl Mm rfl) ?_
          refine rw_qg (guard_vt rfl rfl rfl) rfl rfl (q_ldA rfl rfl Bt rfl Mm rfl) ?_
          refine rw_callg (fun hG_ => view_Same_spec x1 x2 x3 ((view_Of (view_All v1) v1.roots).1) y1 y2 y3 v1) (fun _ => rfl) .sq (guard_vt rfl rfl rfl) rfl rfl rfl Kr rfl Bt Sm ?_
          refine rw_qg (guard_vt rfl rfl rfl) rfl rfl (q_pev rfl Bt) ?_
          refine rw_q rfl rfl rfl (q_pev rfl Bt) ?_
          refine rw_nil ?_
          (repeat refine cw_seq ?_); refine cw_cond (b := ((((view_Of (view_All v1) v1.roots).2) == 0) && (!(view_Same ((view_Of (view_All v1) v1.roots).1) v1)))) rfl rfl (fun hc7 => ?_) (fun hc7 => ?_)
          · skip
            (repeat refine cw_seq ?_); refine cw_region ?_
            refine Rp rfl rfl rfl rfl ?_
            refine rw_nil ?_
            (repeat refine cw_seq ?_); refine cw_region ?_
            refine Rp rfl rfl rfl rfl ?_
            refine Rp rfl rfl rfl rfl ?_
            refine rw_nil ?_
            (repeat refine cw_seq ?_)
            have hr4 : (view_Check v1) = 4 := by rw [← hf1]; simp only [view_Check_U0_2, hc7, cond_true, cond_false]
            refine cw_ret ?_
            rw [hr4]
            exact ⟨(), _, (.cons (.tmp rfl) .nil), rfl, Sm, .nil _, .nil _⟩
          · skip
            (repeat refine cw_seq ?_); refine cw_skip ?_
            (repeat refine cw_seq ?_); refine cw_region ?_
            refine Rp rfl rfl rfl rfl ?_
            refine Rp rfl rfl rfl rfl ?_
            refine rw_nil ?_
            (repeat refine cw_seq ?_)
            have hr5 : (view_Check v1) = (view_Of (view_All v1) v1.roots).2 := by rw [← hf1]; simp only [view_Check_U0_2, hc7, cond_true, cond_false]
            refine cw_ret ?_
            rw [hr5]
            exact ⟨(), _, (.cons (.tmp rfl) .nil), rfl, Sm, .nil _, .nil _⟩
end Go.Proofs.Ytchdacbjiomplaa
