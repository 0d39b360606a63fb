/- Part of this claim. No condition. -/
import Derived.Test.YtchdacbjiomplaaW14
import Derived.Test.YtchdacbjiomplaaLSays
import Derived.Test.YtchdacbjiomplaaW12b
set_option linter.unusedVariables false
set_option linter.unusedSimpArgs false
namespace Go.Proofs.Ytchdacbjiomplaa
open Go Go.Proofs.Ytchdacbjiomplaa.Fw Go.Proofs
theorem CheckTree_len {t : List Place} (h : orangeryref_CheckTree t = 0) : t.length ≤ 15 := check_len ((tree_Check_eq t).trans ((CheckTree_eq t).symm.trans h))
theorem cat2 {a b : List Place} {φ : Place → Prop} (ha : ∀ p ∈ a, φ p) (hb : ∀ p ∈ b, φ p) : ∀ p ∈ ([a, b] : List (List Place)).flatten, φ p := fun p hp => by
  simp only [List.flatten_cons, List.flatten_nil, List.append_nil, List.mem_append] at hp
  rcases hp with hp | hp
  · exact ha p hp
  · exact hb p hp

def orangeryref_AllOf (v1 : View) : List Place :=
  (orangeryref_places (orangeryref_table ([v1.known, v1.way].flatten)))
theorem orangeryref_AllOf_spec (y1 : SlV) (y2 : SlV) (y3 : SlV) (v1 : View) (hl : v1.known.length ≤ 1000 ∧ v1.way.length ≤ 1000) (hk : ∀ p ∈ v1.known, 0 ≤ p.node ∧ p.node < 16) (hw : ∀ p ∈ v1.way, 0 ≤ p.node ∧ p.node < 16) : Does Try.prog 135 [.agg ⟨[y1.val v1.roots.length, y2.val v1.known.length, y3.val v1.way.length]⟩] [RdL EInt y1 v1.roots, RdL EPlace y2 v1.known, RdL EPlace y3 v1.way] (fun (X : SlV) => .agg ⟨[X.val (orangeryref_AllOf v1).length]⟩) (fun (X : SlV) => [RdL EPlace X (orangeryref_AllOf v1)]) := by
  refine does_of tab_ok Try.func135 rfl Try.ntmps135 Try.results135 rfl inferInstance (fun _ => inferInstance) fun C => ?_
  refine cw_pure (φ := v1.roots.length * 8 ≤ 140737488355328) [RdL EInt y1 v1.roots] Sm (fun M w h => (allF1 h).len) fun hlen1 => ?_
  refine cw_pure (φ := v1.known.length * 24 ≤ 140737488355328) [RdL EPlace y2 v1.known] Sm (fun M w h => (allF1 h).len) fun hlen2 => ?_
  refine cw_pure (φ := v1.way.length * 24 ≤ 140737488355328) [RdL EPlace y3 v1.way] Sm (fun M w h => (allF1 h).len) fun hlen3 => ?_
  (repeat refine cw_seq ?_); refine cw_region ?_
  refine rw_box_agg .sq (guard_none rfl) rfl rfl rfl rfl rfl fun g1 => ?_
  refine rw_alloc .sq (guard_none rfl) rfl rfl rfl rfl fun g2 => ?_
  refine rw_nil ?_
  (repeat refine cw_seq ?_); refine cw_region ?_
  refine Rp rfl rfl rfl rfl ?_
  refine rw_q rfl rfl rfl (q_ld1 rfl rfl (fun _ => rfl) rfl Mm rfl) ?_
  refine Rp rfl rfl rfl rfl ?_
  refine rw_q rfl rfl rfl (q_ld1 rfl rfl (fun _ => rfl) rfl Mm rfl) ?_
  refine rw_bsliceL NPlaces.E [(y2, v1.known), (y3, v1.way)] .sq (guard_none rfl) rfl rfl rfl rfl rfl rfl rfl rfl rfl rfl rfl rfl rfl rfl rfl fun x1 x1b => ?_
  refine rw_le (le_freezeL NPlaces.E 27 x1 x1b [(y2, v1.known), (y3, v1.way)] Uo) ?_
  refine rw_fact (F := RdN NPlaces x1 [v1.known, v1.way]) [RdL NPlaces.E x1 [(y2, v1.known), (y3, v1.way)], RdL EPlace y2 v1.known, RdL EPlace y3 v1.way] Sm (fun M w h => RdN.of NPlaces (hs := [(y2, v1.known), (y3, v1.way)]) rfl (h _ (.head _)) (allP_cons (allF_sub Sm h) (allP_cons (allF_sub Sm h) (fun p hp => by cases hp)))) ?_
  refine rw_callG (slices_Concat_Place_spec' x1 [v1.known, v1.way] (by obtain ⟨h1, h2⟩ := hl; simp only [List.flatten_cons, List.flatten_nil, List.append_nil, List.length_append]; omega)) .sq (.inl ⟨_, rfl⟩) (guard_none rfl) rfl rfl rfl Kr rfl rfl Sm (.nil _) (.nil _) ?_
  intro x2
  refine rw_callR (orangeryref_table_spec x2.1 ([v1.known, v1.way].flatten) (cat2 hk hw)) .sq (guard_none rfl) rfl rfl rfl Kr rfl rfl (.own Mm (.nil _ _)) ?_
  intro _
  refine rw_call (orangeryref_places_spec (orangeryref_table ([v1.known, v1.way].flatten)) (table_len _)) .sq (guard_none rfl) rfl rfl rfl Kr rfl rfl Sm ?_
  intro x3
  refine rw_pure (φ := (orangeryref_places (orangeryref_table ([v1.known, v1.way].flatten))).length * 24 ≤ 140737488355328) [RdL EPlace x3 (orangeryref_places (orangeryref_table ([v1.known, v1.way].flatten)))] Sm (fun M w h => (allF1 h).len) fun hlen4 => ?_
  refine Rp rfl rfl rfl rfl ?_
  refine rw_stA .sq (.inl ⟨_, rfl⟩) (guard_none rfl) rfl rfl rfl rfl rfl rfl rfl rfl rfl Ub rfl ?_
  refine rw_nil ?_
  (repeat refine cw_seq ?_)
  have hr1 : (orangeryref_AllOf v1) = (orangeryref_places (orangeryref_table ([v1.known, v1.way].flatten))) := by simp only [orangeryref_AllOf, cond_true, cond_false]
  refine cw_ret ?_
  rw [hr1]
  exact ⟨x3, _, (.cons (.agg rfl rfl Mm rfl) .nil), rfl, Sm, .nil _, .nil _⟩

def orangeryref_CheckView (v1 : View) : Int :=
  (bif ((orangeryref_CheckRoots v1.roots) != 0) then (orangeryref_CheckRoots v1.roots) else (bif ((orangeryref_CheckTree v1.known) != 0) then (orangeryref_CheckTree v1.known) else (bif ((orangeryref_CheckTree v1.way) != 0) then (orangeryref_CheckTree v1.way) else (bif ((((orangeryref_Seen (orangeryref_AllOf v1) v1.roots).2) == 0) && (!(orangeryref_SameView v1 ((orangeryref_Seen (orangeryref_AllOf v1) v1.roots).1)))) then 4 else (orangeryref_Seen (orangeryref_AllOf v1) v1.roots).2))))
theorem orangeryref_CheckView_spec (y1 : SlV) (y2 : SlV) (y3 : SlV) (v1 : View) : Does Try.prog 48 [.agg ⟨[y1.val v1.roots.length, y2.val v1.known.length, y3.val v1.way.length]⟩] [RdL EInt y1 v1.roots, RdL EPlace y2 v1.known, RdL EPlace y3 v1.way] (fun (_ : Unit) => .int .i64 (orangeryref_CheckView v1)) (fun (_ : Unit) => []) := by
  refine does_of tab_ok Try.func48 rfl Try.ntmps48 Try.results48 rfl inferInstance (fun _ => inferInstance) fun C => ?_
  refine cw_pure (φ := v1.roots.length * 8 ≤ 140737488355328) [RdL EInt y1 v1.roots] Sm (fun M w h => (allF1 h).len) fun hlen1 => ?_
  refine cw_pure (φ := v1.known.length * 24 ≤ 140737488355328) [RdL EPlace y2 v1.known] Sm (fun M w h => (allF1 h).len) fun hlen2 => ?_
  refine cw_pure (φ := v1.way.length * 24 ≤ 140737488355328) [RdL EPlace y3 v1.way] Sm (fun M w h => (allF1 h).len) fun hlen3 => ?_
  (repeat refine cw_seq ?_); refine cw_region ?_
  refine rw_box_agg .sq (guard_none rfl) rfl rfl rfl rfl rfl fun g1 => ?_
  refine Rp rfl rfl rfl rfl ?_
  refine rw_nil ?_
  (repeat refine cw_seq ?_); refine cw_region ?_
  refine Rp rfl rfl rfl rfl ?_
  refine rw_q rfl rfl rfl (q_ld1 rfl rfl (fun _ => rfl) rfl Mm rfl) ?_
  refine rw_call (orangeryref_CheckRoots_spec y1 v1.roots) .sq (guard_none rfl) rfl rfl rfl Kr rfl rfl Sm ?_
  intro _
  refine Rp rfl rfl rfl rfl ?_
  refine rw_nil ?_
  (repeat refine cw_seq ?_); refine cw_region ?_
  refine Rp rfl rfl rfl rfl ?_
  refine Rp rfl rfl rfl rfl ?_
  refine rw_nil ?_
  (repeat refine cw_seq ?_); refine cw_cond (b := ((orangeryref_CheckRoots v1.roots) != 0)) rfl rfl (fun hc1 => ?_) (fun hc1 => ?_)
  · skip
    have hc1p := bne_iff_ne.1 hc1
    (repeat refine cw_seq ?_); refine cw_region ?_
    refine Rp rfl rfl rfl rfl ?_
    refine Rp rfl rfl rfl rfl ?_
    refine rw_nil ?_
    (repeat refine cw_seq ?_)
    have hr1 : (orangeryref_CheckView v1) = (orangeryref_CheckRoots v1.roots) := by simp only [orangeryref_CheckView, hc1, cond_true, cond_false]
    refine cw_ret ?_
    rw [hr1]
    exact ⟨(), _, (.cons (.tmp rfl) .nil), rfl, Sm, .nil _, .nil _⟩
  · skip
    have hc1p := eq_of_bne_false hc1
    (repeat refine cw_seq ?_); refine cw_skip ?_
    (repeat refine cw_seq ?_); refine cw_region ?_
    refine Rp rfl rfl rfl rfl ?_
    refine rw_q rfl rfl rfl (q_ld1 rfl rfl (fun _ => rfl) rfl Mm rfl) ?_
    refine Rp rfl rfl rfl rfl ?_
    refine rw_call (orangeryref_CheckTree_spec y2 v1.known) .sq (guard_none rfl) rfl rfl rfl Kr rfl rfl Sm ?_
    intro _
    refine Rp rfl rfl rfl rfl ?_
    refine rw_nil ?_
    (repeat refine cw_seq ?_); refine cw_region ?_
    refine Rp rfl rfl rfl rfl ?_
    refine Rp rfl rfl rfl rfl ?_
    refine rw_nil ?_
    (repeat refine cw_seq ?_); refine cw_cond (b := ((orangeryref_CheckTree v1.known) != 0)) rfl rfl (fun hc2 => ?_) (fun hc2 => ?_)
    · skip
      have hc2p := bne_iff_ne.1 hc2
      (repeat refine cw_seq ?_); refine cw_region ?_
      refine Rp rfl rfl rfl rfl ?_
      refine Rp rfl rfl rfl rfl ?_
      refine rw_nil ?_
      (repeat refine cw_seq ?_)
      have hr2 : (orangeryref_CheckView v1) = (orangeryref_CheckTree v1.known) := by simp only [orangeryref_CheckView, hc1, hc2, cond_true, cond_false]
      refine cw_ret ?_
      rw [hr2]
      exact ⟨(), _, (.cons (.tmp rfl) .nil), rfl, Sm, .nil _, .nil _⟩
    · skip
      have hc2p := eq_of_bne_false hc2
      have hct1 := eq_of_bne_false hc2
      (repeat refine cw_seq ?_); refine cw_skip ?_
      (repeat refine cw_seq ?_); refine cw_region ?_
      refine Rp rfl rfl rfl rfl ?_
      refine rw_q rfl rfl rfl (q_ld1 rfl rfl (fun _ => rfl) rfl Mm rfl) ?_
      refine Rp rfl rfl rfl rfl ?_
      refine rw_call (orangeryref_CheckTree_spec y3 v1.way) .sq (guard_none rfl) rfl rfl rfl Kr rfl rfl Sm ?_
      intro _
      refine Rp rfl rfl rfl rfl ?_
      refine rw_nil ?_
      (repeat refine cw_seq ?_); refine cw_region ?_
      refine Rp rfl rfl rfl rfl ?_
      refine Rp rfl rfl rfl rfl ?_
      refine rw_nil ?_
      (repeat refine cw_seq ?_); refine cw_cond (b := ((orangeryref_CheckTree v1.way) != 0)) rfl rfl (fun hc3 => ?_) (fun hc3 => ?_)
      · skip
        have hc3p := bne_iff_ne.1 hc3
        (repeat refine cw_seq ?_); refine cw_region ?_
        refine Rp rfl rfl rfl rfl ?_
        refine Rp rfl rfl rfl rfl ?_
        refine rw_nil ?_
        (repeat refine cw_seq ?_)
        have hr3 : (orangeryref_CheckView v1) = (orangeryref_CheckTree v1.way) := by simp only [orangeryref_CheckView, hc1, hc2, hc3, cond_true, cond_false]
        refine cw_ret ?_
        rw [hr3]
        exact ⟨(), _, (.cons (.tmp rfl) .nil), rfl, Sm, .nil _, .nil _⟩
      · skip
        have hc3p := eq_of_bne_false hc3
        have hct2 := eq_of_bne_false hc3
        (repeat refine cw_seq ?_); refine cw_skip ?_
        (repeat refine cw_seq ?_)
        refine cw_join [1, 2] [true] (fun (i_ : Nat × SlV × SlV × SlV) => match i_ with | ⟨g2, x1, x2, x3⟩ => [(6, .v (.pointer (some ⟨g2, 0, none⟩))), (7, .v (.int .i64 ((orangeryref_Seen (orangeryref_AllOf v1) v1.roots).2)))]) (fun (i_ : Nat × SlV × SlV × SlV) => match i_ with | ⟨g2, x1, x2, x3⟩ => [⟨g2, 51, [x1.val (((orangeryref_Seen (orangeryref_AllOf v1) v1.roots).1).roots).length, x2.val (((orangeryref_Seen (orangeryref_AllOf v1) v1.roots).1).known).length, x3.val (((orangeryref_Seen (orangeryref_AllOf v1) v1.roots).1).way).length]⟩]) (fun (i_ : Nat × SlV × SlV × SlV) => match i_ with | ⟨g2, x1, x2, x3⟩ => []) (fun (i_ : Nat × SlV × SlV × SlV) => match i_ with | ⟨g2, x1, x2, x3⟩ => [RdL EInt x1 (((orangeryref_Seen (orangeryref_AllOf v1) v1.roots).1).roots), RdL EPlace x2 (((orangeryref_Seen (orangeryref_AllOf v1) v1.roots).1).known), RdL EPlace x3 (((orangeryref_Seen (orangeryref_AllOf v1) v1.roots).1).way)]) (fun _ => True) (.cons rfl (.cons rfl (.nil _))) (.keep (.nil)) ?_ ?_
        · skip
          refine cw_regionA (fun j => match j with | 9 => none | _ => some []) ?_
          refine ra_q (.ab (i := 0) (js := [2, 3, 8]) [1, 4, 5, 6, 7, 9, 10] rfl Kr Kr Kr Kr Kr) (SplitB.all _) (by simp) rfl rfl rfl (q_ldA rfl rfl (fun _ => rfl) rfl Mm rfl) ?_
          refine ra_q (.ab (i := 2) (js := [1, 8]) [3, 4, 5, 6, 7, 9, 10] rfl Kr Kr Kr Kr Kr) (SplitB.all _) (by simp) rfl rfl rfl (q_pev rfl (fun _ => rfl)) ?_
          refine ra_q (.ab (i := 3) (js := [1, 8]) [4, 5, 6, 7, 9, 10] rfl Kr Kr Kr Kr Kr) (SplitB.all _) (by simp) rfl rfl rfl (q_ld1 rfl rfl (fun _ => rfl) rfl Mm rfl) ?_
          refine ra_two 1 8 Kr ?_ ?_
          · skip
            refine rw_call (orangeryref_AllOf_spec y1 y2 y3 v1 ⟨Nat.le_trans (CheckTree_len hct1) (by omega), Nat.le_trans (CheckTree_len hct2) (by omega)⟩ (CheckTree_node hct1) (CheckTree_node hct2)) (.an rfl rfl) (guard_none rfl) rfl rfl rfl Kr rfl rfl Sm ?_
            intro x4
            refine rw_pure (φ := (orangeryref_AllOf v1).length * 24 ≤ 140737488355328) [RdL EPlace x4 (orangeryref_AllOf v1)] Sm (fun M w h => (allF1 h).len) fun hlen4 => ?_
            refine ra_two 4 8 Kr ?_ ?_
            · skip
              refine rw_call (orangeryref_Seen_spec x4 (orangeryref_AllOf v1) y1 v1.roots) (.an rfl rfl) (guard_none rfl) rfl rfl rfl Kr rfl rfl Sm ?_
              intro x5
              refine rw_pure (φ := (((orangeryref_Seen (orangeryref_AllOf v1) v1.roots).1).roots).length * 8 ≤ 140737488355328) [RdL EInt x5.1 (((orangeryref_Seen (orangeryref_AllOf v1) v1.roots).1).roots)] Sm (fun M w h => (allF1 h).len) fun hlen5 => ?_
              refine rw_pure (φ := (((orangeryref_Seen (orangeryref_AllOf v1) v1.roots).1).known).length * 24 ≤ 140737488355328) [RdL EPlace x5.2.1 (((orangeryref_Seen (orangeryref_AllOf v1) v1.roots).1).known)] Sm (fun M w h => (allF1 h).len) fun hlen6 => ?_
              refine rw_pure (φ := (((orangeryref_Seen (orangeryref_AllOf v1) v1.roots).1).way).length * 24 ≤ 140737488355328) [RdL EPlace x5.2.2 (((orangeryref_Seen (orangeryref_AllOf v1) v1.roots).1).way)] Sm (fun M w h => (allF1 h).len) fun hlen7 => ?_
              refine ra_q (.an (i := 5) (js := [8]) rfl Kr Kr Kr Kr) (SplitB.all _) (by simp) rfl rfl rfl (q_pev rfl (fun _ => rfl)) ?_
              refine ra_q (.an (i := 6) (js := [7, 8]) rfl Kr Kr Kr Kr) (SplitB.all _) (by simp) rfl rfl rfl (q_pev rfl (fun _ => rfl)) ?_
              refine ra_p (.an (i := 7) (js := [8, 9]) rfl Kr Kr Kr Kr) rfl rfl rfl (q_pev rfl (fun _ => rfl)) ?_
              refine ra_one 8 Kr ?_
              refine rw_alloc (.an rfl rfl) (guard_none rfl) rfl rfl rfl rfl fun g3 => ?_
              refine ra_one 9 Kr ?_
              refine rw_stA (.lo [g3] rfl rfl) (.inr (by simp)) (guard_none rfl) rfl rfl rfl rfl rfl rfl rfl rfl rfl Ub rfl ?_
              refine ra_q (.an (i := 10) (js := []) rfl Kr Kr Kr Kr) (SplitB.all _) (by simp) rfl rfl rfl (q_pev rfl (fun _ => rfl)) ?_
              refine ra_nil Kr ?_
              refine ⟨⟨g3, x5.1, x5.2.1, x5.2.2⟩, trivial, Le4⟩
            · skip
              refine rw_alloc (.an rfl rfl) (guard_none rfl) rfl rfl rfl rfl fun g4 => ?_
              refine ra_one 4 Kr ?_
              refine rw_call (orangeryref_Seen_spec x4 (orangeryref_AllOf v1) y1 v1.roots) (.an rfl rfl) (guard_none rfl) rfl rfl rfl Kr rfl rfl Sm ?_
              intro x6
              refine rw_pure (φ := (((orangeryref_Seen (orangeryref_AllOf v1) v1.roots).1).roots).length * 8 ≤ 140737488355328) [RdL EInt x6.1 (((orangeryref_Seen (orangeryref_AllOf v1) v1.roots).1).roots)] Sm (fun M w h => (allF1 h).len) fun hlen8 => ?_
              refine rw_pure (φ := (((orangeryref_Seen (orangeryref_AllOf v1) v1.roots).1).known).length * 24 ≤ 140737488355328) [RdL EPlace x6.2.1 (((orangeryref_Seen (orangeryref_AllOf v1) v1.roots).1).known)] Sm (fun M w h => (allF1 h).len) fun hlen9 => ?_
              refine rw_pure (φ := (((orangeryref_Seen (orangeryref_AllOf v1) v1.roots).1).way).length * 24 ≤ 140737488355328) [RdL EPlace x6.2.2 (((orangeryref_Seen (orangeryref_AllOf v1) v1.roots).1).way)] Sm (fun M w h => (allF1 h).len) fun hlen10 => ?_
              refine ra_q (.an (i := 5) (js := []) rfl Kr Kr Kr Kr) (SplitB.all _) (by simp) rfl rfl rfl (q_pev rfl (fun _ => rfl)) ?_
              refine ra_q (.an (i := 6) (js := [7]) rfl Kr Kr Kr Kr) (SplitB.all _) (by simp) rfl rfl rfl (q_pev rfl (fun _ => rfl)) ?_
              refine ra_p (.an (i := 7) (js := [9]) rfl Kr Kr Kr Kr) rfl rfl rfl (q_pev rfl (fun _ => rfl)) ?_
              refine ra_one 9 Kr ?_
              refine rw_stA (.lo [g4] rfl rfl) (.inr (by simp)) (guard_none rfl) rfl rfl rfl rfl rfl rfl rfl rfl rfl Ub rfl ?_
              refine ra_q (.an (i := 10) (js := []) rfl Kr Kr Kr Kr) (SplitB.all _) (by simp) rfl rfl rfl (q_pev rfl (fun _ => rfl)) ?_
              refine ra_nil Kr ?_
              refine ⟨⟨g4, x6.1, x6.2.1, x6.2.2⟩, trivial, Le4⟩
          · skip
            refine rw_alloc (.an rfl rfl) (guard_none rfl) rfl rfl rfl rfl fun g5 => ?_
            refine ra_one 1 Kr ?_
            refine rw_call (orangeryref_AllOf_spec y1 y2 y3 v1 ⟨Nat.le_trans (CheckTree_len hct1) (by omega), Nat.le_trans (CheckTree_len hct2) (by omega)⟩ (CheckTree_node hct1) (CheckTree_node hct2)) (.an rfl rfl) (guard_none rfl) rfl rfl rfl Kr rfl rfl Sm ?_
            intro x7
            refine rw_pure (φ := (orangeryref_AllOf v1).length * 24 ≤ 140737488355328) [RdL EPlace x7 (orangeryref_AllOf v1)] Sm (fun M w h => (allF1 h).len) fun hlen11 => ?_
            refine ra_one 4 Kr ?_
            refine rw_call (orangeryref_Seen_spec x7 (orangeryref_AllOf v1) y1 v1.roots) (.an rfl rfl) (guard_none rfl) rfl rfl rfl Kr rfl rfl Sm ?_
            intro x8
            refine rw_pure (φ := (((orangeryref_Seen (orangeryref_AllOf v1) v1.roots).1).roots).length * 8 ≤ 140737488355328) [RdL EInt x8.1 (((orangeryref_Seen (orangeryref_AllOf v1) v1.roots).1).roots)] Sm (fun M w h => (allF1 h).len) fun hlen12 => ?_
            refine rw_pure (φ := (((orangeryref_Seen (orangeryref_AllOf v1) v1.roots).1).known).length * 24 ≤ 140737488355328) [RdL EPlace x8.2.1 (((orangeryref_Seen (orangeryref_AllOf v1) v1.roots).1).known)] Sm (fun M w h => (allF1 h).len) fun hlen13 => ?_
            refine rw_pure (φ := (((orangeryref_Seen (orangeryref_AllOf v1) v1.roots).1).way).length * 24 ≤ 140737488355328) [RdL EPlace x8.2.2 (((orangeryref_Seen (orangeryref_AllOf v1) v1.roots).1).way)] Sm (fun M w h => (allF1 h).len) fun hlen14 => ?_
            refine ra_q (.an (i := 5) (js := []) rfl Kr Kr Kr Kr) (SplitB.all _) (by simp) rfl rfl rfl (q_pev rfl (fun _ => rfl)) ?_
            refine ra_q (.an (i := 6) (js := [7]) rfl Kr Kr Kr Kr) (SplitB.all _) (by simp) rfl rfl rfl (q_pev rfl (fun _ => rfl)) ?_
            refine ra_p (.an (i := 7) (js := [9]) rfl Kr Kr Kr Kr) rfl rfl rfl (q_pev rfl (fun _ => rfl)) ?_
            refine ra_one 9 Kr ?_
            refine rw_stA (.lo [g5] rfl rfl) (.inr (by simp)) (guard_none rfl) rfl rfl rfl rfl rfl rfl rfl rfl rfl Ub rfl ?_
            refine ra_q (.an (i := 10) (js := []) rfl Kr Kr Kr Kr) (SplitB.all _) (by simp) rfl rfl rfl (q_pev rfl (fun _ => rfl)) ?_
            refine ra_nil Kr ?_
            refine ⟨⟨g5, x8.1, x8.2.1, x8.2.2⟩, trivial, Le4⟩
        · skip
          rintro ⟨g2, x1, x2, x3⟩ -
          simp only [List.cons_append, List.nil_append]
          (repeat refine cw_seq ?_); refine cw_region ?_
          refine Rp rfl rfl rfl rfl ?_
          refine Rp rfl rfl rfl rfl ?_
          refine Rp rfl rfl rfl rfl ?_
          refine rw_qg (guard_vt rfl rfl rfl) rfl rfl (q_ldA rfl rfl Bt rfl Mm rfl) ?_
          refine rw_qg (guard_vt rfl rfl rfl) rfl rfl (q_ldA rfl rfl Bt rfl Mm rfl) ?_
          refine rw_callg (fun hG_ => orangeryref_SameView_spec y1 y2 y3 v1 x1 x2 x3 ((orangeryref_Seen (orangeryref_AllOf v1) v1.roots).1)) (fun _ => rfl) .sq (guard_vt rfl rfl rfl) rfl rfl rfl Kr rfl Bt Sm ?_
          refine rw_qg (guard_vt rfl rfl rfl) rfl rfl (q_pev rfl Bt) ?_
          refine rw_q rfl rfl rfl (q_pev rfl Bt) ?_
          refine rw_nil ?_
          (repeat refine cw_seq ?_); refine cw_cond (b := ((((orangeryref_Seen (orangeryref_AllOf v1) v1.roots).2) == 0) && (!(orangeryref_SameView v1 ((orangeryref_Seen (orangeryref_AllOf v1) v1.roots).1))))) rfl rfl (fun hc4 => ?_) (fun hc4 => ?_)
          · skip
            (repeat refine cw_seq ?_); refine cw_region ?_
            refine Rp rfl rfl rfl rfl ?_
            refine rw_nil ?_
            (repeat refine cw_seq ?_); refine cw_region ?_
            refine Rp rfl rfl rfl rfl ?_
            refine Rp rfl rfl rfl rfl ?_
            refine rw_nil ?_
            (repeat refine cw_seq ?_)
            have hr4 : (orangeryref_CheckView v1) = 4 := by simp only [orangeryref_CheckView, hc1, hc2, hc3, hc4, cond_true, cond_false]
            refine cw_ret ?_
            rw [hr4]
            exact ⟨(), _, (.cons (.tmp rfl) .nil), rfl, Sm, .nil _, .nil _⟩
          · skip
            (repeat refine cw_seq ?_); refine cw_skip ?_
            (repeat refine cw_seq ?_); refine cw_region ?_
            refine Rp rfl rfl rfl rfl ?_
            refine Rp rfl rfl rfl rfl ?_
            refine rw_nil ?_
            (repeat refine cw_seq ?_)
            have hr5 : (orangeryref_CheckView v1) = (orangeryref_Seen (orangeryref_AllOf v1) v1.roots).2 := by simp only [orangeryref_CheckView, hc1, hc2, hc3, hc4, cond_true, cond_false]
            refine cw_ret ?_
            rw [hr5]
            exact ⟨(), _, (.cons (.tmp rfl) .nil), rfl, Sm, .nil _, .nil _⟩
end Go.Proofs.Ytchdacbjiomplaa
