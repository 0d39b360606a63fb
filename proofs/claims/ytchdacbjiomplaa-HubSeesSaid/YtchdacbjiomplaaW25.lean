/- Part of this claim. No condition. -/
import Derived.Test.YtchdacbjiomplaaW24
import Derived.Test.YtchdacbjiomplaaW3a
set_option linter.unusedVariables false
set_option linter.unusedSimpArgs false
namespace Go.Proofs.Ytchdacbjiomplaa
open Go Go.Proofs.Ytchdacbjiomplaa.Fw Go.Proofs
attribute [local irreducible] RdL RdN VarP
theorem history_Ops_eq (h : History) : history_Ops h = h.l.map (·.o) := by
  have key : ∀ (l : List Step) (acc : List Op), history_Ops_L0 l acc = acc ++ l.map (·.o) := by
    intro l
    induction l with
    | nil => intro acc; simp [history_Ops_L0]
    | cons p r ih => intro acc; rw [history_Ops_L0, ih]; simp
  unfold history_Ops
  rw [key]; simp
theorem history_Fold_len {l : List Op} (h : (history_Fold l).2 = 0) : l.length ≤ 30 := by
  unfold history_Fold at h
  cases hc : decide ((l.length : Int) > 30) with
  | true => rw [hc, cond_true] at h; cases h
  | false => have := of_decide_eq_false hc; omega
theorem history_Check_fold {h : History} (hc : history_Check h = 0) : (history_Fold (history_Ops h)).2 = 0 ∧ history_Same (history_Fold (history_Ops h)).1 h = true := by
  unfold history_Check at hc
  cases h1 : ((history_Fold (history_Ops h)).2 == 0 && !history_Same (history_Fold (history_Ops h)).1 h) with
  | true => rw [h1, cond_true] at hc; cases hc
  | false =>
    rw [h1, cond_false] at hc
    rw [hc] at h1
    exact ⟨hc, by simpa using h1⟩
theorem history_Check_len {h : History} (hc : history_Check h = 0) : h.l.length ≤ 30 := by
  have := history_Fold_len (history_Check_fold hc).1
  rw [history_Ops_eq, List.length_map] at this
  exact this

def history_Insert (h1 : History) (o1 : Op) : History × Int :=
  (bif ((history_Check h1) != 0) then ((⟨([] : List Step), ([] : List Place)⟩ : History), (history_Check h1)) else (((history_Put h1 o1).1), (history_Put h1 o1).2))
theorem history_Insert_spec (y1 : SlV) (y2 : SlV) (h1 : History) (o1 : Op) : Does Try.prog 77 [.agg ⟨[y1.val h1.l.length, y2.val h1.t.length]⟩, .agg ⟨[.int .i64 o1.time, .int .i64 o1.who, .int .i64 o1.node, .int .i64 o1.parent, .int .i64 o1.name, .int .i64 o1.life, .int .i64 o1.seq]⟩] [RdL EStep y1 h1.l, RdL EPlace y2 h1.t] (fun (X : SlV × SlV) => .tuple #[.agg ⟨[X.1.val (((history_Insert h1 o1).1).l).length, X.2.val (((history_Insert h1 o1).1).t).length]⟩, .int .i64 ((history_Insert h1 o1).2)]) (fun (X : SlV × SlV) => [RdL EStep X.1 (((history_Insert h1 o1).1).l), RdL EPlace X.2 (((history_Insert h1 o1).1).t)]) := by
  refine does_of tab_ok Try.func77 rfl Try.ntmps77 Try.results77 rfl inferInstance (fun _ => inferInstance) fun C => ?_
  refine cw_pure (φ := h1.l.length * 88 ≤ 140737488355328) [RdL EStep y1 h1.l] Sm (fun M w h => (allF1 h).len) fun hlen1 => ?_
  refine cw_pure (φ := h1.t.length * 24 ≤ 140737488355328) [RdL EPlace y2 h1.t] Sm (fun M w h => (allF1 h).len) fun hlen2 => ?_
  (repeat refine cw_seq ?_); refine cw_region ?_
  refine rw_box_agg .sq (guard_none rfl) rfl rfl rfl rfl rfl fun g1 => ?_
  refine rw_box_agg .sq (guard_none rfl) rfl rfl rfl rfl rfl fun g2 => ?_
  refine rw_alloc .sq (guard_none rfl) rfl rfl rfl rfl fun g3 => ?_
  refine Rp rfl rfl rfl rfl ?_
  refine rw_nil ?_
  (repeat refine cw_seq ?_); refine cw_region ?_
  refine rw_q rfl rfl rfl (q_ldA rfl rfl (fun _ => rfl) rfl Mm rfl) ?_
  refine rw_call (history_Check_spec y1 y2 h1) .sq (guard_none rfl) rfl rfl rfl Kr rfl rfl Sm ?_
  intro _
  refine Rp rfl rfl rfl rfl ?_
  refine rw_nil ?_
  (repeat refine cw_seq ?_); refine cw_region ?_
  refine Rp rfl rfl rfl rfl ?_
  refine Rp rfl rfl rfl rfl ?_
  refine rw_nil ?_
  (repeat refine cw_seq ?_); refine cw_cond (b := ((history_Check h1) != 0)) rfl rfl (fun hc1 => ?_) (fun hc1 => ?_)
  · skip
    have hc1p := bne_iff_ne.1 hc1
    (repeat refine cw_seq ?_); refine cw_region ?_
    refine Rp rfl rfl rfl rfl ?_
    refine Rp rfl rfl rfl rfl ?_
    refine rw_stA .sq (.inl ⟨_, rfl⟩) (guard_none rfl) rfl rfl rfl rfl rfl rfl rfl rfl rfl Ub rfl ?_
    refine Rp rfl rfl rfl rfl ?_
    refine rw_nil ?_
    (repeat refine cw_seq ?_)
    refine cw_fact (F := RdL EStep ⟨none, 0⟩ ([] : List Step)) [] (.nil _) (fun M w _ => RdL.nil _ _ _ (by omega) M w) ?_
    refine cw_fact (F := RdL EPlace ⟨none, 0⟩ ([] : List Place)) [] (.nil _) (fun M w _ => RdL.nil _ _ _ (by omega) M w) ?_
    have hr1 : (history_Insert h1 o1) = ((⟨([] : List Step), ([] : List Place)⟩ : History), (history_Check h1)) := by simp only [history_Insert, hc1, cond_true, cond_false]
    refine cw_ret ?_
    rw [hr1]
    exact ⟨⟨(⟨none, 0⟩ : SlV), (⟨none, 0⟩ : SlV)⟩, _, (.cons (.agg rfl rfl Mm rfl) (.cons (.tmp rfl) .nil)), rfl, Sm, .nil _, .nil _⟩
  · skip
    have hc1p := eq_of_bne_false hc1
    (repeat refine cw_seq ?_); refine cw_skip ?_
    (repeat refine cw_seq ?_); refine cw_region ?_
    refine rw_q rfl rfl rfl (q_ldA rfl rfl (fun _ => rfl) rfl Mm rfl) ?_
    refine rw_q rfl rfl rfl (q_ldA rfl rfl (fun _ => rfl) rfl Mm rfl) ?_
    refine rw_call (history_Put_spec y1 y2 h1 o1 (Nat.le_trans (history_Check_len (eq_of_bne_false (by assumption))) (by omega))) .sq (guard_none rfl) rfl rfl rfl Kr rfl rfl Sm ?_
    intro x1
    refine rw_pure (φ := (((history_Put h1 o1).1).l).length * 88 ≤ 140737488355328) [RdL EStep x1.1 (((history_Put h1 o1).1).l)] Sm (fun M w h => (allF1 h).len) fun hlen3 => ?_
    refine rw_pure (φ := (((history_Put h1 o1).1).t).length * 24 ≤ 140737488355328) [RdL EPlace x1.2 (((history_Put h1 o1).1).t)] Sm (fun M w h => (allF1 h).len) fun hlen4 => ?_
    refine Rp rfl rfl rfl rfl ?_
    refine Rp rfl rfl rfl rfl ?_
    refine rw_stA .sq (.inl ⟨_, rfl⟩) (guard_none rfl) rfl rfl rfl rfl rfl rfl rfl rfl rfl Ub rfl ?_
    refine Rp rfl rfl rfl rfl ?_
    refine rw_nil ?_
    (repeat refine cw_seq ?_)
    have hr2 : (history_Insert h1 o1) = (((history_Put h1 o1).1), (history_Put h1 o1).2) := by simp only [history_Insert, hc1, cond_true, cond_false]
    refine cw_ret ?_
    rw [hr2]
    exact ⟨⟨x1.1, x1.2⟩, _, (.cons (.agg rfl rfl Mm rfl) (.cons (.tmp rfl) .nil)), rfl, Sm, .nil _, .nil _⟩

def orangerylaw_folded  : Bool :=
  ((((((((((((((history_Fold [(orangerylaw_op 1 0 1 2), (orangerylaw_op 3 0 2 1)]).2) == 0) && (((history_Insert ((history_Fold [(orangerylaw_op 1 0 1 2), (orangerylaw_op 3 0 2 1)]).1) (orangerylaw_op 2 1 1 0)).2) == 0)) && (((history_Fold [(orangerylaw_op 3 0 2 1), (orangerylaw_op 2 1 1 0), (orangerylaw_op 1 0 1 2)]).2) == 0)) && (((history_Insert ((history_Fold [(orangerylaw_op 1 0 1 2), (orangerylaw_op 3 0 2 1)]).1) (orangerylaw_op 3 0 5 0)).2) == 6)) && (((((history_Fold [(orangerylaw_op 1 0 1 2), (orangerylaw_op 3 0 2 1)]).1).l).length : Int) == 2)) && (!((gt (((history_Fold [(orangerylaw_op 1 0 1 2), (orangerylaw_op 3 0 2 1)]).1).l) 1).did))) && (((((history_Fold [(orangerylaw_op 1 0 1 2), (orangerylaw_op 3 0 2 1)]).1).t).length : Int) == 1)) && (((((history_Insert ((history_Fold [(orangerylaw_op 1 0 1 2), (orangerylaw_op 3 0 2 1)]).1) (orangerylaw_op 2 1 1 0)).1).l).length : Int) == 3)) && (gt (((history_Insert ((history_Fold [(orangerylaw_op 1 0 1 2), (orangerylaw_op 3 0 2 1)]).1) (orangerylaw_op 2 1 1 0)).1).l) 2).did) && (((((history_Insert ((history_Fold [(orangerylaw_op 1 0 1 2), (orangerylaw_op 3 0 2 1)]).1) (orangerylaw_op 2 1 1 0)).1).t).length : Int) == 2)) && (history_Same ((history_Insert ((history_Fold [(orangerylaw_op 1 0 1 2), (orangerylaw_op 3 0 2 1)]).1) (orangerylaw_op 2 1 1 0)).1) ((history_Fold [(orangerylaw_op 3 0 2 1), (orangerylaw_op 2 1 1 0), (orangerylaw_op 1 0 1 2)]).1))) && ((history_Check ((history_Insert ((history_Fold [(orangerylaw_op 1 0 1 2), (orangerylaw_op 3 0 2 1)]).1) (orangerylaw_op 2 1 1 0)).1)) == 0))
theorem orangerylaw_folded_spec  : Does Try.prog 76 [] [] (fun (_ : Unit) => .bool (orangerylaw_folded)) (fun (_ : Unit) => []) := by
  refine does_of tab_ok Try.func76 rfl Try.ntmps76 Try.results76 rfl inferInstance (fun _ => inferInstance) fun C => ?_
  (repeat refine cw_seq ?_); refine cw_region ?_
  refine Rp rfl rfl rfl rfl ?_
  refine rw_nil ?_
  (repeat refine cw_seq ?_); refine cw_region ?_
  refine rw_call (orangerylaw_op_spec 1 0 1 2) .sq (guard_none rfl) rfl rfl rfl Kr rfl rfl Sm ?_
  intro _
  refine rw_call (orangerylaw_op_spec 3 0 2 1) .sq (guard_none rfl) rfl rfl rfl Kr rfl rfl Sm ?_
  intro _
  refine rw_bsliceL EOp [(orangerylaw_op 1 0 1 2), (orangerylaw_op 3 0 2 1)] .sq (guard_none rfl) rfl rfl rfl rfl rfl rfl rfl rfl rfl rfl rfl rfl rfl rfl rfl fun x1 x1b => ?_
  refine rw_le (le_freezeL EOp 33 x1 x1b [(orangerylaw_op 1 0 1 2), (orangerylaw_op 3 0 2 1)] Uo) ?_
  refine rw_call (history_Fold_spec x1 [(orangerylaw_op 1 0 1 2), (orangerylaw_op 3 0 2 1)]) .sq (guard_none rfl) rfl rfl rfl Kr rfl rfl Sm ?_
  intro x2
  refine rw_pure (φ := (((history_Fold [(orangerylaw_op 1 0 1 2), (orangerylaw_op 3 0 2 1)]).1).l).length * 88 ≤ 140737488355328) [RdL EStep x2.1 (((history_Fold [(orangerylaw_op 1 0 1 2), (orangerylaw_op 3 0 2 1)]).1).l)] Sm (fun M w h => (allF1 h).len) fun hlen1 => ?_
  refine rw_pure (φ := (((history_Fold [(orangerylaw_op 1 0 1 2), (orangerylaw_op 3 0 2 1)]).1).t).length * 24 ≤ 140737488355328) [RdL EPlace x2.2 (((history_Fold [(orangerylaw_op 1 0 1 2), (orangerylaw_op 3 0 2 1)]).1).t)] Sm (fun M w h => (allF1 h).len) fun hlen2 => ?_
  refine Rp rfl rfl rfl rfl ?_
  refine Rp rfl rfl rfl rfl ?_
  refine Rp rfl rfl rfl rfl ?_
  refine rw_alloc .sq (guard_none rfl) rfl rfl rfl rfl fun g1 => ?_
  refine rw_stA .sq (.inl ⟨_, rfl⟩) (guard_none rfl) rfl rfl rfl rfl rfl rfl rfl rfl rfl Ub rfl ?_
  refine Rp rfl rfl rfl rfl ?_
  refine rw_nil ?_
  (repeat refine cw_seq ?_)
  refine cw_join [0, 1, 2] [true] (fun (i_ : Nat × SlV × SlV) => match i_ with | ⟨g2, x3, x4⟩ => [(3, .v (.pointer (some ⟨g2, 0, none⟩))), (4, .v (.int .i64 ((history_Insert ((history_Fold [(orangerylaw_op 1 0 1 2), (orangerylaw_op 3 0 2 1)]).1) (orangerylaw_op 2 1 1 0)).2)))]) (fun (i_ : Nat × SlV × SlV) => match i_ with | ⟨g2, x3, x4⟩ => [⟨g2, 94, [x3.val (((history_Insert ((history_Fold [(orangerylaw_op 1 0 1 2), (orangerylaw_op 3 0 2 1)]).1) (orangerylaw_op 2 1 1 0)).1).l).length, x4.val (((history_Insert ((history_Fold [(orangerylaw_op 1 0 1 2), (orangerylaw_op 3 0 2 1)]).1) (orangerylaw_op 2 1 1 0)).1).t).length]⟩]) (fun (i_ : Nat × SlV × SlV) => match i_ with | ⟨g2, x3, x4⟩ => []) (fun (i_ : Nat × SlV × SlV) => match i_ with | ⟨g2, x3, x4⟩ => [RdL EStep x3 (((history_Insert ((history_Fold [(orangerylaw_op 1 0 1 2), (orangerylaw_op 3 0 2 1)]).1) (orangerylaw_op 2 1 1 0)).1).l), RdL EPlace x4 (((history_Insert ((history_Fold [(orangerylaw_op 1 0 1 2), (orangerylaw_op 3 0 2 1)]).1) (orangerylaw_op 2 1 1 0)).1).t)]) (fun _ => True) (.cons rfl (.cons rfl (.cons rfl (.nil _)))) (.keep (.nil)) ?_ ?_
  · skip
    refine cw_regionA (fun j => match j with | 7 => none | _ => some []) ?_
    refine ra_q (.ab (i := 0) (js := [1, 6]) [2, 3, 4, 5, 7, 8] rfl Kr Kr Kr Kr Kr) (SplitB.all _) (by simp) rfl rfl rfl (q_ldA rfl rfl (fun _ => rfl) rfl Mm rfl) ?_
    refine ra_two 1 6 Kr ?_ ?_
    · skip
      refine rw_call (orangerylaw_op_spec 2 1 1 0) (.an rfl rfl) (guard_none rfl) rfl rfl rfl Kr rfl rfl Sm ?_
      intro _
      refine ra_two 2 6 Kr ?_ ?_
      · skip
        refine rw_call (history_Insert_spec x2.1 x2.2 ((history_Fold [(orangerylaw_op 1 0 1 2), (orangerylaw_op 3 0 2 1)]).1) (orangerylaw_op 2 1 1 0)) (.an rfl rfl) (guard_none rfl) rfl rfl rfl Kr rfl rfl Sm ?_
        intro x5
        refine rw_pure (φ := (((history_Insert ((history_Fold [(orangerylaw_op 1 0 1 2), (orangerylaw_op 3 0 2 1)]).1) (orangerylaw_op 2 1 1 0)).1).l).length * 88 ≤ 140737488355328) [RdL EStep x5.1 (((history_Insert ((history_Fold [(orangerylaw_op 1 0 1 2), (orangerylaw_op 3 0 2 1)]).1) (orangerylaw_op 2 1 1 0)).1).l)] Sm (fun M w h => (allF1 h).len) fun hlen3 => ?_
        refine rw_pure (φ := (((history_Insert ((history_Fold [(orangerylaw_op 1 0 1 2), (orangerylaw_op 3 0 2 1)]).1) (orangerylaw_op 2 1 1 0)).1).t).length * 24 ≤ 140737488355328) [RdL EPlace x5.2 (((history_Insert ((history_Fold [(orangerylaw_op 1 0 1 2), (orangerylaw_op 3 0 2 1)]).1) (orangerylaw_op 2 1 1 0)).1).t)] Sm (fun M w h => (allF1 h).len) fun hlen4 => ?_
        refine ra_q (.an (i := 3) (js := [6]) rfl Kr Kr Kr Kr) (SplitB.all _) (by simp) rfl rfl rfl (q_pev rfl (fun _ => rfl)) ?_
        refine ra_q (.an (i := 4) (js := [5, 6]) rfl Kr Kr Kr Kr) (SplitB.all _) (by simp) rfl rfl rfl (q_pev rfl (fun _ => rfl)) ?_
        refine ra_p (.an (i := 5) (js := [6, 7]) rfl Kr Kr Kr Kr) rfl rfl rfl (q_pev rfl (fun _ => rfl)) ?_
        refine ra_one 6 Kr ?_
        refine rw_alloc (.an rfl rfl) (guard_none rfl) rfl rfl rfl rfl fun g3 => ?_
        refine ra_one 7 Kr ?_
        refine rw_stA (.lo [g3] rfl rfl) (.inr (by simp)) (guard_none rfl) rfl rfl rfl rfl rfl rfl rfl rfl rfl Ub rfl ?_
        refine ra_q (.an (i := 8) (js := []) rfl Kr Kr Kr Kr) (SplitB.all _) (by simp) rfl rfl rfl (q_pev rfl (fun _ => rfl)) ?_
        refine ra_nil Kr ?_
        refine ⟨⟨g3, x5.1, x5.2⟩, trivial, Le4⟩
      · skip
        refine rw_alloc (.an rfl rfl) (guard_none rfl) rfl rfl rfl rfl fun g4 => ?_
        refine ra_one 2 Kr ?_
        refine rw_call (history_Insert_spec x2.1 x2.2 ((history_Fold [(orangerylaw_op 1 0 1 2), (orangerylaw_op 3 0 2 1)]).1) (orangerylaw_op 2 1 1 0)) (.an rfl rfl) (guard_none rfl) rfl rfl rfl Kr rfl rfl Sm ?_
        intro x6
        refine rw_pure (φ := (((history_Insert ((history_Fold [(orangerylaw_op 1 0 1 2), (orangerylaw_op 3 0 2 1)]).1) (orangerylaw_op 2 1 1 0)).1).l).length * 88 ≤ 140737488355328) [RdL EStep x6.1 (((history_Insert ((history_Fold [(orangerylaw_op 1 0 1 2), (orangerylaw_op 3 0 2 1)]).1) (orangerylaw_op 2 1 1 0)).1).l)] Sm (fun M w h => (allF1 h).len) fun hlen5 => ?_
        refine rw_pure (φ := (((history_Insert ((history_Fold [(orangerylaw_op 1 0 1 2), (orangerylaw_op 3 0 2 1)]).1) (orangerylaw_op 2 1 1 0)).1).t).length * 24 ≤ 140737488355328) [RdL EPlace x6.2 (((history_Insert ((history_Fold [(orangerylaw_op 1 0 1 2), (orangerylaw_op 3 0 2 1)]).1) (orangerylaw_op 2 1 1 0)).1).t)] Sm (fun M w h => (allF1 h).len) fun hlen6 => ?_
        refine ra_q (.an (i := 3) (js := []) rfl Kr Kr Kr Kr) (SplitB.all _) (by simp) rfl rfl rfl (q_pev rfl (fun _ => rfl)) ?_
        refine ra_q (.an (i := 4) (js := [5]) rfl Kr Kr Kr Kr) (SplitB.all _) (by simp) rfl rfl rfl (q_pev rfl (fun _ => rfl)) ?_
        refine ra_p (.an (i := 5) (js := [7]) rfl Kr Kr Kr Kr) rfl rfl rfl (q_pev rfl (fun _ => rfl)) ?_
        refine ra_one 7 Kr ?_
        refine rw_stA (.lo [g4] rfl rfl) (.inr (by simp)) (guard_none rfl) rfl rfl rfl rfl rfl rfl rfl rfl rfl Ub rfl ?_
        refine ra_q (.an (i := 8) (js := []) rfl Kr Kr Kr Kr) (SplitB.all _) (by simp) rfl rfl rfl (q_pev rfl (fun _ => rfl)) ?_
        refine ra_nil Kr ?_
        refine ⟨⟨g4, x6.1, x6.2⟩, trivial, Le4⟩
    · skip
      refine rw_alloc (.an rfl rfl) (guard_none rfl) rfl rfl rfl rfl fun g5 => ?_
      refine ra_one 1 Kr ?_
      refine rw_call (orangerylaw_op_spec 2 1 1 0) (.an rfl rfl) (guard_none rfl) rfl rfl rfl Kr rfl rfl Sm ?_
      intro _
      refine ra_one 2 Kr ?_
      refine rw_call (history_Insert_spec x2.1 x2.2 ((history_Fold [(orangerylaw_op 1 0 1 2), (orangerylaw_op 3 0 2 1)]).1) (orangerylaw_op 2 1 1 0)) (.an rfl rfl) (guard_none rfl) rfl rfl rfl Kr rfl rfl Sm ?_
      intro x7
      refine rw_pure (φ := (((history_Insert ((history_Fold [(orangerylaw_op 1 0 1 2), (orangerylaw_op 3 0 2 1)]).1) (orangerylaw_op 2 1 1 0)).1).l).length * 88 ≤ 140737488355328) [RdL EStep x7.1 (((history_Insert ((history_Fold [(orangerylaw_op 1 0 1 2), (orangerylaw_op 3 0 2 1)]).1) (orangerylaw_op 2 1 1 0)).1).l)] Sm (fun M w h => (allF1 h).len) fun hlen7 => ?_
      refine rw_pure (φ := (((history_Insert ((history_Fold [(orangerylaw_op 1 0 1 2), (orangerylaw_op 3 0 2 1)]).1) (orangerylaw_op 2 1 1 0)).1).t).length * 24 ≤ 140737488355328) [RdL EPlace x7.2 (((history_Insert ((history_Fold [(orangerylaw_op 1 0 1 2), (orangerylaw_op 3 0 2 1)]).1) (orangerylaw_op 2 1 1 0)).1).t)] Sm (fun M w h => (allF1 h).len) fun hlen8 => ?_
      refine ra_q (.an (i := 3) (js := []) rfl Kr Kr Kr Kr) (SplitB.all _) (by simp) rfl rfl rfl (q_pev rfl (fun _ => rfl)) ?_
      refine ra_q (.an (i := 4) (js := [5]) rfl Kr Kr Kr Kr) (SplitB.all _) (by simp) rfl rfl rfl (q_pev rfl (fun _ => rfl)) ?_
      refine ra_p (.an (i := 5) (js := [7]) rfl Kr Kr Kr Kr) rfl rfl rfl (q_pev rfl (fun _ => rfl)) ?_
      refine ra_one 7 Kr ?_
      refine rw_stA (.lo [g5] rfl rfl) (.inr (by simp)) (guard_none rfl) rfl rfl rfl rfl rfl rfl rfl rfl rfl Ub rfl ?_
      refine ra_q (.an (i := 8) (js := []) rfl Kr Kr Kr Kr) (SplitB.all _) (by simp) rfl rfl rfl (q_pev rfl (fun _ => rfl)) ?_
      refine ra_nil Kr ?_
      refine ⟨⟨g5, x7.1, x7.2⟩, trivial, Le4⟩
  · skip
    rintro ⟨g2, x3, x4⟩ -
    simp only [List.cons_append, List.nil_append]
    (repeat refine cw_seq ?_); refine cw_region ?_
    refine rw_call (orangerylaw_op_spec 3 0 2 1) .sq (guard_none rfl) rfl rfl rfl Kr rfl rfl Sm ?_
    intro _
    refine rw_call (orangerylaw_op_spec 2 1 1 0) .sq (guard_none rfl) rfl rfl rfl Kr rfl rfl Sm ?_
    intro _
    refine rw_call (orangerylaw_op_spec 1 0 1 2) .sq (guard_none rfl) rfl rfl rfl Kr rfl rfl Sm ?_
    intro _
    refine rw_bsliceL EOp [(orangerylaw_op 3 0 2 1), (orangerylaw_op 2 1 1 0), (orangerylaw_op 1 0 1 2)] .sq (guard_none rfl) rfl rfl rfl rfl rfl rfl rfl rfl rfl rfl rfl rfl rfl rfl rfl fun x8 x8b => ?_
    refine rw_le (le_freezeL EOp 33 x8 x8b [(orangerylaw_op 3 0 2 1), (orangerylaw_op 2 1 1 0), (orangerylaw_op 1 0 1 2)] Uo) ?_
    refine rw_call (history_Fold_spec x8 [(orangerylaw_op 3 0 2 1), (orangerylaw_op 2 1 1 0), (orangerylaw_op 1 0 1 2)]) .sq (guard_none rfl) rfl rfl rfl Kr rfl rfl Sm ?_
    intro x9
    refine rw_pure (φ := (((history_Fold [(orangerylaw_op 3 0 2 1), (orangerylaw_op 2 1 1 0), (orangerylaw_op 1 0 1 2)]).1).l).length * 88 ≤ 140737488355328) [RdL EStep x9.1 (((history_Fold [(orangerylaw_op 3 0 2 1), (orangerylaw_op 2 1 1 0), (orangerylaw_op 1 0 1 2)]).1).l)] Sm (fun M w h => (allF1 h).len) fun hlen9 => ?_
    refine rw_pure (φ := (((history_Fold [(orangerylaw_op 3 0 2 1), (orangerylaw_op 2 1 1 0), (orangerylaw_op 1 0 1 2)]).1).t).length * 24 ≤ 140737488355328) [RdL EPlace x9.2 (((history_Fold [(orangerylaw_op 3 0 2 1), (orangerylaw_op 2 1 1 0), (orangerylaw_op 1 0 1 2)]).1).t)] Sm (fun M w h => (allF1 h).len) fun hlen10 => ?_
    refine Rp rfl rfl rfl rfl ?_
    refine Rp rfl rfl rfl rfl ?_
    refine Rp rfl rfl rfl rfl ?_
    refine rw_alloc .sq (guard_none rfl) rfl rfl rfl rfl fun g6 => ?_
    refine rw_stA .sq (.inl ⟨_, rfl⟩) (guard_none rfl) rfl rfl rfl rfl rfl rfl rfl rfl rfl Ub rfl ?_
    refine Rp rfl rfl rfl rfl ?_
    refine rw_nil ?_
    (repeat refine cw_seq ?_)
    refine cw_join [0, 1, 2, 3, 4, 5, 6] [true, true, true] (fun (_ : Unit) => [(8, .v (.int .i64 ((history_Insert ((history_Fold [(orangerylaw_op 1 0 1 2), (orangerylaw_op 3 0 2 1)]).1) (orangerylaw_op 3 0 5 0)).2)))]) (fun (_ : Unit) => []) (fun (_ : Unit) => []) (fun (_ : Unit) => []) (fun _ => True) (.cons rfl (.cons rfl (.cons rfl (.cons rfl (.cons rfl (.cons rfl (.cons rfl (.nil _)))))))) (.keep (.keep (.keep (.nil)))) ?_ ?_
    · skip
      refine cw_regionA (fun j => match j with | 7 => none | _ => some []) ?_
      refine ra_q (.ab (i := 0) (js := [1, 6]) [2, 3, 4, 5, 7, 8] rfl Kr Kr Kr Kr Kr) (SplitB.all _) (by simp) rfl rfl rfl (q_ldA rfl rfl (fun _ => rfl) rfl Mm rfl) ?_
      refine ra_two 1 6 Kr ?_ ?_
      · skip
        refine rw_call (orangerylaw_op_spec 3 0 5 0) (.an rfl rfl) (guard_none rfl) rfl rfl rfl Kr rfl rfl Sm ?_
        intro _
        refine ra_two 2 6 Kr ?_ ?_
        · skip
          refine rw_call (history_Insert_spec x2.1 x2.2 ((history_Fold [(orangerylaw_op 1 0 1 2), (orangerylaw_op 3 0 2 1)]).1) (orangerylaw_op 3 0 5 0)) (.an rfl rfl) (guard_none rfl) rfl rfl rfl Kr rfl rfl Sm ?_
          intro x10
          refine rw_pure (φ := (((history_Insert ((history_Fold [(orangerylaw_op 1 0 1 2), (orangerylaw_op 3 0 2 1)]).1) (orangerylaw_op 3 0 5 0)).1).l).length * 88 ≤ 140737488355328) [RdL EStep x10.1 (((history_Insert ((history_Fold [(orangerylaw_op 1 0 1 2), (orangerylaw_op 3 0 2 1)]).1) (orangerylaw_op 3 0 5 0)).1).l)] Sm (fun M w h => (allF1 h).len) fun hlen11 => ?_
          refine rw_pure (φ := (((history_Insert ((history_Fold [(orangerylaw_op 1 0 1 2), (orangerylaw_op 3 0 2 1)]).1) (orangerylaw_op 3 0 5 0)).1).t).length * 24 ≤ 140737488355328) [RdL EPlace x10.2 (((history_Insert ((history_Fold [(orangerylaw_op 1 0 1 2), (orangerylaw_op 3 0 2 1)]).1) (orangerylaw_op 3 0 5 0)).1).t)] Sm (fun M w h => (allF1 h).len) fun hlen12 => ?_
          refine ra_q (.an (i := 3) (js := [6]) rfl Kr Kr Kr Kr) (SplitB.all _) (by simp) rfl rfl rfl (q_pev rfl (fun _ => rfl)) ?_
          refine ra_q (.an (i := 4) (js := [5, 6]) rfl Kr Kr Kr Kr) (SplitB.all _) (by simp) rfl rfl rfl (q_pev rfl (fun _ => rfl)) ?_
          refine ra_p (.an (i := 5) (js := [6, 7]) rfl Kr Kr Kr Kr) rfl rfl rfl (q_pev rfl (fun _ => rfl)) ?_
          refine ra_one 6 Kr ?_
          refine rw_alloc (.an rfl rfl) (guard_none rfl) rfl rfl rfl rfl fun g7 => ?_
          refine ra_one 7 Kr ?_
          refine rw_stA (.lo [g7] rfl rfl) (.inr (by simp)) (guard_none rfl) rfl rfl rfl rfl rfl rfl rfl rfl rfl Ub rfl ?_
          refine ra_q (.an (i := 8) (js := []) rfl Kr Kr Kr Kr) (SplitB.all _) (by simp) rfl rfl rfl (q_pev rfl (fun _ => rfl)) ?_
          refine ra_nil Kr ?_
          refine ⟨⟨⟩, trivial, Le4⟩
        · skip
          refine rw_alloc (.an rfl rfl) (guard_none rfl) rfl rfl rfl rfl fun g8 => ?_
          refine ra_one 2 Kr ?_
          refine rw_call (history_Insert_spec x2.1 x2.2 ((history_Fold [(orangerylaw_op 1 0 1 2), (orangerylaw_op 3 0 2 1)]).1) (orangerylaw_op 3 0 5 0)) (.an rfl rfl) (guard_none rfl) rfl rfl rfl Kr rfl rfl Sm ?_
          intro x11
          refine rw_pure (φ := (((history_Insert ((history_Fold [(orangerylaw_op 1 0 1 2), (orangerylaw_op 3 0 2 1)]).1) (orangerylaw_op 3 0 5 0)).1).l).length * 88 ≤ 140737488355328) [RdL EStep x11.1 (((history_Insert ((history_Fold [(orangerylaw_op 1 0 1 2), (orangerylaw_op 3 0 2 1)]).1) (orangerylaw_op 3 0 5 0)).1).l)] Sm (fun M w h => (allF1 h).len) fun hlen13 => ?_
          refine rw_pure (φ := (((history_Insert ((history_Fold [(orangerylaw_op 1 0 1 2), (orangerylaw_op 3 0 2 1)]).1) (orangerylaw_op 3 0 5 0)).1).t).length * 24 ≤ 140737488355328) [RdL EPlace x11.2 (((history_Insert ((history_Fold [(orangerylaw_op 1 0 1 2), (orangerylaw_op 3 0 2 1)]).1) (orangerylaw_op 3 0 5 0)).1).t)] Sm (fun M w h => (allF1 h).len) fun hlen14 => ?_
          refine ra_q (.an (i := 3) (js := []) rfl Kr Kr Kr Kr) (SplitB.all _) (by simp) rfl rfl rfl (q_pev rfl (fun _ => rfl)) ?_
          refine ra_q (.an (i := 4) (js := [5]) rfl Kr Kr Kr Kr) (SplitB.all _) (by simp) rfl rfl rfl (q_pev rfl (fun _ => rfl)) ?_
          refine ra_p (.an (i := 5) (js := [7]) rfl Kr Kr Kr Kr) rfl rfl rfl (q_pev rfl (fun _ => rfl)) ?_
          refine ra_one 7 Kr ?_
          refine rw_stA (.lo [g8] rfl rfl) (.inr (by simp)) (guard_none rfl) rfl rfl rfl rfl rfl rfl rfl rfl rfl Ub rfl ?_
          refine ra_q (.an (i := 8) (js := []) rfl Kr Kr Kr Kr) (SplitB.all _) (by simp) rfl rfl rfl (q_pev rfl (fun _ => rfl)) ?_
          refine ra_nil Kr ?_
          refine ⟨⟨⟩, trivial, Le4⟩
      · skip
        refine rw_alloc (.an rfl rfl) (guard_none rfl) rfl rfl rfl rfl fun g9 => ?_
        refine ra_one 1 Kr ?_
        refine rw_call (orangerylaw_op_spec 3 0 5 0) (.an rfl rfl) (guard_none rfl) rfl rfl rfl Kr rfl rfl Sm ?_
        intro _
        refine ra_one 2 Kr ?_
        refine rw_call (history_Insert_spec x2.1 x2.2 ((history_Fold [(orangerylaw_op 1 0 1 2), (orangerylaw_op 3 0 2 1)]).1) (orangerylaw_op 3 0 5 0)) (.an rfl rfl) (guard_none rfl) rfl rfl rfl Kr rfl rfl Sm ?_
        intro x12
        refine rw_pure (φ := (((history_Insert ((history_Fold [(orangerylaw_op 1 0 1 2), (orangerylaw_op 3 0 2 1)]).1) (orangerylaw_op 3 0 5 0)).1).l).length * 88 ≤ 140737488355328) [RdL EStep x12.1 (((history_Insert ((history_Fold [(orangerylaw_op 1 0 1 2), (orangerylaw_op 3 0 2 1)]).1) (orangerylaw_op 3 0 5 0)).1).l)] Sm (fun M w h => (allF1 h).len) fun hlen15 => ?_
        refine rw_pure (φ := (((history_Insert ((history_Fold [(orangerylaw_op 1 0 1 2), (orangerylaw_op 3 0 2 1)]).1) (orangerylaw_op 3 0 5 0)).1).t).length * 24 ≤ 140737488355328) [RdL EPlace x12.2 (((history_Insert ((history_Fold [(orangerylaw_op 1 0 1 2), (orangerylaw_op 3 0 2 1)]).1) (orangerylaw_op 3 0 5 0)).1).t)] Sm (fun M w h => (allF1 h).len) fun hlen16 => ?_
        refine ra_q (.an (i := 3) (js := []) rfl Kr Kr Kr Kr) (SplitB.all _) (by simp) rfl rfl rfl (q_pev rfl (fun _ => rfl)) ?_
        refine ra_q (.an (i := 4) (js := [5]) rfl Kr Kr Kr Kr) (SplitB.all _) (by simp) rfl rfl rfl (q_pev rfl (fun _ => rfl)) ?_
        refine ra_p (.an (i := 5) (js := [7]) rfl Kr Kr Kr Kr) rfl rfl rfl (q_pev rfl (fun _ => rfl)) ?_
        refine ra_one 7 Kr ?_
        refine rw_stA (.lo [g9] rfl rfl) (.inr (by simp)) (guard_none rfl) rfl rfl rfl rfl rfl rfl rfl rfl rfl Ub rfl ?_
        refine ra_q (.an (i := 8) (js := []) rfl Kr Kr Kr Kr) (SplitB.all _) (by simp) rfl rfl rfl (q_pev rfl (fun _ => rfl)) ?_
        refine ra_nil Kr ?_
        refine ⟨⟨⟩, trivial, Le4⟩
    · skip
      rintro _ -
      simp only [List.cons_append, List.nil_append]
      (repeat refine cw_seq ?_); refine cw_region ?_
      refine Rp rfl rfl rfl rfl ?_
      refine Rp rfl rfl rfl rfl ?_
      refine Rp rfl rfl rfl rfl ?_
      refine rw_qg (guard_vt rfl rfl rfl) rfl rfl (q_pev rfl Bt) ?_
      refine rw_qg (guard_vt rfl rfl rfl) rfl rfl (q_pev rfl Bt) ?_
      refine rw_q rfl rfl rfl (q_pev rfl Bt) ?_
      refine Rp rfl rfl rfl rfl ?_
      refine rw_qg (guard_vt rfl rfl rfl) rfl rfl (q_pev rfl Bt) ?_
      refine rw_qg (guard_vt rfl rfl rfl) rfl rfl (q_pev rfl Bt) ?_
      refine rw_q rfl rfl rfl (q_pev rfl Bt) ?_
      refine Rp rfl rfl rfl rfl ?_
      refine rw_qg (guard_vt rfl rfl rfl) rfl rfl (q_pev rfl Bt) ?_
      refine rw_qg (guard_vt rfl rfl rfl) rfl rfl (q_pev rfl Bt) ?_
      refine rw_q rfl rfl rfl (q_pev rfl Bt) ?_
      refine Rp rfl rfl rfl rfl ?_
      refine rw_qg (guard_vt rfl rfl rfl) rfl rfl (q_pev rfl Bt) ?_
      refine rw_qg (guard_vt rfl rfl rfl) rfl rfl (q_ld1 rfl rfl Bt rfl Mm rfl) ?_
      refine rw_qg (guard_vt rfl rfl rfl) rfl rfl (q_pev rfl Bt) ?_
      refine rw_qg (guard_vt rfl rfl rfl) rfl rfl (q_pev rfl Bt) ?_
      refine rw_q rfl rfl rfl (q_pev rfl Bt) ?_
      refine Rp rfl rfl rfl rfl ?_
      refine rw_qg (guard_vt rfl rfl rfl) rfl rfl (q_pev rfl Bt) ?_
      refine rw_qg (guard_vt rfl rfl rfl) rfl rfl (q_ld1 rfl rfl Bt rfl Mm rfl) ?_
      refine rw_qg (guard_vt rfl rfl rfl) rfl rfl (q_idx EStep 1 rfl rfl Bt rfl Bt rfl rfl rfl Mm rfl (by intro h; first | omega | rfl | (simp at h; omega)) (by first | (intro _; first | assumption | omega) | (intro h; simp at h; omega))) ?_
      refine rw_qg (guard_vt rfl rfl rfl) rfl rfl (q_fae rfl rfl Bt rfl rfl) ?_
      refine rw_qg (guard_vt rfl rfl rfl) rfl rfl (q_le1 EStep rfl rfl Bt rfl rfl Mm (by first | (intro _; first | assumption | omega) | (intro h; simp at h; omega)) rfl) ?_
      refine rw_qg (guard_vt rfl rfl rfl) rfl rfl (q_pev rfl Bt) ?_
      refine rw_q rfl rfl rfl (q_pev rfl Bt) ?_
      refine Rp rfl rfl rfl rfl ?_
      refine rw_qg (guard_vt rfl rfl rfl) rfl rfl (q_pev rfl Bt) ?_
      refine rw_qg (guard_vt rfl rfl rfl) rfl rfl (q_pev rfl Bt) ?_
      refine rw_qg (guard_vt rfl rfl rfl) rfl rfl (q_ld1 rfl rfl Bt rfl Mm rfl) ?_
      refine rw_qg (guard_vt rfl rfl rfl) rfl rfl (q_pev rfl Bt) ?_
      refine rw_qg (guard_vt rfl rfl rfl) rfl rfl (q_pev rfl Bt) ?_
      refine rw_q rfl rfl rfl (q_pev rfl Bt) ?_
      refine Rp rfl rfl rfl rfl ?_
      refine rw_qg (guard_vt rfl rfl rfl) rfl rfl (q_pev rfl Bt) ?_
      refine rw_qg (guard_vt rfl rfl rfl) rfl rfl (q_ld1 rfl rfl Bt rfl Mm rfl) ?_
      refine rw_qg (guard_vt rfl rfl rfl) rfl rfl (q_pev rfl Bt) ?_
      refine rw_qg (guard_vt rfl rfl rfl) rfl rfl (q_pev rfl Bt) ?_
      refine rw_q rfl rfl rfl (q_pev rfl Bt) ?_
      refine Rp rfl rfl rfl rfl ?_
      refine rw_qg (guard_vt rfl rfl rfl) rfl rfl (q_pev rfl Bt) ?_
      refine rw_qg (guard_vt rfl rfl rfl) rfl rfl (q_ld1 rfl rfl Bt rfl Mm rfl) ?_
      refine rw_qg (guard_vt rfl rfl rfl) rfl rfl (q_idx EStep 2 rfl rfl Bt rfl Bt rfl rfl rfl Mm rfl (by intro h; first | omega | rfl | (simp at h; omega)) (by first | (intro _; first | assumption | omega) | (intro h; simp at h; omega))) ?_
      refine rw_qg (guard_vt rfl rfl rfl) rfl rfl (q_fae rfl rfl Bt rfl rfl) ?_
      refine rw_qg (guard_vt rfl rfl rfl) rfl rfl (q_le1 EStep rfl rfl Bt rfl rfl Mm (by first | (intro _; first | assumption | omega) | (intro h; simp at h; omega)) rfl) ?_
      refine rw_q rfl rfl rfl (q_pev rfl Bt) ?_
      refine Rp rfl rfl rfl rfl ?_
      refine rw_qg (guard_vt rfl rfl rfl) rfl rfl (q_pev rfl Bt) ?_
      refine rw_qg (guard_vt rfl rfl rfl) rfl rfl (q_pev rfl Bt) ?_
      refine rw_qg (guard_vt rfl rfl rfl) rfl rfl (q_ld1 rfl rfl Bt rfl Mm rfl) ?_
      refine rw_qg (guard_vt rfl rfl rfl) rfl rfl (q_pev rfl Bt) ?_
      refine rw_qg (guard_vt rfl rfl rfl) rfl rfl (q_pev rfl Bt) ?_
      refine rw_q rfl rfl rfl (q_pev rfl Bt) ?_
      refine Rp rfl rfl rfl rfl ?_
      refine rw_qg (guard_vt rfl rfl rfl) rfl rfl (q_ldA rfl rfl Bt rfl Mm rfl) ?_
      refine rw_qg (guard_vt rfl rfl rfl) rfl rfl (q_ldA rfl rfl Bt rfl Mm rfl) ?_
      refine rw_callg (fun hG_ => history_Same_spec x3 x4 ((history_Insert ((history_Fold [(orangerylaw_op 1 0 1 2), (orangerylaw_op 3 0 2 1)]).1) (orangerylaw_op 2 1 1 0)).1) x9.1 x9.2 ((history_Fold [(orangerylaw_op 3 0 2 1), (orangerylaw_op 2 1 1 0), (orangerylaw_op 1 0 1 2)]).1)) (fun _ => rfl) .sq (guard_vt rfl rfl rfl) rfl rfl rfl Kr rfl Bt Sm ?_
      refine rw_q rfl rfl rfl (q_pev rfl Bt) ?_
      refine Rp rfl rfl rfl rfl ?_
      refine rw_qg (guard_vt rfl rfl rfl) rfl rfl (q_ldA rfl rfl Bt rfl Mm rfl) ?_
      refine rw_callg (fun hG_ => history_Check_spec x3 x4 ((history_Insert ((history_Fold [(orangerylaw_op 1 0 1 2), (orangerylaw_op 3 0 2 1)]).1) (orangerylaw_op 2 1 1 0)).1)) (fun _ => rfl) .sq (guard_vt rfl rfl rfl) rfl rfl rfl Kr rfl Bt Sm ?_
      refine rw_qg (guard_vt rfl rfl rfl) rfl rfl (q_pev rfl Bt) ?_
      refine rw_q rfl rfl rfl (q_pev rfl Bt) ?_
      refine Rp rfl rfl rfl rfl ?_
      refine rw_nil ?_
      (repeat refine cw_seq ?_)
      have hr1 : (orangerylaw_folded) = ((((((((((((((history_Fold [(orangerylaw_op 1 0 1 2), (orangerylaw_op 3 0 2 1)]).2) == 0) && (((history_Insert ((history_Fold [(orangerylaw_op 1 0 1 2), (orangerylaw_op 3 0 2 1)]).1) (orangerylaw_op 2 1 1 0)).2) == 0)) && (((history_Fold [(orangerylaw_op 3 0 2 1), (orangerylaw_op 2 1 1 0), (orangerylaw_op 1 0 1 2)]).2) == 0)) && (((history_Insert ((history_Fold [(orangerylaw_op 1 0 1 2), (orangerylaw_op 3 0 2 1)]).1) (orangerylaw_op 3 0 5 0)).2) == 6)) && (((((history_Fold [(orangerylaw_op 1 0 1 2), (orangerylaw_op 3 0 2 1)]).1).l).length : Int) == 2)) && (!((gt (((history_Fold [(orangerylaw_op 1 0 1 2), (orangerylaw_op 3 0 2 1)]).1).l) 1).did))) && (((((history_Fold [(orangerylaw_op 1 0 1 2), (orangerylaw_op 3 0 2 1)]).1).t).length : Int) == 1)) && (((((history_Insert ((history_Fold [(orangerylaw_op 1 0 1 2), (orangerylaw_op 3 0 2 1)]).1) (orangerylaw_op 2 1 1 0)).1).l).length : Int) == 3)) && (gt (((history_Insert ((history_Fold [(orangerylaw_op 1 0 1 2), (orangerylaw_op 3 0 2 1)]).1) (orangerylaw_op 2 1 1 0)).1).l) 2).did) && (((((history_Insert ((history_Fold [(orangerylaw_op 1 0 1 2), (orangerylaw_op 3 0 2 1)]).1) (orangerylaw_op 2 1 1 0)).1).t).length : Int) == 2)) && (history_Same ((history_Insert ((history_Fold [(orangerylaw_op 1 0 1 2), (orangerylaw_op 3 0 2 1)]).1) (orangerylaw_op 2 1 1 0)).1) ((history_Fold [(orangerylaw_op 3 0 2 1), (orangerylaw_op 2 1 1 0), (orangerylaw_op 1 0 1 2)]).1))) && ((history_Check ((history_Insert ((history_Fold [(orangerylaw_op 1 0 1 2), (orangerylaw_op 3 0 2 1)]).1) (orangerylaw_op 2 1 1 0)).1)) == 0)) := by simp only [orangerylaw_folded, cond_true, cond_false]
      refine cw_ret ?_
      rw [hr1]
      exact ⟨(), _, (.cons (.tmp rfl) .nil), rfl, Sm, .nil _, .nil _⟩
end Go.Proofs.Ytchdacbjiomplaa
