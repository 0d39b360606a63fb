/- Part of this claim. No condition. -/
import Derived.Test.YtchdacbjiomplaaW29
set_option linter.unusedVariables false
set_option linter.unusedSimpArgs false
namespace Go.Proofs.Ytchdacbjiomplaa
open Go Go.Proofs.Ytchdacbjiomplaa.Fw Go.Proofs
def orangerylaw_HistorySays (l1 : List Op) (h1 : History) (o1 : Op) (g1 : History) : Bool :=
  ((((((orangerylaw_folded && ((history_Check h1) == (orangeryref_CheckHistory h1))) && ((history_Same h1 g1) == (orangeryref_SameHistory h1 g1))) && (((history_Fold l1).2) == ((orangeryref_Folded l1).2))) && (orangeryref_SameHistory ((history_Fold l1).1) ((orangeryref_Folded l1).1))) && (((history_Insert h1 o1).2) == ((orangeryref_Inserted h1 o1).2))) && (orangeryref_SameHistory ((history_Insert h1 o1).1) ((orangeryref_Inserted h1 o1).1)))
theorem orangerylaw_HistorySays_spec (y1 : SlV) (l1 : List Op) (y2 : SlV) (y3 : SlV) (h1 : History) (o1 : Op) (y4 : SlV) (y5 : SlV) (g1 : History) : Does Try.prog 15 [y1.val l1.length, .agg ⟨[y2.val h1.l.length, y3.val h1.t.length]⟩, .agg ⟨[.int .i64 o1.time, .int .i64 o1.who, .int .i64 o1.node, .int .i64 o1.parent, .int .i64 o1.name, .int .i64 o1.life, .int .i64 o1.seq]⟩, .agg ⟨[y4.val g1.l.length, y5.val g1.t.length]⟩] [RdL EOp y1 l1, RdL EStep y2 h1.l, RdL EPlace y3 h1.t, RdL EStep y4 g1.l, RdL EPlace y5 g1.t] (fun (_ : Unit) => .bool (orangerylaw_HistorySays l1 h1 o1 g1)) (fun (_ : Unit) => []) := by
  refine does_of tab_ok Try.func15 rfl Try.ntmps15 Try.results15 rfl inferInstance (fun _ => inferInstance) fun C => ?_
  refine cw_pure (φ := l1.length * 56 ≤ 140737488355328) [RdL EOp y1 l1] Sm (fun M w h => (allF1 h).len) fun hlen1 => ?_
  refine cw_pure (φ := h1.l.length * 88 ≤ 140737488355328) [RdL EStep y2 h1.l] Sm (fun M w h => (allF1 h).len) fun hlen2 => ?_
  refine cw_pure (φ := h1.t.length * 24 ≤ 140737488355328) [RdL EPlace y3 h1.t] Sm (fun M w h => (allF1 h).len) fun hlen3 => ?_
  refine cw_pure (φ := g1.l.length * 88 ≤ 140737488355328) [RdL EStep y4 g1.l] Sm (fun M w h => (allF1 h).len) fun hlen4 => ?_
  refine cw_pure (φ := g1.t.length * 24 ≤ 140737488355328) [RdL EPlace y5 g1.t] Sm (fun M w h => (allF1 h).len) fun hlen5 => ?_
  (repeat refine cw_seq ?_); refine cw_region ?_
  refine rw_box_agg .sq (guard_none rfl) rfl rfl rfl rfl rfl fun g2 => ?_
  refine rw_box_agg .sq (guard_none rfl) rfl rfl rfl rfl rfl fun g3 => ?_
  refine rw_box_agg .sq (guard_none rfl) rfl rfl rfl rfl rfl fun g4 => ?_
  refine Rp rfl rfl rfl rfl ?_
  refine rw_nil ?_
  (repeat refine cw_seq ?_); refine cw_region ?_
  refine Rp rfl rfl rfl rfl ?_
  refine rw_call (history_Fold_spec y1 l1) .sq (guard_none rfl) rfl rfl rfl Kr rfl rfl Sm ?_
  intro x1
  refine rw_pure (φ := (((history_Fold l1).1).l).length * 88 ≤ 140737488355328) [RdL EStep x1.1 (((history_Fold l1).1).l)] Sm (fun M w h => (allF1 h).len) fun hlen6 => ?_
  refine rw_pure (φ := (((history_Fold l1).1).t).length * 24 ≤ 140737488355328) [RdL EPlace x1.2 (((history_Fold l1).1).t)] Sm (fun M w h => (allF1 h).len) fun hlen7 => ?_
  refine Rp rfl rfl rfl rfl ?_
  refine Rp rfl rfl rfl rfl ?_
  refine Rp rfl rfl rfl rfl ?_
  refine rw_alloc .sq (guard_none rfl) rfl rfl rfl rfl fun g5 => ?_
  refine rw_stA .sq (.inl ⟨_, rfl⟩) (guard_none rfl) rfl rfl rfl rfl rfl rfl rfl rfl rfl Ub rfl ?_
  refine Rp rfl rfl rfl rfl ?_
  refine rw_nil ?_
  (repeat refine cw_seq ?_); refine cw_region ?_
  refine rw_q rfl rfl rfl (q_ldA rfl rfl (fun _ => rfl) rfl Mm rfl) ?_
  refine rw_q rfl rfl rfl (q_ldA rfl rfl (fun _ => rfl) rfl Mm rfl) ?_
  refine rw_call (history_Insert_spec y2 y3 h1 o1) .sq (guard_none rfl) rfl rfl rfl Kr rfl rfl Sm ?_
  intro x2
  refine rw_pure (φ := (((history_Insert h1 o1).1).l).length * 88 ≤ 140737488355328) [RdL EStep x2.1 (((history_Insert h1 o1).1).l)] Sm (fun M w h => (allF1 h).len) fun hlen8 => ?_
  refine rw_pure (φ := (((history_Insert h1 o1).1).t).length * 24 ≤ 140737488355328) [RdL EPlace x2.2 (((history_Insert h1 o1).1).t)] Sm (fun M w h => (allF1 h).len) fun hlen9 => ?_
  refine Rp rfl rfl rfl rfl ?_
  refine Rp rfl rfl rfl rfl ?_
  refine Rp rfl rfl rfl rfl ?_
  refine rw_alloc .sq (guard_none rfl) rfl rfl rfl rfl fun g6 => ?_
  refine rw_stA .sq (.inl ⟨_, rfl⟩) (guard_none rfl) rfl rfl rfl rfl rfl rfl rfl rfl rfl Ub rfl ?_
  refine Rp rfl rfl rfl rfl ?_
  refine rw_nil ?_
  (repeat refine cw_seq ?_); refine cw_region ?_
  refine Rp rfl rfl rfl rfl ?_
  refine rw_call (orangeryref_Folded_spec y1 l1) .sq (guard_none rfl) rfl rfl rfl Kr rfl rfl Sm ?_
  intro x3
  refine rw_pure (φ := (((orangeryref_Folded l1).1).l).length * 88 ≤ 140737488355328) [RdL EStep x3.1 (((orangeryref_Folded l1).1).l)] Sm (fun M w h => (allF1 h).len) fun hlen10 => ?_
  refine rw_pure (φ := (((orangeryref_Folded l1).1).t).length * 24 ≤ 140737488355328) [RdL EPlace x3.2 (((orangeryref_Folded l1).1).t)] Sm (fun M w h => (allF1 h).len) fun hlen11 => ?_
  refine Rp rfl rfl rfl rfl ?_
  refine Rp rfl rfl rfl rfl ?_
  refine Rp rfl rfl rfl rfl ?_
  refine rw_alloc .sq (guard_none rfl) rfl rfl rfl rfl fun g7 => ?_
  refine rw_stA .sq (.inl ⟨_, rfl⟩) (guard_none rfl) rfl rfl rfl rfl rfl rfl rfl rfl rfl Ub rfl ?_
  refine Rp rfl rfl rfl rfl ?_
  refine rw_nil ?_
  (repeat refine cw_seq ?_); refine cw_region ?_
  refine rw_q rfl rfl rfl (q_ldA rfl rfl (fun _ => rfl) rfl Mm rfl) ?_
  refine rw_q rfl rfl rfl (q_ldA rfl rfl (fun _ => rfl) rfl Mm rfl) ?_
  refine rw_call (orangeryref_Inserted_spec y2 y3 h1 o1) .sq (guard_none rfl) rfl rfl rfl Kr rfl rfl Sm ?_
  intro x4
  refine rw_pure (φ := (((orangeryref_Inserted h1 o1).1).l).length * 88 ≤ 140737488355328) [RdL EStep x4.1 (((orangeryref_Inserted h1 o1).1).l)] Sm (fun M w h => (allF1 h).len) fun hlen12 => ?_
  refine rw_pure (φ := (((orangeryref_Inserted h1 o1).1).t).length * 24 ≤ 140737488355328) [RdL EPlace x4.2 (((orangeryref_Inserted h1 o1).1).t)] Sm (fun M w h => (allF1 h).len) fun hlen13 => ?_
  refine Rp rfl rfl rfl rfl ?_
  refine Rp rfl rfl rfl rfl ?_
  refine Rp rfl rfl rfl rfl ?_
  refine rw_alloc .sq (guard_none rfl) rfl rfl rfl rfl fun g8 => ?_
  refine rw_stA .sq (.inl ⟨_, rfl⟩) (guard_none rfl) rfl rfl rfl rfl rfl rfl rfl rfl rfl Ub rfl ?_
  refine Rp rfl rfl rfl rfl ?_
  refine rw_nil ?_
  (repeat refine cw_seq ?_); refine cw_regionA (fun _ => some []) ?_
  refine ra_one 0 Kr ?_
  refine rw_call (orangerylaw_folded_spec ) (.an rfl rfl) (guard_none rfl) rfl rfl rfl Kr rfl rfl Sm ?_
  intro _
  refine ra_q (.ab (i := 1) (js := []) [2, 3, 4, 5, 6, 7, 8, 9, 10, 11, 12, 13, 14, 15, 16, 17, 18, 19, 20, 21, 22, 23, 24, 25, 26, 27, 28, 29, 30, 31, 32, 33, 34, 35, 36, 37] rfl Kr Kr Kr Kr Kr) (SplitB.all _) (by simp) rfl rfl rfl (q_pev rfl (fun _ => rfl)) ?_
  refine ra_qg (.ab (i := 2) (js := [4]) [3, 5, 6, 7, 8, 9, 10, 11, 12, 13, 14, 15, 16, 17, 18, 19, 20, 21, 22, 23, 24, 25, 26, 27, 28, 29, 30, 31, 32, 33, 34, 35, 36, 37] rfl Kr Kr Kr Kr Kr) (SplitB.all _) (by simp) (guard_vt rfl rfl rfl) rfl rfl (q_ldA rfl rfl Bt rfl Mm rfl) ?_
  refine ra_qg (.ab (i := 4) (js := [3]) [5, 6, 7, 8, 9, 10, 11, 12, 13, 14, 15, 16, 17, 18, 19, 20, 21, 22, 23, 24, 25, 26, 27, 28, 29, 30, 31, 32, 33, 34, 35, 36, 37] rfl Kr Kr Kr Kr Kr) (SplitB.all _) (by simp) (guard_vt rfl rfl rfl) rfl rfl (q_ldA rfl rfl Bt rfl Mm rfl) ?_
  refine ra_one 3 Kr ?_
  refine rw_callg (fun hG_ => history_Check_spec y2 y3 h1) (fun _ => rfl) (.an rfl rfl) (guard_vt rfl rfl rfl) rfl rfl rfl Kr rfl Bt Sm ?_
  refine ra_one 5 Kr ?_
  refine rw_callg (fun hG_ => orangeryref_CheckHistory_spec y2 y3 h1) (fun _ => rfl) (.an rfl rfl) (guard_vt rfl rfl rfl) rfl rfl rfl Kr rfl Bt Sm ?_
  refine ra_qg (.ab (i := 6) (js := []) [7, 8, 9, 10, 11, 12, 13, 14, 15, 16, 17, 18, 19, 20, 21, 22, 23, 24, 25, 26, 27, 28, 29, 30, 31, 32, 33, 34, 35, 36, 37] rfl Kr Kr Kr Kr Kr) (SplitB.all _) (by simp) (guard_vt rfl rfl rfl) rfl rfl (q_pev rfl Bt) ?_
  refine ra_q (.ab (i := 7) (js := []) [8, 9, 10, 11, 12, 13, 14, 15, 16, 17, 18, 19, 20, 21, 22, 23, 24, 25, 26, 27, 28, 29, 30, 31, 32, 33, 34, 35, 36, 37] rfl Kr Kr Kr Kr Kr) (SplitB.all _) (by simp) rfl rfl rfl (q_pev rfl Bt) ?_
  refine ra_q (.ab (i := 8) (js := []) [9, 10, 11, 12, 13, 14, 15, 16, 17, 18, 19, 20, 21, 22, 23, 24, 25, 26, 27, 28, 29, 30, 31, 32, 33, 34, 35, 36, 37] rfl Kr Kr Kr Kr Kr) (SplitB.all _) (by simp) rfl rfl rfl (q_pev rfl (fun _ => rfl)) ?_
  refine ra_qg (.ab (i := 9) (js := [10, 12, 13]) [11, 14, 15, 16, 17, 18, 19, 20, 21, 22, 23, 24, 25, 26, 27, 28, 29, 30, 31, 32, 33, 34, 35, 36, 37] rfl Kr Kr Kr Kr Kr) (SplitB.all _) (by simp) (guard_vt rfl rfl rfl) rfl rfl (q_ldA rfl rfl Bt rfl Mm rfl) ?_
  refine ra_qg (.ab (i := 10) (js := [12, 13]) [11, 14, 15, 16, 17, 18, 19, 20, 21, 22, 23, 24, 25, 26, 27, 28, 29, 30, 31, 32, 33, 34, 35, 36, 37] rfl Kr Kr Kr Kr Kr) (SplitB.all _) (by simp) (guard_vt rfl rfl rfl) rfl rfl (q_ldA rfl rfl Bt rfl Mm rfl) ?_
  refine ra_qg (.ab (i := 12) (js := [11, 13]) [14, 15, 16, 17, 18, 19, 20, 21, 22, 23, 24, 25, 26, 27, 28, 29, 30, 31, 32, 33, 34, 35, 36, 37] rfl Kr Kr Kr Kr Kr) (SplitB.all _) (by simp) (guard_vt rfl rfl rfl) rfl rfl (q_ldA rfl rfl Bt rfl Mm rfl) ?_
  refine ra_qg (.ab (i := 13) (js := [11]) [14, 15, 16, 17, 18, 19, 20, 21, 22, 23, 24, 25, 26, 27, 28, 29, 30, 31, 32, 33, 34, 35, 36, 37] rfl Kr Kr Kr Kr Kr) (SplitB.all _) (by simp) (guard_vt rfl rfl rfl) rfl rfl (q_ldA rfl rfl Bt rfl Mm rfl) ?_
  refine ra_one 11 Kr ?_
  refine rw_callg (fun hG_ => history_Same_spec y2 y3 h1 y4 y5 g1) (fun _ => rfl) (.an rfl rfl) (guard_vt rfl rfl rfl) rfl rfl rfl Kr rfl Bt Sm ?_
  refine ra_one 14 Kr ?_
  refine rw_callg (fun hG_ => orangeryref_SameHistory_spec y2 y3 h1 y4 y5 g1) (fun _ => rfl) (.an rfl rfl) (guard_vt rfl rfl rfl) rfl rfl rfl Kr rfl Bt Sm ?_
  refine ra_qg (.ab (i := 15) (js := []) [16, 17, 18, 19, 20, 21, 22, 23, 24, 25, 26, 27, 28, 29, 30, 31, 32, 33, 34, 35, 36, 37] rfl Kr Kr Kr Kr Kr) (SplitB.all _) (by simp) (guard_vt rfl rfl rfl) rfl rfl (q_eqb und_4 rfl rfl Bt rfl Bt) ?_
  refine ra_q (.ab (i := 16) (js := []) [17, 18, 19, 20, 21, 22, 23, 24, 25, 26, 27, 28, 29, 30, 31, 32, 33, 34, 35, 36, 37] rfl Kr Kr Kr Kr Kr) (SplitB.all _) (by simp) rfl rfl rfl (q_pev rfl Bt) ?_
  refine ra_q (.ab (i := 17) (js := []) [18, 19, 20, 21, 22, 23, 24, 25, 26, 27, 28, 29, 30, 31, 32, 33, 34, 35, 36, 37] rfl Kr Kr Kr Kr Kr) (SplitB.all _) (by simp) rfl rfl rfl (q_pev rfl (fun _ => rfl)) ?_
  refine ra_qg (.ab (i := 18) (js := [19]) [20, 21, 22, 23, 24, 25, 26, 27, 28, 29, 30, 31, 32, 33, 34, 35, 36, 37] rfl Kr Kr Kr Kr Kr) (SplitB.all _) (by simp) (guard_vt rfl rfl rfl) rfl rfl (q_pev rfl Bt) ?_
  refine ra_qg (.ab (i := 19) (js := []) [20, 21, 22, 23, 24, 25, 26, 27, 28, 29, 30, 31, 32, 33, 34, 35, 36, 37] rfl Kr Kr Kr Kr Kr) (SplitB.all _) (by simp) (guard_vt rfl rfl rfl) rfl rfl (q_pev rfl Bt) ?_
  refine ra_qg (.ab (i := 20) (js := []) [21, 22, 23, 24, 25, 26, 27, 28, 29, 30, 31, 32, 33, 34, 35, 36, 37] rfl Kr Kr Kr Kr Kr) (SplitB.all _) (by simp) (guard_vt rfl rfl rfl) rfl rfl (q_pev rfl Bt) ?_
  refine ra_q (.ab (i := 21) (js := []) [22, 23, 24, 25, 26, 27, 28, 29, 30, 31, 32, 33, 34, 35, 36, 37] rfl Kr Kr Kr Kr Kr) (SplitB.all _) (by simp) rfl rfl rfl (q_pev rfl Bt) ?_
  refine ra_q (.ab (i := 22) (js := []) [23, 24, 25, 26, 27, 28, 29, 30, 31, 32, 33, 34, 35, 36, 37] rfl Kr Kr Kr Kr Kr) (SplitB.all _) (by simp) rfl rfl rfl (q_pev rfl (fun _ => rfl)) ?_
  refine ra_qg (.ab (i := 23) (js := [24]) [25, 26, 27, 28, 29, 30, 31, 32, 33, 34, 35, 36, 37] rfl Kr Kr Kr Kr Kr) (SplitB.all _) (by simp) (guard_vt rfl rfl rfl) rfl rfl (q_ldA rfl rfl Bt rfl Mm rfl) ?_
  refine ra_qg (.ab (i := 24) (js := []) [25, 26, 27, 28, 29, 30, 31, 32, 33, 34, 35, 36, 37] rfl Kr Kr Kr Kr Kr) (SplitB.all _) (by simp) (guard_vt rfl rfl rfl) rfl rfl (q_ldA rfl rfl Bt rfl Mm rfl) ?_
  refine ra_one 25 Kr ?_
  refine rw_callg (fun hG_ => orangeryref_SameHistory_spec x1.1 x1.2 ((history_Fold l1).1) x3.1 x3.2 ((orangeryref_Folded l1).1)) (fun _ => rfl) (.an rfl rfl) (guard_vt rfl rfl rfl) rfl rfl rfl Kr rfl Bt Sm ?_
  refine ra_q (.ab (i := 26) (js := []) [27, 28, 29, 30, 31, 32, 33, 34, 35, 36, 37] rfl Kr Kr Kr Kr Kr) (SplitB.all _) (by simp) rfl rfl rfl (q_pev rfl Bt) ?_
  refine ra_q (.ab (i := 27) (js := []) [28, 29, 30, 31, 32, 33, 34, 35, 36, 37] rfl Kr Kr Kr Kr Kr) (SplitB.all _) (by simp) rfl rfl rfl (q_pev rfl (fun _ => rfl)) ?_
  refine ra_qg (.ab (i := 28) (js := [29]) [30, 31, 32, 33, 34, 35, 36, 37] rfl Kr Kr Kr Kr Kr) (SplitB.all _) (by simp) (guard_vt rfl rfl rfl) rfl rfl (q_pev rfl Bt) ?_
  refine ra_qg (.ab (i := 29) (js := []) [30, 31, 32, 33, 34, 35, 36, 37] rfl Kr Kr Kr Kr Kr) (SplitB.all _) (by simp) (guard_vt rfl rfl rfl) rfl rfl (q_pev rfl Bt) ?_
  refine ra_qg (.ab (i := 30) (js := []) [31, 32, 33, 34, 35, 36, 37] rfl Kr Kr Kr Kr Kr) (SplitB.all _) (by simp) (guard_vt rfl rfl rfl) rfl rfl (q_pev rfl Bt) ?_
  refine ra_q (.ab (i := 31) (js := []) [32, 33, 34, 35, 36, 37] rfl Kr Kr Kr Kr Kr) (SplitB.all _) (by simp) rfl rfl rfl (q_pev rfl Bt) ?_
  refine ra_q (.an (i := 32) (js := []) rfl Kr Kr Kr Kr) (SplitB.all _) (by simp) rfl rfl rfl (q_pev rfl (fun _ => rfl)) ?_
  refine ra_qg (.ab (i := 33) (js := [34]) [35, 36, 37] rfl Kr Kr Kr Kr Kr) (SplitB.all _) (by simp) (guard_vt rfl rfl rfl) rfl rfl (q_ldA rfl rfl Bt rfl Mm rfl) ?_
  refine ra_qg (.ab (i := 34) (js := []) [35, 36, 37] rfl Kr Kr Kr Kr Kr) (SplitB.all _) (by simp) (guard_vt rfl rfl rfl) rfl rfl (q_ldA rfl rfl Bt rfl Mm rfl) ?_
  refine ra_one 35 Kr ?_
  refine rw_callg (fun hG_ => orangeryref_SameHistory_spec x2.1 x2.2 ((history_Insert h1 o1).1) x4.1 x4.2 ((orangeryref_Inserted h1 o1).1)) (fun _ => rfl) (.an rfl rfl) (guard_vt rfl rfl rfl) rfl rfl rfl Kr rfl Bt Sm ?_
  refine ra_q (.an (i := 36) (js := []) rfl Kr Kr Kr Kr) (SplitB.all _) (by simp) rfl rfl rfl (q_pev rfl Bt) ?_
  refine ra_q (.an (i := 37) (js := []) rfl Kr Kr Kr Kr) (SplitB.all _) (by simp) rfl rfl rfl (q_pev rfl (fun _ => rfl)) ?_
  refine ra_nil Kr ?_
  (repeat refine cw_seq ?_)
  have hr1 : (orangerylaw_HistorySays l1 h1 o1 g1) = ((((((orangerylaw_folded && ((history_Check h1) == (orangeryref_CheckHistory h1))) && ((history_Same h1 g1) == (orangeryref_SameHistory h1 g1))) && (((history_Fold l1).2) == ((orangeryref_Folded l1).2))) && (orangeryref_SameHistory ((history_Fold l1).1) ((orangeryref_Folded l1).1))) && (((history_Insert h1 o1).2) == ((orangeryref_Inserted h1 o1).2))) && (orangeryref_SameHistory ((history_Insert h1 o1).1) ((orangeryref_Inserted h1 o1).1))) := by simp only [orangerylaw_HistorySays, cond_true, cond_false]
  refine cw_ret ?_
  rw [hr1]
  exact ⟨(), _, (.cons (.tmp rfl) .nil), rfl, Sm, .nil _, .nil _⟩
end Go.Proofs.Ytchdacbjiomplaa
