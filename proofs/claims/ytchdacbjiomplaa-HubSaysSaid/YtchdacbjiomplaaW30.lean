/- Part of this claim. No condition. -/
import Derived.Test.YtchdacbjiomplaaW29
set_option linter.unusedVariables false
set_option linter.unusedSimpArgs false
set_option maxHeartbeats 2000000
namespace Go.Proofs.Ytchdacbjiomplaa
open Go Go.Proofs.Ytchdacbjiomplaa.Fw Go.Proofs
attribute [local irreducible] RW CW
def orangerylaw_HistorySays (l1 : List Op) (h1 : History) (o1 : Op) (g1 : History) : Bool :=
  ((((((orangerylaw_folded && ((history_Check h1) == (orangeryref_CheckHistory h1))) && ((history_Same h1 g1) == (orangeryref_SameHistory h1 g1))) && (((history_Fold l1).2) == ((orangeryref_Folded l1).2))) && (orangeryref_SameHistory ((history_Fold l1).1) ((orangeryref_Folded l1).1))) && (((history_Insert h1 o1).2) == ((orangeryref_Inserted h1 o1).2))) && (orangeryref_SameHistory ((history_Insert h1 o1).1) ((orangeryref_Inserted h1 o1).1)))
theorem orangerylaw_HistorySays_spec (y1 : SlV) (l1 : List Op) (y2 : SlV) (y3 : SlV) (h1 : History) (o1 : Op) (y4 : SlV) (y5 : SlV) (g1 : History) : Does Try.prog 15 [y1.val l1.length, .agg ⟨[y2.val h1.l.length, y3.val h1.t.length]⟩, .agg ⟨[.int .i64 o1.time, .int .i64 o1.who, .int .i64 o1.node, .int .i64 o1.parent, .int .i64 o1.name, .int .i64 o1.life, .int .i64 o1.seq]⟩, .agg ⟨[y4.val g1.l.length, y5.val g1.t.length]⟩] [RdL EOp y1 l1, RdL EStep y2 h1.l, RdL EPlace y3 h1.t, RdL EStep y4 g1.l, RdL EPlace y5 g1.t] (fun (_ : Unit) => .bool (orangerylaw_HistorySays l1 h1 o1 g1)) (fun (_ : Unit) => []) := by
  refine does_of tab_ok Try.func15 rfl Try.ntmps15 Try.results15 rfl inferInstance (fun _ => inferInstance) fun C => ?_
  refine Pc EOp y1 l1 56 fun hlen1 => ?_
  refine Pc EStep y2 h1.l 88 fun hlen2 => ?_
  refine Pc EPlace y3 h1.t 24 fun hlen3 => ?_
  refine Pc EStep y4 g1.l 88 fun hlen4 => ?_
  refine Pc EPlace y5 g1.t 24 fun hlen5 => ?_
  refine Tx ?_
  refine Bx fun g2 => ?_
  refine Bx fun g3 => ?_
  refine Bx fun g4 => ?_
  refine Tx ?_
  refine Cl (history_Fold_spec y1 l1) fun x1 => ?_
  refine Pr EStep x1.1 (((history_Fold l1).1).l) 88 fun hlen6 => ?_
  refine Pr EPlace x1.2 (((history_Fold l1).1).t) 24 fun hlen7 => ?_
  refine Tx ?_
  refine Al fun g5 => ?_
  refine Tx ?_
  refine Cl (history_Insert_spec y2 y3 h1 o1) fun x2 => ?_
  refine Pr EStep x2.1 (((history_Insert h1 o1).1).l) 88 fun hlen8 => ?_
  refine Pr EPlace x2.2 (((history_Insert h1 o1).1).t) 24 fun hlen9 => ?_
  refine Tx ?_
  refine Al fun g6 => ?_
  refine Tx ?_
  refine Cl (orangeryref_Folded_spec y1 l1) fun x3 => ?_
  refine Pr EStep x3.1 (((orangeryref_Folded l1).1).l) 88 fun hlen10 => ?_
  refine Pr EPlace x3.2 (((orangeryref_Folded l1).1).t) 24 fun hlen11 => ?_
  refine Tx ?_
  refine Al fun g7 => ?_
  refine Tx ?_
  refine Cl (orangeryref_Inserted_spec y2 y3 h1 o1) fun x4 => ?_
  refine Pr EStep x4.1 (((orangeryref_Inserted h1 o1).1).l) 88 fun hlen12 => ?_
  refine Pr EPlace x4.2 (((orangeryref_Inserted h1 o1).1).t) 24 fun hlen13 => ?_
  refine Tx ?_
  refine Al fun g8 => ?_
  refine Tx ?_
  (repeat refine cw_seq ?_); refine cw_regionA (fun _ => some []) ?_
  refine ra_one 0 Kr ?_
  refine rw_call (orangerylaw_folded_spec ) (.an rfl rfl) (guard_none rfl) rfl rfl rfl Kr rfl rfl Sm ?_
  intro _
  refine Rb 1 [] [2,3,4,5,6,7,8,9,10,11,12,13,14,15,16,17,18,19,20,21,22,23,24,25,26,27,28,29,30,31,32,33,34,35,36,37] rfl Qp ?_
  refine Gb 2 [4] [3,5,6,7,8,9,10,11,12,13,14,15,16,17,18,19,20,21,22,23,24,25,26,27,28,29,30,31,32,33,34,35,36,37] rfl (guard_vt rfl rfl rfl) (q_ldA rfl rfl Bt rfl Mm rfl) ?_
  refine Gb 4 [3] [5,6,7,8,9,10,11,12,13,14,15,16,17,18,19,20,21,22,23,24,25,26,27,28,29,30,31,32,33,34,35,36,37] rfl (guard_vt rfl rfl rfl) (q_ldA rfl rfl Bt rfl Mm rfl) ?_
  refine ra_one 3 Kr ?_
  refine rw_callg (fun hG_ => history_Check_spec y2 y3 h1) (fun _ => rfl) (.an rfl rfl) (guard_vt rfl rfl rfl) rfl rfl rfl Kr rfl Bt Sm ?_
  refine ra_one 5 Kr ?_
  refine rw_callg (fun hG_ => orangeryref_CheckHistory_spec y2 y3 h1) (fun _ => rfl) (.an rfl rfl) (guard_vt rfl rfl rfl) rfl rfl rfl Kr rfl Bt Sm ?_
  refine Gb 6 [] [7,8,9,10,11,12,13,14,15,16,17,18,19,20,21,22,23,24,25,26,27,28,29,30,31,32,33,34,35,36,37] rfl (guard_vt rfl rfl rfl) (q_pev rfl Bt) ?_
  refine Rb 7 [] [8,9,10,11,12,13,14,15,16,17,18,19,20,21,22,23,24,25,26,27,28,29,30,31,32,33,34,35,36,37] rfl (q_pev rfl Bt) ?_
  refine Rb 8 [] [9,10,11,12,13,14,15,16,17,18,19,20,21,22,23,24,25,26,27,28,29,30,31,32,33,34,35,36,37] rfl Qp ?_
  refine Gb 9 [10,12,13] [11,14,15,16,17,18,19,20,21,22,23,24,25,26,27,28,29,30,31,32,33,34,35,36,37] rfl (guard_vt rfl rfl rfl) (q_ldA rfl rfl Bt rfl Mm rfl) ?_
  refine Gb 10 [12,13] [11,14,15,16,17,18,19,20,21,22,23,24,25,26,27,28,29,30,31,32,33,34,35,36,37] rfl (guard_vt rfl rfl rfl) (q_ldA rfl rfl Bt rfl Mm rfl) ?_
  refine Gb 12 [11,13] [14,15,16,17,18,19,20,21,22,23,24,25,26,27,28,29,30,31,32,33,34,35,36,37] rfl (guard_vt rfl rfl rfl) (q_ldA rfl rfl Bt rfl Mm rfl) ?_
  refine Gb 13 [11] [14,15,16,17,18,19,20,21,22,23,24,25,26,27,28,29,30,31,32,33,34,35,36,37] rfl (guard_vt rfl rfl rfl) (q_ldA rfl rfl Bt rfl Mm rfl) ?_
  refine ra_one 11 Kr ?_
  refine rw_callg (fun hG_ => history_Same_spec y2 y3 h1 y4 y5 g1) (fun _ => rfl) (.an rfl rfl) (guard_vt rfl rfl rfl) rfl rfl rfl Kr rfl Bt Sm ?_
  refine ra_one 14 Kr ?_
  refine rw_callg (fun hG_ => orangeryref_SameHistory_spec y2 y3 h1 y4 y5 g1) (fun _ => rfl) (.an rfl rfl) (guard_vt rfl rfl rfl) rfl rfl rfl Kr rfl Bt Sm ?_
  refine Gb 15 [] [16,17,18,19,20,21,22,23,24,25,26,27,28,29,30,31,32,33,34,35,36,37] rfl (guard_vt rfl rfl rfl) (q_eqb und_4 rfl rfl Bt rfl Bt) ?_
  refine Rb 16 [] [17,18,19,20,21,22,23,24,25,26,27,28,29,30,31,32,33,34,35,36,37] rfl (q_pev rfl Bt) ?_
  refine Rb 17 [] [18,19,20,21,22,23,24,25,26,27,28,29,30,31,32,33,34,35,36,37] rfl Qp ?_
  refine Gb 18 [19] [20,21,22,23,24,25,26,27,28,29,30,31,32,33,34,35,36,37] rfl (guard_vt rfl rfl rfl) (q_pev rfl Bt) ?_
  refine Gb 19 [] [20,21,22,23,24,25,26,27,28,29,30,31,32,33,34,35,36,37] rfl (guard_vt rfl rfl rfl) (q_pev rfl Bt) ?_
  refine Gb 20 [] [21,22,23,24,25,26,27,28,29,30,31,32,33,34,35,36,37] rfl (guard_vt rfl rfl rfl) (q_pev rfl Bt) ?_
  refine Rb 21 [] [22,23,24,25,26,27,28,29,30,31,32,33,34,35,36,37] rfl (q_pev rfl Bt) ?_
  refine Rb 22 [] [23,24,25,26,27,28,29,30,31,32,33,34,35,36,37] rfl Qp ?_
  refine Gb 23 [24] [25,26,27,28,29,30,31,32,33,34,35,36,37] rfl (guard_vt rfl rfl rfl) (q_ldA rfl rfl Bt rfl Mm rfl) ?_
  refine Gb 24 [] [25,26,27,28,29,30,31,32,33,34,35,36,37] rfl (guard_vt rfl rfl rfl) (q_ldA rfl rfl Bt rfl Mm rfl) ?_
  refine ra_one 25 Kr ?_
  refine rw_callg (fun hG_ => orangeryref_SameHistory_spec x1.1 x1.2 ((history_Fold l1).1) x3.1 x3.2 ((orangeryref_Folded l1).1)) (fun _ => rfl) (.an rfl rfl) (guard_vt rfl rfl rfl) rfl rfl rfl Kr rfl Bt Sm ?_
  refine Rb 26 [] [27,28,29,30,31,32,33,34,35,36,37] rfl (q_pev rfl Bt) ?_
  refine Rb 27 [] [28,29,30,31,32,33,34,35,36,37] rfl Qp ?_
  refine Gb 28 [29] [30,31,32,33,34,35,36,37] rfl (guard_vt rfl rfl rfl) (q_pev rfl Bt) ?_
  refine Gb 29 [] [30,31,32,33,34,35,36,37] rfl (guard_vt rfl rfl rfl) (q_pev rfl Bt) ?_
  refine Gb 30 [] [31,32,33,34,35,36,37] rfl (guard_vt rfl rfl rfl) (q_pev rfl Bt) ?_
  refine Rb 31 [] [32,33,34,35,36,37] rfl (q_pev rfl Bt) ?_
  refine Ra 32 [] rfl Qp ?_
  refine Gb 33 [34] [35,36,37] rfl (guard_vt rfl rfl rfl) (q_ldA rfl rfl Bt rfl Mm rfl) ?_
  refine Gb 34 [] [35,36,37] rfl (guard_vt rfl rfl rfl) (q_ldA rfl rfl Bt rfl Mm rfl) ?_
  refine ra_one 35 Kr ?_
  refine rw_callg (fun hG_ => orangeryref_SameHistory_spec x2.1 x2.2 ((history_Insert h1 o1).1) x4.1 x4.2 ((orangeryref_Inserted h1 o1).1)) (fun _ => rfl) (.an rfl rfl) (guard_vt rfl rfl rfl) rfl rfl rfl Kr rfl Bt Sm ?_
  refine Ra 36 [] rfl (q_pev rfl Bt) ?_
  refine Ra 37 [] rfl Qp ?_
  refine ra_nil Kr ?_
  (repeat refine cw_seq ?_)
  have hr1 : (orangerylaw_HistorySays l1 h1 o1 g1) = ((((((orangerylaw_folded && ((history_Check h1) == (orangeryref_CheckHistory h1))) && ((history_Same h1 g1) == (orangeryref_SameHistory h1 g1))) && (((history_Fold l1).2) == ((orangeryref_Folded l1).2))) && (orangeryref_SameHistory ((history_Fold l1).1) ((orangeryref_Folded l1).1))) && (((history_Insert h1 o1).2) == ((orangeryref_Inserted h1 o1).2))) && (orangeryref_SameHistory ((history_Insert h1 o1).1) ((orangeryref_Inserted h1 o1).1))) := by simp only [orangerylaw_HistorySays, cond_true, cond_false]
  refine cw_ret ?_; rw [hr1]; exact Re () (Vt Vn)
end Go.Proofs.Ytchdacbjiomplaa
