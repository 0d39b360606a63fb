/- Part of this claim. No condition. -/
import Derived.Test.YtchdacbjiomplaaW47
import Derived.Test.YtchdacbjiomplaaWA
set_option linter.unusedVariables false
set_option linter.unusedSimpArgs false
set_option maxHeartbeats 2000000
namespace Go.Proofs.Ytchdacbjiomplaa
open Go Go.Proofs.Ytchdacbjiomplaa.Fw Go.Proofs
attribute [local irreducible] RdL RdN VarP RW CW
def orangerylaw_accepted_1 (n1 : Int) : Rec :=
  (⟨2, 1, n1, ([] : List Int), (⟨0, 0, 0, 0, 0, 0, 0⟩ : Op)⟩ : Rec)
theorem orangerylaw_accepted_1_spec (n1 : Int) : Does Try.prog 174 [.int .i64 n1] [] (fun (X : SlV) => .agg ⟨[.int .i64 ((orangerylaw_accepted_1 n1).kind), .int .i64 ((orangerylaw_accepted_1 n1).who), .int .i64 ((orangerylaw_accepted_1 n1).life), X.val ((orangerylaw_accepted_1 n1).roots).length, .int .i64 (((orangerylaw_accepted_1 n1).o).time), .int .i64 (((orangerylaw_accepted_1 n1).o).who), .int .i64 (((orangerylaw_accepted_1 n1).o).node), .int .i64 (((orangerylaw_accepted_1 n1).o).parent), .int .i64 (((orangerylaw_accepted_1 n1).o).name), .int .i64 (((orangerylaw_accepted_1 n1).o).life), .int .i64 (((orangerylaw_accepted_1 n1).o).seq)]⟩) (fun (X : SlV) => [RdL EInt X ((orangerylaw_accepted_1 n1).roots)]) := by
  refine does_of tab_ok Try.func174 rfl Try.ntmps174 Try.results174 rfl inferInstance (fun _ => inferInstance) fun C => ?_
  refine Tx ?_
  refine Al fun g1 => ?_
  refine Tx ?_
  refine Fc EInt ?_
  have hr1 : (orangerylaw_accepted_1 n1) = (⟨2, 1, n1, ([] : List Int), (⟨0, 0, 0, 0, 0, 0, 0⟩ : Op)⟩ : Rec) := by simp only [orangerylaw_accepted_1, cond_true, cond_false]
  refine cw_ret ?_; rw [hr1]; exact Re (⟨none, 0⟩ : SlV) (Va Vn)

def orangerylaw_accepted_2 (time1 : Int) (node1 : Int) (parent1 : Int) (life1 : Int) (seq1 : Int) : Rec :=
  (⟨1, 0, 0, ([] : List Int), (⟨(orangerylaw_op time1 1 node1 parent1).time, (orangerylaw_op time1 1 node1 parent1).who, (orangerylaw_op time1 1 node1 parent1).node, (orangerylaw_op time1 1 node1 parent1).parent, (orangerylaw_op time1 1 node1 parent1).name, life1, seq1⟩ : Op)⟩ : Rec)
theorem orangerylaw_accepted_2_spec (time1 : Int) (node1 : Int) (parent1 : Int) (life1 : Int) (seq1 : Int) : Does Try.prog 175 [.int .i64 time1, .int .i64 node1, .int .i64 parent1, .int .i64 life1, .int .i64 seq1] [] (fun (X : SlV) => .agg ⟨[.int .i64 ((orangerylaw_accepted_2 time1 node1 parent1 life1 seq1).kind), .int .i64 ((orangerylaw_accepted_2 time1 node1 parent1 life1 seq1).who), .int .i64 ((orangerylaw_accepted_2 time1 node1 parent1 life1 seq1).life), X.val ((orangerylaw_accepted_2 time1 node1 parent1 life1 seq1).roots).length, .int .i64 (((orangerylaw_accepted_2 time1 node1 parent1 life1 seq1).o).time), .int .i64 (((orangerylaw_accepted_2 time1 node1 parent1 life1 seq1).o).who), .int .i64 (((orangerylaw_accepted_2 time1 node1 parent1 life1 seq1).o).node), .int .i64 (((orangerylaw_accepted_2 time1 node1 parent1 life1 seq1).o).parent), .int .i64 (((orangerylaw_accepted_2 time1 node1 parent1 life1 seq1).o).name), .int .i64 (((orangerylaw_accepted_2 time1 node1 parent1 life1 seq1).o).life), .int .i64 (((orangerylaw_accepted_2 time1 node1 parent1 life1 seq1).o).seq)]⟩) (fun (X : SlV) => [RdL EInt X ((orangerylaw_accepted_2 time1 node1 parent1 life1 seq1).roots)]) := by
  refine does_of tab_ok Try.func175 rfl Try.ntmps175 Try.results175 rfl inferInstance (fun _ => inferInstance) fun C => ?_
  refine Tx ?_
  refine Al fun g1 => ?_
  refine Tx ?_
  refine Cl (orangerylaw_op_spec time1 1 node1 parent1) fun _ => ?_
  refine Al fun g2 => ?_
  refine Tx ?_
  refine Fc EInt ?_
  have hr1 : (orangerylaw_accepted_2 time1 node1 parent1 life1 seq1) = (⟨1, 0, 0, ([] : List Int), (⟨(orangerylaw_op time1 1 node1 parent1).time, (orangerylaw_op time1 1 node1 parent1).who, (orangerylaw_op time1 1 node1 parent1).node, (orangerylaw_op time1 1 node1 parent1).parent, (orangerylaw_op time1 1 node1 parent1).name, life1, seq1⟩ : Op)⟩ : Rec) := by simp only [orangerylaw_accepted_2, cond_true, cond_false]
  refine cw_ret ?_; rw [hr1]; exact Re (⟨none, 0⟩ : SlV) (Va Vn)

def orangerylaw_accepted  : Bool :=
  (((((((((((((((hub_Replay [(orangerylaw_accepted_1 1), (orangerylaw_accepted_2 1 2 0 1 1), (orangerylaw_accepted_2 2 3 2 1 2), (⟨3, 1, 0, [2], (⟨0, 0, 0, 0, 0, 0, 0⟩ : Op)⟩ : Rec)]).2) == 0) && (((hub_Sees ((hub_Replay [(orangerylaw_accepted_1 1), (orangerylaw_accepted_2 1 2 0 1 1), (orangerylaw_accepted_2 2 3 2 1 2), (⟨3, 1, 0, [2], (⟨0, 0, 0, 0, 0, 0, 0⟩ : Op)⟩ : Rec)]).1) 1).2) == 0)) && (((hub_Next ((hub_Replay [(orangerylaw_accepted_1 1), (orangerylaw_accepted_2 1 2 0 1 1), (orangerylaw_accepted_2 2 3 2 1 2), (⟨3, 1, 0, [2], (⟨0, 0, 0, 0, 0, 0, 0⟩ : Op)⟩ : Rec)]).1) (orangerylaw_accepted_2 3 4 0 1 4)).2) == 7)) && (((hub_Next ((hub_Replay [(orangerylaw_accepted_1 1), (orangerylaw_accepted_2 1 2 0 1 1), (orangerylaw_accepted_2 2 3 2 1 2), (⟨3, 1, 0, [2], (⟨0, 0, 0, 0, 0, 0, 0⟩ : Op)⟩ : Rec)]).1) (orangerylaw_accepted_1 2)).2) == 0)) && (((hub_Next ((hub_Next ((hub_Replay [(orangerylaw_accepted_1 1), (orangerylaw_accepted_2 1 2 0 1 1), (orangerylaw_accepted_2 2 3 2 1 2), (⟨3, 1, 0, [2], (⟨0, 0, 0, 0, 0, 0, 0⟩ : Op)⟩ : Rec)]).1) (orangerylaw_accepted_1 2)).1) (orangerylaw_accepted_2 3 4 0 1 3)).2) == 7)) && (((hub_Next ((hub_Next ((hub_Replay [(orangerylaw_accepted_1 1), (orangerylaw_accepted_2 1 2 0 1 1), (orangerylaw_accepted_2 2 3 2 1 2), (⟨3, 1, 0, [2], (⟨0, 0, 0, 0, 0, 0, 0⟩ : Op)⟩ : Rec)]).1) (orangerylaw_accepted_1 2)).1) (orangerylaw_accepted_2 3 4 0 2 1)).2) == 0)) && ((((hub_Replay [(orangerylaw_accepted_1 1), (orangerylaw_accepted_2 1 2 0 1 1), (orangerylaw_accepted_2 2 3 2 1 2), (⟨3, 1, 0, [2], (⟨0, 0, 0, 0, 0, 0, 0⟩ : Op)⟩ : Rec)]).1).version) == 4)) && (((gt (((hub_Replay [(orangerylaw_accepted_1 1), (orangerylaw_accepted_2 1 2 0 1 1), (orangerylaw_accepted_2 2 3 2 1 2), (⟨3, 1, 0, [2], (⟨0, 0, 0, 0, 0, 0, 0⟩ : Op)⟩ : Rec)]).1).peers) 1).seq) == 2)) && (((((hub_Sees ((hub_Replay [(orangerylaw_accepted_1 1), (orangerylaw_accepted_2 1 2 0 1 1), (orangerylaw_accepted_2 2 3 2 1 2), (⟨3, 1, 0, [2], (⟨0, 0, 0, 0, 0, 0, 0⟩ : Op)⟩ : Rec)]).1) 1).1).known).length : Int) == 2)) && (((gt (((hub_Next ((hub_Replay [(orangerylaw_accepted_1 1), (orangerylaw_accepted_2 1 2 0 1 1), (orangerylaw_accepted_2 2 3 2 1 2), (⟨3, 1, 0, [2], (⟨0, 0, 0, 0, 0, 0, 0⟩ : Op)⟩ : Rec)]).1) (orangerylaw_accepted_1 2)).1).peers) 1).seq) == 0)) && ((((gt (((hub_Next ((hub_Replay [(orangerylaw_accepted_1 1), (orangerylaw_accepted_2 1 2 0 1 1), (orangerylaw_accepted_2 2 3 2 1 2), (⟨3, 1, 0, [2], (⟨0, 0, 0, 0, 0, 0, 0⟩ : Op)⟩ : Rec)]).1) (orangerylaw_accepted_1 2)).1).peers) 1).roots).length : Int) == 0)) && ((hub_Check ((hub_Replay [(orangerylaw_accepted_1 1), (orangerylaw_accepted_2 1 2 0 1 1), (orangerylaw_accepted_2 2 3 2 1 2), (⟨3, 1, 0, [2], (⟨0, 0, 0, 0, 0, 0, 0⟩ : Op)⟩ : Rec)]).1)) == 0)) && (hub_Same ((hub_Replay [(orangerylaw_accepted_1 1), (orangerylaw_accepted_2 1 2 0 1 1), (orangerylaw_accepted_2 2 3 2 1 2), (⟨3, 1, 0, [2], (⟨0, 0, 0, 0, 0, 0, 0⟩ : Op)⟩ : Rec)]).1) ((hub_Replay [(orangerylaw_accepted_1 1), (orangerylaw_accepted_2 1 2 0 1 1), (orangerylaw_accepted_2 2 3 2 1 2), (⟨3, 1, 0, [2], (⟨0, 0, 0, 0, 0, 0, 0⟩ : Op)⟩ : Rec)]).1)))
theorem orangerylaw_accepted_spec  : Does Try.prog 109 [] [] (fun (_ : Unit) => .bool (orangerylaw_accepted)) (fun (_ : Unit) => []) := by
  refine does_of tab_ok Try.func109 rfl Try.ntmps109 Try.results109 rfl inferInstance (fun _ => inferInstance) fun C => ?_
  refine Tx ?_
  refine rw_callv (orangerylaw_accepted_1_spec 1) .sq (guard_none rfl) rfl rfl rfl rfl rfl Kr rfl rfl rfl Sm ?_
  intro x1
  refine Pr EInt x1 ((orangerylaw_accepted_1 1).roots) 8 fun hlen1 => ?_
  refine Rp rfl rfl rfl rfl ?_
  refine rw_callv (orangerylaw_accepted_2_spec 1 2 0 1 1) .sq (guard_none rfl) rfl rfl rfl rfl rfl Kr rfl rfl rfl Sm ?_
  intro x2
  refine Pr EInt x2 ((orangerylaw_accepted_2 1 2 0 1 1).roots) 8 fun hlen2 => ?_
  refine Rp rfl rfl rfl rfl ?_
  refine rw_callv (orangerylaw_accepted_2_spec 2 3 2 1 2) .sq (guard_none rfl) rfl rfl rfl rfl rfl Kr rfl rfl rfl Sm ?_
  intro x3
  refine Pr EInt x3 ((orangerylaw_accepted_2 2 3 2 1 2).roots) 8 fun hlen3 => ?_
  refine rw_bsliceL EInt [2] .sq (guard_none rfl) rfl rfl rfl rfl rfl rfl rfl rfl rfl rfl rfl rfl rfl rfl rfl fun x4 x4b => ?_
  refine Rp rfl rfl rfl rfl ?_
  refine rw_le (le_freezeL EInt 3 x4 x4b [2] Uo) ?_
  refine rw_bsliceL NRec.E [(x1, (orangerylaw_accepted_1 1)), (x2, (orangerylaw_accepted_2 1 2 0 1 1)), (x3, (orangerylaw_accepted_2 2 3 2 1 2)), (x4, (⟨3, 1, 0, [2], (⟨0, 0, 0, 0, 0, 0, 0⟩ : Op)⟩ : Rec))] .sq (guard_none rfl) rfl rfl rfl rfl rfl rfl rfl rfl rfl rfl rfl rfl rfl (fillL_many [.agg ⟨[.int .i64 ((orangerylaw_accepted_1 1).kind), .int .i64 ((orangerylaw_accepted_1 1).who), .int .i64 ((orangerylaw_accepted_1 1).life), x1.val ((orangerylaw_accepted_1 1).roots).length, .int .i64 (((orangerylaw_accepted_1 1).o).time), .int .i64 (((orangerylaw_accepted_1 1).o).who), .int .i64 (((orangerylaw_accepted_1 1).o).node), .int .i64 (((orangerylaw_accepted_1 1).o).parent), .int .i64 (((orangerylaw_accepted_1 1).o).name), .int .i64 (((orangerylaw_accepted_1 1).o).life), .int .i64 (((orangerylaw_accepted_1 1).o).seq)]⟩, .agg ⟨[.int .i64 ((orangerylaw_accepted_2 1 2 0 1 1).kind), .int .i64 ((orangerylaw_accepted_2 1 2 0 1 1).who), .int .i64 ((orangerylaw_accepted_2 1 2 0 1 1).life), x2.val ((orangerylaw_accepted_2 1 2 0 1 1).roots).length, .int .i64 (((orangerylaw_accepted_2 1 2 0 1 1).o).time), .int .i64 (((orangerylaw_accepted_2 1 2 0 1 1).o).who), .int .i64 (((orangerylaw_accepted_2 1 2 0 1 1).o).node), .int .i64 (((orangerylaw_accepted_2 1 2 0 1 1).o).parent), .int .i64 (((orangerylaw_accepted_2 1 2 0 1 1).o).name), .int .i64 (((orangerylaw_accepted_2 1 2 0 1 1).o).life), .int .i64 (((orangerylaw_accepted_2 1 2 0 1 1).o).seq)]⟩, .agg ⟨[.int .i64 ((orangerylaw_accepted_2 2 3 2 1 2).kind), .int .i64 ((orangerylaw_accepted_2 2 3 2 1 2).who), .int .i64 ((orangerylaw_accepted_2 2 3 2 1 2).life), x3.val ((orangerylaw_accepted_2 2 3 2 1 2).roots).length, .int .i64 (((orangerylaw_accepted_2 2 3 2 1 2).o).time), .int .i64 (((orangerylaw_accepted_2 2 3 2 1 2).o).who), .int .i64 (((orangerylaw_accepted_2 2 3 2 1 2).o).node), .int .i64 (((orangerylaw_accepted_2 2 3 2 1 2).o).parent), .int .i64 (((orangerylaw_accepted_2 2 3 2 1 2).o).name), .int .i64 (((orangerylaw_accepted_2 2 3 2 1 2).o).life), .int .i64 (((orangerylaw_accepted_2 2 3 2 1 2).o).seq)]⟩, .agg ⟨[.int .i64 3, .int .i64 1, .int .i64 0, x4.val [2].length, .int .i64 0, .int .i64 0, .int .i64 0, .int .i64 0, .int .i64 0, .int .i64 0, .int .i64 0]⟩] rfl (by intro v hv; simp only [List.mem_cons, List.not_mem_nil, or_false] at hv; rcases hv with rfl | rfl | rfl | rfl <;> rfl) rfl rfl) rfl fun x5 x5b => ?_
  refine rw_le (le_freezeL NRec.E 136 x5 x5b [(x1, (orangerylaw_accepted_1 1)), (x2, (orangerylaw_accepted_2 1 2 0 1 1)), (x3, (orangerylaw_accepted_2 2 3 2 1 2)), (x4, (⟨3, 1, 0, [2], (⟨0, 0, 0, 0, 0, 0, 0⟩ : Op)⟩ : Rec))] Uo) ?_
  refine rw_fact (F := RdN NRec x5 [(orangerylaw_accepted_1 1), (orangerylaw_accepted_2 1 2 0 1 1), (orangerylaw_accepted_2 2 3 2 1 2), (⟨3, 1, 0, [2], (⟨0, 0, 0, 0, 0, 0, 0⟩ : Op)⟩ : Rec)]) [RdL NRec.E x5 [(x1, (orangerylaw_accepted_1 1)), (x2, (orangerylaw_accepted_2 1 2 0 1 1)), (x3, (orangerylaw_accepted_2 2 3 2 1 2)), (x4, (⟨3, 1, 0, [2], (⟨0, 0, 0, 0, 0, 0, 0⟩ : Op)⟩ : Rec))], RdL EInt x1 ((orangerylaw_accepted_1 1).roots), RdL EInt x2 ((orangerylaw_accepted_2 1 2 0 1 1).roots), RdL EInt x3 ((orangerylaw_accepted_2 2 3 2 1 2).roots), RdL EInt x4 [2]] Sm (fun M w h => RdN.of NRec (hs := [(x1, (orangerylaw_accepted_1 1)), (x2, (orangerylaw_accepted_2 1 2 0 1 1)), (x3, (orangerylaw_accepted_2 2 3 2 1 2)), (x4, (⟨3, 1, 0, [2], (⟨0, 0, 0, 0, 0, 0, 0⟩ : Op)⟩ : Rec))]) rfl (h _ (.head _)) (allP_cons (allF_sub Sm h) (allP_cons (allF_sub Sm h) (allP_cons (allF_sub Sm h) (allP_cons (allF_sub Sm h) (fun p hp => by cases hp)))))) ?_
  refine Cl (hub_Replay_spec x5 [(orangerylaw_accepted_1 1), (orangerylaw_accepted_2 1 2 0 1 1), (orangerylaw_accepted_2 2 3 2 1 2), (⟨3, 1, 0, [2], (⟨0, 0, 0, 0, 0, 0, 0⟩ : Op)⟩ : Rec)]) fun x6 => ?_
  refine Pr EStep x6.1 ((((hub_Replay [(orangerylaw_accepted_1 1), (orangerylaw_accepted_2 1 2 0 1 1), (orangerylaw_accepted_2 2 3 2 1 2), (⟨3, 1, 0, [2], (⟨0, 0, 0, 0, 0, 0, 0⟩ : Op)⟩ : Rec)]).1).h).l) 88 fun hlen4 => ?_
  refine Pr EPlace x6.2.1 ((((hub_Replay [(orangerylaw_accepted_1 1), (orangerylaw_accepted_2 1 2 0 1 1), (orangerylaw_accepted_2 2 3 2 1 2), (⟨3, 1, 0, [2], (⟨0, 0, 0, 0, 0, 0, 0⟩ : Op)⟩ : Rec)]).1).h).t) 24 fun hlen5 => ?_
  refine Pm NPeer x6.2.2 (((hub_Replay [(orangerylaw_accepted_1 1), (orangerylaw_accepted_2 1 2 0 1 1), (orangerylaw_accepted_2 2 3 2 1 2), (⟨3, 1, 0, [2], (⟨0, 0, 0, 0, 0, 0, 0⟩ : Op)⟩ : Rec)]).1).peers) 40 fun hlen6 => ?_
  have hpl1 : (hub_Replay [(orangerylaw_accepted_1 1), (orangerylaw_accepted_2 1 2 0 1 1), (orangerylaw_accepted_2 2 3 2 1 2), (⟨3, 1, 0, [2], (⟨0, 0, 0, 0, 0, 0, 0⟩ : Op)⟩ : Rec)]).1.peers.length = 3 := by decide +kernel
  have hpl2 : (hub_Next (hub_Replay [(orangerylaw_accepted_1 1), (orangerylaw_accepted_2 1 2 0 1 1), (orangerylaw_accepted_2 2 3 2 1 2), (⟨3, 1, 0, [2], (⟨0, 0, 0, 0, 0, 0, 0⟩ : Op)⟩ : Rec)]).1 (orangerylaw_accepted_1 2)).1.peers.length = 3 := by decide +kernel
  refine Tx ?_
  refine Al fun g1 => ?_
  refine Tx ?_
  refine Cl (hub_Sees_spec x6.1 x6.2.1 x6.2.2 ((hub_Replay [(orangerylaw_accepted_1 1), (orangerylaw_accepted_2 1 2 0 1 1), (orangerylaw_accepted_2 2 3 2 1 2), (⟨3, 1, 0, [2], (⟨0, 0, 0, 0, 0, 0, 0⟩ : Op)⟩ : Rec)]).1) 1) fun x7 => ?_
  refine Pr EInt x7.1 (((hub_Sees ((hub_Replay [(orangerylaw_accepted_1 1), (orangerylaw_accepted_2 1 2 0 1 1), (orangerylaw_accepted_2 2 3 2 1 2), (⟨3, 1, 0, [2], (⟨0, 0, 0, 0, 0, 0, 0⟩ : Op)⟩ : Rec)]).1) 1).1).roots) 8 fun hlen7 => ?_
  refine Pr EPlace x7.2.1 (((hub_Sees ((hub_Replay [(orangerylaw_accepted_1 1), (orangerylaw_accepted_2 1 2 0 1 1), (orangerylaw_accepted_2 2 3 2 1 2), (⟨3, 1, 0, [2], (⟨0, 0, 0, 0, 0, 0, 0⟩ : Op)⟩ : Rec)]).1) 1).1).known) 24 fun hlen8 => ?_
  refine Pr EPlace x7.2.2 (((hub_Sees ((hub_Replay [(orangerylaw_accepted_1 1), (orangerylaw_accepted_2 1 2 0 1 1), (orangerylaw_accepted_2 2 3 2 1 2), (⟨3, 1, 0, [2], (⟨0, 0, 0, 0, 0, 0, 0⟩ : Op)⟩ : Rec)]).1) 1).1).way) 24 fun hlen9 => ?_
  refine Tx ?_
  refine Al fun g2 => ?_
  refine Tx ?_
  refine cw_join [0, 1, 2, 3, 4, 5, 6] [true, true] (fun (_ : Unit) => [(8, .v (.int .i64 ((hub_Next ((hub_Replay [(orangerylaw_accepted_1 1), (orangerylaw_accepted_2 1 2 0 1 1), (orangerylaw_accepted_2 2 3 2 1 2), (⟨3, 1, 0, [2], (⟨0, 0, 0, 0, 0, 0, 0⟩ : Op)⟩ : Rec)]).1) (orangerylaw_accepted_2 3 4 0 1 4)).2)))]) (fun (_ : Unit) => []) (fun (_ : Unit) => []) (fun (_ : Unit) => []) (fun _ => True) (.cons rfl (.cons rfl (.cons rfl (.cons rfl (.cons rfl (.cons rfl (.cons rfl (.nil _)))))))) (.keep (.keep (.nil))) ?_ ?_
  · refine cw_regionA (fun j => match j with | 8 => none | _ => some []) ?_
    refine Rb 0 [1,2,7] [3,4,5,6,8,9] rfl (q_ldA rfl rfl (fun _ => rfl) rfl Mm rfl) ?_
    refine Rb 1 [7] [2,3,4,5,6,8,9] rfl Qp ?_
    refine ra_two 2 7 Kr ?_ ?_
    · refine rw_callv (orangerylaw_accepted_2_spec 3 4 0 1 4) (.an rfl rfl) (guard_none rfl) rfl rfl rfl rfl rfl Kr rfl rfl rfl Sm ?_
      intro x8
      refine Pr EInt x8 ((orangerylaw_accepted_2 3 4 0 1 4).roots) 8 fun hlen10 => ?_
      refine ra_two 3 7 Kr ?_ ?_
      · refine rw_call (hub_Next_spec x6.1 x6.2.1 x6.2.2 ((hub_Replay [(orangerylaw_accepted_1 1), (orangerylaw_accepted_2 1 2 0 1 1), (orangerylaw_accepted_2 2 3 2 1 2), (⟨3, 1, 0, [2], (⟨0, 0, 0, 0, 0, 0, 0⟩ : Op)⟩ : Rec)]).1) x8 (orangerylaw_accepted_2 3 4 0 1 4)) (.an rfl rfl) (guard_none rfl) rfl rfl rfl Kr rfl rfl Sm ?_
        intro x9
        refine Pr EStep x9.1 ((((hub_Next ((hub_Replay [(orangerylaw_accepted_1 1), (orangerylaw_accepted_2 1 2 0 1 1), (orangerylaw_accepted_2 2 3 2 1 2), (⟨3, 1, 0, [2], (⟨0, 0, 0, 0, 0, 0, 0⟩ : Op)⟩ : Rec)]).1) (orangerylaw_accepted_2 3 4 0 1 4)).1).h).l) 88 fun hlen11 => ?_
        refine Pr EPlace x9.2.1 ((((hub_Next ((hub_Replay [(orangerylaw_accepted_1 1), (orangerylaw_accepted_2 1 2 0 1 1), (orangerylaw_accepted_2 2 3 2 1 2), (⟨3, 1, 0, [2], (⟨0, 0, 0, 0, 0, 0, 0⟩ : Op)⟩ : Rec)]).1) (orangerylaw_accepted_2 3 4 0 1 4)).1).h).t) 24 fun hlen12 => ?_
        refine Pm NPeer x9.2.2 (((hub_Next ((hub_Replay [(orangerylaw_accepted_1 1), (orangerylaw_accepted_2 1 2 0 1 1), (orangerylaw_accepted_2 2 3 2 1 2), (⟨3, 1, 0, [2], (⟨0, 0, 0, 0, 0, 0, 0⟩ : Op)⟩ : Rec)]).1) (orangerylaw_accepted_2 3 4 0 1 4)).1).peers) 40 fun hlen13 => ?_
        refine Ra 4 [7] rfl Qp ?_
        refine Ra 5 [6,7] rfl Qp ?_
        refine ra_p (.an (i := 6) (js := [7, 8]) rfl Kr Kr Kr Kr) rfl rfl rfl (q_pev rfl (fun _ => rfl)) ?_
        refine ra_one 7 Kr ?_
        refine rw_alloc (.an rfl rfl) (guard_none rfl) rfl rfl rfl rfl fun g3 => ?_
        refine ra_one 8 Kr ?_
        refine rw_stA (.lo [g3] rfl rfl) (.inr (by simp)) (guard_none rfl) rfl rfl rfl rfl rfl rfl rfl rfl rfl Ub rfl ?_
        refine Ra 9 [] rfl Qp ?_
        refine ra_nil Kr ?_
        refine ⟨⟨⟩, trivial, Le4⟩
      · refine rw_alloc (.an rfl rfl) (guard_none rfl) rfl rfl rfl rfl fun g4 => ?_
        refine ra_one 3 Kr ?_
        refine rw_call (hub_Next_spec x6.1 x6.2.1 x6.2.2 ((hub_Replay [(orangerylaw_accepted_1 1), (orangerylaw_accepted_2 1 2 0 1 1), (orangerylaw_accepted_2 2 3 2 1 2), (⟨3, 1, 0, [2], (⟨0, 0, 0, 0, 0, 0, 0⟩ : Op)⟩ : Rec)]).1) x8 (orangerylaw_accepted_2 3 4 0 1 4)) (.an rfl rfl) (guard_none rfl) rfl rfl rfl Kr rfl rfl Sm ?_
        intro x10
        refine Pr EStep x10.1 ((((hub_Next ((hub_Replay [(orangerylaw_accepted_1 1), (orangerylaw_accepted_2 1 2 0 1 1), (orangerylaw_accepted_2 2 3 2 1 2), (⟨3, 1, 0, [2], (⟨0, 0, 0, 0, 0, 0, 0⟩ : Op)⟩ : Rec)]).1) (orangerylaw_accepted_2 3 4 0 1 4)).1).h).l) 88 fun hlen14 => ?_
        refine Pr EPlace x10.2.1 ((((hub_Next ((hub_Replay [(orangerylaw_accepted_1 1), (orangerylaw_accepted_2 1 2 0 1 1), (orangerylaw_accepted_2 2 3 2 1 2), (⟨3, 1, 0, [2], (⟨0, 0, 0, 0, 0, 0, 0⟩ : Op)⟩ : Rec)]).1) (orangerylaw_accepted_2 3 4 0 1 4)).1).h).t) 24 fun hlen15 => ?_
        refine Pm NPeer x10.2.2 (((hub_Next ((hub_Replay [(orangerylaw_accepted_1 1), (orangerylaw_accepted_2 1 2 0 1 1), (orangerylaw_accepted_2 2 3 2 1 2), (⟨3, 1, 0, [2], (⟨0, 0, 0, 0, 0, 0, 0⟩ : Op)⟩ : Rec)]).1) (orangerylaw_accepted_2 3 4 0 1 4)).1).peers) 40 fun hlen16 => ?_
        refine Ra 4 [] rfl Qp ?_
        refine Ra 5 [6] rfl Qp ?_
        refine ra_p (.an (i := 6) (js := [8]) rfl Kr Kr Kr Kr) rfl rfl rfl (q_pev rfl (fun _ => rfl)) ?_
        refine ra_one 8 Kr ?_
        refine rw_stA (.lo [g4] rfl rfl) (.inr (by simp)) (guard_none rfl) rfl rfl rfl rfl rfl rfl rfl rfl rfl Ub rfl ?_
        refine Ra 9 [] rfl Qp ?_
        refine ra_nil Kr ?_
        refine ⟨⟨⟩, trivial, Le4⟩
    · refine rw_alloc (.an rfl rfl) (guard_none rfl) rfl rfl rfl rfl fun g5 => ?_
      refine ra_one 2 Kr ?_
      refine rw_callv (orangerylaw_accepted_2_spec 3 4 0 1 4) (.an rfl rfl) (guard_none rfl) rfl rfl rfl rfl rfl Kr rfl rfl rfl Sm ?_
      intro x11
      refine Pr EInt x11 ((orangerylaw_accepted_2 3 4 0 1 4).roots) 8 fun hlen17 => ?_
      refine ra_one 3 Kr ?_
      refine rw_call (hub_Next_spec x6.1 x6.2.1 x6.2.2 ((hub_Replay [(orangerylaw_accepted_1 1), (orangerylaw_accepted_2 1 2 0 1 1), (orangerylaw_accepted_2 2 3 2 1 2), (⟨3, 1, 0, [2], (⟨0, 0, 0, 0, 0, 0, 0⟩ : Op)⟩ : Rec)]).1) x11 (orangerylaw_accepted_2 3 4 0 1 4)) (.an rfl rfl) (guard_none rfl) rfl rfl rfl Kr rfl rfl Sm ?_
      intro x12
      refine Pr EStep x12.1 ((((hub_Next ((hub_Replay [(orangerylaw_accepted_1 1), (orangerylaw_accepted_2 1 2 0 1 1), (orangerylaw_accepted_2 2 3 2 1 2), (⟨3, 1, 0, [2], (⟨0, 0, 0, 0, 0, 0, 0⟩ : Op)⟩ : Rec)]).1) (orangerylaw_accepted_2 3 4 0 1 4)).1).h).l) 88 fun hlen18 => ?_
      refine Pr EPlace x12.2.1 ((((hub_Next ((hub_Replay [(orangerylaw_accepted_1 1), (orangerylaw_accepted_2 1 2 0 1 1), (orangerylaw_accepted_2 2 3 2 1 2), (⟨3, 1, 0, [2], (⟨0, 0, 0, 0, 0, 0, 0⟩ : Op)⟩ : Rec)]).1) (orangerylaw_accepted_2 3 4 0 1 4)).1).h).t) 24 fun hlen19 => ?_
      refine Pm NPeer x12.2.2 (((hub_Next ((hub_Replay [(orangerylaw_accepted_1 1), (orangerylaw_accepted_2 1 2 0 1 1), (orangerylaw_accepted_2 2 3 2 1 2), (⟨3, 1, 0, [2], (⟨0, 0, 0, 0, 0, 0, 0⟩ : Op)⟩ : Rec)]).1) (orangerylaw_accepted_2 3 4 0 1 4)).1).peers) 40 fun hlen20 => ?_
      refine Ra 4 [] rfl Qp ?_
      refine Ra 5 [6] rfl Qp ?_
      refine ra_p (.an (i := 6) (js := [8]) rfl Kr Kr Kr Kr) rfl rfl rfl (q_pev rfl (fun _ => rfl)) ?_
      refine ra_one 8 Kr ?_
      refine rw_stA (.lo [g5] rfl rfl) (.inr (by simp)) (guard_none rfl) rfl rfl rfl rfl rfl rfl rfl rfl rfl Ub rfl ?_
      refine Ra 9 [] rfl Qp ?_
      refine ra_nil Kr ?_
      refine ⟨⟨⟩, trivial, Le4⟩
  · rintro _ -
    simp only [List.cons_append, List.nil_append]
    (repeat refine cw_seq ?_)
    refine cw_join [0, 2, 3, 4, 5, 6, 8] [true, true] (fun (i_ : Nat × SlV × SlV × SlV) => match i_ with | ⟨g6, x13, x14, x15⟩ => [(9, .v (.pointer (some ⟨g6, 0, none⟩))), (10, .v (.int .i64 ((hub_Next ((hub_Replay [(orangerylaw_accepted_1 1), (orangerylaw_accepted_2 1 2 0 1 1), (orangerylaw_accepted_2 2 3 2 1 2), (⟨3, 1, 0, [2], (⟨0, 0, 0, 0, 0, 0, 0⟩ : Op)⟩ : Rec)]).1) (orangerylaw_accepted_1 2)).2)))]) (fun (i_ : Nat × SlV × SlV × SlV) => match i_ with | ⟨g6, x13, x14, x15⟩ => [⟨g6, 131, [x13.val ((((hub_Next ((hub_Replay [(orangerylaw_accepted_1 1), (orangerylaw_accepted_2 1 2 0 1 1), (orangerylaw_accepted_2 2 3 2 1 2), (⟨3, 1, 0, [2], (⟨0, 0, 0, 0, 0, 0, 0⟩ : Op)⟩ : Rec)]).1) (orangerylaw_accepted_1 2)).1).h).l).length, x14.val ((((hub_Next ((hub_Replay [(orangerylaw_accepted_1 1), (orangerylaw_accepted_2 1 2 0 1 1), (orangerylaw_accepted_2 2 3 2 1 2), (⟨3, 1, 0, [2], (⟨0, 0, 0, 0, 0, 0, 0⟩ : Op)⟩ : Rec)]).1) (orangerylaw_accepted_1 2)).1).h).t).length, .int .i64 (((hub_Next ((hub_Replay [(orangerylaw_accepted_1 1), (orangerylaw_accepted_2 1 2 0 1 1), (orangerylaw_accepted_2 2 3 2 1 2), (⟨3, 1, 0, [2], (⟨0, 0, 0, 0, 0, 0, 0⟩ : Op)⟩ : Rec)]).1) (orangerylaw_accepted_1 2)).1).version), x15.val (((hub_Next ((hub_Replay [(orangerylaw_accepted_1 1), (orangerylaw_accepted_2 1 2 0 1 1), (orangerylaw_accepted_2 2 3 2 1 2), (⟨3, 1, 0, [2], (⟨0, 0, 0, 0, 0, 0, 0⟩ : Op)⟩ : Rec)]).1) (orangerylaw_accepted_1 2)).1).peers).length]⟩]) (fun (i_ : Nat × SlV × SlV × SlV) => match i_ with | ⟨g6, x13, x14, x15⟩ => []) (fun (i_ : Nat × SlV × SlV × SlV) => match i_ with | ⟨g6, x13, x14, x15⟩ => [RdL EStep x13 ((((hub_Next ((hub_Replay [(orangerylaw_accepted_1 1), (orangerylaw_accepted_2 1 2 0 1 1), (orangerylaw_accepted_2 2 3 2 1 2), (⟨3, 1, 0, [2], (⟨0, 0, 0, 0, 0, 0, 0⟩ : Op)⟩ : Rec)]).1) (orangerylaw_accepted_1 2)).1).h).l), RdL EPlace x14 ((((hub_Next ((hub_Replay [(orangerylaw_accepted_1 1), (orangerylaw_accepted_2 1 2 0 1 1), (orangerylaw_accepted_2 2 3 2 1 2), (⟨3, 1, 0, [2], (⟨0, 0, 0, 0, 0, 0, 0⟩ : Op)⟩ : Rec)]).1) (orangerylaw_accepted_1 2)).1).h).t), RdN NPeer x15 (((hub_Next ((hub_Replay [(orangerylaw_accepted_1 1), (orangerylaw_accepted_2 1 2 0 1 1), (orangerylaw_accepted_2 2 3 2 1 2), (⟨3, 1, 0, [2], (⟨0, 0, 0, 0, 0, 0, 0⟩ : Op)⟩ : Rec)]).1) (orangerylaw_accepted_1 2)).1).peers)]) (fun _ => True) (.cons rfl (.cons rfl (.cons rfl (.cons rfl (.cons rfl (.cons rfl (.cons rfl (.nil _)))))))) (.keep (.keep (.nil))) ?_ ?_
    · refine cw_regionA (fun j => match j with | 8 => none | _ => some []) ?_
      refine Rb 0 [1,2,7] [3,4,5,6,8,9] rfl (q_ldA rfl rfl (fun _ => rfl) rfl Mm rfl) ?_
      refine Rb 1 [7] [2,3,4,5,6,8,9] rfl Qp ?_
      refine ra_two 2 7 Kr ?_ ?_
      · refine rw_callv (orangerylaw_accepted_1_spec 2) (.an rfl rfl) (guard_none rfl) rfl rfl rfl rfl rfl Kr rfl rfl rfl Sm ?_
        intro x16
        refine Pr EInt x16 ((orangerylaw_accepted_1 2).roots) 8 fun hlen21 => ?_
        refine ra_two 3 7 Kr ?_ ?_
        · refine rw_call (hub_Next_spec x6.1 x6.2.1 x6.2.2 ((hub_Replay [(orangerylaw_accepted_1 1), (orangerylaw_accepted_2 1 2 0 1 1), (orangerylaw_accepted_2 2 3 2 1 2), (⟨3, 1, 0, [2], (⟨0, 0, 0, 0, 0, 0, 0⟩ : Op)⟩ : Rec)]).1) x16 (orangerylaw_accepted_1 2)) (.an rfl rfl) (guard_none rfl) rfl rfl rfl Kr rfl rfl Sm ?_
          intro x17
          refine Pr EStep x17.1 ((((hub_Next ((hub_Replay [(orangerylaw_accepted_1 1), (orangerylaw_accepted_2 1 2 0 1 1), (orangerylaw_accepted_2 2 3 2 1 2), (⟨3, 1, 0, [2], (⟨0, 0, 0, 0, 0, 0, 0⟩ : Op)⟩ : Rec)]).1) (orangerylaw_accepted_1 2)).1).h).l) 88 fun hlen22 => ?_
          refine Pr EPlace x17.2.1 ((((hub_Next ((hub_Replay [(orangerylaw_accepted_1 1), (orangerylaw_accepted_2 1 2 0 1 1), (orangerylaw_accepted_2 2 3 2 1 2), (⟨3, 1, 0, [2], (⟨0, 0, 0, 0, 0, 0, 0⟩ : Op)⟩ : Rec)]).1) (orangerylaw_accepted_1 2)).1).h).t) 24 fun hlen23 => ?_
          refine Pm NPeer x17.2.2 (((hub_Next ((hub_Replay [(orangerylaw_accepted_1 1), (orangerylaw_accepted_2 1 2 0 1 1), (orangerylaw_accepted_2 2 3 2 1 2), (⟨3, 1, 0, [2], (⟨0, 0, 0, 0, 0, 0, 0⟩ : Op)⟩ : Rec)]).1) (orangerylaw_accepted_1 2)).1).peers) 40 fun hlen24 => ?_
          refine Ra 4 [7] rfl Qp ?_
          refine Ra 5 [6,7] rfl Qp ?_
          refine ra_p (.an (i := 6) (js := [7, 8]) rfl Kr Kr Kr Kr) rfl rfl rfl (q_pev rfl (fun _ => rfl)) ?_
          refine ra_one 7 Kr ?_
          refine rw_alloc (.an rfl rfl) (guard_none rfl) rfl rfl rfl rfl fun g7 => ?_
          refine ra_one 8 Kr ?_
          refine rw_stA (.lo [g7] rfl rfl) (.inr (by simp)) (guard_none rfl) rfl rfl rfl rfl rfl rfl rfl rfl rfl Ub rfl ?_
          refine Ra 9 [] rfl Qp ?_
          refine ra_nil Kr ?_
          refine ⟨⟨g7, x17.1, x17.2.1, x17.2.2⟩, trivial, Le4⟩
        · refine rw_alloc (.an rfl rfl) (guard_none rfl) rfl rfl rfl rfl fun g8 => ?_
          refine ra_one 3 Kr ?_
          refine rw_call (hub_Next_spec x6.1 x6.2.1 x6.2.2 ((hub_Replay [(orangerylaw_accepted_1 1), (orangerylaw_accepted_2 1 2 0 1 1), (orangerylaw_accepted_2 2 3 2 1 2), (⟨3, 1, 0, [2], (⟨0, 0, 0, 0, 0, 0, 0⟩ : Op)⟩ : Rec)]).1) x16 (orangerylaw_accepted_1 2)) (.an rfl rfl) (guard_none rfl) rfl rfl rfl Kr rfl rfl Sm ?_
          intro x18
          refine Pr EStep x18.1 ((((hub_Next ((hub_Replay [(orangerylaw_accepted_1 1), (orangerylaw_accepted_2 1 2 0 1 1), (orangerylaw_accepted_2 2 3 2 1 2), (⟨3, 1, 0, [2], (⟨0, 0, 0, 0, 0, 0, 0⟩ : Op)⟩ : Rec)]).1) (orangerylaw_accepted_1 2)).1).h).l) 88 fun hlen25 => ?_
          refine Pr EPlace x18.2.1 ((((hub_Next ((hub_Replay [(orangerylaw_accepted_1 1), (orangerylaw_accepted_2 1 2 0 1 1), (orangerylaw_accepted_2 2 3 2 1 2), (⟨3, 1, 0, [2], (⟨0, 0, 0, 0, 0, 0, 0⟩ : Op)⟩ : Rec)]).1) (orangerylaw_accepted_1 2)).1).h).t) 24 fun hlen26 => ?_
          refine Pm NPeer x18.2.2 (((hub_Next ((hub_Replay [(orangerylaw_accepted_1 1), (orangerylaw_accepted_2 1 2 0 1 1), (orangerylaw_accepted_2 2 3 2 1 2), (⟨3, 1, 0, [2], (⟨0, 0, 0, 0, 0, 0, 0⟩ : Op)⟩ : Rec)]).1) (orangerylaw_accepted_1 2)).1).peers) 40 fun hlen27 => ?_
          refine Ra 4 [] rfl Qp ?_
          refine Ra 5 [6] rfl Qp ?_
          refine ra_p (.an (i := 6) (js := [8]) rfl Kr Kr Kr Kr) rfl rfl rfl (q_pev rfl (fun _ => rfl)) ?_
          refine ra_one 8 Kr ?_
          refine rw_stA (.lo [g8] rfl rfl) (.inr (by simp)) (guard_none rfl) rfl rfl rfl rfl rfl rfl rfl rfl rfl Ub rfl ?_
          refine Ra 9 [] rfl Qp ?_
          refine ra_nil Kr ?_
          refine ⟨⟨g8, x18.1, x18.2.1, x18.2.2⟩, trivial, Le4⟩
      · refine rw_alloc (.an rfl rfl) (guard_none rfl) rfl rfl rfl rfl fun g9 => ?_
        refine ra_one 2 Kr ?_
        refine rw_callv (orangerylaw_accepted_1_spec 2) (.an rfl rfl) (guard_none rfl) rfl rfl rfl rfl rfl Kr rfl rfl rfl Sm ?_
        intro x19
        refine Pr EInt x19 ((orangerylaw_accepted_1 2).roots) 8 fun hlen28 => ?_
        refine ra_one 3 Kr ?_
        refine rw_call (hub_Next_spec x6.1 x6.2.1 x6.2.2 ((hub_Replay [(orangerylaw_accepted_1 1), (orangerylaw_accepted_2 1 2 0 1 1), (orangerylaw_accepted_2 2 3 2 1 2), (⟨3, 1, 0, [2], (⟨0, 0, 0, 0, 0, 0, 0⟩ : Op)⟩ : Rec)]).1) x19 (orangerylaw_accepted_1 2)) (.an rfl rfl) (guard_none rfl) rfl rfl rfl Kr rfl rfl Sm ?_
        intro x20
        refine Pr EStep x20.1 ((((hub_Next ((hub_Replay [(orangerylaw_accepted_1 1), (orangerylaw_accepted_2 1 2 0 1 1), (orangerylaw_accepted_2 2 3 2 1 2), (⟨3, 1, 0, [2], (⟨0, 0, 0, 0, 0, 0, 0⟩ : Op)⟩ : Rec)]).1) (orangerylaw_accepted_1 2)).1).h).l) 88 fun hlen29 => ?_
        refine Pr EPlace x20.2.1 ((((hub_Next ((hub_Replay [(orangerylaw_accepted_1 1), (orangerylaw_accepted_2 1 2 0 1 1), (orangerylaw_accepted_2 2 3 2 1 2), (⟨3, 1, 0, [2], (⟨0, 0, 0, 0, 0, 0, 0⟩ : Op)⟩ : Rec)]).1) (orangerylaw_accepted_1 2)).1).h).t) 24 fun hlen30 => ?_
        refine Pm NPeer x20.2.2 (((hub_Next ((hub_Replay [(orangerylaw_accepted_1 1), (orangerylaw_accepted_2 1 2 0 1 1), (orangerylaw_accepted_2 2 3 2 1 2), (⟨3, 1, 0, [2], (⟨0, 0, 0, 0, 0, 0, 0⟩ : Op)⟩ : Rec)]).1) (orangerylaw_accepted_1 2)).1).peers) 40 fun hlen31 => ?_
        refine Ra 4 [] rfl Qp ?_
        refine Ra 5 [6] rfl Qp ?_
        refine ra_p (.an (i := 6) (js := [8]) rfl Kr Kr Kr Kr) rfl rfl rfl (q_pev rfl (fun _ => rfl)) ?_
        refine ra_one 8 Kr ?_
        refine rw_stA (.lo [g9] rfl rfl) (.inr (by simp)) (guard_none rfl) rfl rfl rfl rfl rfl rfl rfl rfl rfl Ub rfl ?_
        refine Ra 9 [] rfl Qp ?_
        refine ra_nil Kr ?_
        refine ⟨⟨g9, x20.1, x20.2.1, x20.2.2⟩, trivial, Le4⟩
    · rintro ⟨g6, x13, x14, x15⟩ -
      simp only [List.cons_append, List.nil_append]
      (repeat refine cw_seq ?_)
      refine cw_join [0, 2, 3, 4, 5, 6, 8, 9, 10] [true, true, true] (fun (_ : Unit) => [(12, .v (.int .i64 ((hub_Next ((hub_Next ((hub_Replay [(orangerylaw_accepted_1 1), (orangerylaw_accepted_2 1 2 0 1 1), (orangerylaw_accepted_2 2 3 2 1 2), (⟨3, 1, 0, [2], (⟨0, 0, 0, 0, 0, 0, 0⟩ : Op)⟩ : Rec)]).1) (orangerylaw_accepted_1 2)).1) (orangerylaw_accepted_2 3 4 0 1 3)).2)))]) (fun (_ : Unit) => []) (fun (_ : Unit) => []) (fun (_ : Unit) => []) (fun _ => True) (.cons rfl (.cons rfl (.cons rfl (.cons rfl (.cons rfl (.cons rfl (.cons rfl (.cons rfl (.cons rfl (.nil _)))))))))) (.keep (.keep (.keep (.nil)))) ?_ ?_
      · refine cw_regionA (fun j => match j with | 8 => none | _ => some []) ?_
        refine Rb 0 [1,2,7] [3,4,5,6,8,9] rfl (q_ldA rfl rfl (fun _ => rfl) rfl Mm rfl) ?_
        refine Rb 1 [7] [2,3,4,5,6,8,9] rfl Qp ?_
        refine ra_two 2 7 Kr ?_ ?_
        · refine rw_callv (orangerylaw_accepted_2_spec 3 4 0 1 3) (.an rfl rfl) (guard_none rfl) rfl rfl rfl rfl rfl Kr rfl rfl rfl Sm ?_
          intro x21
          refine Pr EInt x21 ((orangerylaw_accepted_2 3 4 0 1 3).roots) 8 fun hlen32 => ?_
          refine ra_two 3 7 Kr ?_ ?_
          · refine rw_call (hub_Next_spec x13 x14 x15 ((hub_Next ((hub_Replay [(orangerylaw_accepted_1 1), (orangerylaw_accepted_2 1 2 0 1 1), (orangerylaw_accepted_2 2 3 2 1 2), (⟨3, 1, 0, [2], (⟨0, 0, 0, 0, 0, 0, 0⟩ : Op)⟩ : Rec)]).1) (orangerylaw_accepted_1 2)).1) x21 (orangerylaw_accepted_2 3 4 0 1 3)) (.an rfl rfl) (guard_none rfl) rfl rfl rfl Kr rfl rfl Sm ?_
            intro x22
            refine Pr EStep x22.1 ((((hub_Next ((hub_Next ((hub_Replay [(orangerylaw_accepted_1 1), (orangerylaw_accepted_2 1 2 0 1 1), (orangerylaw_accepted_2 2 3 2 1 2), (⟨3, 1, 0, [2], (⟨0, 0, 0, 0, 0, 0, 0⟩ : Op)⟩ : Rec)]).1) (orangerylaw_accepted_1 2)).1) (orangerylaw_accepted_2 3 4 0 1 3)).1).h).l) 88 fun hlen33 => ?_
            refine Pr EPlace x22.2.1 ((((hub_Next ((hub_Next ((hub_Replay [(orangerylaw_accepted_1 1), (orangerylaw_accepted_2 1 2 0 1 1), (orangerylaw_accepted_2 2 3 2 1 2), (⟨3, 1, 0, [2], (⟨0, 0, 0, 0, 0, 0, 0⟩ : Op)⟩ : Rec)]).1) (orangerylaw_accepted_1 2)).1) (orangerylaw_accepted_2 3 4 0 1 3)).1).h).t) 24 fun hlen34 => ?_
            refine Pm NPeer x22.2.2 (((hub_Next ((hub_Next ((hub_Replay [(orangerylaw_accepted_1 1), (orangerylaw_accepted_2 1 2 0 1 1), (orangerylaw_accepted_2 2 3 2 1 2), (⟨3, 1, 0, [2], (⟨0, 0, 0, 0, 0, 0, 0⟩ : Op)⟩ : Rec)]).1) (orangerylaw_accepted_1 2)).1) (orangerylaw_accepted_2 3 4 0 1 3)).1).peers) 40 fun hlen35 => ?_
            refine Ra 4 [7] rfl Qp ?_
            refine Ra 5 [6,7] rfl Qp ?_
            refine ra_p (.an (i := 6) (js := [7, 8]) rfl Kr Kr Kr Kr) rfl rfl rfl (q_pev rfl (fun _ => rfl)) ?_
            refine ra_one 7 Kr ?_
            refine rw_alloc (.an rfl rfl) (guard_none rfl) rfl rfl rfl rfl fun g10 => ?_
            refine ra_one 8 Kr ?_
            refine rw_stA (.lo [g10] rfl rfl) (.inr (by simp)) (guard_none rfl) rfl rfl rfl rfl rfl rfl rfl rfl rfl Ub rfl ?_
            refine Ra 9 [] rfl Qp ?_
            refine ra_nil Kr ?_
            refine ⟨⟨⟩, trivial, Le4⟩
          · refine rw_alloc (.an rfl rfl) (guard_none rfl) rfl rfl rfl rfl fun g11 => ?_
            refine ra_one 3 Kr ?_
            refine rw_call (hub_Next_spec x13 x14 x15 ((hub_Next ((hub_Replay [(orangerylaw_accepted_1 1), (orangerylaw_accepted_2 1 2 0 1 1), (orangerylaw_accepted_2 2 3 2 1 2), (⟨3, 1, 0, [2], (⟨0, 0, 0, 0, 0, 0, 0⟩ : Op)⟩ : Rec)]).1) (orangerylaw_accepted_1 2)).1) x21 (orangerylaw_accepted_2 3 4 0 1 3)) (.an rfl rfl) (guard_none rfl) rfl rfl rfl Kr rfl rfl Sm ?_
            intro x23
            refine Pr EStep x23.1 ((((hub_Next ((hub_Next ((hub_Replay [(orangerylaw_accepted_1 1), (orangerylaw_accepted_2 1 2 0 1 1), (orangerylaw_accepted_2 2 3 2 1 2), (⟨3, 1, 0, [2], (⟨0, 0, 0, 0, 0, 0, 0⟩ : Op)⟩ : Rec)]).1) (orangerylaw_accepted_1 2)).1) (orangerylaw_accepted_2 3 4 0 1 3)).1).h).l) 88 fun hlen36 => ?_
            refine Pr EPlace x23.2.1 ((((hub_Next ((hub_Next ((hub_Replay [(orangerylaw_accepted_1 1), (orangerylaw_accepted_2 1 2 0 1 1), (orangerylaw_accepted_2 2 3 2 1 2), (⟨3, 1, 0, [2], (⟨0, 0, 0, 0, 0, 0, 0⟩ : Op)⟩ : Rec)]).1) (orangerylaw_accepted_1 2)).1) (orangerylaw_accepted_2 3 4 0 1 3)).1).h).t) 24 fun hlen37 => ?_
            refine Pm NPeer x23.2.2 (((hub_Next ((hub_Next ((hub_Replay [(orangerylaw_accepted_1 1), (orangerylaw_accepted_2 1 2 0 1 1), (orangerylaw_accepted_2 2 3 2 1 2), (⟨3, 1, 0, [2], (⟨0, 0, 0, 0, 0, 0, 0⟩ : Op)⟩ : Rec)]).1) (orangerylaw_accepted_1 2)).1) (orangerylaw_accepted_2 3 4 0 1 3)).1).peers) 40 fun hlen38 => ?_
            refine Ra 4 [] rfl Qp ?_
            refine Ra 5 [6] rfl Qp ?_
            refine ra_p (.an (i := 6) (js := [8]) rfl Kr Kr Kr Kr) rfl rfl rfl (q_pev rfl (fun _ => rfl)) ?_
            refine ra_one 8 Kr ?_
            refine rw_stA (.lo [g11] rfl rfl) (.inr (by simp)) (guard_none rfl) rfl rfl rfl rfl rfl rfl rfl rfl rfl Ub rfl ?_
            refine Ra 9 [] rfl Qp ?_
            refine ra_nil Kr ?_
            refine ⟨⟨⟩, trivial, Le4⟩
        · refine rw_alloc (.an rfl rfl) (guard_none rfl) rfl rfl rfl rfl fun g12 => ?_
          refine ra_one 2 Kr ?_
          refine rw_callv (orangerylaw_accepted_2_spec 3 4 0 1 3) (.an rfl rfl) (guard_none rfl) rfl rfl rfl rfl rfl Kr rfl rfl rfl Sm ?_
          intro x24
          refine Pr EInt x24 ((orangerylaw_accepted_2 3 4 0 1 3).roots) 8 fun hlen39 => ?_
          refine ra_one 3 Kr ?_
          refine rw_call (hub_Next_spec x13 x14 x15 ((hub_Next ((hub_Replay [(orangerylaw_accepted_1 1), (orangerylaw_accepted_2 1 2 0 1 1), (orangerylaw_accepted_2 2 3 2 1 2), (⟨3, 1, 0, [2], (⟨0, 0, 0, 0, 0, 0, 0⟩ : Op)⟩ : Rec)]).1) (orangerylaw_accepted_1 2)).1) x24 (orangerylaw_accepted_2 3 4 0 1 3)) (.an rfl rfl) (guard_none rfl) rfl rfl rfl Kr rfl rfl Sm ?_
          intro x25
          refine Pr EStep x25.1 ((((hub_Next ((hub_Next ((hub_Replay [(orangerylaw_accepted_1 1), (orangerylaw_accepted_2 1 2 0 1 1), (orangerylaw_accepted_2 2 3 2 1 2), (⟨3, 1, 0, [2], (⟨0, 0, 0, 0, 0, 0, 0⟩ : Op)⟩ : Rec)]).1) (orangerylaw_accepted_1 2)).1) (orangerylaw_accepted_2 3 4 0 1 3)).1).h).l) 88 fun hlen40 => ?_
          refine Pr EPlace x25.2.1 ((((hub_Next ((hub_Next ((hub_Replay [(orangerylaw_accepted_1 1), (orangerylaw_accepted_2 1 2 0 1 1), (orangerylaw_accepted_2 2 3 2 1 2), (⟨3, 1, 0, [2], (⟨0, 0, 0, 0, 0, 0, 0⟩ : Op)⟩ : Rec)]).1) (orangerylaw_accepted_1 2)).1) (orangerylaw_accepted_2 3 4 0 1 3)).1).h).t) 24 fun hlen41 => ?_
          refine Pm NPeer x25.2.2 (((hub_Next ((hub_Next ((hub_Replay [(orangerylaw_accepted_1 1), (orangerylaw_accepted_2 1 2 0 1 1), (orangerylaw_accepted_2 2 3 2 1 2), (⟨3, 1, 0, [2], (⟨0, 0, 0, 0, 0, 0, 0⟩ : Op)⟩ : Rec)]).1) (orangerylaw_accepted_1 2)).1) (orangerylaw_accepted_2 3 4 0 1 3)).1).peers) 40 fun hlen42 => ?_
          refine Ra 4 [] rfl Qp ?_
          refine Ra 5 [6] rfl Qp ?_
          refine ra_p (.an (i := 6) (js := [8]) rfl Kr Kr Kr Kr) rfl rfl rfl (q_pev rfl (fun _ => rfl)) ?_
          refine ra_one 8 Kr ?_
          refine rw_stA (.lo [g12] rfl rfl) (.inr (by simp)) (guard_none rfl) rfl rfl rfl rfl rfl rfl rfl rfl rfl Ub rfl ?_
          refine Ra 9 [] rfl Qp ?_
          refine ra_nil Kr ?_
          refine ⟨⟨⟩, trivial, Le4⟩
      · rintro _ -
        simp only [List.cons_append, List.nil_append]
        (repeat refine cw_seq ?_)
        refine cw_join [0, 3, 4, 5, 6, 8, 9, 10, 12] [true, true, true] (fun (_ : Unit) => [(14, .v (.int .i64 ((hub_Next ((hub_Next ((hub_Replay [(orangerylaw_accepted_1 1), (orangerylaw_accepted_2 1 2 0 1 1), (orangerylaw_accepted_2 2 3 2 1 2), (⟨3, 1, 0, [2], (⟨0, 0, 0, 0, 0, 0, 0⟩ : Op)⟩ : Rec)]).1) (orangerylaw_accepted_1 2)).1) (orangerylaw_accepted_2 3 4 0 2 1)).2)))]) (fun (_ : Unit) => []) (fun (_ : Unit) => []) (fun (_ : Unit) => []) (fun _ => True) (.cons rfl (.cons rfl (.cons rfl (.cons rfl (.cons rfl (.cons rfl (.cons rfl (.cons rfl (.cons rfl (.nil _)))))))))) (.keep (.keep (.keep (.nil)))) ?_ ?_
        · refine cw_regionA (fun j => match j with | 8 => none | _ => some []) ?_
          refine Rb 0 [1,2,7] [3,4,5,6,8,9] rfl (q_ldA rfl rfl (fun _ => rfl) rfl Mm rfl) ?_
          refine Rb 1 [7] [2,3,4,5,6,8,9] rfl Qp ?_
          refine ra_two 2 7 Kr ?_ ?_
          · refine rw_callv (orangerylaw_accepted_2_spec 3 4 0 2 1) (.an rfl rfl) (guard_none rfl) rfl rfl rfl rfl rfl Kr rfl rfl rfl Sm ?_
            intro x26
            refine Pr EInt x26 ((orangerylaw_accepted_2 3 4 0 2 1).roots) 8 fun hlen43 => ?_
            refine ra_two 3 7 Kr ?_ ?_
            · refine rw_call (hub_Next_spec x13 x14 x15 ((hub_Next ((hub_Replay [(orangerylaw_accepted_1 1), (orangerylaw_accepted_2 1 2 0 1 1), (orangerylaw_accepted_2 2 3 2 1 2), (⟨3, 1, 0, [2], (⟨0, 0, 0, 0, 0, 0, 0⟩ : Op)⟩ : Rec)]).1) (orangerylaw_accepted_1 2)).1) x26 (orangerylaw_accepted_2 3 4 0 2 1)) (.an rfl rfl) (guard_none rfl) rfl rfl rfl Kr rfl rfl Sm ?_
              intro x27
              refine Pr EStep x27.1 ((((hub_Next ((hub_Next ((hub_Replay [(orangerylaw_accepted_1 1), (orangerylaw_accepted_2 1 2 0 1 1), (orangerylaw_accepted_2 2 3 2 1 2), (⟨3, 1, 0, [2], (⟨0, 0, 0, 0, 0, 0, 0⟩ : Op)⟩ : Rec)]).1) (orangerylaw_accepted_1 2)).1) (orangerylaw_accepted_2 3 4 0 2 1)).1).h).l) 88 fun hlen44 => ?_
              refine Pr EPlace x27.2.1 ((((hub_Next ((hub_Next ((hub_Replay [(orangerylaw_accepted_1 1), (orangerylaw_accepted_2 1 2 0 1 1), (orangerylaw_accepted_2 2 3 2 1 2), (⟨3, 1, 0, [2], (⟨0, 0, 0, 0, 0, 0, 0⟩ : Op)⟩ : Rec)]).1) (orangerylaw_accepted_1 2)).1) (orangerylaw_accepted_2 3 4 0 2 1)).1).h).t) 24 fun hlen45 => ?_
              refine Pm NPeer x27.2.2 (((hub_Next ((hub_Next ((hub_Replay [(orangerylaw_accepted_1 1), (orangerylaw_accepted_2 1 2 0 1 1), (orangerylaw_accepted_2 2 3 2 1 2), (⟨3, 1, 0, [2], (⟨0, 0, 0, 0, 0, 0, 0⟩ : Op)⟩ : Rec)]).1) (orangerylaw_accepted_1 2)).1) (orangerylaw_accepted_2 3 4 0 2 1)).1).peers) 40 fun hlen46 => ?_
              refine Ra 4 [7] rfl Qp ?_
              refine Ra 5 [6,7] rfl Qp ?_
              refine ra_p (.an (i := 6) (js := [7, 8]) rfl Kr Kr Kr Kr) rfl rfl rfl (q_pev rfl (fun _ => rfl)) ?_
              refine ra_one 7 Kr ?_
              refine rw_alloc (.an rfl rfl) (guard_none rfl) rfl rfl rfl rfl fun g13 => ?_
              refine ra_one 8 Kr ?_
              refine rw_stA (.lo [g13] rfl rfl) (.inr (by simp)) (guard_none rfl) rfl rfl rfl rfl rfl rfl rfl rfl rfl Ub rfl ?_
              refine Ra 9 [] rfl Qp ?_
              refine ra_nil Kr ?_
              refine ⟨⟨⟩, trivial, Le4⟩
            · refine rw_alloc (.an rfl rfl) (guard_none rfl) rfl rfl rfl rfl fun g14 => ?_
              refine ra_one 3 Kr ?_
              refine rw_call (hub_Next_spec x13 x14 x15 ((hub_Next ((hub_Replay [(orangerylaw_accepted_1 1), (orangerylaw_accepted_2 1 2 0 1 1), (orangerylaw_accepted_2 2 3 2 1 2), (⟨3, 1, 0, [2], (⟨0, 0, 0, 0, 0, 0, 0⟩ : Op)⟩ : Rec)]).1) (orangerylaw_accepted_1 2)).1) x26 (orangerylaw_accepted_2 3 4 0 2 1)) (.an rfl rfl) (guard_none rfl) rfl rfl rfl Kr rfl rfl Sm ?_
              intro x28
              refine Pr EStep x28.1 ((((hub_Next ((hub_Next ((hub_Replay [(orangerylaw_accepted_1 1), (orangerylaw_accepted_2 1 2 0 1 1), (orangerylaw_accepted_2 2 3 2 1 2), (⟨3, 1, 0, [2], (⟨0, 0, 0, 0, 0, 0, 0⟩ : Op)⟩ : Rec)]).1) (orangerylaw_accepted_1 2)).1) (orangerylaw_accepted_2 3 4 0 2 1)).1).h).l) 88 fun hlen47 => ?_
              refine Pr EPlace x28.2.1 ((((hub_Next ((hub_Next ((hub_Replay [(orangerylaw_accepted_1 1), (orangerylaw_accepted_2 1 2 0 1 1), (orangerylaw_accepted_2 2 3 2 1 2), (⟨3, 1, 0, [2], (⟨0, 0, 0, 0, 0, 0, 0⟩ : Op)⟩ : Rec)]).1) (orangerylaw_accepted_1 2)).1) (orangerylaw_accepted_2 3 4 0 2 1)).1).h).t) 24 fun hlen48 => ?_
              refine Pm NPeer x28.2.2 (((hub_Next ((hub_Next ((hub_Replay [(orangerylaw_accepted_1 1), (orangerylaw_accepted_2 1 2 0 1 1), (orangerylaw_accepted_2 2 3 2 1 2), (⟨3, 1, 0, [2], (⟨0, 0, 0, 0, 0, 0, 0⟩ : Op)⟩ : Rec)]).1) (orangerylaw_accepted_1 2)).1) (orangerylaw_accepted_2 3 4 0 2 1)).1).peers) 40 fun hlen49 => ?_
              refine Ra 4 [] rfl Qp ?_
              refine Ra 5 [6] rfl Qp ?_
              refine ra_p (.an (i := 6) (js := [8]) rfl Kr Kr Kr Kr) rfl rfl rfl (q_pev rfl (fun _ => rfl)) ?_
              refine ra_one 8 Kr ?_
              refine rw_stA (.lo [g14] rfl rfl) (.inr (by simp)) (guard_none rfl) rfl rfl rfl rfl rfl rfl rfl rfl rfl Ub rfl ?_
              refine Ra 9 [] rfl Qp ?_
              refine ra_nil Kr ?_
              refine ⟨⟨⟩, trivial, Le4⟩
          · refine rw_alloc (.an rfl rfl) (guard_none rfl) rfl rfl rfl rfl fun g15 => ?_
            refine ra_one 2 Kr ?_
            refine rw_callv (orangerylaw_accepted_2_spec 3 4 0 2 1) (.an rfl rfl) (guard_none rfl) rfl rfl rfl rfl rfl Kr rfl rfl rfl Sm ?_
            intro x29
            refine Pr EInt x29 ((orangerylaw_accepted_2 3 4 0 2 1).roots) 8 fun hlen50 => ?_
            refine ra_one 3 Kr ?_
            refine rw_call (hub_Next_spec x13 x14 x15 ((hub_Next ((hub_Replay [(orangerylaw_accepted_1 1), (orangerylaw_accepted_2 1 2 0 1 1), (orangerylaw_accepted_2 2 3 2 1 2), (⟨3, 1, 0, [2], (⟨0, 0, 0, 0, 0, 0, 0⟩ : Op)⟩ : Rec)]).1) (orangerylaw_accepted_1 2)).1) x29 (orangerylaw_accepted_2 3 4 0 2 1)) (.an rfl rfl) (guard_none rfl) rfl rfl rfl Kr rfl rfl Sm ?_
            intro x30
            refine Pr EStep x30.1 ((((hub_Next ((hub_Next ((hub_Replay [(orangerylaw_accepted_1 1), (orangerylaw_accepted_2 1 2 0 1 1), (orangerylaw_accepted_2 2 3 2 1 2), (⟨3, 1, 0, [2], (⟨0, 0, 0, 0, 0, 0, 0⟩ : Op)⟩ : Rec)]).1) (orangerylaw_accepted_1 2)).1) (orangerylaw_accepted_2 3 4 0 2 1)).1).h).l) 88 fun hlen51 => ?_
            refine Pr EPlace x30.2.1 ((((hub_Next ((hub_Next ((hub_Replay [(orangerylaw_accepted_1 1), (orangerylaw_accepted_2 1 2 0 1 1), (orangerylaw_accepted_2 2 3 2 1 2), (⟨3, 1, 0, [2], (⟨0, 0, 0, 0, 0, 0, 0⟩ : Op)⟩ : Rec)]).1) (orangerylaw_accepted_1 2)).1) (orangerylaw_accepted_2 3 4 0 2 1)).1).h).t) 24 fun hlen52 => ?_
            refine Pm NPeer x30.2.2 (((hub_Next ((hub_Next ((hub_Replay [(orangerylaw_accepted_1 1), (orangerylaw_accepted_2 1 2 0 1 1), (orangerylaw_accepted_2 2 3 2 1 2), (⟨3, 1, 0, [2], (⟨0, 0, 0, 0, 0, 0, 0⟩ : Op)⟩ : Rec)]).1) (orangerylaw_accepted_1 2)).1) (orangerylaw_accepted_2 3 4 0 2 1)).1).peers) 40 fun hlen53 => ?_
            refine Ra 4 [] rfl Qp ?_
            refine Ra 5 [6] rfl Qp ?_
            refine ra_p (.an (i := 6) (js := [8]) rfl Kr Kr Kr Kr) rfl rfl rfl (q_pev rfl (fun _ => rfl)) ?_
            refine ra_one 8 Kr ?_
            refine rw_stA (.lo [g15] rfl rfl) (.inr (by simp)) (guard_none rfl) rfl rfl rfl rfl rfl rfl rfl rfl rfl Ub rfl ?_
            refine Ra 9 [] rfl Qp ?_
            refine ra_nil Kr ?_
            refine ⟨⟨⟩, trivial, Le4⟩
        · rintro _ -
          simp only [List.cons_append, List.nil_append]
          refine Tx ?_
          refine rw_exN NPeer (X := x6.2.2) (l := ((hub_Replay [(orangerylaw_accepted_1 1), (orangerylaw_accepted_2 1 2 0 1 1), (orangerylaw_accepted_2 2 3 2 1 2), (⟨3, 1, 0, [2], (⟨0, 0, 0, 0, 0, 0, 0⟩ : Op)⟩ : Rec)]).1).peers) Mm fun (γ1 : Nat → SlV) => ?_
          refine rw_qg (guard_vt rfl rfl rfl) rfl rfl (q_idxN NPeer γ1 1 rfl rfl Bt rfl Bt rfl rfl rfl Mm rfl (by intro h; first | omega | rfl | (simp at h; omega)) (by first | (intro _; first | assumption | omega) | (intro h; simp at h; omega))) ?_
          refine rw_qg (guard_vt rfl rfl rfl) rfl rfl (q_fae rfl rfl Bt rfl rfl) ?_
          refine rw_qg (guard_vt rfl rfl rfl) rfl rfl (q_le1N NPeer γ1 (v := .int .i64 ((gt (((hub_Replay [(orangerylaw_accepted_1 1), (orangerylaw_accepted_2 1 2 0 1 1), (orangerylaw_accepted_2 2 3 2 1 2), (⟨3, 1, 0, [2], (⟨0, 0, 0, 0, 0, 0, 0⟩ : Op)⟩ : Rec)]).1).peers) 1).seq)) rfl rfl Bt rfl rfl Mm (by first | (intro _; first | assumption | omega) | (intro h; simp at h; omega)) rfl) ?_
          refine Tx ?_
          refine rw_exN NPeer (X := x15) (l := ((hub_Next ((hub_Replay [(orangerylaw_accepted_1 1), (orangerylaw_accepted_2 1 2 0 1 1), (orangerylaw_accepted_2 2 3 2 1 2), (⟨3, 1, 0, [2], (⟨0, 0, 0, 0, 0, 0, 0⟩ : Op)⟩ : Rec)]).1) (orangerylaw_accepted_1 2)).1).peers) Mm fun (γ2 : Nat → SlV) => ?_
          refine rw_qg (guard_vt rfl rfl rfl) rfl rfl (q_idxN NPeer γ2 1 rfl rfl Bt rfl Bt rfl rfl rfl Mm rfl (by intro h; first | omega | rfl | (simp at h; omega)) (by first | (intro _; first | assumption | omega) | (intro h; simp at h; omega))) ?_
          refine rw_qg (guard_vt rfl rfl rfl) rfl rfl (q_fae rfl rfl Bt rfl rfl) ?_
          refine rw_qg (guard_vt rfl rfl rfl) rfl rfl (q_le1N NPeer γ2 (v := .int .i64 ((gt (((hub_Next ((hub_Replay [(orangerylaw_accepted_1 1), (orangerylaw_accepted_2 1 2 0 1 1), (orangerylaw_accepted_2 2 3 2 1 2), (⟨3, 1, 0, [2], (⟨0, 0, 0, 0, 0, 0, 0⟩ : Op)⟩ : Rec)]).1) (orangerylaw_accepted_1 2)).1).peers) 1).seq)) rfl rfl Bt rfl rfl Mm (by first | (intro _; first | assumption | omega) | (intro h; simp at h; omega)) rfl) ?_
          refine Tx ?_
          refine rw_qg (guard_vt rfl rfl rfl) rfl rfl (q_idxN NPeer γ2 1 rfl rfl Bt rfl Bt rfl rfl rfl Mm rfl (by intro h; first | omega | rfl | (simp at h; omega)) (by first | (intro _; first | assumption | omega) | (intro h; simp at h; omega))) ?_
          refine rw_qg (guard_vt rfl rfl rfl) rfl rfl (q_fae rfl rfl Bt rfl rfl) ?_
          refine rw_qg (guard_vt rfl rfl rfl) rfl rfl (q_le1N NPeer γ2 (v := (γ2 1).val ((gt (((hub_Next ((hub_Replay [(orangerylaw_accepted_1 1), (orangerylaw_accepted_2 1 2 0 1 1), (orangerylaw_accepted_2 2 3 2 1 2), (⟨3, 1, 0, [2], (⟨0, 0, 0, 0, 0, 0, 0⟩ : Op)⟩ : Rec)]).1) (orangerylaw_accepted_1 2)).1).peers) 1).roots).length) rfl rfl Bt rfl rfl Mm (by first | (intro _; first | assumption | omega) | (intro h; simp at h; omega)) rfl) ?_
          refine Tx ?_
          refine rw_callg (fun hG_ => hub_Check_spec x6.1 x6.2.1 x6.2.2 ((hub_Replay [(orangerylaw_accepted_1 1), (orangerylaw_accepted_2 1 2 0 1 1), (orangerylaw_accepted_2 2 3 2 1 2), (⟨3, 1, 0, [2], (⟨0, 0, 0, 0, 0, 0, 0⟩ : Op)⟩ : Rec)]).1)) (fun _ => rfl) .sq (guard_vt rfl rfl rfl) rfl rfl rfl Kr rfl Bt Sm ?_
          refine Tx ?_
          refine rw_callg (fun hG_ => hub_Same_spec x6.1 x6.2.1 x6.2.2 ((hub_Replay [(orangerylaw_accepted_1 1), (orangerylaw_accepted_2 1 2 0 1 1), (orangerylaw_accepted_2 2 3 2 1 2), (⟨3, 1, 0, [2], (⟨0, 0, 0, 0, 0, 0, 0⟩ : Op)⟩ : Rec)]).1) x6.1 x6.2.1 x6.2.2 ((hub_Replay [(orangerylaw_accepted_1 1), (orangerylaw_accepted_2 1 2 0 1 1), (orangerylaw_accepted_2 2 3 2 1 2), (⟨3, 1, 0, [2], (⟨0, 0, 0, 0, 0, 0, 0⟩ : Op)⟩ : Rec)]).1)) (fun _ => rfl) .sq (guard_vt rfl rfl rfl) rfl rfl rfl Kr rfl Bt Sm ?_
          refine Tx ?_
          have hr1 : (orangerylaw_accepted) = (((((((((((((((hub_Replay [(orangerylaw_accepted_1 1), (orangerylaw_accepted_2 1 2 0 1 1), (orangerylaw_accepted_2 2 3 2 1 2), (⟨3, 1, 0, [2], (⟨0, 0, 0, 0, 0, 0, 0⟩ : Op)⟩ : Rec)]).2) == 0) && (((hub_Sees ((hub_Replay [(orangerylaw_accepted_1 1), (orangerylaw_accepted_2 1 2 0 1 1), (orangerylaw_accepted_2 2 3 2 1 2), (⟨3, 1, 0, [2], (⟨0, 0, 0, 0, 0, 0, 0⟩ : Op)⟩ : Rec)]).1) 1).2) == 0)) && (((hub_Next ((hub_Replay [(orangerylaw_accepted_1 1), (orangerylaw_accepted_2 1 2 0 1 1), (orangerylaw_accepted_2 2 3 2 1 2), (⟨3, 1, 0, [2], (⟨0, 0, 0, 0, 0, 0, 0⟩ : Op)⟩ : Rec)]).1) (orangerylaw_accepted_2 3 4 0 1 4)).2) == 7)) && (((hub_Next ((hub_Replay [(orangerylaw_accepted_1 1), (orangerylaw_accepted_2 1 2 0 1 1), (orangerylaw_accepted_2 2 3 2 1 2), (⟨3, 1, 0, [2], (⟨0, 0, 0, 0, 0, 0, 0⟩ : Op)⟩ : Rec)]).1) (orangerylaw_accepted_1 2)).2) == 0)) && (((hub_Next ((hub_Next ((hub_Replay [(orangerylaw_accepted_1 1), (orangerylaw_accepted_2 1 2 0 1 1), (orangerylaw_accepted_2 2 3 2 1 2), (⟨3, 1, 0, [2], (⟨0, 0, 0, 0, 0, 0, 0⟩ : Op)⟩ : Rec)]).1) (orangerylaw_accepted_1 2)).1) (orangerylaw_accepted_2 3 4 0 1 3)).2) == 7)) && (((hub_Next ((hub_Next ((hub_Replay [(orangerylaw_accepted_1 1), (orangerylaw_accepted_2 1 2 0 1 1), (orangerylaw_accepted_2 2 3 2 1 2), (⟨3, 1, 0, [2], (⟨0, 0, 0, 0, 0, 0, 0⟩ : Op)⟩ : Rec)]).1) (orangerylaw_accepted_1 2)).1) (orangerylaw_accepted_2 3 4 0 2 1)).2) == 0)) && ((((hub_Replay [(orangerylaw_accepted_1 1), (orangerylaw_accepted_2 1 2 0 1 1), (orangerylaw_accepted_2 2 3 2 1 2), (⟨3, 1, 0, [2], (⟨0, 0, 0, 0, 0, 0, 0⟩ : Op)⟩ : Rec)]).1).version) == 4)) && (((gt (((hub_Replay [(orangerylaw_accepted_1 1), (orangerylaw_accepted_2 1 2 0 1 1), (orangerylaw_accepted_2 2 3 2 1 2), (⟨3, 1, 0, [2], (⟨0, 0, 0, 0, 0, 0, 0⟩ : Op)⟩ : Rec)]).1).peers) 1).seq) == 2)) && (((((hub_Sees ((hub_Replay [(orangerylaw_accepted_1 1), (orangerylaw_accepted_2 1 2 0 1 1), (orangerylaw_accepted_2 2 3 2 1 2), (⟨3, 1, 0, [2], (⟨0, 0, 0, 0, 0, 0, 0⟩ : Op)⟩ : Rec)]).1) 1).1).known).length : Int) == 2)) && (((gt (((hub_Next ((hub_Replay [(orangerylaw_accepted_1 1), (orangerylaw_accepted_2 1 2 0 1 1), (orangerylaw_accepted_2 2 3 2 1 2), (⟨3, 1, 0, [2], (⟨0, 0, 0, 0, 0, 0, 0⟩ : Op)⟩ : Rec)]).1) (orangerylaw_accepted_1 2)).1).peers) 1).seq) == 0)) && ((((gt (((hub_Next ((hub_Replay [(orangerylaw_accepted_1 1), (orangerylaw_accepted_2 1 2 0 1 1), (orangerylaw_accepted_2 2 3 2 1 2), (⟨3, 1, 0, [2], (⟨0, 0, 0, 0, 0, 0, 0⟩ : Op)⟩ : Rec)]).1) (orangerylaw_accepted_1 2)).1).peers) 1).roots).length : Int) == 0)) && ((hub_Check ((hub_Replay [(orangerylaw_accepted_1 1), (orangerylaw_accepted_2 1 2 0 1 1), (orangerylaw_accepted_2 2 3 2 1 2), (⟨3, 1, 0, [2], (⟨0, 0, 0, 0, 0, 0, 0⟩ : Op)⟩ : Rec)]).1)) == 0)) && (hub_Same ((hub_Replay [(orangerylaw_accepted_1 1), (orangerylaw_accepted_2 1 2 0 1 1), (orangerylaw_accepted_2 2 3 2 1 2), (⟨3, 1, 0, [2], (⟨0, 0, 0, 0, 0, 0, 0⟩ : Op)⟩ : Rec)]).1) ((hub_Replay [(orangerylaw_accepted_1 1), (orangerylaw_accepted_2 1 2 0 1 1), (orangerylaw_accepted_2 2 3 2 1 2), (⟨3, 1, 0, [2], (⟨0, 0, 0, 0, 0, 0, 0⟩ : Op)⟩ : Rec)]).1))) := by simp only [orangerylaw_accepted, cond_true, cond_false]
          refine cw_ret ?_; rw [hr1]; exact Re () (Vt Vn)
end Go.Proofs.Ytchdacbjiomplaa
