/- Part of this claim. No condition. -/
import Derived.Test.YtccmadehnoihnaaGreatDoorG7
import Derived.Test.YtccmadehnoihnaaGreatDoorG8
import Derived.Test.YtccmadehnoihnaaGreatDoorG3
import Derived.Lib.SplitLaws
import Derived.Lib.ItoaMem
import Derived.Lib.AtoiAllCases
import Derived.Lib.ParseIntBTie
import Derived.Lib.LaidTab
import Derived.Test.YtccmadehnoihnaaGreatDoorG4
set_option linter.unusedVariables false
set_option linter.unusedSimpArgs false
set_option maxHeartbeats 2000000
namespace Go.Proofs.YtccmadehnoihnaaGreatDoor
open Go Go.Proofs.YtccmadehnoihnaaGreatDoor.Fw Go.Proofs
attribute [local irreducible] RdL RdN VarP RW CW
def hub_Replay_L0  : List Rec → (List Step) → (List Place) → Int → (List Peer) → (Hub × Int)
  | [], l2, p1, version1, peers1 => ((⟨(⟨l2, p1⟩ : History), version1, peers1⟩ : Hub), 0)
  | pn1 :: rn1, l2, p1, version1, peers1 => (bif (((hub_next (⟨(⟨l2, p1⟩ : History), version1, peers1⟩ : Hub) pn1).2) != 0) then ((⟨(⟨([] : List Step), ([] : List Place)⟩ : History), 0, ([] : List Peer)⟩ : Hub), (hub_next (⟨(⟨l2, p1⟩ : History), version1, peers1⟩ : Hub) pn1).2) else (hub_Replay_L0 rn1 ((((hub_next (⟨(⟨l2, p1⟩ : History), version1, peers1⟩ : Hub) pn1).1).h).l) ((((hub_next (⟨(⟨l2, p1⟩ : History), version1, peers1⟩ : Hub) pn1).1).h).t) (((hub_next (⟨(⟨l2, p1⟩ : History), version1, peers1⟩ : Hub) pn1).1).version) (((hub_next (⟨(⟨l2, p1⟩ : History), version1, peers1⟩ : Hub) pn1).1).peers)))
def hub_Replay (l1 : List Rec) : Hub × Int :=
  (bif decide ((l1.length : Int) > 60) then ((⟨(⟨([] : List Step), ([] : List Place)⟩ : History), 0, ([] : List Peer)⟩ : Hub), 2) else (hub_Replay_L0 l1 hub_New.h.l hub_New.h.t hub_New.version hub_New.peers))
theorem hub_Replay_spec (y1 : SlV) (l1 : List Rec) : Does Tryz.prog 4 [y1.val l1.length] [RdN NRec y1 l1] (fun (X : SlV × SlV × SlV) => .tuple #[.agg ⟨[X.1.val ((((hub_Replay l1).1).h).l).length, X.2.1.val ((((hub_Replay l1).1).h).t).length, .int .i64 (((hub_Replay l1).1).version), X.2.2.val (((hub_Replay l1).1).peers).length]⟩, .int .i64 ((hub_Replay l1).2)]) (fun (X : SlV × SlV × SlV) => [RdL EStep X.1 ((((hub_Replay l1).1).h).l), RdL EPlace X.2.1 ((((hub_Replay l1).1).h).t), RdN NPeer X.2.2 (((hub_Replay l1).1).peers)]) := by
  refine does_of tab_ok Tryz.func4 rfl Tryz.ntmps4 Tryz.results4 rfl inferInstance (fun _ => inferInstance) fun C => ?_
  refine Pn NRec y1 l1 104 fun hlen1 => ?_
  refine Tx ?_
  refine Al fun g1 => ?_
  refine Tx ?_
  refine Cd (b := decide ((l1.length : Int) > 60)) (fun hc1 => ?_) fun hc1 => ?_
  · have hc1p := of_decide_eq_true hc1
    refine Tx ?_
    refine Fc EStep ?_
    refine Fc EPlace ?_
    refine cw_fact (F := RdN NPeer ⟨none, 0⟩ ([] : List Peer)) [] (.nil _) (fun M w _ => RdN.nil _ M w) ?_
    have hr1 : (hub_Replay l1) = ((⟨(⟨([] : List Step), ([] : List Place)⟩ : History), 0, ([] : List Peer)⟩ : Hub), 2) := by simp only [hub_Replay, hc1, cond_true, cond_false]
    refine cw_ret ?_; rw [hr1]; exact Re ⟨(⟨none, 0⟩ : SlV), (⟨none, 0⟩ : SlV), (⟨none, 0⟩ : SlV)⟩ (Va (Vt Vn))
  · have hc1p := of_decide_eq_false hc1
    refine Tx ?_
    refine Cl (hub_New_spec ) fun x1 => ?_
    refine Pr EStep x1.1 hub_New.h.l 88 fun hlen2 => ?_
    refine Pr EPlace x1.2.1 hub_New.h.t 24 fun hlen3 => ?_
    refine Pm NPeer x1.2.2 hub_New.peers 40 fun hlen4 => ?_
    refine Al fun g2 => ?_
    refine Tx ?_
    (repeat refine cw_seq ?_); refine Lp [2,3,4,13,14] [false, true] (fun (i_ : Nat × List Step × SlV × List Place × SlV × Int × List Peer × SlV) => match i_ with | ⟨n1, l2, x2, p1, x3, version1, peers1, x4⟩ => (⟨[(15, .v (.int .i64 (n1 : Int)))], [⟨g2, 31, [x2.val l2.length, x3.val p1.length, .int .i64 version1, x4.val peers1.length]⟩], [], [RdL EStep x2 l2, RdL EPlace x3 p1, RdN NPeer x4 peers1], (n1 ≤ l1.length) ∧ (hub_Check (⟨⟨l2, p1⟩, version1, peers1⟩ : Hub) = 0) ∧ (hub_Replay_L0 (l1.drop n1) l2 p1 version1 peers1) = (hub_Replay l1), l1.length - n1⟩ : Ls)) ⟨0, hub_New.h.l, x1.1, hub_New.h.t, x1.2.1, hub_New.version, hub_New.peers, x1.2.2⟩ (Sc (Sc (Sc (Sc (Sc Sn))))) (.drop (.keep (.nil))) ⟨Nat.zero_le _, ((hub_Check_iff _).2 hub_New_ok), (by simp only [hub_Replay, hc1, cond_true, cond_false] : (hub_Replay l1) = (hub_Replay_L0 l1 hub_New.h.l hub_New.h.t hub_New.version hub_New.peers)).symm⟩ Le4 ?_
    rintro ⟨n1, l2, x2, p1, x3, version1, peers1, x4⟩ ⟨hkn1, hinv, hf1⟩
    simp only [List.cons_append, List.nil_append]
    refine Tx ?_
    refine Cd (b := decide ((n1 : Int) < (l1.length : Int))) (fun hc2 => ?_) fun hc2 => ?_
    · have hlt0 : n1 < l1.length := Int.ofNat_lt.1 (of_decide_eq_true hc2)
      refine Tx ?_
      refine rw_exN NRec (X := y1) (l := l1) Mm fun (γ1 : Nat → SlV) => ?_
      refine rw_q rfl rfl rfl (q_idxN NRec γ1 n1 rfl rfl (fun _ => rfl) rfl (fun _ => rfl) rfl rfl rfl Mm rfl (fun _ => rfl) (fun _ => by first | assumption | omega)) ?_
      refine rw_q rfl rfl rfl (q_is (v' := .agg ⟨[.int .i64 ((gt l1 n1).kind), .int .i64 ((gt l1 n1).who), .int .i64 ((gt l1 n1).life), (γ1 n1).val ((gt l1 n1).roots).length, .int .i64 (((gt l1 n1).o).time), .int .i64 (((gt l1 n1).o).who), .int .i64 (((gt l1 n1).o).node), .int .i64 (((gt l1 n1).o).parent), .int .i64 (((gt l1 n1).o).name), .int .i64 (((gt l1 n1).o).life), .int .i64 (((gt l1 n1).o).seq)]⟩) (q_leAN NRec γ1 rfl rfl (fun _ => rfl) rfl rfl Mm (fun _ => by first | assumption | omega)) rfl) ?_
      refine rw_fact (F := RdL EInt (γ1 n1) ((gt l1 n1).roots)) [FactsG NRec γ1 l1] Sm (fun M w h => (allF1 h) n1 (by first | assumption | omega) _ (.head _)) ?_
      refine Al fun g3 => ?_
      refine Tx ?_
      refine Cl (hub_next_spec x2 x3 x4 (⟨(⟨l2, p1⟩ : History), version1, peers1⟩ : Hub) (γ1 n1) (gt l1 n1) hinv) fun x5 => ?_
      refine Pr EStep x5.1 ((((hub_next (⟨(⟨l2, p1⟩ : History), version1, peers1⟩ : Hub) (gt l1 n1)).1).h).l) 88 fun hlen5 => ?_
      refine Pr EPlace x5.2.1 ((((hub_next (⟨(⟨l2, p1⟩ : History), version1, peers1⟩ : Hub) (gt l1 n1)).1).h).t) 24 fun hlen6 => ?_
      refine Pm NPeer x5.2.2 (((hub_next (⟨(⟨l2, p1⟩ : History), version1, peers1⟩ : Hub) (gt l1 n1)).1).peers) 40 fun hlen7 => ?_
      refine Tx ?_
      refine Cd (b := (((hub_next (⟨(⟨l2, p1⟩ : History), version1, peers1⟩ : Hub) (gt l1 n1)).2) != 0)) (fun hc3 => ?_) fun hc3 => ?_
      · have hc3p := bne_iff_ne.1 hc3
        refine Tx ?_
        refine Fc EStep ?_
        refine Fc EPlace ?_
        refine cw_fact (F := RdN NPeer ⟨none, 0⟩ ([] : List Peer)) [] (.nil _) (fun M w _ => RdN.nil _ M w) ?_
        have hr2 : (hub_Replay l1) = ((⟨(⟨([] : List Step), ([] : List Place)⟩ : History), 0, ([] : List Peer)⟩ : Hub), (hub_next (⟨(⟨l2, p1⟩ : History), version1, peers1⟩ : Hub) (gt l1 n1)).2) := by rw [← hf1, drop_gt hlt0]; simp only [hub_Replay_L0, hc3, cond_true, cond_false]
        refine cw_ret ?_; rw [hr2]; exact Re ⟨(⟨none, 0⟩ : SlV), (⟨none, 0⟩ : SlV), (⟨none, 0⟩ : SlV)⟩ (Va (Vt Vn))
      · have hc3p := eq_of_bne_false hc3
        refine Tx ?_
        refine rw_q rfl rfl rfl (q_add rfl rfl (fun _ => rfl) rfl (fun _ => rfl) (fun _ => by omega)) ?_
        refine Tx ?_
        refine ⟨⟨(n1 + 1), (((hub_next (⟨(⟨l2, p1⟩ : History), version1, peers1⟩ : Hub) (gt l1 n1)).1).h).l, x5.1, (((hub_next (⟨(⟨l2, p1⟩ : History), version1, peers1⟩ : Hub) (gt l1 n1)).1).h).t, x5.2.1, ((hub_next (⟨(⟨l2, p1⟩ : History), version1, peers1⟩ : Hub) (gt l1 n1)).1).version, ((hub_next (⟨(⟨l2, p1⟩ : History), version1, peers1⟩ : Hub) (gt l1 n1)).1).peers, x5.2.2⟩, ⟨hlt0, ((hub_Check_iff _).2 (next_ok ((hub_Check_iff _).1 hinv) (eq_of_bne_false (by assumption))).1), (by rw [← hf1, drop_gt hlt0]; simp only [hub_Replay_L0, hc3, cond_true, cond_false] : (hub_Replay l1) = (hub_Replay_L0 (l1.drop (n1 + 1)) ((((hub_next (⟨(⟨l2, p1⟩ : History), version1, peers1⟩ : Hub) (gt l1 n1)).1).h).l) ((((hub_next (⟨(⟨l2, p1⟩ : History), version1, peers1⟩ : Hub) (gt l1 n1)).1).h).t) (((hub_next (⟨(⟨l2, p1⟩ : History), version1, peers1⟩ : Hub) (gt l1 n1)).1).version) (((hub_next (⟨(⟨l2, p1⟩ : History), version1, peers1⟩ : Hub) (gt l1 n1)).1).peers))).symm⟩, (by simp only []; omega), Le4⟩
    · have hge0 : l1.length ≤ n1 := by have := of_decide_eq_false hc2; omega
      refine Tx ?_
      have hr3 : (hub_Replay l1) = ((⟨(⟨l2, p1⟩ : History), version1, peers1⟩ : Hub), 0) := by rw [← hf1, List.drop_of_length_le hge0]; simp only [hub_Replay_L0, cond_true, cond_false]
      refine cw_ret ?_; rw [hr3]; exact Re ⟨x2, x3, x4⟩ (Va (Vt Vn))
end Go.Proofs.YtccmadehnoihnaaGreatDoor

set_option maxHeartbeats 2000000
namespace Go.Proofs.YtccmadehnoihnaaGreatDoor
open Go Go.Proofs.YtccmadehnoihnaaGreatDoor.Fw Go.Proofs
attribute [local irreducible] RdL RdN VarP RW CW
def orangerylaw_accepted_1 (n1 : Int) : Rec :=
  (⟨2, 1, n1, ([] : List Int), (⟨0, 0, 0, 0, 0, 0, 0⟩ : Op)⟩ : Rec)
theorem orangerylaw_accepted_1_spec (n1 : Int) : Does Tryz.prog 16 [.int .i64 n1] [] (fun (X : SlV) => .agg ⟨[.int .i64 ((orangerylaw_accepted_1 n1).kind), .int .i64 ((orangerylaw_accepted_1 n1).who), .int .i64 ((orangerylaw_accepted_1 n1).life), X.val ((orangerylaw_accepted_1 n1).roots).length, .int .i64 (((orangerylaw_accepted_1 n1).o).time), .int .i64 (((orangerylaw_accepted_1 n1).o).who), .int .i64 (((orangerylaw_accepted_1 n1).o).node), .int .i64 (((orangerylaw_accepted_1 n1).o).parent), .int .i64 (((orangerylaw_accepted_1 n1).o).name), .int .i64 (((orangerylaw_accepted_1 n1).o).life), .int .i64 (((orangerylaw_accepted_1 n1).o).seq)]⟩) (fun (X : SlV) => [RdL EInt X ((orangerylaw_accepted_1 n1).roots)]) := by
  refine does_of tab_ok Tryz.func16 rfl Tryz.ntmps16 Tryz.results16 rfl inferInstance (fun _ => inferInstance) fun C => ?_
  refine Tx ?_
  refine Al fun g1 => ?_
  refine Tx ?_
  refine Fc EInt ?_
  have hr1 : (orangerylaw_accepted_1 n1) = (⟨2, 1, n1, ([] : List Int), (⟨0, 0, 0, 0, 0, 0, 0⟩ : Op)⟩ : Rec) := by simp only [orangerylaw_accepted_1, cond_true, cond_false]
  refine cw_ret ?_; rw [hr1]; exact Re (⟨none, 0⟩ : SlV) (Va Vn)

def orangerylaw_accepted_2 (time1 : Int) (node1 : Int) (parent1 : Int) (life1 : Int) (seq1 : Int) : Rec :=
  (⟨1, 0, 0, ([] : List Int), (⟨(orangerylaw_op time1 1 node1 parent1).time, (orangerylaw_op time1 1 node1 parent1).who, (orangerylaw_op time1 1 node1 parent1).node, (orangerylaw_op time1 1 node1 parent1).parent, (orangerylaw_op time1 1 node1 parent1).name, life1, seq1⟩ : Op)⟩ : Rec)
theorem orangerylaw_accepted_2_spec (time1 : Int) (node1 : Int) (parent1 : Int) (life1 : Int) (seq1 : Int) : Does Tryz.prog 17 [.int .i64 time1, .int .i64 node1, .int .i64 parent1, .int .i64 life1, .int .i64 seq1] [] (fun (X : SlV) => .agg ⟨[.int .i64 ((orangerylaw_accepted_2 time1 node1 parent1 life1 seq1).kind), .int .i64 ((orangerylaw_accepted_2 time1 node1 parent1 life1 seq1).who), .int .i64 ((orangerylaw_accepted_2 time1 node1 parent1 life1 seq1).life), X.val ((orangerylaw_accepted_2 time1 node1 parent1 life1 seq1).roots).length, .int .i64 (((orangerylaw_accepted_2 time1 node1 parent1 life1 seq1).o).time), .int .i64 (((orangerylaw_accepted_2 time1 node1 parent1 life1 seq1).o).who), .int .i64 (((orangerylaw_accepted_2 time1 node1 parent1 life1 seq1).o).node), .int .i64 (((orangerylaw_accepted_2 time1 node1 parent1 life1 seq1).o).parent), .int .i64 (((orangerylaw_accepted_2 time1 node1 parent1 life1 seq1).o).name), .int .i64 (((orangerylaw_accepted_2 time1 node1 parent1 life1 seq1).o).life), .int .i64 (((orangerylaw_accepted_2 time1 node1 parent1 life1 seq1).o).seq)]⟩) (fun (X : SlV) => [RdL EInt X ((orangerylaw_accepted_2 time1 node1 parent1 life1 seq1).roots)]) := by
  refine does_of tab_ok Tryz.func17 rfl Tryz.ntmps17 Tryz.results17 rfl inferInstance (fun _ => inferInstance) fun C => ?_
  refine Tx ?_
  refine Al fun g1 => ?_
  refine Tx ?_
  refine Cl (orangerylaw_op_spec time1 1 node1 parent1) fun _ => ?_
  refine Al fun g2 => ?_
  refine Tx ?_
  refine Fc EInt ?_
  have hr1 : (orangerylaw_accepted_2 time1 node1 parent1 life1 seq1) = (⟨1, 0, 0, ([] : List Int), (⟨(orangerylaw_op time1 1 node1 parent1).time, (orangerylaw_op time1 1 node1 parent1).who, (orangerylaw_op time1 1 node1 parent1).node, (orangerylaw_op time1 1 node1 parent1).parent, (orangerylaw_op time1 1 node1 parent1).name, life1, seq1⟩ : Op)⟩ : Rec) := by simp only [orangerylaw_accepted_2, cond_true, cond_false]
  refine cw_ret ?_; rw [hr1]; exact Re (⟨none, 0⟩ : SlV) (Va Vn)

def orangerylaw_accepted  : Bool :=
  (((((((((((((((hub_Replay [(orangerylaw_accepted_1 1), (orangerylaw_accepted_2 1 2 0 1 1), (orangerylaw_accepted_2 2 3 2 1 2), (⟨3, 1, 0, [2], (⟨0, 0, 0, 0, 0, 0, 0⟩ : Op)⟩ : Rec)]).2) == 0) && (((hub_Sees ((hub_Replay [(orangerylaw_accepted_1 1), (orangerylaw_accepted_2 1 2 0 1 1), (orangerylaw_accepted_2 2 3 2 1 2), (⟨3, 1, 0, [2], (⟨0, 0, 0, 0, 0, 0, 0⟩ : Op)⟩ : Rec)]).1) 1).2) == 0)) && (((hub_Next ((hub_Replay [(orangerylaw_accepted_1 1), (orangerylaw_accepted_2 1 2 0 1 1), (orangerylaw_accepted_2 2 3 2 1 2), (⟨3, 1, 0, [2], (⟨0, 0, 0, 0, 0, 0, 0⟩ : Op)⟩ : Rec)]).1) (orangerylaw_accepted_2 3 4 0 1 4)).2) == 7)) && (((hub_Next ((hub_Replay [(orangerylaw_accepted_1 1), (orangerylaw_accepted_2 1 2 0 1 1), (orangerylaw_accepted_2 2 3 2 1 2), (⟨3, 1, 0, [2], (⟨0, 0, 0, 0, 0, 0, 0⟩ : Op)⟩ : Rec)]).1) (orangerylaw_accepted_1 2)).2) == 0)) && (((hub_Next ((hub_Next ((hub_Replay [(orangerylaw_accepted_1 1), (orangerylaw_accepted_2 1 2 0 1 1), (orangerylaw_accepted_2 2 3 2 1 2), (⟨3, 1, 0, [2], (⟨0, 0, 0, 0, 0, 0, 0⟩ : Op)⟩ : Rec)]).1) (orangerylaw_accepted_1 2)).1) (orangerylaw_accepted_2 3 4 0 1 3)).2) == 7)) && (((hub_Next ((hub_Next ((hub_Replay [(orangerylaw_accepted_1 1), (orangerylaw_accepted_2 1 2 0 1 1), (orangerylaw_accepted_2 2 3 2 1 2), (⟨3, 1, 0, [2], (⟨0, 0, 0, 0, 0, 0, 0⟩ : Op)⟩ : Rec)]).1) (orangerylaw_accepted_1 2)).1) (orangerylaw_accepted_2 3 4 0 2 1)).2) == 0)) && ((((hub_Replay [(orangerylaw_accepted_1 1), (orangerylaw_accepted_2 1 2 0 1 1), (orangerylaw_accepted_2 2 3 2 1 2), (⟨3, 1, 0, [2], (⟨0, 0, 0, 0, 0, 0, 0⟩ : Op)⟩ : Rec)]).1).version) == 4)) && (((gt (((hub_Replay [(orangerylaw_accepted_1 1), (orangerylaw_accepted_2 1 2 0 1 1), (orangerylaw_accepted_2 2 3 2 1 2), (⟨3, 1, 0, [2], (⟨0, 0, 0, 0, 0, 0, 0⟩ : Op)⟩ : Rec)]).1).peers) 1).seq) == 2)) && (((((hub_Sees ((hub_Replay [(orangerylaw_accepted_1 1), (orangerylaw_accepted_2 1 2 0 1 1), (orangerylaw_accepted_2 2 3 2 1 2), (⟨3, 1, 0, [2], (⟨0, 0, 0, 0, 0, 0, 0⟩ : Op)⟩ : Rec)]).1) 1).1).known).length : Int) == 2)) && (((gt (((hub_Next ((hub_Replay [(orangerylaw_accepted_1 1), (orangerylaw_accepted_2 1 2 0 1 1), (orangerylaw_accepted_2 2 3 2 1 2), (⟨3, 1, 0, [2], (⟨0, 0, 0, 0, 0, 0, 0⟩ : Op)⟩ : Rec)]).1) (orangerylaw_accepted_1 2)).1).peers) 1).seq) == 0)) && ((((gt (((hub_Next ((hub_Replay [(orangerylaw_accepted_1 1), (orangerylaw_accepted_2 1 2 0 1 1), (orangerylaw_accepted_2 2 3 2 1 2), (⟨3, 1, 0, [2], (⟨0, 0, 0, 0, 0, 0, 0⟩ : Op)⟩ : Rec)]).1) (orangerylaw_accepted_1 2)).1).peers) 1).roots).length : Int) == 0)) && ((hub_Check ((hub_Replay [(orangerylaw_accepted_1 1), (orangerylaw_accepted_2 1 2 0 1 1), (orangerylaw_accepted_2 2 3 2 1 2), (⟨3, 1, 0, [2], (⟨0, 0, 0, 0, 0, 0, 0⟩ : Op)⟩ : Rec)]).1)) == 0)) && (hub_Same ((hub_Replay [(orangerylaw_accepted_1 1), (orangerylaw_accepted_2 1 2 0 1 1), (orangerylaw_accepted_2 2 3 2 1 2), (⟨3, 1, 0, [2], (⟨0, 0, 0, 0, 0, 0, 0⟩ : Op)⟩ : Rec)]).1) ((hub_Replay [(orangerylaw_accepted_1 1), (orangerylaw_accepted_2 1 2 0 1 1), (orangerylaw_accepted_2 2 3 2 1 2), (⟨3, 1, 0, [2], (⟨0, 0, 0, 0, 0, 0, 0⟩ : Op)⟩ : Rec)]).1)))
theorem orangerylaw_accepted_spec  : Does Tryz.prog 5 [] [] (fun (_ : Unit) => .bool (orangerylaw_accepted)) (fun (_ : Unit) => []) := by
  refine does_of tab_ok Tryz.func5 rfl Tryz.ntmps5 Tryz.results5 rfl inferInstance (fun _ => inferInstance) fun C => ?_
  refine Tx ?_
  refine rw_callv (orangerylaw_accepted_1_spec 1) .sq (guard_none rfl) rfl rfl rfl rfl rfl Kr rfl rfl rfl Sm ?_
  intro x1
  refine Pr EInt x1 ((orangerylaw_accepted_1 1).roots) 8 fun hlen1 => ?_
  refine Rp rfl rfl rfl rfl ?_
  refine rw_callv (orangerylaw_accepted_2_spec 1 2 0 1 1) .sq (guard_none rfl) rfl rfl rfl rfl rfl Kr rfl rfl rfl Sm ?_
  intro x2
  refine Pr EInt x2 ((orangerylaw_accepted_2 1 2 0 1 1).roots) 8 fun hlen2 => ?_
  refine Rp rfl rfl rfl rfl ?_
  refine rw_callv (orangerylaw_accepted_2_spec 2 3 2 1 2) .sq (guard_none rfl) rfl rfl rfl rfl rfl Kr rfl rfl rfl Sm ?_
  intro x3
  refine Pr EInt x3 ((orangerylaw_accepted_2 2 3 2 1 2).roots) 8 fun hlen3 => ?_
  refine rw_bsliceL EInt [2] .sq (guard_none rfl) rfl rfl rfl rfl rfl rfl rfl rfl rfl rfl rfl rfl rfl rfl rfl fun x4 x4b => ?_
  refine Rp rfl rfl rfl rfl ?_
  refine rw_le (le_freezeL EInt 3 x4 x4b [2] Uo) ?_
  refine rw_bsliceL NRec.E [(x1, (orangerylaw_accepted_1 1)), (x2, (orangerylaw_accepted_2 1 2 0 1 1)), (x3, (orangerylaw_accepted_2 2 3 2 1 2)), (x4, (⟨3, 1, 0, [2], (⟨0, 0, 0, 0, 0, 0, 0⟩ : Op)⟩ : Rec))] .sq (guard_none rfl) rfl rfl rfl rfl rfl rfl rfl rfl rfl rfl rfl rfl rfl (fillL_many [.agg ⟨[.int .i64 ((orangerylaw_accepted_1 1).kind), .int .i64 ((orangerylaw_accepted_1 1).who), .int .i64 ((orangerylaw_accepted_1 1).life), x1.val ((orangerylaw_accepted_1 1).roots).length, .int .i64 (((orangerylaw_accepted_1 1).o).time), .int .i64 (((orangerylaw_accepted_1 1).o).who), .int .i64 (((orangerylaw_accepted_1 1).o).node), .int .i64 (((orangerylaw_accepted_1 1).o).parent), .int .i64 (((orangerylaw_accepted_1 1).o).name), .int .i64 (((orangerylaw_accepted_1 1).o).life), .int .i64 (((orangerylaw_accepted_1 1).o).seq)]⟩, .agg ⟨[.int .i64 ((orangerylaw_accepted_2 1 2 0 1 1).kind), .int .i64 ((orangerylaw_accepted_2 1 2 0 1 1).who), .int .i64 ((orangerylaw_accepted_2 1 2 0 1 1).life), x2.val ((orangerylaw_accepted_2 1 2 0 1 1).roots).length, .int .i64 (((orangerylaw_accepted_2 1 2 0 1 1).o).time), .int .i64 (((orangerylaw_accepted_2 1 2 0 1 1).o).who), .int .i64 (((orangerylaw_accepted_2 1 2 0 1 1).o).node), .int .i64 (((orangerylaw_accepted_2 1 2 0 1 1).o).parent), .int .i64 (((orangerylaw_accepted_2 1 2 0 1 1).o).name), .int .i64 (((orangerylaw_accepted_2 1 2 0 1 1).o).life), .int .i64 (((orangerylaw_accepted_2 1 2 0 1 1).o).seq)]⟩, .agg ⟨[.int .i64 ((orangerylaw_accepted_2 2 3 2 1 2).kind), .int .i64 ((orangerylaw_accepted_2 2 3 2 1 2).who), .int .i64 ((orangerylaw_accepted_2 2 3 2 1 2).life), x3.val ((orangerylaw_accepted_2 2 3 2 1 2).roots).length, .int .i64 (((orangerylaw_accepted_2 2 3 2 1 2).o).time), .int .i64 (((orangerylaw_accepted_2 2 3 2 1 2).o).who), .int .i64 (((orangerylaw_accepted_2 2 3 2 1 2).o).node), .int .i64 (((orangerylaw_accepted_2 2 3 2 1 2).o).parent), .int .i64 (((orangerylaw_accepted_2 2 3 2 1 2).o).name), .int .i64 (((orangerylaw_accepted_2 2 3 2 1 2).o).life), .int .i64 (((orangerylaw_accepted_2 2 3 2 1 2).o).seq)]⟩, .agg ⟨[.int .i64 3, .int .i64 1, .int .i64 0, x4.val [2].length, .int .i64 0, .int .i64 0, .int .i64 0, .int .i64 0, .int .i64 0, .int .i64 0, .int .i64 0]⟩] rfl (by intro v hv; simp only [List.mem_cons, List.not_mem_nil, or_false] at hv; rcases hv with rfl | rfl | rfl | rfl <;> rfl) rfl rfl) rfl fun x5 x5b => ?_
  refine rw_le (le_freezeL NRec.E 43 x5 x5b [(x1, (orangerylaw_accepted_1 1)), (x2, (orangerylaw_accepted_2 1 2 0 1 1)), (x3, (orangerylaw_accepted_2 2 3 2 1 2)), (x4, (⟨3, 1, 0, [2], (⟨0, 0, 0, 0, 0, 0, 0⟩ : Op)⟩ : Rec))] Uo) ?_
  refine rw_fact (F := RdN NRec x5 [(orangerylaw_accepted_1 1), (orangerylaw_accepted_2 1 2 0 1 1), (orangerylaw_accepted_2 2 3 2 1 2), (⟨3, 1, 0, [2], (⟨0, 0, 0, 0, 0, 0, 0⟩ : Op)⟩ : Rec)]) [RdL NRec.E x5 [(x1, (orangerylaw_accepted_1 1)), (x2, (orangerylaw_accepted_2 1 2 0 1 1)), (x3, (orangerylaw_accepted_2 2 3 2 1 2)), (x4, (⟨3, 1, 0, [2], (⟨0, 0, 0, 0, 0, 0, 0⟩ : Op)⟩ : Rec))], RdL EInt x1 ((orangerylaw_accepted_1 1).roots), RdL EInt x2 ((orangerylaw_accepted_2 1 2 0 1 1).roots), RdL EInt x3 ((orangerylaw_accepted_2 2 3 2 1 2).roots), RdL EInt x4 [2]] Sm (fun M w h => RdN.of NRec (hs := [(x1, (orangerylaw_accepted_1 1)), (x2, (orangerylaw_accepted_2 1 2 0 1 1)), (x3, (orangerylaw_accepted_2 2 3 2 1 2)), (x4, (⟨3, 1, 0, [2], (⟨0, 0, 0, 0, 0, 0, 0⟩ : Op)⟩ : Rec))]) rfl (h _ (.head _)) (allP_cons (allF_sub Sm h) (allP_cons (allF_sub Sm h) (allP_cons (allF_sub Sm h) (allP_cons (allF_sub Sm h) (fun p hp => by cases hp)))))) ?_
  refine Cl (hub_Replay_spec x5 [(orangerylaw_accepted_1 1), (orangerylaw_accepted_2 1 2 0 1 1), (orangerylaw_accepted_2 2 3 2 1 2), (⟨3, 1, 0, [2], (⟨0, 0, 0, 0, 0, 0, 0⟩ : Op)⟩ : Rec)]) fun x6 => ?_
  refine Pr EStep x6.1 ((((hub_Replay [(orangerylaw_accepted_1 1), (orangerylaw_accepted_2 1 2 0 1 1), (orangerylaw_accepted_2 2 3 2 1 2), (⟨3, 1, 0, [2], (⟨0, 0, 0, 0, 0, 0, 0⟩ : Op)⟩ : Rec)]).1).h).l) 88 fun hlen4 => ?_
  refine Pr EPlace x6.2.1 ((((hub_Replay [(orangerylaw_accepted_1 1), (orangerylaw_accepted_2 1 2 0 1 1), (orangerylaw_accepted_2 2 3 2 1 2), (⟨3, 1, 0, [2], (⟨0, 0, 0, 0, 0, 0, 0⟩ : Op)⟩ : Rec)]).1).h).t) 24 fun hlen5 => ?_
  refine Pm NPeer x6.2.2 (((hub_Replay [(orangerylaw_accepted_1 1), (orangerylaw_accepted_2 1 2 0 1 1), (orangerylaw_accepted_2 2 3 2 1 2), (⟨3, 1, 0, [2], (⟨0, 0, 0, 0, 0, 0, 0⟩ : Op)⟩ : Rec)]).1).peers) 40 fun hlen6 => ?_
  have hpl1 : (hub_Replay [(orangerylaw_accepted_1 1), (orangerylaw_accepted_2 1 2 0 1 1), (orangerylaw_accepted_2 2 3 2 1 2), (⟨3, 1, 0, [2], (⟨0, 0, 0, 0, 0, 0, 0⟩ : Op)⟩ : Rec)]).1.peers.length = 3 := by decide +kernel
  have hpl2 : (hub_Next (hub_Replay [(orangerylaw_accepted_1 1), (orangerylaw_accepted_2 1 2 0 1 1), (orangerylaw_accepted_2 2 3 2 1 2), (⟨3, 1, 0, [2], (⟨0, 0, 0, 0, 0, 0, 0⟩ : Op)⟩ : Rec)]).1 (orangerylaw_accepted_1 2)).1.peers.length = 3 := by decide +kernel
  refine Tx ?_
  refine Al fun g1 => ?_
  refine Tx ?_
  refine Cl (hub_Sees_spec x6.1 x6.2.1 x6.2.2 ((hub_Replay [(orangerylaw_accepted_1 1), (orangerylaw_accepted_2 1 2 0 1 1), (orangerylaw_accepted_2 2 3 2 1 2), (⟨3, 1, 0, [2], (⟨0, 0, 0, 0, 0, 0, 0⟩ : Op)⟩ : Rec)]).1) 1) fun x7 => ?_
  refine Pr EInt x7.1 (((hub_Sees ((hub_Replay [(orangerylaw_accepted_1 1), (orangerylaw_accepted_2 1 2 0 1 1), (orangerylaw_accepted_2 2 3 2 1 2), (⟨3, 1, 0, [2], (⟨0, 0, 0, 0, 0, 0, 0⟩ : Op)⟩ : Rec)]).1) 1).1).roots) 8 fun hlen7 => ?_
  refine Pr EPlace x7.2.1 (((hub_Sees ((hub_Replay [(orangerylaw_accepted_1 1), (orangerylaw_accepted_2 1 2 0 1 1), (orangerylaw_accepted_2 2 3 2 1 2), (⟨3, 1, 0, [2], (⟨0, 0, 0, 0, 0, 0, 0⟩ : Op)⟩ : Rec)]).1) 1).1).known) 24 fun hlen8 => ?_
  refine Pr EPlace x7.2.2 (((hub_Sees ((hub_Replay [(orangerylaw_accepted_1 1), (orangerylaw_accepted_2 1 2 0 1 1), (orangerylaw_accepted_2 2 3 2 1 2), (⟨3, 1, 0, [2], (⟨0, 0, 0, 0, 0, 0, 0⟩ : Op)⟩ : Rec)]).1) 1).1).way) 24 fun hlen9 => ?_
  refine Tx ?_
  refine Al fun g2 => ?_
  refine Tx ?_
  refine cw_join [0, 1, 2, 3, 4, 5, 6] [true, true] (fun (_ : Unit) => [(8, .v (.int .i64 ((hub_Next ((hub_Replay [(orangerylaw_accepted_1 1), (orangerylaw_accepted_2 1 2 0 1 1), (orangerylaw_accepted_2 2 3 2 1 2), (⟨3, 1, 0, [2], (⟨0, 0, 0, 0, 0, 0, 0⟩ : Op)⟩ : Rec)]).1) (orangerylaw_accepted_2 3 4 0 1 4)).2)))]) (fun (_ : Unit) => []) (fun (_ : Unit) => []) (fun (_ : Unit) => []) (fun _ => True) (.cons rfl (.cons rfl (.cons rfl (.cons rfl (.cons rfl (.cons rfl (.cons rfl (.nil _)))))))) (.keep (.keep (.nil))) ?_ ?_
  · refine cw_regionA (fun j => match j with | 8 => none | _ => some []) ?_
    refine Rb 0 [1,2,7] [3,4,5,6,8,9] rfl (q_ldA rfl rfl (fun _ => rfl) rfl Mm rfl) ?_
    refine Rb 1 [7] [2,3,4,5,6,8,9] rfl Qp ?_
    refine ra_two 2 7 Kr ?_ ?_
    · refine rw_callv (orangerylaw_accepted_2_spec 3 4 0 1 4) (.an rfl rfl) (guard_none rfl) rfl rfl rfl rfl rfl Kr rfl rfl rfl Sm ?_
      intro x8
      refine Pr EInt x8 ((orangerylaw_accepted_2 3 4 0 1 4).roots) 8 fun hlen10 => ?_
      refine ra_two 3 7 Kr ?_ ?_
      · refine rw_call (hub_Next_spec x6.1 x6.2.1 x6.2.2 ((hub_Replay [(orangerylaw_accepted_1 1), (orangerylaw_accepted_2 1 2 0 1 1), (orangerylaw_accepted_2 2 3 2 1 2), (⟨3, 1, 0, [2], (⟨0, 0, 0, 0, 0, 0, 0⟩ : Op)⟩ : Rec)]).1) x8 (orangerylaw_accepted_2 3 4 0 1 4)) (.an rfl rfl) (guard_none rfl) rfl rfl rfl Kr rfl rfl Sm ?_
        intro x9
        refine Pr EStep x9.1 ((((hub_Next ((hub_Replay [(orangerylaw_accepted_1 1), (orangerylaw_accepted_2 1 2 0 1 1), (orangerylaw_accepted_2 2 3 2 1 2), (⟨3, 1, 0, [2], (⟨0, 0, 0, 0, 0, 0, 0⟩ : Op)⟩ : Rec)]).1) (orangerylaw_accepted_2 3 4 0 1 4)).1).h).l) 88 fun hlen11 => ?_
        refine Pr EPlace x9.2.1 ((((hub_Next ((hub_Replay [(orangerylaw_accepted_1 1), (orangerylaw_accepted_2 1 2 0 1 1), (orangerylaw_accepted_2 2 3 2 1 2), (⟨3, 1, 0, [2], (⟨0, 0, 0, 0, 0, 0, 0⟩ : Op)⟩ : Rec)]).1) (orangerylaw_accepted_2 3 4 0 1 4)).1).h).t) 24 fun hlen12 => ?_
        refine Pm NPeer x9.2.2 (((hub_Next ((hub_Replay [(orangerylaw_accepted_1 1), (orangerylaw_accepted_2 1 2 0 1 1), (orangerylaw_accepted_2 2 3 2 1 2), (⟨3, 1, 0, [2], (⟨0, 0, 0, 0, 0, 0, 0⟩ : Op)⟩ : Rec)]).1) (orangerylaw_accepted_2 3 4 0 1 4)).1).peers) 40 fun hlen13 => ?_
        refine Ra 4 [7] rfl Qp ?_
        refine Ra 5 [6,7] rfl Qp ?_
        refine ra_p (.an (i := 6) (js := [7, 8]) rfl Kr Kr Kr Kr) rfl rfl rfl (q_pev rfl (fun _ => rfl)) ?_
        refine ra_one 7 Kr ?_
        refine rw_alloc (.an rfl rfl) (guard_none rfl) rfl rfl rfl rfl fun g3 => ?_
        refine ra_one 8 Kr ?_
        refine rw_stA (.lo [g3] rfl rfl) (.inr (by simp)) (guard_none rfl) rfl rfl rfl rfl rfl rfl rfl rfl rfl Ub rfl ?_
        refine Ra 9 [] rfl Qp ?_
        refine ra_nil Kr ?_
        refine ⟨⟨⟩, trivial, Le4⟩
      · refine rw_alloc (.an rfl rfl) (guard_none rfl) rfl rfl rfl rfl fun g4 => ?_
        refine ra_one 3 Kr ?_
        refine rw_call (hub_Next_spec x6.1 x6.2.1 x6.2.2 ((hub_Replay [(orangerylaw_accepted_1 1), (orangerylaw_accepted_2 1 2 0 1 1), (orangerylaw_accepted_2 2 3 2 1 2), (⟨3, 1, 0, [2], (⟨0, 0, 0, 0, 0, 0, 0⟩ : Op)⟩ : Rec)]).1) x8 (orangerylaw_accepted_2 3 4 0 1 4)) (.an rfl rfl) (guard_none rfl) rfl rfl rfl Kr rfl rfl Sm ?_
        intro x10
        refine Pr EStep x10.1 ((((hub_Next ((hub_Replay [(orangerylaw_accepted_1 1), (orangerylaw_accepted_2 1 2 0 1 1), (orangerylaw_accepted_2 2 3 2 1 2), (⟨3, 1, 0, [2], (⟨0, 0, 0, 0, 0, 0, 0⟩ : Op)⟩ : Rec)]).1) (orangerylaw_accepted_2 3 4 0 1 4)).1).h).l) 88 fun hlen14 => ?_
        refine Pr EPlace x10.2.1 ((((hub_Next ((hub_Replay [(orangerylaw_accepted_1 1), (orangerylaw_accepted_2 1 2 0 1 1), (orangerylaw_accepted_2 2 3 2 1 2), (⟨3, 1, 0, [2], (⟨0, 0, 0, 0, 0, 0, 0⟩ : Op)⟩ : Rec)]).1) (orangerylaw_accepted_2 3 4 0 1 4)).1).h).t) 24 fun hlen15 => ?_
        refine Pm NPeer x10.2.2 (((hub_Next ((hub_Replay [(orangerylaw_accepted_1 1), (orangerylaw_accepted_2 1 2 0 1 1), (orangerylaw_accepted_2 2 3 2 1 2), (⟨3, 1, 0, [2], (⟨0, 0, 0, 0, 0, 0, 0⟩ : Op)⟩ : Rec)]).1) (orangerylaw_accepted_2 3 4 0 1 4)).1).peers) 40 fun hlen16 => ?_
        refine Ra 4 [] rfl Qp ?_
        refine Ra 5 [6] rfl Qp ?_
        refine ra_p (.an (i := 6) (js := [8]) rfl Kr Kr Kr Kr) rfl rfl rfl (q_pev rfl (fun _ => rfl)) ?_
        refine ra_one 8 Kr ?_
        refine rw_stA (.lo [g4] rfl rfl) (.inr (by simp)) (guard_none rfl) rfl rfl rfl rfl rfl rfl rfl rfl rfl Ub rfl ?_
        refine Ra 9 [] rfl Qp ?_
        refine ra_nil Kr ?_
        refine ⟨⟨⟩, trivial, Le4⟩
    · refine rw_alloc (.an rfl rfl) (guard_none rfl) rfl rfl rfl rfl fun g5 => ?_
      refine ra_one 2 Kr ?_
      refine rw_callv (orangerylaw_accepted_2_spec 3 4 0 1 4) (.an rfl rfl) (guard_none rfl) rfl rfl rfl rfl rfl Kr rfl rfl rfl Sm ?_
      intro x11
      refine Pr EInt x11 ((orangerylaw_accepted_2 3 4 0 1 4).roots) 8 fun hlen17 => ?_
      refine ra_one 3 Kr ?_
      refine rw_call (hub_Next_spec x6.1 x6.2.1 x6.2.2 ((hub_Replay [(orangerylaw_accepted_1 1), (orangerylaw_accepted_2 1 2 0 1 1), (orangerylaw_accepted_2 2 3 2 1 2), (⟨3, 1, 0, [2], (⟨0, 0, 0, 0, 0, 0, 0⟩ : Op)⟩ : Rec)]).1) x11 (orangerylaw_accepted_2 3 4 0 1 4)) (.an rfl rfl) (guard_none rfl) rfl rfl rfl Kr rfl rfl Sm ?_
      intro x12
      refine Pr EStep x12.1 ((((hub_Next ((hub_Replay [(orangerylaw_accepted_1 1), (orangerylaw_accepted_2 1 2 0 1 1), (orangerylaw_accepted_2 2 3 2 1 2), (⟨3, 1, 0, [2], (⟨0, 0, 0, 0, 0, 0, 0⟩ : Op)⟩ : Rec)]).1) (orangerylaw_accepted_2 3 4 0 1 4)).1).h).l) 88 fun hlen18 => ?_
      refine Pr EPlace x12.2.1 ((((hub_Next ((hub_Replay [(orangerylaw_accepted_1 1), (orangerylaw_accepted_2 1 2 0 1 1), (orangerylaw_accepted_2 2 3 2 1 2), (⟨3, 1, 0, [2], (⟨0, 0, 0, 0, 0, 0, 0⟩ : Op)⟩ : Rec)]).1) (orangerylaw_accepted_2 3 4 0 1 4)).1).h).t) 24 fun hlen19 => ?_
      refine Pm NPeer x12.2.2 (((hub_Next ((hub_Replay [(orangerylaw_accepted_1 1), (orangerylaw_accepted_2 1 2 0 1 1), (orangerylaw_accepted_2 2 3 2 1 2), (⟨3, 1, 0, [2], (⟨0, 0, 0, 0, 0, 0, 0⟩ : Op)⟩ : Rec)]).1) (orangerylaw_accepted_2 3 4 0 1 4)).1).peers) 40 fun hlen20 => ?_
      refine Ra 4 [] rfl Qp ?_
      refine Ra 5 [6] rfl Qp ?_
      refine ra_p (.an (i := 6) (js := [8]) rfl Kr Kr Kr Kr) rfl rfl rfl (q_pev rfl (fun _ => rfl)) ?_
      refine ra_one 8 Kr ?_
      refine rw_stA (.lo [g5] rfl rfl) (.inr (by simp)) (guard_none rfl) rfl rfl rfl rfl rfl rfl rfl rfl rfl Ub rfl ?_
      refine Ra 9 [] rfl Qp ?_
      refine ra_nil Kr ?_
      refine ⟨⟨⟩, trivial, Le4⟩
  · rintro _ -
    simp only [List.cons_append, List.nil_append]
    (repeat refine cw_seq ?_)
    refine cw_join [0, 2, 3, 4, 5, 6, 8] [true, true] (fun (i_ : Nat × SlV × SlV × SlV) => match i_ with | ⟨g6, x13, x14, x15⟩ => [(9, .v (.pointer (some ⟨g6, 0, none⟩))), (10, .v (.int .i64 ((hub_Next ((hub_Replay [(orangerylaw_accepted_1 1), (orangerylaw_accepted_2 1 2 0 1 1), (orangerylaw_accepted_2 2 3 2 1 2), (⟨3, 1, 0, [2], (⟨0, 0, 0, 0, 0, 0, 0⟩ : Op)⟩ : Rec)]).1) (orangerylaw_accepted_1 2)).2)))]) (fun (i_ : Nat × SlV × SlV × SlV) => match i_ with | ⟨g6, x13, x14, x15⟩ => [⟨g6, 31, [x13.val ((((hub_Next ((hub_Replay [(orangerylaw_accepted_1 1), (orangerylaw_accepted_2 1 2 0 1 1), (orangerylaw_accepted_2 2 3 2 1 2), (⟨3, 1, 0, [2], (⟨0, 0, 0, 0, 0, 0, 0⟩ : Op)⟩ : Rec)]).1) (orangerylaw_accepted_1 2)).1).h).l).length, x14.val ((((hub_Next ((hub_Replay [(orangerylaw_accepted_1 1), (orangerylaw_accepted_2 1 2 0 1 1), (orangerylaw_accepted_2 2 3 2 1 2), (⟨3, 1, 0, [2], (⟨0, 0, 0, 0, 0, 0, 0⟩ : Op)⟩ : Rec)]).1) (orangerylaw_accepted_1 2)).1).h).t).length, .int .i64 (((hub_Next ((hub_Replay [(orangerylaw_accepted_1 1), (orangerylaw_accepted_2 1 2 0 1 1), (orangerylaw_accepted_2 2 3 2 1 2), (⟨3, 1, 0, [2], (⟨0, 0, 0, 0, 0, 0, 0⟩ : Op)⟩ : Rec)]).1) (orangerylaw_accepted_1 2)).1).version), x15.val (((hub_Next ((hub_Replay [(orangerylaw_accepted_1 1), (orangerylaw_accepted_2 1 2 0 1 1), (orangerylaw_accepted_2 2 3 2 1 2), (⟨3, 1, 0, [2], (⟨0, 0, 0, 0, 0, 0, 0⟩ : Op)⟩ : Rec)]).1) (orangerylaw_accepted_1 2)).1).peers).length]⟩]) (fun (i_ : Nat × SlV × SlV × SlV) => match i_ with | ⟨g6, x13, x14, x15⟩ => []) (fun (i_ : Nat × SlV × SlV × SlV) => match i_ with | ⟨g6, x13, x14, x15⟩ => [RdL EStep x13 ((((hub_Next ((hub_Replay [(orangerylaw_accepted_1 1), (orangerylaw_accepted_2 1 2 0 1 1), (orangerylaw_accepted_2 2 3 2 1 2), (⟨3, 1, 0, [2], (⟨0, 0, 0, 0, 0, 0, 0⟩ : Op)⟩ : Rec)]).1) (orangerylaw_accepted_1 2)).1).h).l), RdL EPlace x14 ((((hub_Next ((hub_Replay [(orangerylaw_accepted_1 1), (orangerylaw_accepted_2 1 2 0 1 1), (orangerylaw_accepted_2 2 3 2 1 2), (⟨3, 1, 0, [2], (⟨0, 0, 0, 0, 0, 0, 0⟩ : Op)⟩ : Rec)]).1) (orangerylaw_accepted_1 2)).1).h).t), RdN NPeer x15 (((hub_Next ((hub_Replay [(orangerylaw_accepted_1 1), (orangerylaw_accepted_2 1 2 0 1 1), (orangerylaw_accepted_2 2 3 2 1 2), (⟨3, 1, 0, [2], (⟨0, 0, 0, 0, 0, 0, 0⟩ : Op)⟩ : Rec)]).1) (orangerylaw_accepted_1 2)).1).peers)]) (fun _ => True) (.cons rfl (.cons rfl (.cons rfl (.cons rfl (.cons rfl (.cons rfl (.cons rfl (.nil _)))))))) (.keep (.keep (.nil))) ?_ ?_
    · refine cw_regionA (fun j => match j with | 8 => none | _ => some []) ?_
      refine Rb 0 [1,2,7] [3,4,5,6,8,9] rfl (q_ldA rfl rfl (fun _ => rfl) rfl Mm rfl) ?_
      refine Rb 1 [7] [2,3,4,5,6,8,9] rfl Qp ?_
      refine ra_two 2 7 Kr ?_ ?_
      · refine rw_callv (orangerylaw_accepted_1_spec 2) (.an rfl rfl) (guard_none rfl) rfl rfl rfl rfl rfl Kr rfl rfl rfl Sm ?_
        intro x16
        refine Pr EInt x16 ((orangerylaw_accepted_1 2).roots) 8 fun hlen21 => ?_
        refine ra_two 3 7 Kr ?_ ?_
        · refine rw_call (hub_Next_spec x6.1 x6.2.1 x6.2.2 ((hub_Replay [(orangerylaw_accepted_1 1), (orangerylaw_accepted_2 1 2 0 1 1), (orangerylaw_accepted_2 2 3 2 1 2), (⟨3, 1, 0, [2], (⟨0, 0, 0, 0, 0, 0, 0⟩ : Op)⟩ : Rec)]).1) x16 (orangerylaw_accepted_1 2)) (.an rfl rfl) (guard_none rfl) rfl rfl rfl Kr rfl rfl Sm ?_
          intro x17
          refine Pr EStep x17.1 ((((hub_Next ((hub_Replay [(orangerylaw_accepted_1 1), (orangerylaw_accepted_2 1 2 0 1 1), (orangerylaw_accepted_2 2 3 2 1 2), (⟨3, 1, 0, [2], (⟨0, 0, 0, 0, 0, 0, 0⟩ : Op)⟩ : Rec)]).1) (orangerylaw_accepted_1 2)).1).h).l) 88 fun hlen22 => ?_
          refine Pr EPlace x17.2.1 ((((hub_Next ((hub_Replay [(orangerylaw_accepted_1 1), (orangerylaw_accepted_2 1 2 0 1 1), (orangerylaw_accepted_2 2 3 2 1 2), (⟨3, 1, 0, [2], (⟨0, 0, 0, 0, 0, 0, 0⟩ : Op)⟩ : Rec)]).1) (orangerylaw_accepted_1 2)).1).h).t) 24 fun hlen23 => ?_
          refine Pm NPeer x17.2.2 (((hub_Next ((hub_Replay [(orangerylaw_accepted_1 1), (orangerylaw_accepted_2 1 2 0 1 1), (orangerylaw_accepted_2 2 3 2 1 2), (⟨3, 1, 0, [2], (⟨0, 0, 0, 0, 0, 0, 0⟩ : Op)⟩ : Rec)]).1) (orangerylaw_accepted_1 2)).1).peers) 40 fun hlen24 => ?_
          refine Ra 4 [7] rfl Qp ?_
          refine Ra 5 [6,7] rfl Qp ?_
          refine ra_p (.an (i := 6) (js := [7, 8]) rfl Kr Kr Kr Kr) rfl rfl rfl (q_pev rfl (fun _ => rfl)) ?_
          refine ra_one 7 Kr ?_
          refine rw_alloc (.an rfl rfl) (guard_none rfl) rfl rfl rfl rfl fun g7 => ?_
          refine ra_one 8 Kr ?_
          refine rw_stA (.lo [g7] rfl rfl) (.inr (by simp)) (guard_none rfl) rfl rfl rfl rfl rfl rfl rfl rfl rfl Ub rfl ?_
          refine Ra 9 [] rfl Qp ?_
          refine ra_nil Kr ?_
          refine ⟨⟨g7, x17.1, x17.2.1, x17.2.2⟩, trivial, Le4⟩
        · refine rw_alloc (.an rfl rfl) (guard_none rfl) rfl rfl rfl rfl fun g8 => ?_
          refine ra_one 3 Kr ?_
          refine rw_call (hub_Next_spec x6.1 x6.2.1 x6.2.2 ((hub_Replay [(orangerylaw_accepted_1 1), (orangerylaw_accepted_2 1 2 0 1 1), (orangerylaw_accepted_2 2 3 2 1 2), (⟨3, 1, 0, [2], (⟨0, 0, 0, 0, 0, 0, 0⟩ : Op)⟩ : Rec)]).1) x16 (orangerylaw_accepted_1 2)) (.an rfl rfl) (guard_none rfl) rfl rfl rfl Kr rfl rfl Sm ?_
          intro x18
          refine Pr EStep x18.1 ((((hub_Next ((hub_Replay [(orangerylaw_accepted_1 1), (orangerylaw_accepted_2 1 2 0 1 1), (orangerylaw_accepted_2 2 3 2 1 2), (⟨3, 1, 0, [2], (⟨0, 0, 0, 0, 0, 0, 0⟩ : Op)⟩ : Rec)]).1) (orangerylaw_accepted_1 2)).1).h).l) 88 fun hlen25 => ?_
          refine Pr EPlace x18.2.1 ((((hub_Next ((hub_Replay [(orangerylaw_accepted_1 1), (orangerylaw_accepted_2 1 2 0 1 1), (orangerylaw_accepted_2 2 3 2 1 2), (⟨3, 1, 0, [2], (⟨0, 0, 0, 0, 0, 0, 0⟩ : Op)⟩ : Rec)]).1) (orangerylaw_accepted_1 2)).1).h).t) 24 fun hlen26 => ?_
          refine Pm NPeer x18.2.2 (((hub_Next ((hub_Replay [(orangerylaw_accepted_1 1), (orangerylaw_accepted_2 1 2 0 1 1), (orangerylaw_accepted_2 2 3 2 1 2), (⟨3, 1, 0, [2], (⟨0, 0, 0, 0, 0, 0, 0⟩ : Op)⟩ : Rec)]).1) (orangerylaw_accepted_1 2)).1).peers) 40 fun hlen27 => ?_
          refine Ra 4 [] rfl Qp ?_
          refine Ra 5 [6] rfl Qp ?_
          refine ra_p (.an (i := 6) (js := [8]) rfl Kr Kr Kr Kr) rfl rfl rfl (q_pev rfl (fun _ => rfl)) ?_
          refine ra_one 8 Kr ?_
          refine rw_stA (.lo [g8] rfl rfl) (.inr (by simp)) (guard_none rfl) rfl rfl rfl rfl rfl rfl rfl rfl rfl Ub rfl ?_
          refine Ra 9 [] rfl Qp ?_
          refine ra_nil Kr ?_
          refine ⟨⟨g8, x18.1, x18.2.1, x18.2.2⟩, trivial, Le4⟩
      · refine rw_alloc (.an rfl rfl) (guard_none rfl) rfl rfl rfl rfl fun g9 => ?_
        refine ra_one 2 Kr ?_
        refine rw_callv (orangerylaw_accepted_1_spec 2) (.an rfl rfl) (guard_none rfl) rfl rfl rfl rfl rfl Kr rfl rfl rfl Sm ?_
        intro x19
        refine Pr EInt x19 ((orangerylaw_accepted_1 2).roots) 8 fun hlen28 => ?_
        refine ra_one 3 Kr ?_
        refine rw_call (hub_Next_spec x6.1 x6.2.1 x6.2.2 ((hub_Replay [(orangerylaw_accepted_1 1), (orangerylaw_accepted_2 1 2 0 1 1), (orangerylaw_accepted_2 2 3 2 1 2), (⟨3, 1, 0, [2], (⟨0, 0, 0, 0, 0, 0, 0⟩ : Op)⟩ : Rec)]).1) x19 (orangerylaw_accepted_1 2)) (.an rfl rfl) (guard_none rfl) rfl rfl rfl Kr rfl rfl Sm ?_
        intro x20
        refine Pr EStep x20.1 ((((hub_Next ((hub_Replay [(orangerylaw_accepted_1 1), (orangerylaw_accepted_2 1 2 0 1 1), (orangerylaw_accepted_2 2 3 2 1 2), (⟨3, 1, 0, [2], (⟨0, 0, 0, 0, 0, 0, 0⟩ : Op)⟩ : Rec)]).1) (orangerylaw_accepted_1 2)).1).h).l) 88 fun hlen29 => ?_
        refine Pr EPlace x20.2.1 ((((hub_Next ((hub_Replay [(orangerylaw_accepted_1 1), (orangerylaw_accepted_2 1 2 0 1 1), (orangerylaw_accepted_2 2 3 2 1 2), (⟨3, 1, 0, [2], (⟨0, 0, 0, 0, 0, 0, 0⟩ : Op)⟩ : Rec)]).1) (orangerylaw_accepted_1 2)).1).h).t) 24 fun hlen30 => ?_
        refine Pm NPeer x20.2.2 (((hub_Next ((hub_Replay [(orangerylaw_accepted_1 1), (orangerylaw_accepted_2 1 2 0 1 1), (orangerylaw_accepted_2 2 3 2 1 2), (⟨3, 1, 0, [2], (⟨0, 0, 0, 0, 0, 0, 0⟩ : Op)⟩ : Rec)]).1) (orangerylaw_accepted_1 2)).1).peers) 40 fun hlen31 => ?_
        refine Ra 4 [] rfl Qp ?_
        refine Ra 5 [6] rfl Qp ?_
        refine ra_p (.an (i := 6) (js := [8]) rfl Kr Kr Kr Kr) rfl rfl rfl (q_pev rfl (fun _ => rfl)) ?_
        refine ra_one 8 Kr ?_
        refine rw_stA (.lo [g9] rfl rfl) (.inr (by simp)) (guard_none rfl) rfl rfl rfl rfl rfl rfl rfl rfl rfl Ub rfl ?_
        refine Ra 9 [] rfl Qp ?_
        refine ra_nil Kr ?_
        refine ⟨⟨g9, x20.1, x20.2.1, x20.2.2⟩, trivial, Le4⟩
    · rintro ⟨g6, x13, x14, x15⟩ -
      simp only [List.cons_append, List.nil_append]
      (repeat refine cw_seq ?_)
      refine cw_join [0, 2, 3, 4, 5, 6, 8, 9, 10] [true, true, true] (fun (_ : Unit) => [(12, .v (.int .i64 ((hub_Next ((hub_Next ((hub_Replay [(orangerylaw_accepted_1 1), (orangerylaw_accepted_2 1 2 0 1 1), (orangerylaw_accepted_2 2 3 2 1 2), (⟨3, 1, 0, [2], (⟨0, 0, 0, 0, 0, 0, 0⟩ : Op)⟩ : Rec)]).1) (orangerylaw_accepted_1 2)).1) (orangerylaw_accepted_2 3 4 0 1 3)).2)))]) (fun (_ : Unit) => []) (fun (_ : Unit) => []) (fun (_ : Unit) => []) (fun _ => True) (.cons rfl (.cons rfl (.cons rfl (.cons rfl (.cons rfl (.cons rfl (.cons rfl (.cons rfl (.cons rfl (.nil _)))))))))) (.keep (.keep (.keep (.nil)))) ?_ ?_
      · refine cw_regionA (fun j => match j with | 8 => none | _ => some []) ?_
        refine Rb 0 [1,2,7] [3,4,5,6,8,9] rfl (q_ldA rfl rfl (fun _ => rfl) rfl Mm rfl) ?_
        refine Rb 1 [7] [2,3,4,5,6,8,9] rfl Qp ?_
        refine ra_two 2 7 Kr ?_ ?_
        · refine rw_callv (orangerylaw_accepted_2_spec 3 4 0 1 3) (.an rfl rfl) (guard_none rfl) rfl rfl rfl rfl rfl Kr rfl rfl rfl Sm ?_
          intro x21
          refine Pr EInt x21 ((orangerylaw_accepted_2 3 4 0 1 3).roots) 8 fun hlen32 => ?_
          refine ra_two 3 7 Kr ?_ ?_
          · refine rw_call (hub_Next_spec x13 x14 x15 ((hub_Next ((hub_Replay [(orangerylaw_accepted_1 1), (orangerylaw_accepted_2 1 2 0 1 1), (orangerylaw_accepted_2 2 3 2 1 2), (⟨3, 1, 0, [2], (⟨0, 0, 0, 0, 0, 0, 0⟩ : Op)⟩ : Rec)]).1) (orangerylaw_accepted_1 2)).1) x21 (orangerylaw_accepted_2 3 4 0 1 3)) (.an rfl rfl) (guard_none rfl) rfl rfl rfl Kr rfl rfl Sm ?_
            intro x22
            refine Pr EStep x22.1 ((((hub_Next ((hub_Next ((hub_Replay [(orangerylaw_accepted_1 1), (orangerylaw_accepted_2 1 2 0 1 1), (orangerylaw_accepted_2 2 3 2 1 2), (⟨3, 1, 0, [2], (⟨0, 0, 0, 0, 0, 0, 0⟩ : Op)⟩ : Rec)]).1) (orangerylaw_accepted_1 2)).1) (orangerylaw_accepted_2 3 4 0 1 3)).1).h).l) 88 fun hlen33 => ?_
            refine Pr EPlace x22.2.1 ((((hub_Next ((hub_Next ((hub_Replay [(orangerylaw_accepted_1 1), (orangerylaw_accepted_2 1 2 0 1 1), (orangerylaw_accepted_2 2 3 2 1 2), (⟨3, 1, 0, [2], (⟨0, 0, 0, 0, 0, 0, 0⟩ : Op)⟩ : Rec)]).1) (orangerylaw_accepted_1 2)).1) (orangerylaw_accepted_2 3 4 0 1 3)).1).h).t) 24 fun hlen34 => ?_
            refine Pm NPeer x22.2.2 (((hub_Next ((hub_Next ((hub_Replay [(orangerylaw_accepted_1 1), (orangerylaw_accepted_2 1 2 0 1 1), (orangerylaw_accepted_2 2 3 2 1 2), (⟨3, 1, 0, [2], (⟨0, 0, 0, 0, 0, 0, 0⟩ : Op)⟩ : Rec)]).1) (orangerylaw_accepted_1 2)).1) (orangerylaw_accepted_2 3 4 0 1 3)).1).peers) 40 fun hlen35 => ?_
            refine Ra 4 [7] rfl Qp ?_
            refine Ra 5 [6,7] rfl Qp ?_
            refine ra_p (.an (i := 6) (js := [7, 8]) rfl Kr Kr Kr Kr) rfl rfl rfl (q_pev rfl (fun _ => rfl)) ?_
            refine ra_one 7 Kr ?_
            refine rw_alloc (.an rfl rfl) (guard_none rfl) rfl rfl rfl rfl fun g10 => ?_
            refine ra_one 8 Kr ?_
            refine rw_stA (.lo [g10] rfl rfl) (.inr (by simp)) (guard_none rfl) rfl rfl rfl rfl rfl rfl rfl rfl rfl Ub rfl ?_
            refine Ra 9 [] rfl Qp ?_
            refine ra_nil Kr ?_
            refine ⟨⟨⟩, trivial, Le4⟩
          · refine rw_alloc (.an rfl rfl) (guard_none rfl) rfl rfl rfl rfl fun g11 => ?_
            refine ra_one 3 Kr ?_
            refine rw_call (hub_Next_spec x13 x14 x15 ((hub_Next ((hub_Replay [(orangerylaw_accepted_1 1), (orangerylaw_accepted_2 1 2 0 1 1), (orangerylaw_accepted_2 2 3 2 1 2), (⟨3, 1, 0, [2], (⟨0, 0, 0, 0, 0, 0, 0⟩ : Op)⟩ : Rec)]).1) (orangerylaw_accepted_1 2)).1) x21 (orangerylaw_accepted_2 3 4 0 1 3)) (.an rfl rfl) (guard_none rfl) rfl rfl rfl Kr rfl rfl Sm ?_
            intro x23
            refine Pr EStep x23.1 ((((hub_Next ((hub_Next ((hub_Replay [(orangerylaw_accepted_1 1), (orangerylaw_accepted_2 1 2 0 1 1), (orangerylaw_accepted_2 2 3 2 1 2), (⟨3, 1, 0, [2], (⟨0, 0, 0, 0, 0, 0, 0⟩ : Op)⟩ : Rec)]).1) (orangerylaw_accepted_1 2)).1) (orangerylaw_accepted_2 3 4 0 1 3)).1).h).l) 88 fun hlen36 => ?_
            refine Pr EPlace x23.2.1 ((((hub_Next ((hub_Next ((hub_Replay [(orangerylaw_accepted_1 1), (orangerylaw_accepted_2 1 2 0 1 1), (orangerylaw_accepted_2 2 3 2 1 2), (⟨3, 1, 0, [2], (⟨0, 0, 0, 0, 0, 0, 0⟩ : Op)⟩ : Rec)]).1) (orangerylaw_accepted_1 2)).1) (orangerylaw_accepted_2 3 4 0 1 3)).1).h).t) 24 fun hlen37 => ?_
            refine Pm NPeer x23.2.2 (((hub_Next ((hub_Next ((hub_Replay [(orangerylaw_accepted_1 1), (orangerylaw_accepted_2 1 2 0 1 1), (orangerylaw_accepted_2 2 3 2 1 2), (⟨3, 1, 0, [2], (⟨0, 0, 0, 0, 0, 0, 0⟩ : Op)⟩ : Rec)]).1) (orangerylaw_accepted_1 2)).1) (orangerylaw_accepted_2 3 4 0 1 3)).1).peers) 40 fun hlen38 => ?_
            refine Ra 4 [] rfl Qp ?_
            refine Ra 5 [6] rfl Qp ?_
            refine ra_p (.an (i := 6) (js := [8]) rfl Kr Kr Kr Kr) rfl rfl rfl (q_pev rfl (fun _ => rfl)) ?_
            refine ra_one 8 Kr ?_
            refine rw_stA (.lo [g11] rfl rfl) (.inr (by simp)) (guard_none rfl) rfl rfl rfl rfl rfl rfl rfl rfl rfl Ub rfl ?_
            refine Ra 9 [] rfl Qp ?_
            refine ra_nil Kr ?_
            refine ⟨⟨⟩, trivial, Le4⟩
        · refine rw_alloc (.an rfl rfl) (guard_none rfl) rfl rfl rfl rfl fun g12 => ?_
          refine ra_one 2 Kr ?_
          refine rw_callv (orangerylaw_accepted_2_spec 3 4 0 1 3) (.an rfl rfl) (guard_none rfl) rfl rfl rfl rfl rfl Kr rfl rfl rfl Sm ?_
          intro x24
          refine Pr EInt x24 ((orangerylaw_accepted_2 3 4 0 1 3).roots) 8 fun hlen39 => ?_
          refine ra_one 3 Kr ?_
          refine rw_call (hub_Next_spec x13 x14 x15 ((hub_Next ((hub_Replay [(orangerylaw_accepted_1 1), (orangerylaw_accepted_2 1 2 0 1 1), (orangerylaw_accepted_2 2 3 2 1 2), (⟨3, 1, 0, [2], (⟨0, 0, 0, 0, 0, 0, 0⟩ : Op)⟩ : Rec)]).1) (orangerylaw_accepted_1 2)).1) x24 (orangerylaw_accepted_2 3 4 0 1 3)) (.an rfl rfl) (guard_none rfl) rfl rfl rfl Kr rfl rfl Sm ?_
          intro x25
          refine Pr EStep x25.1 ((((hub_Next ((hub_Next ((hub_Replay [(orangerylaw_accepted_1 1), (orangerylaw_accepted_2 1 2 0 1 1), (orangerylaw_accepted_2 2 3 2 1 2), (⟨3, 1, 0, [2], (⟨0, 0, 0, 0, 0, 0, 0⟩ : Op)⟩ : Rec)]).1) (orangerylaw_accepted_1 2)).1) (orangerylaw_accepted_2 3 4 0 1 3)).1).h).l) 88 fun hlen40 => ?_
          refine Pr EPlace x25.2.1 ((((hub_Next ((hub_Next ((hub_Replay [(orangerylaw_accepted_1 1), (orangerylaw_accepted_2 1 2 0 1 1), (orangerylaw_accepted_2 2 3 2 1 2), (⟨3, 1, 0, [2], (⟨0, 0, 0, 0, 0, 0, 0⟩ : Op)⟩ : Rec)]).1) (orangerylaw_accepted_1 2)).1) (orangerylaw_accepted_2 3 4 0 1 3)).1).h).t) 24 fun hlen41 => ?_
          refine Pm NPeer x25.2.2 (((hub_Next ((hub_Next ((hub_Replay [(orangerylaw_accepted_1 1), (orangerylaw_accepted_2 1 2 0 1 1), (orangerylaw_accepted_2 2 3 2 1 2), (⟨3, 1, 0, [2], (⟨0, 0, 0, 0, 0, 0, 0⟩ : Op)⟩ : Rec)]).1) (orangerylaw_accepted_1 2)).1) (orangerylaw_accepted_2 3 4 0 1 3)).1).peers) 40 fun hlen42 => ?_
          refine Ra 4 [] rfl Qp ?_
          refine Ra 5 [6] rfl Qp ?_
          refine ra_p (.an (i := 6) (js := [8]) rfl Kr Kr Kr Kr) rfl rfl rfl (q_pev rfl (fun _ => rfl)) ?_
          refine ra_one 8 Kr ?_
          refine rw_stA (.lo [g12] rfl rfl) (.inr (by simp)) (guard_none rfl) rfl rfl rfl rfl rfl rfl rfl rfl rfl Ub rfl ?_
          refine Ra 9 [] rfl Qp ?_
          refine ra_nil Kr ?_
          refine ⟨⟨⟩, trivial, Le4⟩
      · rintro _ -
        simp only [List.cons_append, List.nil_append]
        (repeat refine cw_seq ?_)
        refine cw_join [0, 3, 4, 5, 6, 8, 9, 10, 12] [true, true, true] (fun (_ : Unit) => [(14, .v (.int .i64 ((hub_Next ((hub_Next ((hub_Replay [(orangerylaw_accepted_1 1), (orangerylaw_accepted_2 1 2 0 1 1), (orangerylaw_accepted_2 2 3 2 1 2), (⟨3, 1, 0, [2], (⟨0, 0, 0, 0, 0, 0, 0⟩ : Op)⟩ : Rec)]).1) (orangerylaw_accepted_1 2)).1) (orangerylaw_accepted_2 3 4 0 2 1)).2)))]) (fun (_ : Unit) => []) (fun (_ : Unit) => []) (fun (_ : Unit) => []) (fun _ => True) (.cons rfl (.cons rfl (.cons rfl (.cons rfl (.cons rfl (.cons rfl (.cons rfl (.cons rfl (.cons rfl (.nil _)))))))))) (.keep (.keep (.keep (.nil)))) ?_ ?_
        · refine cw_regionA (fun j => match j with | 8 => none | _ => some []) ?_
          refine Rb 0 [1,2,7] [3,4,5,6,8,9] rfl (q_ldA rfl rfl (fun _ => rfl) rfl Mm rfl) ?_
          refine Rb 1 [7] [2,3,4,5,6,8,9] rfl Qp ?_
          refine ra_two 2 7 Kr ?_ ?_
          · refine rw_callv (orangerylaw_accepted_2_spec 3 4 0 2 1) (.an rfl rfl) (guard_none rfl) rfl rfl rfl rfl rfl Kr rfl rfl rfl Sm ?_
            intro x26
            refine Pr EInt x26 ((orangerylaw_accepted_2 3 4 0 2 1).roots) 8 fun hlen43 => ?_
            refine ra_two 3 7 Kr ?_ ?_
            · refine rw_call (hub_Next_spec x13 x14 x15 ((hub_Next ((hub_Replay [(orangerylaw_accepted_1 1), (orangerylaw_accepted_2 1 2 0 1 1), (orangerylaw_accepted_2 2 3 2 1 2), (⟨3, 1, 0, [2], (⟨0, 0, 0, 0, 0, 0, 0⟩ : Op)⟩ : Rec)]).1) (orangerylaw_accepted_1 2)).1) x26 (orangerylaw_accepted_2 3 4 0 2 1)) (.an rfl rfl) (guard_none rfl) rfl rfl rfl Kr rfl rfl Sm ?_
              intro x27
              refine Pr EStep x27.1 ((((hub_Next ((hub_Next ((hub_Replay [(orangerylaw_accepted_1 1), (orangerylaw_accepted_2 1 2 0 1 1), (orangerylaw_accepted_2 2 3 2 1 2), (⟨3, 1, 0, [2], (⟨0, 0, 0, 0, 0, 0, 0⟩ : Op)⟩ : Rec)]).1) (orangerylaw_accepted_1 2)).1) (orangerylaw_accepted_2 3 4 0 2 1)).1).h).l) 88 fun hlen44 => ?_
              refine Pr EPlace x27.2.1 ((((hub_Next ((hub_Next ((hub_Replay [(orangerylaw_accepted_1 1), (orangerylaw_accepted_2 1 2 0 1 1), (orangerylaw_accepted_2 2 3 2 1 2), (⟨3, 1, 0, [2], (⟨0, 0, 0, 0, 0, 0, 0⟩ : Op)⟩ : Rec)]).1) (orangerylaw_accepted_1 2)).1) (orangerylaw_accepted_2 3 4 0 2 1)).1).h).t) 24 fun hlen45 => ?_
              refine Pm NPeer x27.2.2 (((hub_Next ((hub_Next ((hub_Replay [(orangerylaw_accepted_1 1), (orangerylaw_accepted_2 1 2 0 1 1), (orangerylaw_accepted_2 2 3 2 1 2), (⟨3, 1, 0, [2], (⟨0, 0, 0, 0, 0, 0, 0⟩ : Op)⟩ : Rec)]).1) (orangerylaw_accepted_1 2)).1) (orangerylaw_accepted_2 3 4 0 2 1)).1).peers) 40 fun hlen46 => ?_
              refine Ra 4 [7] rfl Qp ?_
              refine Ra 5 [6,7] rfl Qp ?_
              refine ra_p (.an (i := 6) (js := [7, 8]) rfl Kr Kr Kr Kr) rfl rfl rfl (q_pev rfl (fun _ => rfl)) ?_
              refine ra_one 7 Kr ?_
              refine rw_alloc (.an rfl rfl) (guard_none rfl) rfl rfl rfl rfl fun g13 => ?_
              refine ra_one 8 Kr ?_
              refine rw_stA (.lo [g13] rfl rfl) (.inr (by simp)) (guard_none rfl) rfl rfl rfl rfl rfl rfl rfl rfl rfl Ub rfl ?_
              refine Ra 9 [] rfl Qp ?_
              refine ra_nil Kr ?_
              refine ⟨⟨⟩, trivial, Le4⟩
            · refine rw_alloc (.an rfl rfl) (guard_none rfl) rfl rfl rfl rfl fun g14 => ?_
              refine ra_one 3 Kr ?_
              refine rw_call (hub_Next_spec x13 x14 x15 ((hub_Next ((hub_Replay [(orangerylaw_accepted_1 1), (orangerylaw_accepted_2 1 2 0 1 1), (orangerylaw_accepted_2 2 3 2 1 2), (⟨3, 1, 0, [2], (⟨0, 0, 0, 0, 0, 0, 0⟩ : Op)⟩ : Rec)]).1) (orangerylaw_accepted_1 2)).1) x26 (orangerylaw_accepted_2 3 4 0 2 1)) (.an rfl rfl) (guard_none rfl) rfl rfl rfl Kr rfl rfl Sm ?_
              intro x28
              refine Pr EStep x28.1 ((((hub_Next ((hub_Next ((hub_Replay [(orangerylaw_accepted_1 1), (orangerylaw_accepted_2 1 2 0 1 1), (orangerylaw_accepted_2 2 3 2 1 2), (⟨3, 1, 0, [2], (⟨0, 0, 0, 0, 0, 0, 0⟩ : Op)⟩ : Rec)]).1) (orangerylaw_accepted_1 2)).1) (orangerylaw_accepted_2 3 4 0 2 1)).1).h).l) 88 fun hlen47 => ?_
              refine Pr EPlace x28.2.1 ((((hub_Next ((hub_Next ((hub_Replay [(orangerylaw_accepted_1 1), (orangerylaw_accepted_2 1 2 0 1 1), (orangerylaw_accepted_2 2 3 2 1 2), (⟨3, 1, 0, [2], (⟨0, 0, 0, 0, 0, 0, 0⟩ : Op)⟩ : Rec)]).1) (orangerylaw_accepted_1 2)).1) (orangerylaw_accepted_2 3 4 0 2 1)).1).h).t) 24 fun hlen48 => ?_
              refine Pm NPeer x28.2.2 (((hub_Next ((hub_Next ((hub_Replay [(orangerylaw_accepted_1 1), (orangerylaw_accepted_2 1 2 0 1 1), (orangerylaw_accepted_2 2 3 2 1 2), (⟨3, 1, 0, [2], (⟨0, 0, 0, 0, 0, 0, 0⟩ : Op)⟩ : Rec)]).1) (orangerylaw_accepted_1 2)).1) (orangerylaw_accepted_2 3 4 0 2 1)).1).peers) 40 fun hlen49 => ?_
              refine Ra 4 [] rfl Qp ?_
              refine Ra 5 [6] rfl Qp ?_
              refine ra_p (.an (i := 6) (js := [8]) rfl Kr Kr Kr Kr) rfl rfl rfl (q_pev rfl (fun _ => rfl)) ?_
              refine ra_one 8 Kr ?_
              refine rw_stA (.lo [g14] rfl rfl) (.inr (by simp)) (guard_none rfl) rfl rfl rfl rfl rfl rfl rfl rfl rfl Ub rfl ?_
              refine Ra 9 [] rfl Qp ?_
              refine ra_nil Kr ?_
              refine ⟨⟨⟩, trivial, Le4⟩
          · refine rw_alloc (.an rfl rfl) (guard_none rfl) rfl rfl rfl rfl fun g15 => ?_
            refine ra_one 2 Kr ?_
            refine rw_callv (orangerylaw_accepted_2_spec 3 4 0 2 1) (.an rfl rfl) (guard_none rfl) rfl rfl rfl rfl rfl Kr rfl rfl rfl Sm ?_
            intro x29
            refine Pr EInt x29 ((orangerylaw_accepted_2 3 4 0 2 1).roots) 8 fun hlen50 => ?_
            refine ra_one 3 Kr ?_
            refine rw_call (hub_Next_spec x13 x14 x15 ((hub_Next ((hub_Replay [(orangerylaw_accepted_1 1), (orangerylaw_accepted_2 1 2 0 1 1), (orangerylaw_accepted_2 2 3 2 1 2), (⟨3, 1, 0, [2], (⟨0, 0, 0, 0, 0, 0, 0⟩ : Op)⟩ : Rec)]).1) (orangerylaw_accepted_1 2)).1) x29 (orangerylaw_accepted_2 3 4 0 2 1)) (.an rfl rfl) (guard_none rfl) rfl rfl rfl Kr rfl rfl Sm ?_
            intro x30
            refine Pr EStep x30.1 ((((hub_Next ((hub_Next ((hub_Replay [(orangerylaw_accepted_1 1), (orangerylaw_accepted_2 1 2 0 1 1), (orangerylaw_accepted_2 2 3 2 1 2), (⟨3, 1, 0, [2], (⟨0, 0, 0, 0, 0, 0, 0⟩ : Op)⟩ : Rec)]).1) (orangerylaw_accepted_1 2)).1) (orangerylaw_accepted_2 3 4 0 2 1)).1).h).l) 88 fun hlen51 => ?_
            refine Pr EPlace x30.2.1 ((((hub_Next ((hub_Next ((hub_Replay [(orangerylaw_accepted_1 1), (orangerylaw_accepted_2 1 2 0 1 1), (orangerylaw_accepted_2 2 3 2 1 2), (⟨3, 1, 0, [2], (⟨0, 0, 0, 0, 0, 0, 0⟩ : Op)⟩ : Rec)]).1) (orangerylaw_accepted_1 2)).1) (orangerylaw_accepted_2 3 4 0 2 1)).1).h).t) 24 fun hlen52 => ?_
            refine Pm NPeer x30.2.2 (((hub_Next ((hub_Next ((hub_Replay [(orangerylaw_accepted_1 1), (orangerylaw_accepted_2 1 2 0 1 1), (orangerylaw_accepted_2 2 3 2 1 2), (⟨3, 1, 0, [2], (⟨0, 0, 0, 0, 0, 0, 0⟩ : Op)⟩ : Rec)]).1) (orangerylaw_accepted_1 2)).1) (orangerylaw_accepted_2 3 4 0 2 1)).1).peers) 40 fun hlen53 => ?_
            refine Ra 4 [] rfl Qp ?_
            refine Ra 5 [6] rfl Qp ?_
            refine ra_p (.an (i := 6) (js := [8]) rfl Kr Kr Kr Kr) rfl rfl rfl (q_pev rfl (fun _ => rfl)) ?_
            refine ra_one 8 Kr ?_
            refine rw_stA (.lo [g15] rfl rfl) (.inr (by simp)) (guard_none rfl) rfl rfl rfl rfl rfl rfl rfl rfl rfl Ub rfl ?_
            refine Ra 9 [] rfl Qp ?_
            refine ra_nil Kr ?_
            refine ⟨⟨⟩, trivial, Le4⟩
        · rintro _ -
          simp only [List.cons_append, List.nil_append]
          refine Tx ?_
          refine rw_exN NPeer (X := x6.2.2) (l := ((hub_Replay [(orangerylaw_accepted_1 1), (orangerylaw_accepted_2 1 2 0 1 1), (orangerylaw_accepted_2 2 3 2 1 2), (⟨3, 1, 0, [2], (⟨0, 0, 0, 0, 0, 0, 0⟩ : Op)⟩ : Rec)]).1).peers) Mm fun (γ1 : Nat → SlV) => ?_
          refine rw_qg (guard_vt rfl rfl rfl) rfl rfl (q_idxN NPeer γ1 1 rfl rfl Bt rfl Bt rfl rfl rfl Mm rfl (by intro h; first | omega | rfl | (simp at h; omega)) (by first | (intro _; first | assumption | omega) | (intro h; simp at h; omega))) ?_
          refine rw_qg (guard_vt rfl rfl rfl) rfl rfl (q_fae rfl rfl Bt rfl rfl) ?_
          refine rw_qg (guard_vt rfl rfl rfl) rfl rfl (q_le1N NPeer γ1 (v := .int .i64 ((gt (((hub_Replay [(orangerylaw_accepted_1 1), (orangerylaw_accepted_2 1 2 0 1 1), (orangerylaw_accepted_2 2 3 2 1 2), (⟨3, 1, 0, [2], (⟨0, 0, 0, 0, 0, 0, 0⟩ : Op)⟩ : Rec)]).1).peers) 1).seq)) rfl rfl Bt rfl rfl Mm (by first | (intro _; first | assumption | omega) | (intro h; simp at h; omega)) rfl) ?_
          refine Tx ?_
          refine rw_exN NPeer (X := x15) (l := ((hub_Next ((hub_Replay [(orangerylaw_accepted_1 1), (orangerylaw_accepted_2 1 2 0 1 1), (orangerylaw_accepted_2 2 3 2 1 2), (⟨3, 1, 0, [2], (⟨0, 0, 0, 0, 0, 0, 0⟩ : Op)⟩ : Rec)]).1) (orangerylaw_accepted_1 2)).1).peers) Mm fun (γ2 : Nat → SlV) => ?_
          refine rw_qg (guard_vt rfl rfl rfl) rfl rfl (q_idxN NPeer γ2 1 rfl rfl Bt rfl Bt rfl rfl rfl Mm rfl (by intro h; first | omega | rfl | (simp at h; omega)) (by first | (intro _; first | assumption | omega) | (intro h; simp at h; omega))) ?_
          refine rw_qg (guard_vt rfl rfl rfl) rfl rfl (q_fae rfl rfl Bt rfl rfl) ?_
          refine rw_qg (guard_vt rfl rfl rfl) rfl rfl (q_le1N NPeer γ2 (v := .int .i64 ((gt (((hub_Next ((hub_Replay [(orangerylaw_accepted_1 1), (orangerylaw_accepted_2 1 2 0 1 1), (orangerylaw_accepted_2 2 3 2 1 2), (⟨3, 1, 0, [2], (⟨0, 0, 0, 0, 0, 0, 0⟩ : Op)⟩ : Rec)]).1) (orangerylaw_accepted_1 2)).1).peers) 1).seq)) rfl rfl Bt rfl rfl Mm (by first | (intro _; first | assumption | omega) | (intro h; simp at h; omega)) rfl) ?_
          refine Tx ?_
          refine rw_qg (guard_vt rfl rfl rfl) rfl rfl (q_idxN NPeer γ2 1 rfl rfl Bt rfl Bt rfl rfl rfl Mm rfl (by intro h; first | omega | rfl | (simp at h; omega)) (by first | (intro _; first | assumption | omega) | (intro h; simp at h; omega))) ?_
          refine rw_qg (guard_vt rfl rfl rfl) rfl rfl (q_fae rfl rfl Bt rfl rfl) ?_
          refine rw_qg (guard_vt rfl rfl rfl) rfl rfl (q_le1N NPeer γ2 (v := (γ2 1).val ((gt (((hub_Next ((hub_Replay [(orangerylaw_accepted_1 1), (orangerylaw_accepted_2 1 2 0 1 1), (orangerylaw_accepted_2 2 3 2 1 2), (⟨3, 1, 0, [2], (⟨0, 0, 0, 0, 0, 0, 0⟩ : Op)⟩ : Rec)]).1) (orangerylaw_accepted_1 2)).1).peers) 1).roots).length) rfl rfl Bt rfl rfl Mm (by first | (intro _; first | assumption | omega) | (intro h; simp at h; omega)) rfl) ?_
          refine Tx ?_
          refine rw_callg (fun hG_ => hub_Check_spec x6.1 x6.2.1 x6.2.2 ((hub_Replay [(orangerylaw_accepted_1 1), (orangerylaw_accepted_2 1 2 0 1 1), (orangerylaw_accepted_2 2 3 2 1 2), (⟨3, 1, 0, [2], (⟨0, 0, 0, 0, 0, 0, 0⟩ : Op)⟩ : Rec)]).1)) (fun _ => rfl) .sq (guard_vt rfl rfl rfl) rfl rfl rfl Kr rfl Bt Sm ?_
          refine Tx ?_
          refine rw_callg (fun hG_ => hub_Same_spec x6.1 x6.2.1 x6.2.2 ((hub_Replay [(orangerylaw_accepted_1 1), (orangerylaw_accepted_2 1 2 0 1 1), (orangerylaw_accepted_2 2 3 2 1 2), (⟨3, 1, 0, [2], (⟨0, 0, 0, 0, 0, 0, 0⟩ : Op)⟩ : Rec)]).1) x6.1 x6.2.1 x6.2.2 ((hub_Replay [(orangerylaw_accepted_1 1), (orangerylaw_accepted_2 1 2 0 1 1), (orangerylaw_accepted_2 2 3 2 1 2), (⟨3, 1, 0, [2], (⟨0, 0, 0, 0, 0, 0, 0⟩ : Op)⟩ : Rec)]).1)) (fun _ => rfl) .sq (guard_vt rfl rfl rfl) rfl rfl rfl Kr rfl Bt Sm ?_
          refine Tx ?_
          have hr1 : (orangerylaw_accepted) = (((((((((((((((hub_Replay [(orangerylaw_accepted_1 1), (orangerylaw_accepted_2 1 2 0 1 1), (orangerylaw_accepted_2 2 3 2 1 2), (⟨3, 1, 0, [2], (⟨0, 0, 0, 0, 0, 0, 0⟩ : Op)⟩ : Rec)]).2) == 0) && (((hub_Sees ((hub_Replay [(orangerylaw_accepted_1 1), (orangerylaw_accepted_2 1 2 0 1 1), (orangerylaw_accepted_2 2 3 2 1 2), (⟨3, 1, 0, [2], (⟨0, 0, 0, 0, 0, 0, 0⟩ : Op)⟩ : Rec)]).1) 1).2) == 0)) && (((hub_Next ((hub_Replay [(orangerylaw_accepted_1 1), (orangerylaw_accepted_2 1 2 0 1 1), (orangerylaw_accepted_2 2 3 2 1 2), (⟨3, 1, 0, [2], (⟨0, 0, 0, 0, 0, 0, 0⟩ : Op)⟩ : Rec)]).1) (orangerylaw_accepted_2 3 4 0 1 4)).2) == 7)) && (((hub_Next ((hub_Replay [(orangerylaw_accepted_1 1), (orangerylaw_accepted_2 1 2 0 1 1), (orangerylaw_accepted_2 2 3 2 1 2), (⟨3, 1, 0, [2], (⟨0, 0, 0, 0, 0, 0, 0⟩ : Op)⟩ : Rec)]).1) (orangerylaw_accepted_1 2)).2) == 0)) && (((hub_Next ((hub_Next ((hub_Replay [(orangerylaw_accepted_1 1), (orangerylaw_accepted_2 1 2 0 1 1), (orangerylaw_accepted_2 2 3 2 1 2), (⟨3, 1, 0, [2], (⟨0, 0, 0, 0, 0, 0, 0⟩ : Op)⟩ : Rec)]).1) (orangerylaw_accepted_1 2)).1) (orangerylaw_accepted_2 3 4 0 1 3)).2) == 7)) && (((hub_Next ((hub_Next ((hub_Replay [(orangerylaw_accepted_1 1), (orangerylaw_accepted_2 1 2 0 1 1), (orangerylaw_accepted_2 2 3 2 1 2), (⟨3, 1, 0, [2], (⟨0, 0, 0, 0, 0, 0, 0⟩ : Op)⟩ : Rec)]).1) (orangerylaw_accepted_1 2)).1) (orangerylaw_accepted_2 3 4 0 2 1)).2) == 0)) && ((((hub_Replay [(orangerylaw_accepted_1 1), (orangerylaw_accepted_2 1 2 0 1 1), (orangerylaw_accepted_2 2 3 2 1 2), (⟨3, 1, 0, [2], (⟨0, 0, 0, 0, 0, 0, 0⟩ : Op)⟩ : Rec)]).1).version) == 4)) && (((gt (((hub_Replay [(orangerylaw_accepted_1 1), (orangerylaw_accepted_2 1 2 0 1 1), (orangerylaw_accepted_2 2 3 2 1 2), (⟨3, 1, 0, [2], (⟨0, 0, 0, 0, 0, 0, 0⟩ : Op)⟩ : Rec)]).1).peers) 1).seq) == 2)) && (((((hub_Sees ((hub_Replay [(orangerylaw_accepted_1 1), (orangerylaw_accepted_2 1 2 0 1 1), (orangerylaw_accepted_2 2 3 2 1 2), (⟨3, 1, 0, [2], (⟨0, 0, 0, 0, 0, 0, 0⟩ : Op)⟩ : Rec)]).1) 1).1).known).length : Int) == 2)) && (((gt (((hub_Next ((hub_Replay [(orangerylaw_accepted_1 1), (orangerylaw_accepted_2 1 2 0 1 1), (orangerylaw_accepted_2 2 3 2 1 2), (⟨3, 1, 0, [2], (⟨0, 0, 0, 0, 0, 0, 0⟩ : Op)⟩ : Rec)]).1) (orangerylaw_accepted_1 2)).1).peers) 1).seq) == 0)) && ((((gt (((hub_Next ((hub_Replay [(orangerylaw_accepted_1 1), (orangerylaw_accepted_2 1 2 0 1 1), (orangerylaw_accepted_2 2 3 2 1 2), (⟨3, 1, 0, [2], (⟨0, 0, 0, 0, 0, 0, 0⟩ : Op)⟩ : Rec)]).1) (orangerylaw_accepted_1 2)).1).peers) 1).roots).length : Int) == 0)) && ((hub_Check ((hub_Replay [(orangerylaw_accepted_1 1), (orangerylaw_accepted_2 1 2 0 1 1), (orangerylaw_accepted_2 2 3 2 1 2), (⟨3, 1, 0, [2], (⟨0, 0, 0, 0, 0, 0, 0⟩ : Op)⟩ : Rec)]).1)) == 0)) && (hub_Same ((hub_Replay [(orangerylaw_accepted_1 1), (orangerylaw_accepted_2 1 2 0 1 1), (orangerylaw_accepted_2 2 3 2 1 2), (⟨3, 1, 0, [2], (⟨0, 0, 0, 0, 0, 0, 0⟩ : Op)⟩ : Rec)]).1) ((hub_Replay [(orangerylaw_accepted_1 1), (orangerylaw_accepted_2 1 2 0 1 1), (orangerylaw_accepted_2 2 3 2 1 2), (⟨3, 1, 0, [2], (⟨0, 0, 0, 0, 0, 0, 0⟩ : Op)⟩ : Rec)]).1))) := by simp only [orangerylaw_accepted, cond_true, cond_false]
          refine cw_ret ?_; rw [hr1]; exact Re () (Vt Vn)
end Go.Proofs.YtccmadehnoihnaaGreatDoor

namespace Go.Proofs.YtccmadehnoihnaaGreatDoor.Fw
open Go

/-! ### Texts cut at a byte -/
/-- The pieces between the bytes c. -/
def spl (c : UInt8) : Str → List Str
  | [] => [[]]
  | b :: r => bif b == c then [] :: spl c r else match spl c r with | [] => [[b]] | h :: t => (b :: h) :: t
/-- What stands before the first c, what stands behind it, whether there is one. -/
def cutc (c : UInt8) : Str → Str × Str × Bool
  | [] => ([], [], false)
  | b :: r => bif b == c then ([], r, true) else (b :: (cutc c r).1, (cutc c r).2.1, (cutc c r).2.2)

theorem idx1 (c : UInt8) : ∀ s : Str, (Lib.index s [c] = -1 ∧ c ∉ s) ∨ ∃ p r, s = p ++ c :: r ∧ c ∉ p ∧ Lib.index s [c] = (p.length : Int)
  | [] => .inl ⟨rfl, by simp⟩
  | b :: l => by
    by_cases h : b = c
    · subst h
      exact .inr ⟨[], l, rfl, by simp, by simp [Lib.index]⟩
    · have hp : ([c] : Str).isPrefixOf (b :: l) = false := by simp [List.isPrefixOf, Ne.symm h]
      rcases idx1 c l with ⟨h1, h2⟩ | ⟨p, r, h1, h2, h3⟩
      · exact .inl ⟨by rw [Lib.index, hp, h1]; rfl, by simp [Ne.symm h, h2]⟩
      · refine .inr ⟨b :: p, r, by rw [h1]; rfl, by simp [Ne.symm h, h2], ?_⟩
        rw [Lib.index, hp, h3]
        have : ((p.length : Int) == -1) = false := by rw [beq_eq_false_iff_ne]; omega
        simp [this]

theorem spl_no {c : UInt8} : ∀ {s : Str}, c ∉ s → spl c s = [s]
  | [], _ => rfl
  | b :: r, h => by
    have h1 : (b == c) = false := by simp only [List.mem_cons, not_or] at h; simpa using Ne.symm h.1
    rw [spl, h1, cond_false, spl_no (by simp only [List.mem_cons, not_or] at h; exact h.2)]
theorem spl_hit {c : UInt8} (r : Str) : ∀ {p : Str}, c ∉ p → spl c (p ++ c :: r) = p :: spl c r
  | [], _ => by simp [spl]
  | b :: p, h => by
    have h1 : (b == c) = false := by simp only [List.mem_cons, not_or] at h; simpa using Ne.symm h.1
    rw [List.cons_append, spl, h1, cond_false, spl_hit r (by simp only [List.mem_cons, not_or] at h; exact h.2)]
theorem cutc_no {c : UInt8} : ∀ {s : Str}, c ∉ s → cutc c s = (s, [], false)
  | [], _ => rfl
  | b :: r, h => by
    have h1 : (b == c) = false := by simp only [List.mem_cons, not_or] at h; simpa using Ne.symm h.1
    rw [cutc, h1, cond_false, cutc_no (by simp only [List.mem_cons, not_or] at h; exact h.2)]
theorem cutc_hit {c : UInt8} (r : Str) : ∀ {p : Str}, c ∉ p → cutc c (p ++ c :: r) = (p, r, true)
  | [], _ => by simp [cutc]
  | b :: p, h => by
    have h1 : (b == c) = false := by simp only [List.mem_cons, not_or] at h; simpa using Ne.symm h.1
    rw [List.cons_append, cutc, h1, cond_false, cutc_hit r (by simp only [List.mem_cons, not_or] at h; exact h.2)]
theorem cut_cutc (c : UInt8) (s : Str) : Lib.cut s [c] = cutc c s := by
  unfold Lib.cut
  rcases idx1 c s with ⟨h1, h2⟩ | ⟨p, r, h1, h2, h3⟩
  · rw [h1, if_neg (by omega), cutc_no h2]
  · rw [h3, if_pos (by omega), h1, cutc_hit r h2]
    simp

theorem splitK_spl (c : UInt8) : ∀ (n : Nat) (s : Str), s.length ≤ n → Lib.splitK [c] 0 (Lib.count s [c]) s = spl c s
  | n, s, hn => by
    rcases idx1 c s with ⟨h1, h2⟩ | ⟨p, r, h1, h2, h3⟩
    · rw [Lib.count_miss h1, spl_no h2]; rfl
    · have hr : s.drop (p.length + ([c] : Str).length) = r := by rw [h1]; simp
      rw [Lib.count_hit (by simp) h3, hr, Nat.add_comm 1, Lib.splitK, h3]
      have : ((p.length : Int) == -1) = false := by rw [beq_eq_false_iff_ne]; omega
      rw [this]
      simp only [Int.toNat_natCast, hr]
      cases n with
      | zero => rw [h1] at hn; simp at hn
      | succ n =>
        rw [splitK_spl c n r (by rw [h1] at hn; simp at hn; omega), h1, spl_hit r h2]
        simp
/-- What Split makes. -/
theorem splitB_spl (c : UInt8) (s : Str) : (Lib.splitB ⟨#[c]⟩ 0 (Lib.countB ⟨s.toArray⟩ ⟨#[c]⟩) ⟨s.toArray⟩).map Value.string = (spl c s).map sV := by
  have h := Lib.splitB_data ⟨#[c]⟩ 0 (Lib.countB ⟨s.toArray⟩ ⟨#[c]⟩) ⟨s.toArray⟩
  have h2 := splitK_spl c s.length s (Nat.le_refl _)
  rw [show Lib.splitK (ByteArray.mk #[c]).data.toList 0 (Lib.countB ⟨s.toArray⟩ ⟨#[c]⟩) (ByteArray.mk s.toArray).data.toList = spl c s from h2] at h
  rw [← h, List.map_map]
  refine List.map_congr_left fun b _ => ?_
  simp [sV]
theorem spl_len (c : UInt8) : ∀ s : Str, 0 < (spl c s).length ∧ (spl c s).length ≤ s.length + 1
  | [] => by simp [spl]
  | b :: r => by
    have ih := spl_len c r
    rw [spl]
    cases b == c with
    | true => simp only [cond_true, List.length_cons]; omega
    | false =>
      simp only [cond_false]
      cases h : spl c r with
      | nil => simp
      | cons a t => rw [h] at ih; simp at ih ⊢; omega
theorem spl_mem_len {c : UInt8} : ∀ {s t : Str}, t ∈ spl c s → t.length ≤ s.length
  | [], t, h => by simp [spl] at h; simp [h]
  | b :: r, t, h => by
    rw [spl] at h
    cases hb : b == c with
    | true =>
      rw [hb, cond_true] at h
      rcases List.mem_cons.1 h with rfl | h
      · simp
      · have := spl_mem_len h; simp; omega
    | false =>
      rw [hb, cond_false] at h
      cases hs : spl c r with
      | nil => rw [hs] at h; simp at h; simp [h]
      | cons a q =>
        rw [hs] at h
        rcases List.mem_cons.1 h with rfl | h
        · have := spl_mem_len (c := c) (s := r) (t := a) (by rw [hs]; exact .head _); simp; omega
        · have := spl_mem_len (c := c) (s := r) (t := t) (by rw [hs]; exact .tail _ h); simp; omega
theorem cutc_len (c : UInt8) : ∀ s : Str, (cutc c s).1.length ≤ s.length ∧ (cutc c s).2.1.length ≤ s.length
  | [] => by simp [cutc]
  | b :: r => by
    have := cutc_len c r
    rw [cutc]
    cases b == c with
    | true => simp
    | false => simp only [cond_false, List.length_cons]; omega
theorem cutc_lt (c : UInt8) : ∀ s : Str, (cutc c s).2.2 = true → (cutc c s).1.length + (cutc c s).2.1.length + 1 = s.length
  | [], h => by simp [cutc] at h
  | b :: r, h => by
    have ih := cutc_lt c r
    rw [cutc] at h ⊢
    cases hb : b == c with
    | true => simp
    | false => rw [hb] at h; simp only [cond_false, List.length_cons] at h ⊢; have := ih h; omega

/-! ### Numbers as texts -/
def atv (s : Str) : Int := match Lib.atoiAll s with | .ok v => v | .range => Lib.atoiSat s | _ => 0
def ate (s : Str) : Bool := match Lib.atoiAll s with | .ok _ => false | _ => true
theorem atv_bounds (s : Str) : -9223372036854775808 ≤ atv s ∧ atv s ≤ 9223372036854775807 := by
  unfold atv
  cases h : Lib.atoiAll s with
  | ok v => exact Lib.atoiAll_bounds h
  | range => simp only [Lib.atoiSat]; split <;> omega
  | _ => simp
end Go.Proofs.YtccmadehnoihnaaGreatDoor.Fw

namespace Go.Proofs.YtccmadehnoihnaaGreatDoor.Fw
open Go Go.RowKit

/-! ### What the library's functions want of the package-level variables -/
structure LibW (P : Program) (w : World) : Prop where
  len : ∃ g m, P.globalNamed "internal/bytealg.MaxLen" = some g ∧ w.cell? ⟨g, 0, none⟩ = some (.int .i64 m)
  tab : Lib.TabIs P w "internal/strconv.uint64pow10" .u64 Lib.pow10Tab
  syn : ∃ tp p, w.var? P "strconv.ErrSyntax" = some #[.iface tp p]
  rng : ∃ tp p, w.var? P "strconv.ErrRange" = some #[.iface tp p]

def libNames : List String := ["internal/bytealg.MaxLen", "internal/strconv.uint64pow10", "strconv.ErrSyntax", "strconv.ErrRange"]
def LibP (P : Program) : Pred := fun M w => (∀ n ∈ libNames, ∀ g, P.globalNamed n = some g → g < w.heap.size ∧ ¬ M g) ∧ LibW P w

theorem var_eq {P : Program} {w w' : World} {n : String} (h : ∀ g, P.globalNamed n = some g → w'.heap[g]? = w.heap[g]?) : w'.var? P n = w.var? P n := by
  unfold World.var?
  cases hg : P.globalNamed n with
  | none => rfl
  | some g => simp only [Option.bind_some, h g hg]

instance (P : Program) : Stab (LibP P) where
  st M M' w w' h hx hM := by
    obtain ⟨h1, h2⟩ := h
    have hh : ∀ n ∈ libNames, ∀ g, P.globalNamed n = some g → w'.heap[g]? = w.heap[g]? := fun n hn g hg => hx.2 g (h1 n hn g hg).1 (h1 n hn g hg).2
    have hv := fun n hn => var_eq (P := P) (w := w) (w' := w') (n := n) (hh n hn)
    refine ⟨fun n hn g hg => ⟨Nat.lt_of_lt_of_le (h1 n hn g hg).1 hx.1, fun hm => (h1 n hn g hg).2 (hM g (h1 n hn g hg).1 hm)⟩, ?_, ?_, ?_, ?_⟩
    · obtain ⟨g, m, hg, hc⟩ := h2.len
      exact ⟨g, m, hg, (World.cell?_of_block (hh _ (by simp [libNames]) g hg)).trans hc⟩
    · unfold Lib.TabIs; rw [hv _ (by simp [libNames])]; exact h2.tab
    · rw [hv _ (by simp [libNames])]; exact h2.syn
    · rw [hv _ (by simp [libNames])]; exact h2.rng

/-- At the law's own call: what the row lists, and the shape of the world. -/
theorem lib_top {P : Program} {w : World} (h : LibW P w) : LibP P (fun _ => False) w := by
  refine ⟨fun n hn g hg => ⟨?_, fun h => h⟩, h⟩
  have hv : ∀ {cs}, w.var? P n = some cs → g < w.heap.size := fun {cs} h => by
    unfold World.var? at h
    rw [hg] at h
    rcases Nat.lt_or_ge g w.heap.size with h' | h'
    · exact h'
    · simp [Array.getElem?_eq_none h'] at h
  simp only [libNames, List.mem_cons, List.not_mem_nil, or_false] at hn
  rcases hn with rfl | rfl | rfl | rfl
  · obtain ⟨g', m, hg', hc⟩ := h.len
    rw [hg'] at hg
    cases hg
    rcases Nat.lt_or_ge g w.heap.size with h' | h'
    · exact h'
    · simp [World.cell?, Array.getElem?_eq_none h'] at hc
  · exact hv h.tab
  · obtain ⟨_, _, h1⟩ := h.syn; exact hv h1
  · obtain ⟨_, _, h1⟩ := h.rng; exact hv h1

theorem does_lib {P : Program} {f : FuncId} {args : List Value} {pre : List Pred} {X : Type} {val : X → Value} {post : X → List Pred} (hst : ∀ x, StabL (post x))
    (h : ∀ (M : Nat → Prop) (w : World), (∀ b, M b → b < w.heap.size) → AllF pre M w → Calls P f args.toArray w (fun e w' => ∃ x, e = .returned (val x) ∧ Below w.heap.size w w' ∧ AllF (post x) M w')) :
    Does P f args pre val post where
  st := hst
  ok C hB hw := by
    refine (h (Mset C ⟨0, [], [], [], pre⟩) C.w0 (fun b hb => Mset_lt hw hb) (fun F hF => (hw.fa F hF).2)).mono fun e w' ⟨x, he, hb, hp⟩ => ⟨x, he, ?_⟩
    have hg := hw.grow hb
    exact ⟨hg.be, hg.bl, hg.ow, hg.nd, fun F hF => ⟨(hst x).st F hF, hp F hF⟩⟩

theorem below_drewN {w : World} (n : Nat) : Below w.heap.size w (w.drewN n) := ⟨rfl, rfl, rfl, Nat.le_refl _, fun _ _ => rfl⟩
theorem below_bytes (w : World) (e : TypeId) (s : ByteArray) : Below w.heap.size w (Lib.bytesWorld w e s) := by
  refine ⟨?_, ?_, ?_, by rw [Lib.bytesWorld_size]; omega, fun k hk => Lib.bytesWorld_at_old w e _ k hk⟩ <;> rfl
theorem below_alloc (w : World) (o : Obj) : Below w.heap.size w (w.alloc o) := ⟨rfl, rfl, rfl, by simp, fun k hk => heap_alloc_old w o k hk⟩

/-- A new row of texts reads as these. -/
theorem rd_newrow {M : Nat → Prop} {w : World} (hM : ∀ b, M b → b < w.heap.size) (l : List Str) (t : TypeId) (hl : l.length * 16 ≤ 140737488355328) :
    RdL EStr ⟨some ⟨w.heap.size, 0, none⟩, l.length⟩ l M (w.alloc (.cells (l.map sV).toArray t)) := by
  refine ⟨Nat.le_refl _, by show l.length ≤ _; omega, hl, fun _ => ⟨_, rfl, by simp, fun hm => Nat.lt_irrefl _ (hM _ hm), fun i hi j v hv => ?_⟩⟩
  have hj : j = 0 := by
    obtain ⟨hlt, _⟩ := List.getElem?_eq_some_iff.1 hv
    simp [EStr] at hlt
    exact hlt
  subst hj
  simp only [EStr, List.getElem?_cons_zero, Option.some.injEq] at hv
  subst hv
  rw [add_none]
  have h0 := heap_alloc_new w (.cells (l.map sV).toArray t)
  simp only [EStr, World.cell?, h0]
  simp [hi]
end Go.Proofs.YtccmadehnoihnaaGreatDoor.Fw

namespace Go.Proofs.YtccmadehnoihnaaGreatDoor.Fw
open Go Go.RowKit

section
variable {P : Program} {T : Tab} {C : Cx} {ops : Array Oper} {o : Oper} {r r' : RS} {s : St} {Q : Post} {N : Nat} {SL : Slots} {BL : List Blk} {OW : List Own} {FA : List Pred} {c : Code}

theorem strCells_enc (l : Str) : Lib.strCells ⟨l.toArray⟩ = l.flatMap EByte.enc := by
  show (l.map fun b => Value.int .u8 b.toNat) = l.flatMap fun b => [yV b]
  induction l with
  | nil => rfl
  | cons a r ih => rw [List.map_cons, List.flatMap_cons, ih]; rfl

theorem run_appS0 {t u ty e : TypeId} {i : TypeInfo} (ht : P.underlying t = some (.slice e)) (hu : P.underlying u = some .string) (hi : P.info? e = some i) (w : World) {A : Option Addr} {n cap : Nat} (hn : n ≤ cap) {b : ByteArray} (hb : b.size = 0) :
    (Builtin.append_ #[t, u] ty #[.slice A n cap, .string b]).run P w = .ok (.slice A n cap) w := by
  have hx : b.data = #[] := Array.eq_empty_of_size_eq_zero hb
  cases A <;> simp [Builtin.append_, run_underlying ht, run_underlying hu, sizeOf, typeInfo, hi, Builtin.lenOf, Builtin.firstCells, hb, hn, storeCells, hx]

/-- A text's bytes appended to bytes that are owned. -/
theorem run_appS {t u ty : Nat} {q : Own} {z : List Value} (hT : TabOk T P) (ht : T.slc t = some q.e) (hu : P.underlying u = some .string) {agg : Bool} (hz : T.siz q.e = some (q.esz, agg)) (hzz : T.zer q.e = some z) (hzl : z.length = 1) (hby : T.byt q.e = some q.by_) (hes : q.esz = 1) (hb1 : q.by_ = 1)
    {w : World} (hw : WOk C ⟨N, SL, BL, OW, FA⟩ w) (hq : OwnOk C w q) (l : Str) (hb : q.n + l.length ≤ 140737488355328) :
    ∃ A' c' b' w', (Builtin.append_ #[t, u] ty #[q.v, sV l]).run P w = .ok (.slice A' (q.n + l.length) c') w' ∧ OwnOk C w' ⟨.slice A' (q.n + l.length) c', b', q.e, q.esz, q.by_, q.n + l.length, q.xs ++ l.flatMap EByte.enc⟩ ∧ w.grownBy w' q.b ∧ (b' = q.b ∨ b' = none ∨ b' = some w.heap.size) := by
  obtain ⟨qv, qb, qe, qs, qby, qn, qx⟩ := q
  simp only at ht hz hzz hby hes hb1 hb hq ⊢
  subst hes; subst hb1
  have hut := hT.slc _ _ ht
  obtain ⟨ti, d, q1, q2, q3, q4⟩ := hT.siz _ _ _ hz
  obtain ⟨ti', hi', hby'⟩ := hT.byt _ _ hby
  obtain ⟨ti'', zv, hi'', hz'', hzc⟩ := hT.zer _ _ hzz
  rw [q1] at hi' hi''
  cases hi'; cases hi''
  have hzs : zv.cells.size = 1 := by rw [← hzl, ← hzc]; simp
  have hsz := size_sV l
  have hsc := strCells_enc l
  have hfl : (l.flatMap EByte.enc).length = l.length := by rw [← hsc, Lib.strCells_length, hsz]
  obtain ⟨hl', hn', hbb⟩ := hq
  simp only at hl' hn' hbb
  rw [Nat.mul_one] at hl'
  have e1 : (Array.map (fun b => Value.int .u8 b.toNat) (ByteArray.mk l.toArray).data) = (Lib.strCells ⟨l.toArray⟩).toArray := by
    apply Array.ext'
    simp [Lib.strCells]
  -- a new row
  have grown : ∀ (old : Nat), OwnOk C (w.drew.alloc (.cells (qx.toArray ++ (l.flatMap EByte.enc).toArray ++ Builtin.zeroCells zv.cells (grownCap w (qn + l.length) old qe - (qn + l.length))) qe)) ⟨.slice (some ⟨w.heap.size, 0, none⟩) (qn + l.length) (grownCap w (qn + l.length) old qe), some w.heap.size, qe, 1, 1, qn + l.length, qx ++ l.flatMap EByte.enc⟩ := by
    intro old
    have hge := grownCap_ge w (qn + l.length) old qe
    have hcm : grownCap w (qn + l.length) old qe ≤ maxLen := grownCap_le_maxLen w (qn + l.length) old qe (by simp only [maxLen]; omega)
    refine ⟨by simp only [List.length_append, hl', hfl, Nat.mul_one], ⟨(by show qn + l.length ≤ _; omega), (by show (qn + l.length) * 1 ≤ _; omega)⟩, .inl hw.be.size, _, _, rfl, heap_alloc_new w.drew _, hge, by simpa [maxLen] using hcm, ?_, ?_⟩
    · simp only [Array.size_append, List.size_toArray, size_zeroCells, hzs, hl', hfl]
      omega
    · simp only [Array.toList_append, List.append_assoc, Nat.mul_one]
      rw [← List.append_assoc, show qn + l.length = (qx ++ l.flatMap EByte.enc).length by rw [List.length_append, hl', hfl]]
      exact List.take_left
  have hgr : ∀ (o : Obj) (row : Option Nat), w.grownBy (w.drew.alloc o) row := fun o row => ⟨rfl, rfl, rfl, by simp, fun k hk _ => heap_alloc_old w.drew _ k hk⟩
  have hnil : l.length = 0 → l = [] := fun h => List.eq_nil_of_length_eq_zero h
  cases qb with
  | none =>
    simp only at hbb
    obtain ⟨h0, A, rfl⟩ := hbb
    subst h0
    have hxs : qx = [] := List.eq_nil_of_length_eq_zero hl'
    subst hxs
    by_cases hm : l.length = 0
    · have := hnil hm
      subst this
      exact ⟨A, 0, none, w, run_appS0 hut hu q1 w (Nat.le_refl _) hsz, ⟨rfl, ⟨Nat.zero_le _, Nat.zero_le _⟩, rfl, A, rfl⟩, ⟨rfl, rfl, rfl, Nat.le_refl _, fun _ _ _ => rfl⟩, .inl rfl⟩
    · have hg := grown 0
      cases A with
      | none =>
        have hr := run_append_nil_string (P := P) w t u ty qe ti zv hut hu q1 hz'' ⟨l.toArray⟩ (by rw [hsz]; omega) (by rw [hsz]; omega) (by rw [hby', hsz]; omega)
        rw [e1, hsc, hsz] at hr
        simp only [Nat.zero_add, List.nil_append, Array.empty_append] at hg ⊢
        exact ⟨_, _, some w.heap.size, _, hr, hg, hgr _ _, .inr (.inr rfl)⟩
      | some a =>
        have hr := Lib.run_append_grow_string (P := P) w t u ty qe ti zv hut hu q1 hz'' a 0 0 [] (by simp) (by simp) ⟨l.toArray⟩ (by rw [hsz]; omega) (by rw [hsz]; omega) (by rw [hby', hsz]; exact growslice_fits (by omega) (by omega))
        rw [hsc, hsz] at hr
        exact ⟨_, _, some w.heap.size, _, hr, hg, hgr _ _, .inr (.inr rfl)⟩
  | some g =>
    simp only at hbb
    obtain ⟨hg, cap, cur, rfl, hh, hnc, hcap, hcs, htake⟩ := hbb
    rw [Nat.mul_one] at hcs htake
    by_cases hroom : qn + l.length ≤ cap
    · have hr := Lib.run_append_room_string (P := P) w t u ty qe ti hut hu q1 q2 g qn cap cur hh ⟨l.toArray⟩ (by rw [hsz]; exact hroom) (by rw [hsz]; omega)
      rw [hsc, hsz] at hr
      refine ⟨_, _, some g, _, hr, ⟨by simp only [List.length_append, hl', hfl, Nat.mul_one], ⟨(by show qn + l.length ≤ _; omega), (by show (qn + l.length) * 1 ≤ _; omega)⟩, hg, cap, _, rfl, setRow_heap w g cur _ qe _ hh, hroom, hcap, ?_, ?_⟩, ⟨rfl, rfl, rfl, by simp, fun k _ hk => setRow_other w g k _ (fun e => hk (by simp [e]))⟩, .inl rfl⟩
      · simp only [List.size_toArray, List.length_append, List.length_take, List.length_drop, Array.length_toList, hfl]
        omega
      · simp only [Nat.mul_one]
        rw [htake, show qn + l.length = (qx ++ l.flatMap EByte.enc).length by rw [List.length_append, hl', hfl]]
        exact List.take_left
    · have holds : ∀ j u, qx[j]? = some u → w.cell? ((⟨g, 0, none⟩ : Addr).add j) = some u := fun j u hj => by
        rw [add_none, Nat.zero_add]
        simp only [World.cell?, hh]
        have hjl := (List.getElem?_eq_some_iff.1 hj).1
        rw [← htake, List.getElem?_take, if_pos (by omega), Array.getElem?_toList] at hj
        exact hj
      have hr := Lib.run_append_grow_string (P := P) w t u ty qe ti zv hut hu q1 hz'' ⟨g, 0, none⟩ qn cap qx (by rw [q2]; omega) holds ⟨l.toArray⟩ (by rw [hsz]; omega) (by rw [hsz]; omega) (by rw [hby', hsz]; exact growslice_fits (by omega) (by omega))
      rw [hsc, hsz] at hr
      exact ⟨_, _, some w.heap.size, _, hr, grown cap, hgr _ _, .inr (.inr rfl)⟩

theorem rw_appendS (l m : Str) {e : TypeId} {X : SlV} {b : Option Nat} {d t u : Nat} {x y : Operand} {g0 g1 : Bool} {z : List Value} {agg : Bool} {ow' : SlV → Option Nat → List Own} {D : List Nat} (hf : Front ops r o D r') (hbD : ∀ g, b = some g → (∃ l, r = .sq l) ∨ g ∈ D) (hg : Guard ops SL o true) (hd : o.dst = some d) (hn : Nat.blt d N = true)
    (ho : o.op = .call ⟨.builtin .append, ⟨[x, y]⟩, ⟨[t, u]⟩⟩) (hx : ev SL x = some (g0, X.val l.length)) (hg0 : g0 = true) (hy : ev SL y = some (g1, sV m)) (hg1 : g1 = true)
    (hut : P.underlying u = some .string) (hu : ∀ (X' : SlV) b', UpdO OW (ownL EByte e X b l) [ownL EByte e X' b' (l ++ m)] (ow' X' b'))
    (ht : T.slc t = some e) (hz : T.siz e = some (1, agg)) (hzz : T.zer e = some z) (hzl : z.length = 1) (hby : T.byt e = some 1)
    (hb : l.length + m.length ≤ 140737488355328)
    (h : ∀ (X' : SlV) (b' : Option Nat), RW P T C ops r' ⟨N, (d, .v (X'.val (l ++ m).length)) :: SL, BL, ow' X' b', FA⟩ Q) : RW P T C ops r ⟨N, SL, BL, OW, FA⟩ Q := by
  have key : Loud P T C ⟨N, SL, BL, OW, FA⟩ o b.toList (fun s' => ∃ (X : SlV) (b' : Option Nat), s' = ⟨N, (d, .v (X.val (l ++ m).length)) :: SL, BL, ow' X b', FA⟩) := by
    intro hT a w hrep
    refine Oper.wp_mono ?_ (loud_val (D := b.toList) hd hn (K := fun u bl ow fa => ∃ (X : SlV) (b' : Option Nat), u = X.val (l ++ m).length ∧ bl = BL ∧ ow = ow' X b' ∧ fa = FA) ?_ hT a w hrep)
    · rintro a' w' ⟨s', ⟨u, bl, ow, fa, ⟨X, b', e1, e2, e3, e4⟩, e5⟩, h2, h3⟩
      subst e1; subst e2; subst e3; subst e4
      exact ⟨s', ⟨X, b', e5⟩, h2, h3⟩
    · intro hT a w hrep
      have hm : ownL EByte e X b l ∈ OW := by obtain ⟨l', r, e, _⟩ := (hu ⟨none, 0⟩ none).spec; rw [e]; simp
      have hq := hrep.wo.ow _ hm
      obtain ⟨A', c', b', w', hrun, ho', hgr, hbb⟩ := run_appS (ty := o.type) hT (q := ownL EByte e X b l) ht hut hz hzz hzl hby rfl rfl hrep.wo hq m hb
      simp only at hrun ho' hgr hbb
      have e1 : (l ++ m).length = l.length + m.length := List.length_append
      have e2 : (l ++ m).flatMap EByte.enc = l.flatMap EByte.enc ++ m.flatMap EByte.enc := List.flatMap_append
      have hu' := hu ⟨A', c'⟩ b'
      rw [ownL, ownL, e1, e2] at hu'
      refine ⟨.slice A' (l.length + m.length) c', w', BL, ow' ⟨A', c'⟩ b', FA, ?_, hrep.wo.swapO hu' ho' hgr hbb, ⟨hgr.size, fun k hk hn => hgr.block k hk fun e => hn (by rw [← e]; simp)⟩, ⟨A', c'⟩, b', by rw [e1]; rfl, rfl, rfl, rfl⟩
      simp only [execOp, ho, resolve, invoke, builtin, Sem.run_bind, Sem.run_pure, Result.andThen_ok, List.map_toArray, List.map_cons, List.map_nil, ev_ok hrep.sl hx hg0, ev_ok hrep.sl hy hg1, hrun]
  cases hf with
  | sq => exact rw_lsq hg key (fun s' ⟨X, b', e⟩ => by subst e; exact h X b')
  | lo _ hi hDD => exact rw_l (.lo b.toList hi hDD) hg key (fun s' ⟨X, b', e⟩ => by subst e; exact h X b')
  | an hi hDD =>
    refine rw_l (.an hi hDD) hg (fun hT a w hrep => Oper.wp_mono (fun a' w' ⟨s', h1, h2, h3⟩ => ⟨s', h1, h2, h3.mono fun k hk => ?_⟩) (key hT a w hrep)) (fun s' ⟨X, b', e⟩ => by subst e; exact h X b')
    rcases hbD k (by simpa using hk) with ⟨_, e⟩ | e
    · cases e
    · exact e
end
end Go.Proofs.YtccmadehnoihnaaGreatDoor.Fw

set_option maxHeartbeats 2000000
namespace Go.Proofs.YtccmadehnoihnaaGreatDoor
open Go Go.Proofs.YtccmadehnoihnaaGreatDoor.Fw Go.Proofs
attribute [local irreducible] RW CW








def note_Same (a1 : Rec) (b1 : Rec) : Bool :=
  (((((a1.kind == b1.kind) && (a1.who == b1.who)) && (a1.life == b1.life)) && decide (a1.o = b1.o)) && (decide (a1.roots = b1.roots)))
theorem note_Same_spec (y1 : SlV) (a1 : Rec) (y2 : SlV) (b1 : Rec) : Does Tryz.prog 13 [.agg ⟨[.int .i64 a1.kind, .int .i64 a1.who, .int .i64 a1.life, y1.val a1.roots.length, .int .i64 a1.o.time, .int .i64 a1.o.who, .int .i64 a1.o.node, .int .i64 a1.o.parent, .int .i64 a1.o.name, .int .i64 a1.o.life, .int .i64 a1.o.seq]⟩, .agg ⟨[.int .i64 b1.kind, .int .i64 b1.who, .int .i64 b1.life, y2.val b1.roots.length, .int .i64 b1.o.time, .int .i64 b1.o.who, .int .i64 b1.o.node, .int .i64 b1.o.parent, .int .i64 b1.o.name, .int .i64 b1.o.life, .int .i64 b1.o.seq]⟩] [RdL EInt y1 a1.roots, RdL EInt y2 b1.roots] (fun (_ : Unit) => .bool (note_Same a1 b1)) (fun (_ : Unit) => []) := by
  refine does_of tab_ok Tryz.func13 rfl Tryz.ntmps13 Tryz.results13 rfl inferInstance (fun _ => inferInstance) fun C => ?_
  refine Pc EInt y1 a1.roots 8 fun hlen1 => ?_
  refine Pc EInt y2 b1.roots 8 fun hlen2 => ?_
  refine Tx ?_
  refine Bx fun g1 => ?_
  refine Bx fun g2 => ?_
  refine Tx ?_
  refine rw_qg (guard_vt rfl rfl rfl) rfl rfl (q_eqE eqT_Op (flatEq_Op a1.o b1.o) rfl rfl Bt rfl Bt rfl rfl) ?_
  refine Tx ?_
  refine rw_callg (fun hG_ => (fun y1 a y2 b => slices_Equal_Int_spec' y1 y2 a b) y1 a1.roots y2 b1.roots) (fun _ => rfl) .sq (guard_vt rfl rfl rfl) rfl rfl rfl Kr rfl Bt Sm ?_
  refine Tx ?_
  have hr1 : (note_Same a1 b1) = (((((a1.kind == b1.kind) && (a1.who == b1.who)) && (a1.life == b1.life)) && decide (a1.o = b1.o)) && (decide (a1.roots = b1.roots))) := by simp only [note_Same, cond_true, cond_false]
  refine cw_ret ?_; rw [hr1]; exact Re () (Vt Vn)


end Go.Proofs.YtccmadehnoihnaaGreatDoor

namespace Go.Proofs.YtccmadehnoihnaaGreatDoor.Fw
open Go Go.Lib

/-! ### A number's text reads as the number -/
theorem ofNat_toNat {k : Nat} (h : k < 256) : (UInt8.ofNat k).toNat = k := by simp [UInt8.toNat_ofNat']; omega

theorem dec_digit : ∀ (u : Nat), ∀ c ∈ decDigits u, 48 ≤ c.toNat ∧ c.toNat ≤ 57 := by
  intro u
  induction u using Nat.strongRecOn with
  | _ u ih =>
    intro c hc
    rw [decDigits] at hc
    split at hc
    · rename_i h
      simp only [List.mem_singleton] at hc
      subst hc
      rw [ofNat_toNat (by omega)]; omega
    · rename_i h
      rcases List.mem_append.1 hc with hc | hc
      · exact ih _ (by omega) c hc
      · simp only [List.mem_singleton] at hc
        subst hc
        rw [ofNat_toNat (by omega)]; omega
theorem dec_ne (u : Nat) : decDigits u ≠ [] := by
  rw [decDigits]; split <;> simp

theorem parse_app : ∀ (l : Str) (acc v : Nat) (r : Str), parseUint10 acc l = .ok v → parseUint10 acc (l ++ r) = parseUint10 v r
  | [], acc, v, r, h => by simp only [parseUint10, NumEnd.ok.injEq] at h; subst h; rfl
  | c :: l, acc, v, r, h => by
    rw [List.cons_append]
    rw [parseUint10] at h ⊢
    split at h
    · rename_i h1
      rw [if_pos h1]
      split at h
      · cases h
      · rename_i h2
        rw [if_neg h2]
        split at h
        · cases h
        · rename_i h3
          rw [if_neg h3]
          exact parse_app l _ v r h
    · cases h

theorem parse_dec : ∀ (u : Nat), u < 18446744073709551616 → parseUint10 0 (decDigits u) = .ok u := by
  intro u
  induction u using Nat.strongRecOn with
  | _ u ih =>
    intro hu
    rw [decDigits]
    split
    · rename_i h
      rw [parseUint10, ofNat_toNat (by omega), if_pos (by omega), if_neg (by omega), if_neg (by omega), parseUint10]
      congr 1; omega
    · rename_i h
      rw [parse_app _ _ _ _ (ih (u / 10) (by omega) (by omega)), parseUint10, ofNat_toNat (by omega), if_pos (by omega), if_neg (by omega), if_neg (by omega), parseUint10]
      congr 1; omega

theorem atoi_itoa {n : Int} (h : -9223372036854775808 ≤ n ∧ n ≤ 9223372036854775807) : atoiAll (itoa n) = .ok n := by
  unfold itoa
  split
  · rename_i hn
    have hp := parse_dec n.natAbs (by omega)
    have hm : parseMag (decDigits n.natAbs) = .ok n.natAbs := by rw [parseMag, if_neg (dec_ne _)]; exact hp
    rw [atoiAll_minus, hm]
    simp only [signed]
    rw [if_neg (by omega)]
    congr 1; omega
  · rename_i hn
    have hp := parse_dec n.toNat (by omega)
    have hd := dec_digit n.toNat
    have hm : parseMag (decDigits n.toNat) = .ok n.toNat := by rw [parseMag, if_neg (dec_ne _)]; exact hp
    cases hc : decDigits n.toNat with
    | nil => exact absurd hc (dec_ne _)
    | cons c r =>
      have hcd := hd c (by rw [hc]; exact .head _)
      rw [hc] at hm
      rw [atoiAll_plain c r (by omega) (by omega), hm]
      simp only [signless]
      rw [if_neg (by omega)]
      congr 1; omega

theorem ate_itoa {n : Int} (h : -9223372036854775808 ≤ n ∧ n ≤ 9223372036854775807) : ate (itoa n) = false := by rw [ate, atoi_itoa h]
theorem atv_itoa {n : Int} (h : -9223372036854775808 ≤ n ∧ n ≤ 9223372036854775807) : atv (itoa n) = n := by rw [atv, atoi_itoa h]

theorem itoa_no {n : Int} {c : UInt8} (h : c.toNat < 45) : c ∉ itoa n := by
  unfold itoa
  intro hc
  split at hc
  · rcases List.mem_cons.1 hc with rfl | hc
    · exact absurd h (by decide)
    · have := dec_digit _ c hc; omega
  · have := dec_digit _ c hc; omega

/-! ### Pieces put together again -/
def glue (c : UInt8) (l : List Str) : Str := l.flatMap (fun t => c :: t)

theorem spl_glue {c : UInt8} : ∀ (w : Str) (l : List Str), c ∉ w → (∀ t ∈ l, c ∉ t) → spl c (w ++ glue c l) = w :: l
  | w, [], hw, _ => by simp only [glue, List.flatMap_nil, List.append_nil]; exact spl_no hw
  | w, t :: l, hw, hl => by
    have e : w ++ glue c (t :: l) = w ++ c :: (t ++ glue c l) := by simp [glue]
    rw [e, spl_hit _ hw, spl_glue t l (hl t (.head _)) (fun u hu => hl u (.tail _ hu))]
end Go.Proofs.YtccmadehnoihnaaGreatDoor.Fw

namespace Go.Proofs.YtccmadehnoihnaaGreatDoor
open Go Go.Proofs.YtccmadehnoihnaaGreatDoor.Fw Go.Proofs
/-! ### Tables of places -/
def pl (tb : List Place) : Nat → Nat → List Place
  | 0, _ => []
  | f + 1, k => bif (decide ((k : Int) > 0) && decide ((gt tb k).parent ≥ 0)) then gt tb k :: pl tb f (k + 1) else pl tb f (k + 1)
theorem gt_set (tb : List Place) (i n : Nat) (p : Place) (hi : i < tb.length) : gt (tb.set i p) n = if i = n then p else gt tb n := by
  simp only [gt, List.getD, List.getElem?_set]
  by_cases h : i = n
  · subst h; simp [hi]
  · simp [h]
end Go.Proofs.YtccmadehnoihnaaGreatDoor

namespace Go.Proofs.YtccmadehnoihnaaGreatDoor
open Go Go.Proofs.YtccmadehnoihnaaGreatDoor.Fw Go.Proofs
theorem Rise.nodup {l : List Op} (h : Rise l) : l.Nodup := h.imp fun {a b} hab e => by rw [e, before_irr] at hab; cases hab
end Go.Proofs.YtccmadehnoihnaaGreatDoor

namespace Go.Proofs.YtccmadehnoihnaaGreatDoor
open Go Go.Proofs.YtccmadehnoihnaaGreatDoor.Fw Go.Proofs
structure Rising (l : List Place) : Prop where
  up : l.Pairwise (fun a b => a.node < b.node)
  rng : ∀ p ∈ l, 1 ≤ p.node ∧ p.node < 16
  par : ∀ p ∈ l, 0 ≤ p.parent
theorem IsTree.rising {l : List Place} (h : IsTree l) : Rising l := ⟨h.up, fun q hq => by have := plc_ok (h.ok q hq); omega, fun q hq => by have := plc_ok (h.ok q hq); omega⟩
theorem Rising.nil : Rising [] := ⟨.nil, by simp, by simp⟩
theorem Rising.none {l : List Place} (h : Rising l) {n : Int} (hz : (find l n).node = 0) : find l n = ⟨0, 0, 0⟩ := by
  refine find_none fun q hq hqn => ?_
  have h3 := find_mem h.up q hq
  rw [hqn] at h3
  rw [h3] at hz
  have := h.rng q hq
  omega
theorem Rising.put {l : List Place} (h : Rising l) {p : Place} (h1 : 1 ≤ p.node ∧ p.node < 16) : Rising (putT l p) := by
  by_cases hp : p.parent < 0
  · rw [putT_t hp]
    exact ⟨put_t_up p h.up, fun q hq => h.rng q (mem_put_t p q l hq).1, fun q hq => h.par q (mem_put_t p q l hq).1⟩
  · rw [putT_f (by omega)]
    refine ⟨put_f_up p h.up, fun q hq => ?_, fun q hq => ?_⟩
    · rcases mem_put_f p q l hq with rfl | hq
      · exact h1
      · exact h.rng q hq.1
    · rcases mem_put_f p q l hq with rfl | hq
      · omega
      · exact h.par q hq.1
theorem Rising.ext {l m : List Place} (h : Rising l) (h' : Rising m) (hf : ∀ n, 1 ≤ n → n < 16 → find l n = find m n) : l = m := by
  refine ext_find h.up h'.up (fun p hp => (h.rng p hp).1) (fun p hp => (h'.rng p hp).1) fun n hn => ?_
  by_cases h2 : n < 16
  · exact hf n hn h2
  · rw [find_none fun q hq e => by have := h.rng q hq; omega, find_none fun q hq e => by have := h'.rng q hq; omega]
end Go.Proofs.YtccmadehnoihnaaGreatDoor

namespace Go.Proofs.YtccmadehnoihnaaGreatDoor
open Go Go.Proofs.YtccmadehnoihnaaGreatDoor.Fw Go.Proofs
/-! ### Places that rise, and their tables -/
/-- The table tells the places. -/
structure TabOf (tb l : List Place) : Prop where
  len : tb.length = 16
  no : ∀ n : Nat, 1 ≤ n → n < 16 → (find l n).node = 0 → (gt tb n).parent < 0
  yes : ∀ n : Nat, 1 ≤ n → n < 16 → (find l n).node ≠ 0 → gt tb n = find l n
theorem TabOf.put {tb l : List Place} (ht : TabOf tb l) {p : Place} (h1 : 1 ≤ p.node ∧ p.node < 16) (hp : 0 ≤ p.parent) : TabOf (tb.set p.node.toNat p) (putT l p) := by
  have hd : decide (p.parent < 0) = false := decide_eq_false (by omega)
  refine ⟨by simp [ht.len], fun n ha hb hz => ?_, fun n ha hb hz => ?_⟩
  · rw [find_putT] at hz
    rw [gt_set _ _ _ _ (by rw [ht.len]; omega)]
    cases he : ((n : Int) == p.node) with
    | true =>
      rw [he, cond_true, hd, cond_false] at hz
      omega
    | false =>
      rw [he, cond_false] at hz
      have : (n : Int) ≠ p.node := by simpa using he
      rw [if_neg (by omega)]
      exact ht.no n ha hb hz
  · rw [find_putT] at hz ⊢
    rw [gt_set _ _ _ _ (by rw [ht.len]; omega)]
    cases he : ((n : Int) == p.node) with
    | true =>
      have : (n : Int) = p.node := by simpa using he
      rw [cond_true, hd, cond_false, if_pos (by omega)]
    | false =>
      rw [he, cond_false] at hz
      have : (n : Int) ≠ p.node := by simpa using he
      rw [if_neg (by omega), cond_false]
      exact ht.yes n ha hb hz
theorem TabOf.drop {tb l : List Place} (ht : TabOf tb l) {n : Int} {q : Place} {p : Place} (h1 : 1 ≤ n ∧ n < 16) (hq : q.parent < 0) (hp : p.parent < 0) (hpn : p.node = n) : TabOf (tb.set n.toNat q) (putT l p) := by
  have hd : decide (p.parent < 0) = true := decide_eq_true hp
  refine ⟨by simp [ht.len], fun m ha hb hz => ?_, fun m ha hb hz => ?_⟩
  · rw [find_putT] at hz
    rw [gt_set _ _ _ _ (by rw [ht.len]; omega)]
    by_cases he : (m : Int) = p.node
    · rw [if_pos (by omega)]; exact hq
    · have : ((m : Int) == p.node) = false := by simpa using he
      rw [this, cond_false] at hz
      rw [if_neg (by omega)]
      exact ht.no m ha hb hz
  · rw [find_putT] at hz ⊢
    rw [gt_set _ _ _ _ (by rw [ht.len]; omega)]
    by_cases he : (m : Int) = p.node
    · have : ((m : Int) == p.node) = true := by simpa using he
      rw [this, cond_true, hd, cond_true] at hz
      exact absurd rfl hz
    · have : ((m : Int) == p.node) = false := by simpa using he
      rw [this, cond_false] at hz ⊢
      rw [if_neg (by omega)]
      exact ht.yes m ha hb hz
end Go.Proofs.YtccmadehnoihnaaGreatDoor

namespace Go.Proofs.YtccmadehnoihnaaGreatDoor
open Go Go.Proofs.YtccmadehnoihnaaGreatDoor.Fw Go.Proofs
theorem accepted_true : orangerylaw_accepted = true := by decide +kernel
end Go.Proofs.YtccmadehnoihnaaGreatDoor

namespace Go.Proofs.YtccmadehnoihnaaGreatDoor
open Go Go.Proofs.YtccmadehnoihnaaGreatDoor.Fw Go.Proofs
theorem eqf_Peer (eq : Peer → Peer → Bool) (he : ∀ a, eq a a = true) (s : List Peer) : ∀ (r : List Peer) (n : Nat), r = s.drop n → slices_EqualFunc_Peer_L0 s eq r n = true
  | [], n, _ => by simp [slices_EqualFunc_Peer_L0]
  | p :: r, n, h => by
    have hn : n < s.length := by
      rcases Nat.lt_or_ge n s.length with h1 | h1
      · exact h1
      · rw [List.drop_of_length_le h1] at h; cases h
    rw [drop_gt hn] at h
    obtain ⟨rfl, h'⟩ := List.cons.inj h
    rw [slices_EqualFunc_Peer_L0, he]
    exact eqf_Peer eq he s r (n + 1) h'
theorem hub_Same_refl (a : Hub) : hub_Same a a = true := by
  unfold hub_Same
  have h1 : history_Same a.h a.h = true := (hSame_iff _ _).2 rfl
  have h2 : slices_EqualFunc_Peer a.peers a.peers hub_Same_1 = true := by
    unfold slices_EqualFunc_Peer
    have e : ((a.peers.length : Int) != (a.peers.length : Int)) = false := bne_self_eq_false _
    rw [e, cond_false]
    exact eqf_Peer hub_Same_1 (fun p => by simp [hub_Same_1]) a.peers a.peers 0 rfl
  rw [h1, h2]; simp
end Go.Proofs.YtccmadehnoihnaaGreatDoor

namespace Go.Proofs.YtccmadehnoihnaaGreatDoor
open Go Go.Proofs.YtccmadehnoihnaaGreatDoor.Fw Go.Proofs
/-! ### The check of a delta -/
def plcB (p : Place) : Bool := (((((decide (p.node < 1) || decide (p.node ≥ 16)) || decide (p.parent < 0)) || decide (p.parent > 16)) || decide (p.name < 0)) || decide (p.name > 99))
def hl (gone : List Int) (l : List Place) (e : Int) : List Place → Nat → Int
  | [], _ => e
  | p :: r, k => bif plcB p then 3 else bif ((decide ((k : Int) > 0) && decide ((gt l (k - 1)).node ≥ p.node)) || decide (p.node ∈ gone)) then 6 else hl gone l e r (k + 1)
end Go.Proofs.YtccmadehnoihnaaGreatDoor

namespace Go.Proofs.YtccmadehnoihnaaGreatDoor
open Go Go.Proofs.YtccmadehnoihnaaGreatDoor.Fw Go.Proofs
/-! ### Some of a tree's places -/
theorem find_filter (q : Place → Bool) (n : Int) : ∀ {l : List Place}, Rising l → find (l.filter q) n = bif ((find l n).node != 0 && q (find l n)) then find l n else ⟨0, 0, 0⟩
  | [], _ => rfl
  | p :: r, h => by
    obtain ⟨h1, h2⟩ := List.pairwise_cons.1 h.up
    have hp := h.rng p (.head _)
    have hr : Rising r := ⟨h2, fun x hx => h.rng x (.tail _ hx), fun x hx => h.par x (.tail _ hx)⟩
    have ih := find_filter q n hr
    rw [List.filter_cons, find]
    cases hn : (p.node == n) with
    | true =>
      have hn' : p.node = n := by simpa using hn
      have h0 : (p.node != 0) = true := by simp; omega
      rw [cond_true, h0, Bool.true_and]
      cases hq : q p with
      | true => simp [find, hn]
      | false =>
        simp only [Bool.false_eq_true, if_false, cond_false]
        exact find_lt fun x hx => by have := h1 x (List.mem_filter.1 hx).1; omega
    | false =>
      rw [cond_false]
      cases hq : q p with
      | true => simp only [if_true]; rw [find, hn, cond_false]; exact ih
      | false => simpa using ih
theorem Rising.filter {l : List Place} (h : Rising l) (q : Place → Bool) : Rising (l.filter q) :=
  ⟨h.up.filter _, fun p hp => h.rng p (List.mem_filter.1 hp).1, fun p hp => h.par p (List.mem_filter.1 hp).1⟩
theorem Up.of_filter {l : List Place} (h : Rising l) {q : Place → Bool} {a b : Int} (hu : Up (l.filter q) a b) : Up l a b := by
  obtain ⟨k, hw⟩ := hu
  refine ⟨k, ?_⟩
  induction hw with
  | here x => exact .here x
  | @up x b k hok hn _ ih =>
    rw [find_filter q x h] at hn ih
    cases hc : ((find l x).node != 0 && q (find l x)) with
    | true => rw [hc, cond_true] at hn ih; exact .up trivial hn ih
    | false => rw [hc] at hn; exact absurd rfl hn
theorem IsTree.filter {l : List Place} (h : IsTree l) (q : Place → Bool) : IsTree (l.filter q) :=
  ⟨fun p hp => h.ok p (List.mem_filter.1 hp).1, h.up.filter _, fun p hp hu => h.no p (List.mem_filter.1 hp).1 (hu.of_filter h.rising)⟩
end Go.Proofs.YtccmadehnoihnaaGreatDoor

namespace Go.Proofs.YtccmadehnoihnaaGreatDoor
open Go Go.Proofs.YtccmadehnoihnaaGreatDoor.Fw Go.Proofs
theorem Next_of {h : Hub} (hh : IsHub h) (r : Rec) : hub_Next h r = hub_next h r := by
  unfold hub_Next
  rw [(hub_Check_iff h).2 hh]; rfl
end Go.Proofs.YtccmadehnoihnaaGreatDoor

namespace Go.Proofs.YtccmadehnoihnaaGreatDoor
open Go Go.Proofs.YtccmadehnoihnaaGreatDoor.Fw Go.Proofs
/-! ### Records that were replayed -/
theorem next_rec {h : Hub} {r : Rec} (h0 : (hub_next h r).2 = 0) : note_Check r = 0 := by
  unfold hub_next at h0
  cases h1 : (note_Check r != 0) with
  | true => rw [h1, cond_true] at h0; simp only at h0; rw [h0] at h1; cases h1
  | false => exact eq_of_bne_false h1
theorem Replay_L0_recs : ∀ (l : List Rec) (a : List Step) (b : List Place) (v : Int) (p : List Peer), (hub_Replay_L0 l a b v p).2 = 0 → ∀ r ∈ l, note_Check r = 0
  | [], _, _, _, _, _ => by simp
  | q :: l, a, b, v, p, h => by
    rw [hub_Replay_L0] at h
    cases h1 : ((hub_next ⟨⟨a, b⟩, v, p⟩ q).2 != 0) with
    | true => rw [h1, cond_true] at h; simp only at h; rw [h] at h1; cases h1
    | false =>
      rw [h1, cond_false] at h
      intro r hr
      rcases List.mem_cons.1 hr with rfl | hr
      · exact next_rec (eq_of_bne_false h1)
      · exact Replay_L0_recs l _ _ _ _ h r hr
theorem Replay_ok {l : List Rec} (h : (hub_Replay l).2 = 0) : l.length ≤ 60 ∧ (hub_Replay_L0 l [] [] 0 [⟨0, 0, []⟩, ⟨0, 0, []⟩, ⟨0, 0, []⟩]).2 = 0 ∧ hub_Replay l = hub_Replay_L0 l [] [] 0 [⟨0, 0, []⟩, ⟨0, 0, []⟩, ⟨0, 0, []⟩] := by
  unfold hub_Replay at h ⊢
  cases h1 : decide ((l.length : Int) > 60) with
  | true => rw [h1] at h; cases h
  | false => rw [h1, cond_false] at h; have := of_decide_eq_false h1; exact ⟨by omega, h, rfl⟩
theorem Replay_recs {l : List Rec} (h : (hub_Replay l).2 = 0) : ∀ r ∈ l, note_Check r = 0 := Replay_L0_recs l _ _ _ _ (Replay_ok h).2.1
end Go.Proofs.YtccmadehnoihnaaGreatDoor

namespace Go.Proofs.YtccmadehnoihnaaGreatDoor.Fw
open Go Go.RowKit Go.ChangeShapes Go.WideShapes Go.Deep

/-! ### A slice whose elements hold slices, opened -/
section
variable {P : Program} {H : Type}
theorem weightsAll_mem {e : TypeId} : ∀ {ds : List (DataW H)} {d : DataW H}, d ∈ ds → ∀ {n : Nat}, n ∈ d.weights P e → n ∈ DataW.weightsAll P e ds
  | a :: r, d, h, n, hn => by
    rw [DataW.weightsAll, List.mem_append]
    rcases List.mem_cons.1 h with rfl | h
    · exact .inl hn
    · exact .inr (weightsAll_mem h hn)
theorem opens_nslice {α : Type} [Inhabited α] (EN : En α) {t e : TypeId} (ht : P.underlying t = some (.slice e)) (hO : Opens P e (fun (a : α) (g : EN.G) => EN.E.enc (g, a)) (fun a g => EN.facts (g, a))) (hc : P.cellsOf e = EN.E.esz) (hpos : Nat.blt 0 EN.E.esz = true) (hby : P.bytesOf e = EN.E.by_) :
    Opens P t (fun (l : List α) (X : SlV) => [X.val l.length]) (fun l X => [RdN EN X l]) := .mk fun {H} enc w fuel cs x hx hsz => by
  have hpos := Nat.le_of_ble_eq_true hpos
  rcases open_slice ht hx with ⟨rfl, _⟩ | ⟨a, len, cap, m, n, D, Pl, rfl, _, hlc, hcm, hm, hx, hi⟩
  · exact ⟨[], ⟨none, 0⟩, rfl, fun F hF => by rw [List.mem_singleton] at hF; subst hF; exact RdN.nil EN _ _⟩
  · simp only [if_true] at hm
    subst hx
    rw [List.all_eq_true] at hsz
    have hrow : ∀ i, i < len → ∃ p : EN.G × α, (∀ (j : Nat) (v : Value), (EN.E.enc p)[j]? = some v → w.cell? (a.add (i * EN.E.esz + j)) = some v) ∧ ∀ F ∈ EN.facts p, F (fun _ => False) w := by
      intro i hil
      obtain ⟨cs', hcs, htr⟩ := hi i (by omega)
      have hw : ((D i).weights P e).all (· ≤ reachBytes) = true := by
        rw [List.all_eq_true]
        intro k hk
        refine hsz k ?_
        simp only [DataW.weights, ht, List.mem_cons, List.mem_append]
        exact .inr (.inl (weightsAll_mem (List.mem_map.2 ⟨i, List.mem_range.2 hil, rfl⟩) hk))
      obtain ⟨a0, g0, rfl, hf⟩ := hO.op enc w n cs' (D i, Pl i) htr hw
      obtain ⟨_, hl, hat⟩ := World.cells?_some hcs
      refine ⟨(g0, a0), fun j v hv => ?_, hf⟩
      obtain ⟨hlt, _⟩ := List.getElem?_eq_some_iff.1 hv
      have := hat j (by omega)
      rw [hc, addr_add_add] at this
      rw [this, hv]
    obtain ⟨hs, hl, hp⟩ := choose_list hrow
    have hbound : hs.length * EN.E.by_ ≤ 140737488355328 := by
      have := hsz ((len + (m - len)) * EN.E.by_) (by simp [DataW.weights, ht, hby])
      have h2 : hs.length * EN.E.by_ ≤ (len + (m - len)) * EN.E.by_ := Nat.mul_le_mul_right _ (by omega)
      have h3 : reachBytes ≤ 140737488355328 := by decide
      simp at this
      omega
    have hrd : RdL EN.E ⟨some a, cap⟩ hs (fun _ => False) w := ⟨by rw [hl]; exact hlc, by simpa [maxLen] using hcm, hbound, fun hpl => ⟨a, rfl, by
      have h0 := (hp 0 hpl).1
      have hle : (EN.E.enc hs[0]).length = EN.E.esz := EN.E.len _
      have hcell := h0 0 _ (List.getElem?_eq_getElem (by omega))
      unfold World.cell? at hcell
      rw [addr_block] at hcell
      cases hh : w.heap[a.block]? with
      | none => simp [hh] at hcell
      | some ob => exact heap_lt hh, fun h => h, fun i hi j v hv => (hp i hi).1 j v hv⟩⟩
    refine ⟨hs.map (·.2), ⟨some a, cap⟩, by rw [List.length_map, hl]; rfl, fun F hF => ?_⟩
    rw [List.mem_singleton] at hF
    subst hF
    exact RdN.of EN rfl hrd fun p hp' => by
      obtain ⟨i, hi', rfl⟩ := List.getElem_of_mem hp'
      exact (hp i hi').2
end
end Go.Proofs.YtccmadehnoihnaaGreatDoor.Fw
