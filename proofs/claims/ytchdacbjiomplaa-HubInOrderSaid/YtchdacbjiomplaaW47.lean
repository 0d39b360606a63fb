/- Part of this claim. No condition. -/
import Derived.Test.YtchdacbjiomplaaWU
import Derived.Test.YtchdacbjiomplaaLHub
set_option linter.unusedVariables false
set_option linter.unusedSimpArgs false
set_option maxHeartbeats 2000000
namespace Go.Proofs.Ytchdacbjiomplaa
open Go Go.Proofs.Ytchdacbjiomplaa.Fw Go.Proofs
attribute [local irreducible] RdL RdN VarP RW CW
def hub_Replay_L0  : List Rec → (List Step) → (List Place) → Int → (List Peer) → (Hub × Int)
  | [], l2, p1, version1, peers1 => ((⟨(⟨l2, p1⟩ : History), version1, peers1⟩ : Hub), 0)
  | pn1 :: rn1, l2, p1, version1, peers1 => (bif (((hub_next (⟨(⟨l2, p1⟩ : History), version1, peers1⟩ : Hub) pn1).2) != 0) then ((⟨(⟨([] : List Step), ([] : List Place)⟩ : History), 0, ([] : List Peer)⟩ : Hub), (hub_next (⟨(⟨l2, p1⟩ : History), version1, peers1⟩ : Hub) pn1).2) else (hub_Replay_L0 rn1 ((((hub_next (⟨(⟨l2, p1⟩ : History), version1, peers1⟩ : Hub) pn1).1).h).l) ((((hub_next (⟨(⟨l2, p1⟩ : History), version1, peers1⟩ : Hub) pn1).1).h).t) (((hub_next (⟨(⟨l2, p1⟩ : History), version1, peers1⟩ : Hub) pn1).1).version) (((hub_next (⟨(⟨l2, p1⟩ : History), version1, peers1⟩ : Hub) pn1).1).peers)))
def hub_Replay (l1 : List Rec) : Hub × Int :=
  (bif decide ((l1.length : Int) > 60) then ((⟨(⟨([] : List Step), ([] : List Place)⟩ : History), 0, ([] : List Peer)⟩ : Hub), 2) else (hub_Replay_L0 l1 hub_New.h.l hub_New.h.t hub_New.version hub_New.peers))
theorem hub_Replay_spec (y1 : SlV) (l1 : List Rec) : Does Try.prog 108 [y1.val l1.length] [RdN NRec y1 l1] (fun (X : SlV × SlV × SlV) => .tuple #[.agg ⟨[X.1.val ((((hub_Replay l1).1).h).l).length, X.2.1.val ((((hub_Replay l1).1).h).t).length, .int .i64 (((hub_Replay l1).1).version), X.2.2.val (((hub_Replay l1).1).peers).length]⟩, .int .i64 ((hub_Replay l1).2)]) (fun (X : SlV × SlV × SlV) => [RdL EStep X.1 ((((hub_Replay l1).1).h).l), RdL EPlace X.2.1 ((((hub_Replay l1).1).h).t), RdN NPeer X.2.2 (((hub_Replay l1).1).peers)]) := by
  refine does_of tab_ok Try.func108 rfl Try.ntmps108 Try.results108 rfl inferInstance (fun _ => inferInstance) fun C => ?_
  refine Pn NRec y1 l1 104 fun hlen1 => ?_
  refine Tx ?_
  refine Al fun g1 => ?_
  refine Tx ?_
  refine Cd (b := decide ((l1.length : Int) > 60)) (fun hc1 => ?_) fun hc1 => ?_
  · have hc1p := of_decide_eq_true hc1
    refine Tx ?_
    refine Fc EStep ?_
    refine Fc EPlace ?_
    refine cw_fact (F := RdN NPeer ⟨none, 0⟩ ([] : List Peer)) [] (.nil _) (fun M w _ => RdN.nil _ M w) ?_
    have hr1 : (hub_Replay l1) = ((⟨(⟨([] : List Step), ([] : List Place)⟩ : History), 0, ([] : List Peer)⟩ : Hub), 2) := by simp only [hub_Replay, hc1, cond_true, cond_false]
    refine cw_ret ?_; rw [hr1]; exact Re ⟨(⟨none, 0⟩ : SlV), (⟨none, 0⟩ : SlV), (⟨none, 0⟩ : SlV)⟩ (Va (Vt Vn))
  · have hc1p := of_decide_eq_false hc1
    refine Tx ?_
    refine Cl (hub_New_spec ) fun x1 => ?_
    refine Pr EStep x1.1 hub_New.h.l 88 fun hlen2 => ?_
    refine Pr EPlace x1.2.1 hub_New.h.t 24 fun hlen3 => ?_
    refine Pm NPeer x1.2.2 hub_New.peers 40 fun hlen4 => ?_
    refine Al fun g2 => ?_
    refine Tx ?_
    (repeat refine cw_seq ?_); refine Lp [2,3,4,13,14] [false, true] (fun (i_ : Nat × List Step × SlV × List Place × SlV × Int × List Peer × SlV) => match i_ with | ⟨n1, l2, x2, p1, x3, version1, peers1, x4⟩ => (⟨[(15, .v (.int .i64 (n1 : Int)))], [⟨g2, 131, [x2.val l2.length, x3.val p1.length, .int .i64 version1, x4.val peers1.length]⟩], [], [RdL EStep x2 l2, RdL EPlace x3 p1, RdN NPeer x4 peers1], (n1 ≤ l1.length) ∧ (hub_Check (⟨⟨l2, p1⟩, version1, peers1⟩ : Hub) = 0) ∧ (hub_Replay_L0 (l1.drop n1) l2 p1 version1 peers1) = (hub_Replay l1), l1.length - n1⟩ : Ls)) ⟨0, hub_New.h.l, x1.1, hub_New.h.t, x1.2.1, hub_New.version, hub_New.peers, x1.2.2⟩ (Sc (Sc (Sc (Sc (Sc Sn))))) (.drop (.keep (.nil))) ⟨Nat.zero_le _, ((hub_Check_iff _).2 hub_New_ok), (by simp only [hub_Replay, hc1, cond_true, cond_false] : (hub_Replay l1) = (hub_Replay_L0 l1 hub_New.h.l hub_New.h.t hub_New.version hub_New.peers)).symm⟩ Le4 ?_
    rintro ⟨n1, l2, x2, p1, x3, version1, peers1, x4⟩ ⟨hkn1, hinv, hf1⟩
    simp only [List.cons_append, List.nil_append]
    refine Tx ?_
    refine Cd (b := decide ((n1 : Int) < (l1.length : Int))) (fun hc2 => ?_) fun hc2 => ?_
    · have hlt0 : n1 < l1.length := Int.ofNat_lt.1 (of_decide_eq_true hc2)
      refine Tx ?_
      refine rw_exN NRec (X := y1) (l := l1) Mm fun (γ1 : Nat → SlV) => ?_
      refine rw_q rfl rfl rfl (q_idxN NRec γ1 n1 rfl rfl (fun _ => rfl) rfl (fun _ => rfl) rfl rfl rfl Mm rfl (fun _ => rfl) (fun _ => by first | assumption | omega)) ?_
      refine rw_q rfl rfl rfl (q_is (v' := .agg ⟨[.int .i64 ((gt l1 n1).kind), .int .i64 ((gt l1 n1).who), .int .i64 ((gt l1 n1).life), (γ1 n1).val ((gt l1 n1).roots).length, .int .i64 (((gt l1 n1).o).time), .int .i64 (((gt l1 n1).o).who), .int .i64 (((gt l1 n1).o).node), .int .i64 (((gt l1 n1).o).parent), .int .i64 (((gt l1 n1).o).name), .int .i64 (((gt l1 n1).o).life), .int .i64 (((gt l1 n1).o).seq)]⟩) (q_leAN NRec γ1 rfl rfl (fun _ => rfl) rfl rfl Mm (fun _ => by first | assumption | omega)) rfl) ?_
      refine rw_fact (F := RdL EInt (γ1 n1) ((gt l1 n1).roots)) [FactsG NRec γ1 l1] Sm (fun M w h => (allF1 h) n1 (by first | assumption | omega) _ (.head _)) ?_
      refine Al fun g3 => ?_
      refine Tx ?_
      refine Cl (hub_next_spec x2 x3 x4 (⟨(⟨l2, p1⟩ : History), version1, peers1⟩ : Hub) (γ1 n1) (gt l1 n1) hinv) fun x5 => ?_
      refine Pr EStep x5.1 ((((hub_next (⟨(⟨l2, p1⟩ : History), version1, peers1⟩ : Hub) (gt l1 n1)).1).h).l) 88 fun hlen5 => ?_
      refine Pr EPlace x5.2.1 ((((hub_next (⟨(⟨l2, p1⟩ : History), version1, peers1⟩ : Hub) (gt l1 n1)).1).h).t) 24 fun hlen6 => ?_
      refine Pm NPeer x5.2.2 (((hub_next (⟨(⟨l2, p1⟩ : History), version1, peers1⟩ : Hub) (gt l1 n1)).1).peers) 40 fun hlen7 => ?_
      refine Tx ?_
      refine Cd (b := (((hub_next (⟨(⟨l2, p1⟩ : History), version1, peers1⟩ : Hub) (gt l1 n1)).2) != 0)) (fun hc3 => ?_) fun hc3 => ?_
      · have hc3p := bne_iff_ne.1 hc3
        refine Tx ?_
        refine Fc EStep ?_
        refine Fc EPlace ?_
        refine cw_fact (F := RdN NPeer ⟨none, 0⟩ ([] : List Peer)) [] (.nil _) (fun M w _ => RdN.nil _ M w) ?_
        have hr2 : (hub_Replay l1) = ((⟨(⟨([] : List Step), ([] : List Place)⟩ : History), 0, ([] : List Peer)⟩ : Hub), (hub_next (⟨(⟨l2, p1⟩ : History), version1, peers1⟩ : Hub) (gt l1 n1)).2) := by rw [← hf1, drop_gt hlt0]; simp only [hub_Replay_L0, hc3, cond_true, cond_false]
        refine cw_ret ?_; rw [hr2]; exact Re ⟨(⟨none, 0⟩ : SlV), (⟨none, 0⟩ : SlV), (⟨none, 0⟩ : SlV)⟩ (Va (Vt Vn))
      · have hc3p := eq_of_bne_false hc3
        refine Tx ?_
        refine rw_q rfl rfl rfl (q_add rfl rfl (fun _ => rfl) rfl (fun _ => rfl) (fun _ => by omega)) ?_
        refine Tx ?_
        refine ⟨⟨(n1 + 1), (((hub_next (⟨(⟨l2, p1⟩ : History), version1, peers1⟩ : Hub) (gt l1 n1)).1).h).l, x5.1, (((hub_next (⟨(⟨l2, p1⟩ : History), version1, peers1⟩ : Hub) (gt l1 n1)).1).h).t, x5.2.1, ((hub_next (⟨(⟨l2, p1⟩ : History), version1, peers1⟩ : Hub) (gt l1 n1)).1).version, ((hub_next (⟨(⟨l2, p1⟩ : History), version1, peers1⟩ : Hub) (gt l1 n1)).1).peers, x5.2.2⟩, ⟨hlt0, ((hub_Check_iff _).2 (next_ok ((hub_Check_iff _).1 hinv) (eq_of_bne_false (by assumption))).1), (by rw [← hf1, drop_gt hlt0]; simp only [hub_Replay_L0, hc3, cond_true, cond_false] : (hub_Replay l1) = (hub_Replay_L0 (l1.drop (n1 + 1)) ((((hub_next (⟨(⟨l2, p1⟩ : History), version1, peers1⟩ : Hub) (gt l1 n1)).1).h).l) ((((hub_next (⟨(⟨l2, p1⟩ : History), version1, peers1⟩ : Hub) (gt l1 n1)).1).h).t) (((hub_next (⟨(⟨l2, p1⟩ : History), version1, peers1⟩ : Hub) (gt l1 n1)).1).version) (((hub_next (⟨(⟨l2, p1⟩ : History), version1, peers1⟩ : Hub) (gt l1 n1)).1).peers))).symm⟩, (by simp only []; omega), Le4⟩
    · have hge0 : l1.length ≤ n1 := by have := of_decide_eq_false hc2; omega
      refine Tx ?_
      have hr3 : (hub_Replay l1) = ((⟨(⟨l2, p1⟩ : History), version1, peers1⟩ : Hub), 0) := by rw [← hf1, List.drop_of_length_le hge0]; simp only [hub_Replay_L0, cond_true, cond_false]
      refine cw_ret ?_; rw [hr3]; exact Re ⟨x2, x3, x4⟩ (Va (Vt Vn))
end Go.Proofs.Ytchdacbjiomplaa
