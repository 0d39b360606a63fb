/- Part of this claim. No condition. -/
import Derived.Test.YtccmadehnoihnaaGreatDoorG9
import Derived.Test.YtccmadehnoihnaaGreatDoorG7
import Derived.Test.YtccmadehnoihnaaGreatDoorG11
import Derived.Test.YtccmadehnoihnaaGreatDoorRows
import Derived.Stop.LaidErr
import Derived.Shelf.Vars
import Derived.LaidMore
import Derived.Lay
import Derived.Handed
import Derived.SizedLaws
import Derived.Stop.Joined
import Derived.ProofKit
import Derived.Test.YtccmadehnoihnaaGreatDoorG3
set_option linter.unusedVariables false
set_option linter.unusedSimpArgs false
set_option maxHeartbeats 2000000
namespace Go.Proofs.YtccmadehnoihnaaGreatDoor
open Go Go.Proofs.YtccmadehnoihnaaGreatDoor.Fw Go.Proofs
attribute [local irreducible] RdL RdN VarP LibP RW CW
def orangerylaw_HubParts_L1 (l1 : List Rec) (l2 : List Step) (p1 : List Place) (version1 : Int) (peers1 : List Peer) : List Rec → Int → (List UInt8) → (List UInt8) → Bool
  | [], e2, safe1, wait1 => (((((disk_Recover (⟨safe1, wait1⟩ : Disk)).2.2) == 0) && (hub_Same (⟨(⟨l2, p1⟩ : History), version1, peers1⟩ : Hub) ((hub_Replay l1).1))) && (slices_EqualFunc_Rec ((disk_Recover (⟨safe1, wait1⟩ : Disk)).2.1) l1 note_Same))
  | pn2 :: rn2, e2, safe1, wait1 => (bif (((disk_Put (⟨safe1, wait1⟩ : Disk) pn2).2) != 0) then false else (bif (((disk_Sync ((disk_Put (⟨safe1, wait1⟩ : Disk) pn2).1)).2) != 0) then false else (orangerylaw_HubParts_L1 l1 l2 p1 version1 peers1 rn2 ((disk_Sync ((disk_Put (⟨safe1, wait1⟩ : Disk) pn2).1)).2) (((disk_Sync ((disk_Put (⟨safe1, wait1⟩ : Disk) pn2).1)).1).safe) (((disk_Sync ((disk_Put (⟨safe1, wait1⟩ : Disk) pn2).1)).1).wait))))
def orangerylaw_HubParts_L0 (l1 : List Rec) : List Rec → Int → (List Step) → (List Place) → Int → (List Peer) → Bool
  | [], e1, l2, p1, version1, peers1 => (orangerylaw_HubParts_L1 l1 l2 p1 version1 peers1 l1 e1 [] [])
  | pn1 :: rn1, e1, l2, p1, version1, peers1 => (bif (((hub_Next (⟨(⟨l2, p1⟩ : History), version1, peers1⟩ : Hub) pn1).2) != 0) then false else (orangerylaw_HubParts_L0 l1 rn1 ((hub_Next (⟨(⟨l2, p1⟩ : History), version1, peers1⟩ : Hub) pn1).2) ((((hub_Next (⟨(⟨l2, p1⟩ : History), version1, peers1⟩ : Hub) pn1).1).h).l) ((((hub_Next (⟨(⟨l2, p1⟩ : History), version1, peers1⟩ : Hub) pn1).1).h).t) (((hub_Next (⟨(⟨l2, p1⟩ : History), version1, peers1⟩ : Hub) pn1).1).version) (((hub_Next (⟨(⟨l2, p1⟩ : History), version1, peers1⟩ : Hub) pn1).1).peers)))
def orangerylaw_HubParts (l1 : List Rec) (k1 : Int) : Bool :=
  (bif ((!orangerylaw_accepted) || (((hub_Replay l1).2) != 0)) then orangerylaw_accepted else (bif (((hub_Replay (l1.take ((orangerylaw_at k1 ((l1.length : Int) + 1)).toNat))).2) != 0) then false else (orangerylaw_HubParts_L0 l1 (l1.drop ((orangerylaw_at k1 ((l1.length : Int) + 1)).toNat)) ((hub_Replay (l1.take ((orangerylaw_at k1 ((l1.length : Int) + 1)).toNat))).2) ((((hub_Replay (l1.take ((orangerylaw_at k1 ((l1.length : Int) + 1)).toNat))).1).h).l) ((((hub_Replay (l1.take ((orangerylaw_at k1 ((l1.length : Int) + 1)).toNat))).1).h).t) (((hub_Replay (l1.take ((orangerylaw_at k1 ((l1.length : Int) + 1)).toNat))).1).version) (((hub_Replay (l1.take ((orangerylaw_at k1 ((l1.length : Int) + 1)).toNat))).1).peers))))
theorem orangerylaw_HubParts_spec (y1 : SlV) (l1 : List Rec) (k1 : Int) : Does Tryz.prog 3 [y1.val l1.length, .int .i64 k1] [RdN NRec y1 l1, LibP Tryz.prog] (fun (_ : Unit) => .bool (orangerylaw_HubParts l1 k1)) (fun (_ : Unit) => []) := by
  refine does_of tab_ok Tryz.func3 rfl Tryz.ntmps3 Tryz.results3 rfl inferInstance (fun _ => inferInstance) fun C => ?_
  refine Pn NRec y1 l1 104 fun hlen1 => ?_
  refine Tx ?_
  refine Cl (hub_Replay_spec y1 l1) fun x1 => ?_
  refine Pr EStep x1.1 ((((hub_Replay l1).1).h).l) 88 fun hlen2 => ?_
  refine Pr EPlace x1.2.1 ((((hub_Replay l1).1).h).t) 24 fun hlen3 => ?_
  refine Pm NPeer x1.2.2 (((hub_Replay l1).1).peers) 40 fun hlen4 => ?_
  refine Tx ?_
  refine Al fun g1 => ?_
  refine Tx ?_
  refine Cl (orangerylaw_accepted_spec ) fun _ => ?_
  refine Tx ?_
  refine Cd (b := ((!orangerylaw_accepted) || (((hub_Replay l1).2) != 0))) (fun hc1 => ?_) fun hc1 => ?_
  · refine Tx ?_
    refine Cl (orangerylaw_accepted_spec ) fun _ => ?_
    refine Tx ?_
    have hr1 : (orangerylaw_HubParts l1 k1) = orangerylaw_accepted := by simp only [orangerylaw_HubParts, hc1, Bool.true_and, Bool.and_true, Bool.false_or, Bool.or_false, Bool.false_and, Bool.and_false, Bool.true_or, Bool.or_true, Bool.not_true, Bool.not_false, cond_true, cond_false]
    refine cw_ret ?_; rw [hr1]; exact Re () (Vt Vn)
  · have hat := at_in (k := k1) (n := (l1.length : Int) + 1) (by omega)
    refine Tx ?_
    refine rw_q rfl rfl rfl (q_add rfl rfl (fun _ => rfl) rfl (fun _ => rfl) (fun _ => by omega)) ?_
    refine Cl (orangerylaw_at_spec k1 ((l1.length : Int) + 1) (by omega)) fun _ => ?_
    refine Tx ?_
    refine rw_q rfl rfl rfl (q_takeN NRec ((orangerylaw_at k1 ((l1.length : Int) + 1)).toNat) rfl rfl (fun _ => rfl) rfl (fun _ => rfl) rfl rfl Mm (fun _ => by omega) (fun _ => by omega)) ?_
    refine rw_fact (F := RdN NRec y1 (l1.take ((orangerylaw_at k1 ((l1.length : Int) + 1)).toNat))) [RdN NRec y1 l1] Sm (fun M w h => (allF1 h).take _) ?_
    refine Cl (hub_Replay_spec y1 (l1.take ((orangerylaw_at k1 ((l1.length : Int) + 1)).toNat))) fun x2 => ?_
    refine Pr EStep x2.1 ((((hub_Replay (l1.take ((orangerylaw_at k1 ((l1.length : Int) + 1)).toNat))).1).h).l) 88 fun hlen5 => ?_
    refine Pr EPlace x2.2.1 ((((hub_Replay (l1.take ((orangerylaw_at k1 ((l1.length : Int) + 1)).toNat))).1).h).t) 24 fun hlen6 => ?_
    refine Pm NPeer x2.2.2 (((hub_Replay (l1.take ((orangerylaw_at k1 ((l1.length : Int) + 1)).toNat))).1).peers) 40 fun hlen7 => ?_
    refine Tx ?_
    refine Al fun g2 => ?_
    refine Tx ?_
    refine Cd (b := (((hub_Replay (l1.take ((orangerylaw_at k1 ((l1.length : Int) + 1)).toNat))).2) != 0)) (fun hc2 => ?_) fun hc2 => ?_
    · have hc2p := bne_iff_ne.1 hc2
      refine Tx ?_
      have hr2 : (orangerylaw_HubParts l1 k1) = false := by simp only [orangerylaw_HubParts, hc1, hc2, Bool.true_and, Bool.and_true, Bool.false_or, Bool.or_false, Bool.false_and, Bool.and_false, Bool.true_or, Bool.or_true, Bool.not_true, Bool.not_false, cond_true, cond_false]
      refine cw_ret ?_; rw [hr2]; exact Re () (Vt Vn)
    · have hc2p := eq_of_bne_false hc2
      refine Tx ?_
      refine rw_q rfl rfl rfl (q_dropN NRec ((orangerylaw_at k1 ((l1.length : Int) + 1)).toNat) rfl rfl (fun _ => rfl) rfl (fun _ => rfl) rfl rfl (fun _ => by omega) (fun _ => by omega)) ?_
      refine rw_fact (F := RdN NRec (⟨slA y1.a y1.c ((orangerylaw_at k1 ((l1.length : Int) + 1)).toNat) NRec.E.esz, y1.c - ((orangerylaw_at k1 ((l1.length : Int) + 1)).toNat)⟩ : SlV) (l1.drop ((orangerylaw_at k1 ((l1.length : Int) + 1)).toNat))) [RdN NRec y1 l1] Sm (fun M w h => (allF1 h).drop _ (by omega)) ?_
      refine Tx ?_
      refine Pn NRec (⟨slA y1.a y1.c ((orangerylaw_at k1 ((l1.length : Int) + 1)).toNat) NRec.E.esz, y1.c - ((orangerylaw_at k1 ((l1.length : Int) + 1)).toNat)⟩ : SlV) (l1.drop ((orangerylaw_at k1 ((l1.length : Int) + 1)).toNat)) 104 fun hlen8 => ?_
      (repeat refine cw_seq ?_); refine Lp [0,4,5,7,43,44] [false, true] (fun (i_ : Int × Nat × List Step × SlV × List Place × SlV × Int × List Peer × SlV) => match i_ with | ⟨e1, n1, l2, x3, p1, x4, version1, peers1, x5⟩ => (⟨[(6, .v (.int .i64 e1)), (45, .v (.int .i64 (n1 : Int)))], [⟨g2, 31, [x3.val l2.length, x4.val p1.length, .int .i64 version1, x5.val peers1.length]⟩], [], [RdL EStep x3 l2, RdL EPlace x4 p1, RdN NPeer x5 peers1], (n1 ≤ (l1.drop ((orangerylaw_at k1 ((l1.length : Int) + 1)).toNat)).length) ∧ (orangerylaw_HubParts_L0 l1 ((l1.drop ((orangerylaw_at k1 ((l1.length : Int) + 1)).toNat)).drop n1) e1 l2 p1 version1 peers1) = (orangerylaw_HubParts l1 k1), (l1.drop ((orangerylaw_at k1 ((l1.length : Int) + 1)).toNat)).length - n1⟩ : Ls)) ⟨(hub_Replay (l1.take ((orangerylaw_at k1 ((l1.length : Int) + 1)).toNat))).2, 0, (((hub_Replay (l1.take ((orangerylaw_at k1 ((l1.length : Int) + 1)).toNat))).1).h).l, x2.1, (((hub_Replay (l1.take ((orangerylaw_at k1 ((l1.length : Int) + 1)).toNat))).1).h).t, x2.2.1, ((hub_Replay (l1.take ((orangerylaw_at k1 ((l1.length : Int) + 1)).toNat))).1).version, ((hub_Replay (l1.take ((orangerylaw_at k1 ((l1.length : Int) + 1)).toNat))).1).peers, x2.2.2⟩ (Sc (Sc (Sc (Sc (Sc (Sc Sn)))))) (.drop (.keep (.nil))) ⟨Nat.zero_le _, (by simp only [orangerylaw_HubParts, hc1, hc2, Bool.true_and, Bool.and_true, Bool.false_or, Bool.or_false, Bool.false_and, Bool.and_false, Bool.true_or, Bool.or_true, Bool.not_true, Bool.not_false, cond_true, cond_false] : (orangerylaw_HubParts l1 k1) = (orangerylaw_HubParts_L0 l1 (l1.drop ((orangerylaw_at k1 ((l1.length : Int) + 1)).toNat)) ((hub_Replay (l1.take ((orangerylaw_at k1 ((l1.length : Int) + 1)).toNat))).2) ((((hub_Replay (l1.take ((orangerylaw_at k1 ((l1.length : Int) + 1)).toNat))).1).h).l) ((((hub_Replay (l1.take ((orangerylaw_at k1 ((l1.length : Int) + 1)).toNat))).1).h).t) (((hub_Replay (l1.take ((orangerylaw_at k1 ((l1.length : Int) + 1)).toNat))).1).version) (((hub_Replay (l1.take ((orangerylaw_at k1 ((l1.length : Int) + 1)).toNat))).1).peers))).symm⟩ Le4 ?_
      rintro ⟨e1, n1, l2, x3, p1, x4, version1, peers1, x5⟩ ⟨hkn1, hf1⟩
      simp only [List.cons_append, List.nil_append]
      refine Tx ?_
      refine Cd (b := decide ((n1 : Int) < ((l1.drop ((orangerylaw_at k1 ((l1.length : Int) + 1)).toNat)).length : Int))) (fun hc3 => ?_) fun hc3 => ?_
      · have hlt0 : n1 < (l1.drop ((orangerylaw_at k1 ((l1.length : Int) + 1)).toNat)).length := Int.ofNat_lt.1 (of_decide_eq_true hc3)
        refine Tx ?_
        refine rw_exN NRec (X := (⟨slA y1.a y1.c ((orangerylaw_at k1 ((l1.length : Int) + 1)).toNat) NRec.E.esz, y1.c - ((orangerylaw_at k1 ((l1.length : Int) + 1)).toNat)⟩ : SlV)) (l := (l1.drop ((orangerylaw_at k1 ((l1.length : Int) + 1)).toNat))) Mm fun (γ1 : Nat → SlV) => ?_
        refine rw_q rfl rfl rfl (q_idxN NRec γ1 n1 rfl rfl (fun _ => rfl) rfl (fun _ => rfl) rfl rfl rfl Mm rfl (fun _ => rfl) (fun _ => by first | assumption | omega)) ?_
        refine rw_q rfl rfl rfl (q_is (v' := .agg ⟨[.int .i64 ((gt (l1.drop ((orangerylaw_at k1 ((l1.length : Int) + 1)).toNat)) n1).kind), .int .i64 ((gt (l1.drop ((orangerylaw_at k1 ((l1.length : Int) + 1)).toNat)) n1).who), .int .i64 ((gt (l1.drop ((orangerylaw_at k1 ((l1.length : Int) + 1)).toNat)) n1).life), (γ1 n1).val ((gt (l1.drop ((orangerylaw_at k1 ((l1.length : Int) + 1)).toNat)) n1).roots).length, .int .i64 (((gt (l1.drop ((orangerylaw_at k1 ((l1.length : Int) + 1)).toNat)) n1).o).time), .int .i64 (((gt (l1.drop ((orangerylaw_at k1 ((l1.length : Int) + 1)).toNat)) n1).o).who), .int .i64 (((gt (l1.drop ((orangerylaw_at k1 ((l1.length : Int) + 1)).toNat)) n1).o).node), .int .i64 (((gt (l1.drop ((orangerylaw_at k1 ((l1.length : Int) + 1)).toNat)) n1).o).parent), .int .i64 (((gt (l1.drop ((orangerylaw_at k1 ((l1.length : Int) + 1)).toNat)) n1).o).name), .int .i64 (((gt (l1.drop ((orangerylaw_at k1 ((l1.length : Int) + 1)).toNat)) n1).o).life), .int .i64 (((gt (l1.drop ((orangerylaw_at k1 ((l1.length : Int) + 1)).toNat)) n1).o).seq)]⟩) (q_leAN NRec γ1 rfl rfl (fun _ => rfl) rfl rfl Mm (fun _ => by first | assumption | omega)) rfl) ?_
        refine rw_fact (F := RdL EInt (γ1 n1) ((gt (l1.drop ((orangerylaw_at k1 ((l1.length : Int) + 1)).toNat)) n1).roots)) [FactsG NRec γ1 (l1.drop ((orangerylaw_at k1 ((l1.length : Int) + 1)).toNat))] Sm (fun M w h => (allF1 h) n1 (by first | assumption | omega) _ (.head _)) ?_
        refine Al fun g3 => ?_
        refine Tx ?_
        refine Cl (hub_Next_spec x3 x4 x5 (⟨(⟨l2, p1⟩ : History), version1, peers1⟩ : Hub) (γ1 n1) (gt (l1.drop ((orangerylaw_at k1 ((l1.length : Int) + 1)).toNat)) n1)) fun x6 => ?_
        refine Pr EStep x6.1 ((((hub_Next (⟨(⟨l2, p1⟩ : History), version1, peers1⟩ : Hub) (gt (l1.drop ((orangerylaw_at k1 ((l1.length : Int) + 1)).toNat)) n1)).1).h).l) 88 fun hlen9 => ?_
        refine Pr EPlace x6.2.1 ((((hub_Next (⟨(⟨l2, p1⟩ : History), version1, peers1⟩ : Hub) (gt (l1.drop ((orangerylaw_at k1 ((l1.length : Int) + 1)).toNat)) n1)).1).h).t) 24 fun hlen10 => ?_
        refine Pm NPeer x6.2.2 (((hub_Next (⟨(⟨l2, p1⟩ : History), version1, peers1⟩ : Hub) (gt (l1.drop ((orangerylaw_at k1 ((l1.length : Int) + 1)).toNat)) n1)).1).peers) 40 fun hlen11 => ?_
        refine Tx ?_
        refine Cd (b := (((hub_Next (⟨(⟨l2, p1⟩ : History), version1, peers1⟩ : Hub) (gt (l1.drop ((orangerylaw_at k1 ((l1.length : Int) + 1)).toNat)) n1)).2) != 0)) (fun hc4 => ?_) fun hc4 => ?_
        · have hc4p := bne_iff_ne.1 hc4
          refine Tx ?_
          have hr3 : (orangerylaw_HubParts l1 k1) = false := by rw [← hf1, drop_gt hlt0]; simp only [orangerylaw_HubParts_L0, hc4, Bool.true_and, Bool.and_true, Bool.false_or, Bool.or_false, Bool.false_and, Bool.and_false, Bool.true_or, Bool.or_true, Bool.not_true, Bool.not_false, cond_true, cond_false]
          refine cw_ret ?_; rw [hr3]; exact Re () (Vt Vn)
        · have hc4p := eq_of_bne_false hc4
          refine Tx ?_
          refine rw_q rfl rfl rfl (q_add rfl rfl (fun _ => rfl) rfl (fun _ => rfl) (fun _ => by omega)) ?_
          refine Tx ?_
          refine ⟨⟨(hub_Next (⟨(⟨l2, p1⟩ : History), version1, peers1⟩ : Hub) (gt (l1.drop ((orangerylaw_at k1 ((l1.length : Int) + 1)).toNat)) n1)).2, (n1 + 1), (((hub_Next (⟨(⟨l2, p1⟩ : History), version1, peers1⟩ : Hub) (gt (l1.drop ((orangerylaw_at k1 ((l1.length : Int) + 1)).toNat)) n1)).1).h).l, x6.1, (((hub_Next (⟨(⟨l2, p1⟩ : History), version1, peers1⟩ : Hub) (gt (l1.drop ((orangerylaw_at k1 ((l1.length : Int) + 1)).toNat)) n1)).1).h).t, x6.2.1, ((hub_Next (⟨(⟨l2, p1⟩ : History), version1, peers1⟩ : Hub) (gt (l1.drop ((orangerylaw_at k1 ((l1.length : Int) + 1)).toNat)) n1)).1).version, ((hub_Next (⟨(⟨l2, p1⟩ : History), version1, peers1⟩ : Hub) (gt (l1.drop ((orangerylaw_at k1 ((l1.length : Int) + 1)).toNat)) n1)).1).peers, x6.2.2⟩, ⟨hlt0, (by rw [← hf1, drop_gt hlt0]; simp only [orangerylaw_HubParts_L0, hc4, Bool.true_and, Bool.and_true, Bool.false_or, Bool.or_false, Bool.false_and, Bool.and_false, Bool.true_or, Bool.or_true, Bool.not_true, Bool.not_false, cond_true, cond_false] : (orangerylaw_HubParts l1 k1) = (orangerylaw_HubParts_L0 l1 ((l1.drop ((orangerylaw_at k1 ((l1.length : Int) + 1)).toNat)).drop (n1 + 1)) ((hub_Next (⟨(⟨l2, p1⟩ : History), version1, peers1⟩ : Hub) (gt (l1.drop ((orangerylaw_at k1 ((l1.length : Int) + 1)).toNat)) n1)).2) ((((hub_Next (⟨(⟨l2, p1⟩ : History), version1, peers1⟩ : Hub) (gt (l1.drop ((orangerylaw_at k1 ((l1.length : Int) + 1)).toNat)) n1)).1).h).l) ((((hub_Next (⟨(⟨l2, p1⟩ : History), version1, peers1⟩ : Hub) (gt (l1.drop ((orangerylaw_at k1 ((l1.length : Int) + 1)).toNat)) n1)).1).h).t) (((hub_Next (⟨(⟨l2, p1⟩ : History), version1, peers1⟩ : Hub) (gt (l1.drop ((orangerylaw_at k1 ((l1.length : Int) + 1)).toNat)) n1)).1).version) (((hub_Next (⟨(⟨l2, p1⟩ : History), version1, peers1⟩ : Hub) (gt (l1.drop ((orangerylaw_at k1 ((l1.length : Int) + 1)).toNat)) n1)).1).peers))).symm⟩, (by simp only []; omega), Le4⟩
      · have hge0 : (l1.drop ((orangerylaw_at k1 ((l1.length : Int) + 1)).toNat)).length ≤ n1 := by have := of_decide_eq_false hc3; omega
        refine Tx ?_
        refine Al fun g4 => ?_
        refine Tx ?_
        (repeat refine cw_seq ?_); refine Lp [0,4,5,7,10,58,59] [false, true, true] (fun (i_ : Int × Nat × List UInt8 × SlV × List UInt8 × SlV) => match i_ with | ⟨e2, n2, safe1, x7, wait1, x8⟩ => (⟨[(6, .v (.int .i64 e2)), (60, .v (.int .i64 (n2 : Int)))], [⟨g4, 47, [x7.val safe1.length, x8.val wait1.length]⟩], [], [RdL EByte x7 safe1, RdL EByte x8 wait1], (n2 ≤ l1.length) ∧ (orangerylaw_HubParts_L1 l1 l2 p1 version1 peers1 (l1.drop n2) e2 safe1 wait1) = (orangerylaw_HubParts l1 k1), l1.length - n2⟩ : Ls)) ⟨e1, 0, [], ⟨none, 0⟩, [], ⟨none, 0⟩⟩ (Sc (Sc (Sc (Sc (Sc (Sc (Sc Sn))))))) (.drop (.keep (.keep (.nil)))) ⟨Nat.zero_le _, (by rw [← hf1, List.drop_of_length_le hge0]; simp only [orangerylaw_HubParts_L0, Bool.true_and, Bool.and_true, Bool.false_or, Bool.or_false, Bool.false_and, Bool.and_false, Bool.true_or, Bool.or_true, Bool.not_true, Bool.not_false, cond_true, cond_false] : (orangerylaw_HubParts l1 k1) = (orangerylaw_HubParts_L1 l1 l2 p1 version1 peers1 l1 e1 [] [])).symm⟩ (Le.trans (le_fact (RdL EByte ⟨none, 0⟩ ([] : List UInt8)) [] (.nil _) (fun M w _ => RdL.nil _ _ _ (by omega) M w)) Le4) ?_
        rintro ⟨e2, n2, safe1, x7, wait1, x8⟩ ⟨hkn2, hf2⟩
        simp only [List.cons_append, List.nil_append]
        refine Tx ?_
        refine Cd (b := decide ((n2 : Int) < (l1.length : Int))) (fun hc5 => ?_) fun hc5 => ?_
        · have hlt1 : n2 < l1.length := Int.ofNat_lt.1 (of_decide_eq_true hc5)
          refine Tx ?_
          refine rw_exN NRec (X := y1) (l := l1) Mm fun (γ2 : Nat → SlV) => ?_
          refine rw_q rfl rfl rfl (q_idxN NRec γ2 n2 rfl rfl (fun _ => rfl) rfl (fun _ => rfl) rfl rfl rfl Mm rfl (fun _ => rfl) (fun _ => by first | assumption | omega)) ?_
          refine rw_q rfl rfl rfl (q_is (v' := .agg ⟨[.int .i64 ((gt l1 n2).kind), .int .i64 ((gt l1 n2).who), .int .i64 ((gt l1 n2).life), (γ2 n2).val ((gt l1 n2).roots).length, .int .i64 (((gt l1 n2).o).time), .int .i64 (((gt l1 n2).o).who), .int .i64 (((gt l1 n2).o).node), .int .i64 (((gt l1 n2).o).parent), .int .i64 (((gt l1 n2).o).name), .int .i64 (((gt l1 n2).o).life), .int .i64 (((gt l1 n2).o).seq)]⟩) (q_leAN NRec γ2 rfl rfl (fun _ => rfl) rfl rfl Mm (fun _ => by first | assumption | omega)) rfl) ?_
          refine rw_fact (F := RdL EInt (γ2 n2) ((gt l1 n2).roots)) [FactsG NRec γ2 l1] Sm (fun M w h => (allF1 h) n2 (by first | assumption | omega) _ (.head _)) ?_
          refine Al fun g5 => ?_
          refine Tx ?_
          refine Cl (disk_Put_spec x7 x8 (⟨safe1, wait1⟩ : Disk) (γ2 n2) (gt l1 n2)) fun x9 => ?_
          refine Pr EByte x9.1 (((disk_Put (⟨safe1, wait1⟩ : Disk) (gt l1 n2)).1).safe) 1 fun hlen12 => ?_
          refine Pr EByte x9.2 (((disk_Put (⟨safe1, wait1⟩ : Disk) (gt l1 n2)).1).wait) 1 fun hlen13 => ?_
          refine Tx ?_
          refine Cd (b := (((disk_Put (⟨safe1, wait1⟩ : Disk) (gt l1 n2)).2) != 0)) (fun hc6 => ?_) fun hc6 => ?_
          · have hc6p := bne_iff_ne.1 hc6
            refine Tx ?_
            have hr4 : (orangerylaw_HubParts l1 k1) = false := by rw [← hf2, drop_gt hlt1]; simp only [orangerylaw_HubParts_L1, hc6, Bool.true_and, Bool.and_true, Bool.false_or, Bool.or_false, Bool.false_and, Bool.and_false, Bool.true_or, Bool.or_true, Bool.not_true, Bool.not_false, cond_true, cond_false]
            refine cw_ret ?_; rw [hr4]; exact Re () (Vt Vn)
          · have hc6p := eq_of_bne_false hc6
            refine Tx ?_
            refine Cl (disk_Sync_spec x9.1 x9.2 ((disk_Put (⟨safe1, wait1⟩ : Disk) (gt l1 n2)).1)) fun x10 => ?_
            refine Pr EByte x10.1 (((disk_Sync ((disk_Put (⟨safe1, wait1⟩ : Disk) (gt l1 n2)).1)).1).safe) 1 fun hlen14 => ?_
            refine Pr EByte x10.2 (((disk_Sync ((disk_Put (⟨safe1, wait1⟩ : Disk) (gt l1 n2)).1)).1).wait) 1 fun hlen15 => ?_
            refine Tx ?_
            refine Cd (b := (((disk_Sync ((disk_Put (⟨safe1, wait1⟩ : Disk) (gt l1 n2)).1)).2) != 0)) (fun hc7 => ?_) fun hc7 => ?_
            · have hc7p := bne_iff_ne.1 hc7
              refine Tx ?_
              have hr5 : (orangerylaw_HubParts l1 k1) = false := by rw [← hf2, drop_gt hlt1]; simp only [orangerylaw_HubParts_L1, hc6, hc7, Bool.true_and, Bool.and_true, Bool.false_or, Bool.or_false, Bool.false_and, Bool.and_false, Bool.true_or, Bool.or_true, Bool.not_true, Bool.not_false, cond_true, cond_false]
              refine cw_ret ?_; rw [hr5]; exact Re () (Vt Vn)
            · have hc7p := eq_of_bne_false hc7
              refine Tx ?_
              refine rw_q rfl rfl rfl (q_add rfl rfl (fun _ => rfl) rfl (fun _ => rfl) (fun _ => by omega)) ?_
              refine Tx ?_
              refine ⟨⟨(disk_Sync ((disk_Put (⟨safe1, wait1⟩ : Disk) (gt l1 n2)).1)).2, (n2 + 1), ((disk_Sync ((disk_Put (⟨safe1, wait1⟩ : Disk) (gt l1 n2)).1)).1).safe, x10.1, ((disk_Sync ((disk_Put (⟨safe1, wait1⟩ : Disk) (gt l1 n2)).1)).1).wait, x10.2⟩, ⟨hlt1, (by rw [← hf2, drop_gt hlt1]; simp only [orangerylaw_HubParts_L1, hc6, hc7, Bool.true_and, Bool.and_true, Bool.false_or, Bool.or_false, Bool.false_and, Bool.and_false, Bool.true_or, Bool.or_true, Bool.not_true, Bool.not_false, cond_true, cond_false] : (orangerylaw_HubParts l1 k1) = (orangerylaw_HubParts_L1 l1 l2 p1 version1 peers1 (l1.drop (n2 + 1)) ((disk_Sync ((disk_Put (⟨safe1, wait1⟩ : Disk) (gt l1 n2)).1)).2) (((disk_Sync ((disk_Put (⟨safe1, wait1⟩ : Disk) (gt l1 n2)).1)).1).safe) (((disk_Sync ((disk_Put (⟨safe1, wait1⟩ : Disk) (gt l1 n2)).1)).1).wait))).symm⟩, (by simp only []; omega), Le4⟩
        · have hge1 : l1.length ≤ n2 := by have := of_decide_eq_false hc5; omega
          refine Tx ?_
          refine Cl (disk_Recover_spec x7 x8 (⟨safe1, wait1⟩ : Disk)) fun x11 => ?_
          refine Pr EByte x11.1 (((disk_Recover (⟨safe1, wait1⟩ : Disk)).1).safe) 1 fun hlen16 => ?_
          refine Pr EByte x11.2.1 (((disk_Recover (⟨safe1, wait1⟩ : Disk)).1).wait) 1 fun hlen17 => ?_
          refine Pm NRec x11.2.2 ((disk_Recover (⟨safe1, wait1⟩ : Disk)).2.1) 104 fun hlen18 => ?_
          refine Tx ?_
          refine Al fun g6 => ?_
          refine Tx ?_
          refine rw_callg (fun hG_ => hub_Same_spec x3 x4 x5 (⟨(⟨l2, p1⟩ : History), version1, peers1⟩ : Hub) x1.1 x1.2.1 x1.2.2 ((hub_Replay l1).1)) (fun _ => rfl) .sq (guard_vt rfl rfl rfl) rfl rfl rfl Kr rfl Bt Sm ?_
          refine Tx ?_
          refine rw_callg (fun hG_ => slices_EqualFunc_Rec_spec x11.2.2 ((disk_Recover (⟨safe1, wait1⟩ : Disk)).2.1) y1 l1 _ _ _ note_Same Kr (fun z0a_ a0_ z1a_ a1_ => note_Same_spec z0a_ a0_ z1a_ a1_)) (fun _ => rfl) .sq (guard_vt rfl rfl rfl) rfl rfl rfl Kr rfl Bt Sm ?_
          refine Tx ?_
          have hr6 : (orangerylaw_HubParts l1 k1) = (((((disk_Recover (⟨safe1, wait1⟩ : Disk)).2.2) == 0) && (hub_Same (⟨(⟨l2, p1⟩ : History), version1, peers1⟩ : Hub) ((hub_Replay l1).1))) && (slices_EqualFunc_Rec ((disk_Recover (⟨safe1, wait1⟩ : Disk)).2.1) l1 note_Same)) := by rw [← hf2, List.drop_of_length_le hge1]; simp only [orangerylaw_HubParts_L1, Bool.true_and, Bool.and_true, Bool.false_or, Bool.or_false, Bool.false_and, Bool.and_false, Bool.true_or, Bool.or_true, Bool.not_true, Bool.not_false, cond_true, cond_false]
          refine cw_ret ?_; rw [hr6]; exact Re () (Vt Vn)
end Go.Proofs.YtccmadehnoihnaaGreatDoor

namespace Go.Proofs.YtccmadehnoihnaaGreatDoor
open Go Go.Proofs.YtccmadehnoihnaaGreatDoor.Fw Go.Proofs

/-- The text of records, line by line. -/
def recsText (l : List Rec) : Str := l.flatMap (fun r => prText r ++ [10])
theorem recsText_nil : recsText [] = [] := rfl
theorem recsText_cons (r : Rec) (l : List Rec) : recsText (r :: l) = prText r ++ 10 :: recsText l := by simp [recsText]
theorem recsText_append (a b : List Rec) : recsText (a ++ b) = recsText a ++ recsText b := by simp [recsText]
theorem recsText_len (l : List Rec) : l.length ≤ (recsText l).length := by
  induction l with
  | nil => simp
  | cons r l ih => rw [recsText_cons]; simp only [List.length_append, List.length_cons]; omega

theorem word_nl (r : Rec) : (10 : UInt8) ∉ wordOf r := by
  unfold wordOf
  cases (r.kind == 1) <;> cases (r.kind == 2) <;> simp
theorem glue_nl : ∀ (l : List Int), (10 : UInt8) ∉ glue 32 (l.map Lib.itoa)
  | [] => by simp [glue]
  | n :: l => by
    have h1 : (10 : UInt8) ∉ Lib.itoa n := itoa_no (by decide)
    have h2 := glue_nl l
    simp only [glue, List.map_cons, List.flatMap_cons, List.mem_append, List.mem_cons] at h2 ⊢
    intro h
    rcases h with (h | h) | h
    · exact absurd h (by decide)
    · exact h1 h
    · exact h2 h
theorem pr_nl (r : Rec) : (10 : UInt8) ∉ prText r := by
  intro h
  rcases List.mem_append.1 h with h | h
  · exact word_nl r h
  · exact glue_nl _ h

abbrev AllR (l : List Rec) : Prop := ∀ r ∈ l, note_Check r = 0

theorem lines_step {r : Rec} (hr : note_Check r = 0) (s0 : Str) (most : Int) (f : Nat) (t : Str) (acc : List Rec) (h : (acc.length : Int) ≠ most) :
    disk_lines_L0 s0 most (f + 1) (prText r ++ 10 :: t) acc = disk_lines_L0 s0 most f t (acc ++ [r]) := by
  have h1 : ((prText r ++ 10 :: t) != ([] : Str)) = true := by simp
  have h2 : ((acc.length : Int) == most) = false := by simpa using h
  rw [disk_lines_L0]
  simp only [h1, cutc_hit t (pr_nl r), Parse_print hr, h2, cond_true, cond_false, Bool.not_true, bne_self_eq_false]

theorem lines_recs (s0 : Str) (most : Int) (t : Str) : ∀ (l acc : List Rec) (f : Nat), AllR l → ((acc.length + l.length : Nat) : Int) ≤ most →
    disk_lines_L0 s0 most (f + l.length) (recsText l ++ t) acc = disk_lines_L0 s0 most f t (acc ++ l)
  | [], acc, f, _, _ => by simp [recsText_nil]
  | r :: l, acc, f, hl, hm => by
    simp only [List.length_cons] at hm
    have e : f + (r :: l).length = (f + l.length) + 1 := by simp only [List.length_cons]; omega
    rw [e, recsText_cons, List.append_assoc, List.cons_append, lines_step (hl r (.head _)) s0 most _ _ _ (by omega),
      lines_recs s0 most t l (acc ++ [r]) f (fun x hx => hl x (.tail _ hx)) (by simp only [List.length_append, List.length_cons, List.length_nil]; omega)]
    simp

theorem lines_end (s0 : Str) (most : Int) (f : Nat) {t : Str} (ht : (10 : UInt8) ∉ t) (acc : List Rec) :
    disk_lines_L0 s0 most (f + 1) t acc = (acc, (s0.length : Int) - (t.length : Int), if t = [] then 0 else 8) := by
  rw [disk_lines_L0]
  by_cases h : t = []
  · subst h
    simp
  · have h1 : (t != ([] : Str)) = true := by simpa using h
    simp only [h1, cutc_no ht, cond_true, Bool.not_false, if_neg h]

theorem lines_of (most : Int) {l : List Rec} (hl : AllR l) {t : Str} (ht : (10 : UInt8) ∉ t) (hm : (l.length : Int) ≤ most) :
    disk_lines (recsText l ++ t) most = (l, ((recsText l).length : Int), if t = [] then 0 else 8) := by
  have hlen := recsText_len l
  have e : (recsText l ++ t).length + 1 = ((recsText l).length - l.length + t.length + 1) + l.length := by simp only [List.length_append]; omega
  unfold disk_lines
  rw [e, lines_recs _ _ _ _ _ _ hl (by simpa using hm), lines_end _ _ _ ht]
  simp only [List.nil_append, List.length_append]
  congr 2
  omega

theorem lines_all (most : Int) {l : List Rec} (hl : AllR l) (hm : (l.length : Int) ≤ most) :
    disk_lines (recsText l) most = (l, ((recsText l).length : Int), 0) := by
  have := lines_of most hl (t := []) (by simp) hm
  simpa using this

end Go.Proofs.YtccmadehnoihnaaGreatDoor

namespace Go.Proofs.YtccmadehnoihnaaGreatDoor
open Go Go.Proofs.YtccmadehnoihnaaGreatDoor.Fw Go.Proofs

theorem dCheck_recs {a : List Rec} {w : Str} (ha : AllR a) (hn : a.length ≤ 60) (hl : (recsText a).length + w.length ≤ 60000) : disk_Check ⟨recsText a, w⟩ = 0 := by
  unfold disk_Check
  have h : (decide (((recsText a).length : Int) > 60000) || decide ((w.length : Int) > (60000 - ((recsText a).length : Int)))) = false := by
    simp only [Bool.or_eq_false_iff, decide_eq_false_iff_not]; omega
  simp only [h, cond_false, lines_all 60 ha (by omega)]

theorem dRecover_recs {a b : List Rec} {t : Str} (ha : AllR a) (hb : AllR b) (hn : a.length + b.length ≤ 60) (ht : (10 : UInt8) ∉ t) (hl : (recsText a).length + (recsText b ++ t).length ≤ 60000) :
    disk_Recover ⟨recsText a, recsText b ++ t⟩ = (⟨recsText (a ++ b), []⟩, a ++ b, 0) := by
  unfold disk_Recover
  have h2 : (recsText b ++ t).take ((recsText b).length) = recsText b := by simp
  simp only [dCheck_recs ha (by omega) hl, lines_all 60 ha (by omega), lines_of (60 - (a.length : Int)) hb ht (by omega), bne_self_eq_false, cond_false, Int.toNat_natCast, h2, List.flatten_cons, List.flatten_nil, List.append_nil, recsText_append]

theorem EqualFunc_L0_iff (f : Rec → Rec → Bool) (hf : ∀ a b, f a b = decide (a = b)) (s2 : List Rec) : ∀ (l : List Rec) (k : Nat), l.length + k = s2.length → slices_EqualFunc_Rec_L0 s2 f l k = decide (l = s2.drop k)
  | [], k, h => by
    simp only [List.length_nil, Nat.zero_add] at h
    rw [slices_EqualFunc_Rec_L0, h, List.drop_length]; simp
  | r :: l, k, h => by
    simp only [List.length_cons] at h
    have hk : k < s2.length := by omega
    rw [slices_EqualFunc_Rec_L0, hf, EqualFunc_L0_iff f hf s2 l (k + 1) (by omega), List.drop_eq_getElem_cons hk]
    have : gt s2 k = s2[k] := by simp [gt, hk]
    rw [this]
    generalize s2.drop (k + 1) = t
    by_cases h1 : r = s2[k]
    · simp [h1]
    · simp [h1]
theorem EqualFunc_iff (f : Rec → Rec → Bool) (hf : ∀ a b, f a b = decide (a = b)) (a b : List Rec) : slices_EqualFunc_Rec a b f = decide (a = b) := by
  unfold slices_EqualFunc_Rec
  by_cases h : a.length = b.length
  · have h1 : ((a.length : Int) != (b.length : Int)) = false := by simp; omega
    simp only [h1, cond_false]
    rw [EqualFunc_L0_iff f hf b a 0 (by omega)]; simp
  · have h1 : ((a.length : Int) != (b.length : Int)) = true := by simp; omega
    simp only [h1, cond_true]
    have : a ≠ b := fun e => h (by rw [e])
    simp [this]
theorem EqSame (a b : List Rec) : slices_EqualFunc_Rec a b note_Same = decide (a = b) := EqualFunc_iff note_Same noteSame_iff a b

end Go.Proofs.YtccmadehnoihnaaGreatDoor

namespace Go.Proofs.YtccmadehnoihnaaGreatDoor
open Go Go.Proofs.YtccmadehnoihnaaGreatDoor.Fw Go.Proofs
/-! ### Records replayed in two parts, and from a disk -/
theorem Replay_split : ∀ (a b : List Rec) (h : Hub), IsHub h → (hub_Replay_L0 (a ++ b) h.h.l h.h.t h.version h.peers).2 = 0 →
    ∃ g : Hub, IsHub g ∧ hub_Replay_L0 a h.h.l h.h.t h.version h.peers = (g, 0) ∧ hub_Replay_L0 (a ++ b) h.h.l h.h.t h.version h.peers = hub_Replay_L0 b g.h.l g.h.t g.version g.peers
  | [], b, h, hh, _ => ⟨h, hh, rfl, rfl⟩
  | q :: a, b, h, hh, h0 => by
    rw [List.cons_append, hub_Replay_L0] at h0
    rw [List.cons_append, hub_Replay_L0, hub_Replay_L0]
    have he : (⟨⟨h.h.l, h.h.t⟩, h.version, h.peers⟩ : Hub) = h := rfl
    simp only [he] at h0 ⊢
    cases h1 : ((hub_next h q).2 != 0) with
    | true => rw [h1, cond_true] at h0; simp only at h0; rw [h0] at h1; cases h1
    | false =>
      rw [h1, cond_false] at h0
      simp only [cond_false]
      exact Replay_split a b (hub_next h q).1 (next_ok hh (eq_of_bne_false h1)).1 h0

theorem Parts_L0 (l : List Rec) (w : Hub) : ∀ (r : List Rec) (e : Int) (h : Hub), IsHub h → hub_Replay_L0 r h.h.l h.h.t h.version h.peers = (w, 0) →
    ∃ e2, orangerylaw_HubParts_L0 l r e h.h.l h.h.t h.version h.peers = orangerylaw_HubParts_L1 l w.h.l w.h.t w.version w.peers l e2 [] []
  | [], e, h, hh, h0 => by
    rw [hub_Replay_L0] at h0
    have : h = w := congrArg Prod.fst h0
    subst this
    exact ⟨e, by rw [orangerylaw_HubParts_L0]⟩
  | q :: r, e, h, hh, h0 => by
    rw [hub_Replay_L0] at h0
    rw [orangerylaw_HubParts_L0]
    have he : (⟨⟨h.h.l, h.h.t⟩, h.version, h.peers⟩ : Hub) = h := rfl
    simp only [he, Next_of hh] at h0 ⊢
    cases h1 : ((hub_next h q).2 != 0) with
    | true =>
      rw [h1, cond_true] at h0
      have h2 : (hub_next h q).2 = 0 := congrArg Prod.snd h0
      rw [h2] at h1; cases h1
    | false =>
      rw [h1, cond_false] at h0
      simp only [cond_false]
      exact Parts_L0 l w r _ (hub_next h q).1 (next_ok hh (eq_of_bne_false h1)).1 h0

theorem recsText_le : ∀ {l : List Rec}, AllR l → (recsText l).length ≤ 160 * l.length
  | [], _ => by simp [recsText_nil]
  | r :: l, h => by
    have h1 := prText_len (h r (.head _))
    have h2 := recsText_le (fun x hx => h x (.tail r hx))
    rw [recsText_cons]
    simp only [List.length_append, List.length_cons]
    omega

theorem Put_recs {a : List Rec} {q : Rec} (ha : AllR a) (hq : note_Check q = 0) (hn : a.length < 60) : disk_Put ⟨recsText a, []⟩ q = (⟨recsText a, recsText [q]⟩, 0) := by
  have h1 := recsText_le ha
  have h2 := prText_len hq
  have h3 : disk_Check ⟨recsText a, []⟩ = 0 := dCheck_recs ha (by omega) (by simp only [List.length_nil]; omega)
  unfold disk_Put
  have h4 : decide ((((prText q).length : Int) + 1) > ((60000 - ((recsText a).length : Int)) - (([] : List UInt8).length : Int))) = false := by
    simp only [List.length_nil, decide_eq_false_iff_not]; omega
  simp only [h3, Print_eq, if_pos hq, bne_self_eq_false, cond_false, h4]
  simp [recsText]

theorem Sync_recs {a b : List Rec} (ha : AllR a) (hb : AllR b) (hn : a.length + b.length ≤ 60) : disk_Sync ⟨recsText a, recsText b⟩ = (⟨recsText (a ++ b), []⟩, 0) := by
  have h1 := recsText_le ha
  have h2 := recsText_le hb
  have hab : AllR (a ++ b) := fun x hx => (List.mem_append.1 hx).elim (ha x) (hb x)
  have h3 : disk_Check ⟨recsText a, recsText b⟩ = 0 := dCheck_recs ha (by omega) (by omega)
  have h4 : disk_Check ⟨recsText (a ++ b), []⟩ = 0 := dCheck_recs hab (by rw [List.length_append]; omega) (by rw [recsText_append, List.length_append, List.length_nil]; omega)
  unfold disk_Sync
  simp only [List.flatten_cons, List.flatten_nil, List.append_nil, ← recsText_append, h3, h4, bne_self_eq_false, cond_false]

theorem Parts_L1 (l : List Rec) (w : Hub) (hl : AllR l) (hn : l.length ≤ 60) (hw : (hub_Replay l).1 = w) : ∀ (r a : List Rec) (e : Int), a ++ r = l →
    orangerylaw_HubParts_L1 l w.h.l w.h.t w.version w.peers r e (recsText a) [] = true
  | [], a, e, h => by
    rw [List.append_nil] at h
    subst h
    have hr := dRecover_recs (a := a) (b := []) (t := []) hl (fun _ h => by cases h) (by simpa using hn) (by simp) (by have := recsText_le hl; simp only [recsText_nil, List.nil_append, List.length_nil]; omega)
    simp only [recsText_nil, List.nil_append, List.append_nil] at hr
    have he : (⟨⟨w.h.l, w.h.t⟩, w.version, w.peers⟩ : Hub) = w := rfl
    rw [orangerylaw_HubParts_L1, hr, hw, he, hub_Same_refl, EqSame]
    simp
  | q :: r, a, e, h => by
    have hm : ∀ x ∈ a ++ q :: r, note_Check x = 0 := by rw [h]; exact hl
    have ha : AllR a := fun x hx => hm x (List.mem_append_left _ hx)
    have hq : note_Check q = 0 := hm q (List.mem_append_right _ (.head _))
    have hlen : a.length + (r.length + 1) = l.length := by rw [← h, List.length_append, List.length_cons]
    have hq1 : AllR [q] := fun x hx => by rw [List.mem_singleton] at hx; subst hx; exact hq
    rw [orangerylaw_HubParts_L1, Put_recs ha hq (by omega)]
    simp only [Sync_recs ha hq1 (by simp only [List.length_cons, List.length_nil]; omega), bne_self_eq_false, cond_false]
    exact Parts_L1 l w hl hn hw r (a ++ [q]) 0 (by rw [List.append_assoc]; exact h)

theorem HubParts_true (l : List Rec) (k : Int) : orangerylaw_HubParts l k = true := by
  unfold orangerylaw_HubParts
  rw [accepted_true]
  cases h1 : ((!true) || ((hub_Replay l).2 != 0)) with
  | true => rfl
  | false =>
    have h0 := eq_of_bne_false (Bool.or_eq_false_iff.1 h1).2
    rw [cond_false]
    have hr := Replay_ok h0
    have hl := Replay_recs h0
    have hat := at_in (k := k) (n := (l.length : Int) + 1) (by omega)
    generalize (orangerylaw_at k ((l.length : Int) + 1)).toNat = n
    have hN : IsHub hub_New := hub_New_ok
    have hz : (hub_Replay_L0 (l.take n ++ l.drop n) hub_New.h.l hub_New.h.t hub_New.version hub_New.peers).2 = 0 := by rw [List.take_append_drop]; exact hr.2.1
    obtain ⟨g, g1, g2, g3⟩ := Replay_split (l.take n) (l.drop n) hub_New hN hz
    have ht : hub_Replay (l.take n) = (g, 0) := by
      unfold hub_Replay
      have : decide (((l.take n).length : Int) > 60) = false := by
        have h60 := hr.1
        simp only [List.length_take, decide_eq_false_iff_not]; omega
      rw [this, cond_false]
      exact g2
    rw [List.take_append_drop] at g3
    have hw : hub_Replay_L0 (l.drop n) g.h.l g.h.t g.version g.peers = ((hub_Replay l).1, 0) := by
      rw [← g3]
      have e1 : hub_Replay l = hub_Replay_L0 l hub_New.h.l hub_New.h.t hub_New.version hub_New.peers := hr.2.2
      rw [← e1, ← h0]
    rw [ht]
    simp only [bne_self_eq_false, cond_false]
    obtain ⟨e2, he2⟩ := Parts_L0 l (hub_Replay l).1 (l.drop n) 0 g g1 hw
    rw [he2]
    exact Parts_L1 l (hub_Replay l).1 hl hr.1 rfl l [] e2 rfl
end Go.Proofs.YtccmadehnoihnaaGreatDoor

namespace Go.Proofs.YtccmadehnoihnaaGreatDoor
open Go Go.Proofs.YtccmadehnoihnaaGreatDoor.Fw Go.Proofs Go.Proofs.YtccmadehnoihnaaGreatDoor Go.RowKit

/-! ### What the row lists gives what the library's functions want -/
theorem star_err : "*" ++ "errors.errorString" = "*errors.errorString" := by decide
theorem row_err (u : TypeId) (h : Tryz.prog.typeName? 3 u = some "*errors.errorString") : u = 182 :=
  typeName_ptr_named (nm := "errors.errorString") (by rw [star_err]; kernel_rfl) (by kernel_rfl) (by decide) u (by rw [star_err]; exact h)
theorem lib_of_laid {W : World} (h : laidMetH Tryz.prog Rows.hubPartsRow.laid W) (hsh : W.ShapedOpen Tryz.prog) : LibP Tryz.prog (fun _ => False) W := by
  rw [MakeChecks.laidMetH_plain _ _ _ (by kernel_rfl)] at h
  have e1 : (Rows.laid_internal_strconv_uint64pow10 : DataW Unit) = Lib.tabData .u64 Lib.pow10Tab := by kernel_rfl
  have h2 : laidMet Tryz.prog [("internal/strconv.uint64pow10", Rows.laid_internal_strconv_uint64pow10), ("unicode/utf8.acceptRanges", Rows.laid_unicode_utf8_acceptRanges), ("strconv.ErrRange", Rows.laid_strconv_ErrRange), ("strconv.ErrSyntax", Rows.laid_strconv_ErrSyntax), ("unicode/utf8.first", Rows.laid_unicode_utf8_first)] W := (laidMet.tail (laidMet.tail h))
  have h4 := laidMet.tail (laidMet.tail h2)
  have h5 := laidMet.tail h4
  rw [e1] at h2
  refine lib_top ⟨?_, ?_, ?_, ?_⟩
  · obtain ⟨m, hm⟩ := cell_of_shapedOpen_int (g := 0) (zero := #[.int .i64 0]) (t := 3) hsh (of_decide_eq_true (by kernel_rfl)) (by kernel_rfl) rfl (by kernel_rfl) (by kernel_rfl) Tryz.underlying3
    exact ⟨0, m, by kernel_rfl, hm⟩
  · exact Lib.tabIs_of_head (g := 1) (by kernel_rfl) (by kernel_rfl) Tryz.underlying163 Tryz.underlying145 (by kernel_rfl) (by kernel_rfl) h2
  · obtain ⟨a, s, hv, _⟩ := laid_sentinel h5 (g := 2) (ti := 114) (tp := 182) (te := 184) (ts := 9) (by kernel_rfl) (by kernel_rfl) und_114 row_err Tryz.underlying182 Tryz.underlying184 rfl rfl und_9 (by kernel_rfl) (by kernel_rfl)
    exact ⟨_, _, hv⟩
  · obtain ⟨a, s, hv, _⟩ := laid_sentinel h4 (g := 3) (ti := 114) (tp := 182) (te := 184) (ts := 9) (by kernel_rfl) (by kernel_rfl) und_114 row_err Tryz.underlying182 Tryz.underlying184 rfl rfl und_9 (by kernel_rfl) (by kernel_rfl)
    exact ⟨_, _, hv⟩

section
variable {H : Type} {enc : TypeId × Value → H}
/-- The wrap of a row that lists variables; the contract has the shape of the world too. -/
theorem wrapped {a : Assume} {C : Checked} {os : Os} {f : FuncId} {fn : Func} {s : ChangeSpec} {conds : List PathCond} {apart fresh handsOn again : Bool} {laid : List (String × DataW Unit)}
    (own : ownKnob C.prog.godebug = none) (started : os.Started) (noInit : C.prog.inits.idxOf? f = none) (hfn : C.prog.funcs[f]? = some fn)
    (witness : ∃ (w : World) (tape : Tape) (i : Input), w.os = os ∧ (w.forCall tape i).Shaped C.prog ∧ i.vars = [] ∧ Input.okWide C.prog (w.forCall tape i) .any w.heap.size f i ∧
      ((s.pre enc C.prog fn conds apart (w.forCall tape i).memory i.args ∧ laidMetH C.prog laid (w.forCall tape i).memory) ∧ sizedMet enc C.prog fn (OpenSpec.ofChange s) apart (w.forCall tape i).memory i.args) ∧ a.holds C.prog (lone (Frame.enter C.prog f i.args .normal) [] (w.forCall tape i)))
    (contract : ∀ (W : World) (base : Nat) (args : Array Value) (ds gs : List (DataW H)) (before : List MemPlace),
      (∀ (j : Nat) t v, fn.params[j]? = some t → args[j]? = some v → Value.okWide C.prog W .any base t v) →
      DataW.Whole enc C.prog fn.params.toList s.vars apart W args.toList ds gs before →
      conds.all (PathCond.test C.prog ⟨fn.params.toList, ds, s.plain.varTypes C.prog, gs⟩) = true →
      (DataW.weightsEach C.prog (fn.params.toList ++ s.plain.varTypes C.prog) (ds ++ gs)).all (· ≤ reachBytes) = true → laidMetH C.prog laid W → W.ShapedOpen C.prog →
      Calls C.prog f args W fun e W' => ∃ v, e = .returned v ∧ s.post enc C.prog fn apart fresh handsOn again W args v W') :
    ReturnsInHanded a C os f .any (fun w args => (s.pre enc C.prog fn conds apart w args ∧ laidMetH C.prog laid w) ∧ sizedMet enc C.prog fn (OpenSpec.ofChange s) apart w args) (s.post enc C.prog fn apart fresh handsOn again) := by
  refine returnsInHanded_of_calls own started noInit witness ?_
  intro w tape i _ hsh _ hok hpre hholds
  obtain ⟨_, _, _, fn', hfn', _, _, _, _, hval⟩ := hok
  have e : fn' = fn := Option.some.inj (hfn'.symm.trans hfn)
  subst e
  obtain ⟨⟨⟨ds, gs, before, hw, hc⟩, hx⟩, hz⟩ := hpre
  have hw' := DataW.Whole.of_heap (w' := w.forCall tape i) (by rfl) hw
  refine (contract (w.forCall tape i) w.heap.size i.args ds gs before hval hw' hc (hz.weights hw) (hx.of_heap (by rfl)) hsh).mono fun e W' ⟨v, he, hp⟩ => ?_
  subst he
  exact ChangeSpec.post_blind hp
end

end Go.Proofs.YtccmadehnoihnaaGreatDoor

namespace Go.Proofs.YtccmadehnoihnaaGreatDoor
open Go Go.Proofs.YtccmadehnoihnaaGreatDoor.Fw Go.Proofs
theorem opens_t3 : Opens Tryz.prog 3 (fun (a : Int) (s : Unit) => [.int .i64 a]) (fun (a : Int) (s : Unit) => []) :=
  opens_int Tryz.underlying3
theorem cells_3 : Tryz.prog.cellsOf 3 = 1 := by kernel_rfl
theorem bytes_3 : Tryz.prog.bytesOf 3 = 8 := by kernel_rfl
theorem opens_t37 : Opens Tryz.prog 37 (fun (a : List Int) (s : SlV) => [s.val a.length]) (fun (a : List Int) (s : SlV) => [RdL EInt s a]) :=
  opens_intslice EInt (fun _ => rfl) rfl Tryz.underlying37 Tryz.underlying3 cells_3 bytes_3
theorem cells_37 : Tryz.prog.cellsOf 37 = 1 := by kernel_rfl
theorem cells_41 : Tryz.prog.cellsOf 41 = 7 := by kernel_rfl
theorem eqK_41 : eqK Tryz.prog 20 41 = some [true, true, true, true, true, true, true] := by kernel_rfl
theorem opens_t41 : Opens Tryz.prog 41 (fun (a : Op) (s : Unit) => [.int .i64 a.time, .int .i64 a.who, .int .i64 a.node, .int .i64 a.parent, .int .i64 a.name, .int .i64 a.life, .int .i64 a.seq]) (fun (a : Op) (s : Unit) => []) :=
  opens_flat EOp enc_Op eqK_41 cells_41
theorem cells_43 : Tryz.prog.cellsOf 43 = 11 := by kernel_rfl
theorem bytes_43 : Tryz.prog.bytesOf 43 = 104 := by kernel_rfl
theorem opens_t43 : Opens Tryz.prog 43 (fun (a : Rec) (s : SlV) => [.int .i64 a.kind, .int .i64 a.who, .int .i64 a.life, s.val a.roots.length, .int .i64 a.o.time, .int .i64 a.o.who, .int .i64 a.o.node, .int .i64 a.o.parent, .int .i64 a.o.name, .int .i64 a.o.life, .int .i64 a.o.seq]) (fun (a : Rec) (s : SlV) => [RdL EInt s a.roots]) :=
  (opens_struct Tryz.underlying43 cells_43 (opensF_cons opens_t3 rfl rfl cells_3 (opensF_cons opens_t3 rfl rfl cells_3 (opensF_cons opens_t3 rfl rfl cells_3 (opensF_cons opens_t37 rfl rfl cells_37 (opensF_cons opens_t41 rfl rfl cells_41 opensF_nil)))))).map (fun (a : Rec) (s : SlV) => [.int .i64 a.kind, .int .i64 a.who, .int .i64 a.life, s.val a.roots.length, .int .i64 a.o.time, .int .i64 a.o.who, .int .i64 a.o.node, .int .i64 a.o.parent, .int .i64 a.o.name, .int .i64 a.o.life, .int .i64 a.o.seq]) (fun (a : Rec) (s : SlV) => [RdL EInt s a.roots]) (fun a => (⟨a.1, a.2.1, a.2.2.1, a.2.2.2.1, a.2.2.2.2.1⟩ : Rec)) (fun s => s.2.2.2.1) (fun _ _ => rfl) (fun _ _ => rfl)
theorem opens_t22 : Opens Tryz.prog 22 (fun (a : List Rec) (s : SlV) => [s.val a.length]) (fun (a : List Rec) (s : SlV) => [RdN NRec s a]) :=
  opens_nslice NRec Tryz.underlying22 opens_t43 cells_43 rfl bytes_43
end Go.Proofs.YtccmadehnoihnaaGreatDoor
