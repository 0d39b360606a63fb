/- Part of this claim. No condition. -/
import Derived.Test.YtchdacbjiomplaaW48
import Derived.Test.YtchdacbjiomplaaW10
import Derived.Test.YtchdacbjiomplaaW4
set_option linter.unusedVariables false
set_option linter.unusedSimpArgs false
namespace Go.Proofs.Ytchdacbjiomplaa
open Go Go.Proofs.Ytchdacbjiomplaa.Fw Go.Proofs
attribute [local irreducible] RdL RdN VarP
def orangerylaw_HubSees_L1 (roots1 : List Int) (l1 : List Step) (p1 : List Place) (version1 : Int) (peers1 : List Peer) : List Place → Bool
  | [] => true
  | pn2 :: rn2 => (bif ((((tree_Under p1 (pn2.node) 0).2) != 0) || (((tree_Under p1 (pn2.node) 0).1 && (decide (0 ∈ roots1))) && (!(decide (pn2 ∈ (((hub_Sees (⟨(⟨l1, p1⟩ : History), version1, peers1⟩ : Hub) 0).1).known)))))) then false else (orangerylaw_HubSees_L1 roots1 l1 p1 version1 peers1 rn2))
def orangerylaw_HubSees_L0 (roots1 : List Int) : Nat → Nat → (List Step) → (List Place) → Int → (List Peer) → Bool
  | 0, n1, l1, p1, version1, peers1 => (bif ((((((hub_Sees (⟨(⟨l1, p1⟩ : History), version1, peers1⟩ : Hub) 0).2) != 0) || (((hub_Sees (⟨(⟨l1, p1⟩ : History), version1, peers1⟩ : Hub) 2).2) != 0)) || (!(view_Same ((hub_Sees (⟨(⟨l1, p1⟩ : History), version1, peers1⟩ : Hub) 0).1) ((hub_Sees (⟨(⟨l1, p1⟩ : History), version1, peers1⟩ : Hub) 2).1)))) || (((roots1.length : Int) == 0) && decide ((((((hub_Sees (⟨(⟨l1, p1⟩ : History), version1, peers1⟩ : Hub) 0).1).known).length : Int) + ((((hub_Sees (⟨(⟨l1, p1⟩ : History), version1, peers1⟩ : Hub) 0).1).way).length : Int)) > 0))) then false else (orangerylaw_HubSees_L1 roots1 l1 p1 version1 peers1 p1))
  | fn1 + 1, n1, l1, p1, version1, peers1 => (bif (((gt peers1 n1).life) == 0) then (bif (((hub_Next (⟨(⟨l1, p1⟩ : History), version1, peers1⟩ : Hub) (⟨2, (n1 : Int), 1, ([] : List Int), (⟨0, 0, 0, 0, 0, 0, 0⟩ : Op)⟩ : Rec)).2) != 0) then false else (bif (((hub_Next ((hub_Next (⟨(⟨l1, p1⟩ : History), version1, peers1⟩ : Hub) (⟨2, (n1 : Int), 1, ([] : List Int), (⟨0, 0, 0, 0, 0, 0, 0⟩ : Op)⟩ : Rec)).1) (⟨3, (n1 : Int), 0, roots1, (⟨0, 0, 0, 0, 0, 0, 0⟩ : Op)⟩ : Rec)).2) != 0) then false else (orangerylaw_HubSees_L0 roots1 fn1 (n1 + 1) ((((hub_Next ((hub_Next (⟨(⟨l1, p1⟩ : History), version1, peers1⟩ : Hub) (⟨2, (n1 : Int), 1, ([] : List Int), (⟨0, 0, 0, 0, 0, 0, 0⟩ : Op)⟩ : Rec)).1) (⟨3, (n1 : Int), 0, roots1, (⟨0, 0, 0, 0, 0, 0, 0⟩ : Op)⟩ : Rec)).1).h).l) ((((hub_Next ((hub_Next (⟨(⟨l1, p1⟩ : History), version1, peers1⟩ : Hub) (⟨2, (n1 : Int), 1, ([] : List Int), (⟨0, 0, 0, 0, 0, 0, 0⟩ : Op)⟩ : Rec)).1) (⟨3, (n1 : Int), 0, roots1, (⟨0, 0, 0, 0, 0, 0, 0⟩ : Op)⟩ : Rec)).1).h).t) (((hub_Next ((hub_Next (⟨(⟨l1, p1⟩ : History), version1, peers1⟩ : Hub) (⟨2, (n1 : Int), 1, ([] : List Int), (⟨0, 0, 0, 0, 0, 0, 0⟩ : Op)⟩ : Rec)).1) (⟨3, (n1 : Int), 0, roots1, (⟨0, 0, 0, 0, 0, 0, 0⟩ : Op)⟩ : Rec)).1).version) (((hub_Next ((hub_Next (⟨(⟨l1, p1⟩ : History), version1, peers1⟩ : Hub) (⟨2, (n1 : Int), 1, ([] : List Int), (⟨0, 0, 0, 0, 0, 0, 0⟩ : Op)⟩ : Rec)).1) (⟨3, (n1 : Int), 0, roots1, (⟨0, 0, 0, 0, 0, 0, 0⟩ : Op)⟩ : Rec)).1).peers)))) else (bif (((hub_Next (⟨(⟨l1, p1⟩ : History), version1, peers1⟩ : Hub) (⟨3, (n1 : Int), 0, roots1, (⟨0, 0, 0, 0, 0, 0, 0⟩ : Op)⟩ : Rec)).2) != 0) then false else (orangerylaw_HubSees_L0 roots1 fn1 (n1 + 1) ((((hub_Next (⟨(⟨l1, p1⟩ : History), version1, peers1⟩ : Hub) (⟨3, (n1 : Int), 0, roots1, (⟨0, 0, 0, 0, 0, 0, 0⟩ : Op)⟩ : Rec)).1).h).l) ((((hub_Next (⟨(⟨l1, p1⟩ : History), version1, peers1⟩ : Hub) (⟨3, (n1 : Int), 0, roots1, (⟨0, 0, 0, 0, 0, 0, 0⟩ : Op)⟩ : Rec)).1).h).t) (((hub_Next (⟨(⟨l1, p1⟩ : History), version1, peers1⟩ : Hub) (⟨3, (n1 : Int), 0, roots1, (⟨0, 0, 0, 0, 0, 0, 0⟩ : Op)⟩ : Rec)).1).version) (((hub_Next (⟨(⟨l1, p1⟩ : History), version1, peers1⟩ : Hub) (⟨3, (n1 : Int), 0, roots1, (⟨0, 0, 0, 0, 0, 0, 0⟩ : Op)⟩ : Rec)).1).peers))))
def orangerylaw_HubSees (h1 : Hub) (roots1 : List Int) : Bool :=
  (bif ((((!orangerylaw_accepted) || ((hub_Check h1) != 0)) || ((view_Roots roots1) != 0)) || decide (h1.version > 54)) then orangerylaw_accepted else (orangerylaw_HubSees_L0 roots1 (3 - 0) 0 h1.h.l h1.h.t h1.version h1.peers))
theorem orangerylaw_HubSees_spec (y1 : SlV) (y2 : SlV) (y3 : SlV) (h1 : Hub) (y4 : SlV) (roots1 : List Int) : Does Try.prog 26 [.agg ⟨[y1.val h1.h.l.length, y2.val h1.h.t.length, .int .i64 h1.version, y3.val h1.peers.length]⟩, y4.val roots1.length] [RdL EStep y1 h1.h.l, RdL EPlace y2 h1.h.t, RdN NPeer y3 h1.peers, RdL EInt y4 roots1] (fun (_ : Unit) => .bool (orangerylaw_HubSees h1 roots1)) (fun (_ : Unit) => []) := by
  refine does_of tab_ok Try.func26 rfl Try.ntmps26 Try.results26 rfl inferInstance (fun _ => inferInstance) fun C => ?_
  refine cw_pure (φ := h1.h.l.length * 88 ≤ 140737488355328) [RdL EStep y1 h1.h.l] Sm (fun M w h => (allF1 h).len) fun hlen1 => ?_
  refine cw_pure (φ := h1.h.t.length * 24 ≤ 140737488355328) [RdL EPlace y2 h1.h.t] Sm (fun M w h => (allF1 h).len) fun hlen2 => ?_
  refine cw_pure (φ := h1.peers.length * 40 ≤ 140737488355328) [RdN NPeer y3 h1.peers] Sm (fun M w h => (allF1 h).len) fun hlen3 => ?_
  refine cw_pure (φ := roots1.length * 8 ≤ 140737488355328) [RdL EInt y4 roots1] Sm (fun M w h => (allF1 h).len) fun hlen4 => ?_
  (repeat refine cw_seq ?_); refine cw_region ?_
  refine rw_box_agg .sq (guard_none rfl) rfl rfl rfl rfl rfl fun g1 => ?_
  refine Rp rfl rfl rfl rfl ?_
  refine rw_nil ?_
  (repeat refine cw_seq ?_); refine cw_region ?_
  refine rw_call (orangerylaw_accepted_spec ) .sq (guard_none rfl) rfl rfl rfl Kr rfl rfl Sm ?_
  intro _
  refine Rp rfl rfl rfl rfl ?_
  refine Rp rfl rfl rfl rfl ?_
  refine rw_qg (guard_vf rfl rfl rfl) rfl rfl (q_ldA rfl rfl Bt rfl Mm rfl) ?_
  refine rw_callg (fun hG_ => hub_Check_spec y1 y2 y3 h1) (fun _ => rfl) .sq (guard_vf rfl rfl rfl) rfl rfl rfl Kr rfl Bt Sm ?_
  refine rw_qg (guard_vf rfl rfl rfl) rfl rfl (q_pev rfl Bt) ?_
  refine rw_q rfl rfl rfl (q_pev rfl Bt) ?_
  refine Rp rfl rfl rfl rfl ?_
  refine rw_qg (guard_vf rfl rfl rfl) rfl rfl (q_pev rfl Bt) ?_
  refine rw_callg (fun hG_ => view_Roots_spec y4 roots1) (fun _ => rfl) .sq (guard_vf rfl rfl rfl) rfl rfl rfl Kr rfl Bt Sm ?_
  refine rw_qg (guard_vf rfl rfl rfl) rfl rfl (q_pev rfl Bt) ?_
  refine rw_q rfl rfl rfl (q_pev rfl Bt) ?_
  refine Rp rfl rfl rfl rfl ?_
  refine rw_qg (guard_vf rfl rfl rfl) rfl rfl (q_pev rfl Bt) ?_
  refine rw_qg (guard_vf rfl rfl rfl) rfl rfl (q_ld1 rfl rfl Bt rfl Mm rfl) ?_
  refine rw_qg (guard_vf rfl rfl rfl) rfl rfl (q_pev rfl Bt) ?_
  refine rw_q rfl rfl rfl (q_pev rfl Bt) ?_
  refine rw_nil ?_
  (repeat refine cw_seq ?_); refine cw_cond (b := ((((!orangerylaw_accepted) || ((hub_Check h1) != 0)) || ((view_Roots roots1) != 0)) || decide (h1.version > 54))) rfl rfl (fun hc1 => ?_) (fun hc1 => ?_)
  · skip
    (repeat refine cw_seq ?_); refine cw_region ?_
    refine rw_call (orangerylaw_accepted_spec ) .sq (guard_none rfl) rfl rfl rfl Kr rfl rfl Sm ?_
    intro _
    refine Rp rfl rfl rfl rfl ?_
    refine rw_nil ?_
    (repeat refine cw_seq ?_)
    have hr1 : (orangerylaw_HubSees h1 roots1) = orangerylaw_accepted := by simp only [orangerylaw_HubSees, hc1, cond_true, cond_false]
    refine cw_ret ?_
    rw [hr1]
    exact ⟨(), _, (.cons (.tmp rfl) .nil), rfl, Sm, .nil _, .nil _⟩
  · skip
    have hor := hc1
    simp only [Bool.or_eq_false_iff, bne_eq_false_iff_eq, decide_eq_false_iff_not] at hor
    have hpl := hub_three hor.1.1.2
    (repeat refine cw_seq ?_); refine cw_skip ?_
    (repeat refine cw_seq ?_); refine cw_region ?_
    refine Rp rfl rfl rfl rfl ?_
    refine rw_nil ?_
    (repeat refine cw_seq ?_); refine cw_block ?_
    (repeat refine cw_seq ?_); refine cw_loopS [1, 2, 4] [false] (fun (i_ : Nat × List Step × SlV × List Place × SlV × Int × List Peer × SlV) => match i_ with | ⟨n1, l1, x1, p1, x2, version1, peers1, x3⟩ => [(36, .v (.int .i64 (n1 : Int)))]) (fun (i_ : Nat × List Step × SlV × List Place × SlV × Int × List Peer × SlV) => match i_ with | ⟨n1, l1, x1, p1, x2, version1, peers1, x3⟩ => [⟨g1, 131, [x1.val l1.length, x2.val p1.length, .int .i64 version1, x3.val peers1.length]⟩]) (fun (i_ : Nat × List Step × SlV × List Place × SlV × Int × List Peer × SlV) => match i_ with | ⟨n1, l1, x1, p1, x2, version1, peers1, x3⟩ => []) (fun (i_ : Nat × List Step × SlV × List Place × SlV × Int × List Peer × SlV) => match i_ with | ⟨n1, l1, x1, p1, x2, version1, peers1, x3⟩ => [RdL EStep x1 l1, RdL EPlace x2 p1, RdN NPeer x3 peers1]) (fun (i_ : Nat × List Step × SlV × List Place × SlV × Int × List Peer × SlV) => match i_ with | ⟨n1, l1, x1, p1, x2, version1, peers1, x3⟩ => (n1 ≤ 3) ∧ (hub_Check (⟨⟨l1, p1⟩, version1, peers1⟩ : Hub) = 0) ∧ (orangerylaw_HubSees_L0 roots1 (3 - n1) n1 l1 p1 version1 peers1) = (orangerylaw_HubSees h1 roots1)) (fun (i_ : Nat × List Step × SlV × List Place × SlV × Int × List Peer × SlV) => match i_ with | ⟨n1, l1, x1, p1, x2, version1, peers1, x3⟩ => 3 - n1) ⟨0, h1.h.l, y1, h1.h.t, y2, h1.version, h1.peers, y3⟩ (.cons rfl (.cons rfl (.cons rfl (.nil _)))) (.drop (.nil)) ⟨(Nat.zero_le _), hor.1.1.2, (by simp only [orangerylaw_HubSees, hc1, cond_true, cond_false] : (orangerylaw_HubSees h1 roots1) = (orangerylaw_HubSees_L0 roots1 (3 - 0) 0 h1.h.l h1.h.t h1.version h1.peers)).symm⟩ Le4 ?_
    rintro ⟨n1, l1, x1, p1, x2, version1, peers1, x3⟩ ⟨hkn1, hinv, hf1⟩
    simp only [List.cons_append, List.nil_append]
    (repeat refine cw_seq ?_); refine cw_region ?_
    refine Rp rfl rfl rfl rfl ?_
    refine rw_nil ?_
    (repeat refine cw_seq ?_); refine cw_cond (b := decide ((n1 : Int) < 3)) rfl rfl (fun hc2 => ?_) (fun hc2 => ?_)
    · skip
      have hlt0 : n1 < 3 := by have := of_decide_eq_true hc2; omega
      have hlt0_ : 3 - n1 = (3 - (n1 + 1)) + 1 := by omega
      have hp3 := hub_three hinv
      simp only at hp3
      (repeat refine cw_seq ?_); refine cw_skip ?_
      (repeat refine cw_seq ?_); refine cw_block ?_
      (repeat refine cw_seq ?_); refine cw_region ?_
      refine Rp rfl rfl rfl rfl ?_
      refine Rp rfl rfl rfl rfl ?_
      refine rw_nil ?_
      (repeat refine cw_seq ?_); refine cw_region ?_
      refine Rp rfl rfl rfl rfl ?_
      refine rw_q rfl rfl rfl (q_ld1 rfl rfl (fun _ => rfl) rfl Mm rfl) ?_
      refine Rp rfl rfl rfl rfl ?_
      refine rw_exN NPeer (X := x3) (l := peers1) Mm fun (γ1 : Nat → SlV) => ?_
      refine rw_q rfl rfl rfl (q_idxN NPeer γ1 n1 rfl rfl (fun _ => rfl) rfl (fun _ => rfl) rfl rfl rfl Mm rfl (fun _ => rfl) (fun _ => by first | assumption | omega)) ?_
      refine rw_q rfl rfl rfl (q_fae rfl rfl (fun _ => rfl) rfl rfl) ?_
      refine rw_q rfl rfl rfl (q_le1N NPeer γ1 (v := .int .i64 ((gt peers1 n1).life)) rfl rfl (fun _ => rfl) rfl rfl Mm (fun _ => by first | assumption | omega) rfl) ?_
      refine Rp rfl rfl rfl rfl ?_
      refine rw_nil ?_
      (repeat refine cw_seq ?_); refine cw_cond (b := (((gt peers1 n1).life) == 0)) rfl rfl (fun hc3 => ?_) (fun hc3 => ?_)
      · skip
        have hc3p := eq_of_beq hc3
        (repeat refine cw_seq ?_); refine cw_region ?_
        refine rw_q rfl rfl rfl (q_ldA rfl rfl (fun _ => rfl) rfl Mm rfl) ?_
        refine Rp rfl rfl rfl rfl ?_
        refine Rp rfl rfl rfl rfl ?_
        refine rw_fact (F := RdL EInt ⟨none, 0⟩ ([] : List Int)) [] (.nil _) (fun M w _ => RdL.nil _ _ _ (by omega) M w) ?_
        refine rw_call (hub_Next_spec x1 x2 x3 (⟨(⟨l1, p1⟩ : History), version1, peers1⟩ : Hub) (⟨none, 0⟩ : SlV) (⟨2, (n1 : Int), 1, ([] : List Int), (⟨0, 0, 0, 0, 0, 0, 0⟩ : Op)⟩ : Rec)) .sq (guard_none rfl) rfl rfl rfl Kr rfl rfl Sm ?_
        intro x4
        refine rw_pure (φ := ((((hub_Next (⟨(⟨l1, p1⟩ : History), version1, peers1⟩ : Hub) (⟨2, (n1 : Int), 1, ([] : List Int), (⟨0, 0, 0, 0, 0, 0, 0⟩ : Op)⟩ : Rec)).1).h).l).length * 88 ≤ 140737488355328) [RdL EStep x4.1 ((((hub_Next (⟨(⟨l1, p1⟩ : History), version1, peers1⟩ : Hub) (⟨2, (n1 : Int), 1, ([] : List Int), (⟨0, 0, 0, 0, 0, 0, 0⟩ : Op)⟩ : Rec)).1).h).l)] Sm (fun M w h => (allF1 h).len) fun hlen5 => ?_
        refine rw_pure (φ := ((((hub_Next (⟨(⟨l1, p1⟩ : History), version1, peers1⟩ : Hub) (⟨2, (n1 : Int), 1, ([] : List Int), (⟨0, 0, 0, 0, 0, 0, 0⟩ : Op)⟩ : Rec)).1).h).t).length * 24 ≤ 140737488355328) [RdL EPlace x4.2.1 ((((hub_Next (⟨(⟨l1, p1⟩ : History), version1, peers1⟩ : Hub) (⟨2, (n1 : Int), 1, ([] : List Int), (⟨0, 0, 0, 0, 0, 0, 0⟩ : Op)⟩ : Rec)).1).h).t)] Sm (fun M w h => (allF1 h).len) fun hlen6 => ?_
        refine rw_pure (φ := (((hub_Next (⟨(⟨l1, p1⟩ : History), version1, peers1⟩ : Hub) (⟨2, (n1 : Int), 1, ([] : List Int), (⟨0, 0, 0, 0, 0, 0, 0⟩ : Op)⟩ : Rec)).1).peers).length * 40 ≤ 140737488355328) [RdN NPeer x4.2.2 (((hub_Next (⟨(⟨l1, p1⟩ : History), version1, peers1⟩ : Hub) (⟨2, (n1 : Int), 1, ([] : List Int), (⟨0, 0, 0, 0, 0, 0, 0⟩ : Op)⟩ : Rec)).1).peers)] Sm (fun M w h => (allF1 h).len) fun hlen7 => ?_
        refine Rp rfl rfl rfl rfl ?_
        refine Rp rfl rfl rfl rfl ?_
        refine Rp rfl rfl rfl rfl ?_
        refine rw_alloc .sq (guard_none rfl) rfl rfl rfl rfl fun g2 => ?_
        refine rw_stA .sq (.inl ⟨_, rfl⟩) (guard_none rfl) rfl rfl rfl rfl rfl rfl rfl rfl rfl Ub rfl ?_
        refine Rp rfl rfl rfl rfl ?_
        refine rw_nil ?_
        (repeat refine cw_seq ?_); refine cw_region ?_
        refine Rp rfl rfl rfl rfl ?_
        refine Rp rfl rfl rfl rfl ?_
        refine rw_nil ?_
        (repeat refine cw_seq ?_); refine cw_cond (b := (((hub_Next (⟨(⟨l1, p1⟩ : History), version1, peers1⟩ : Hub) (⟨2, (n1 : Int), 1, ([] : List Int), (⟨0, 0, 0, 0, 0, 0, 0⟩ : Op)⟩ : Rec)).2) != 0)) rfl rfl (fun hc4 => ?_) (fun hc4 => ?_)
        · skip
          have hc4p := bne_iff_ne.1 hc4
          (repeat refine cw_seq ?_); refine cw_region ?_
          refine Rp rfl rfl rfl rfl ?_
          refine rw_nil ?_
          (repeat refine cw_seq ?_)
          have hr2 : (orangerylaw_HubSees h1 roots1) = false := by rw [← hf1]; (conv => lhs; rw [hlt0_]); simp only [orangerylaw_HubSees_L0, hc3, hc4, cond_true, cond_false]
          refine cw_ret ?_
          rw [hr2]
          exact ⟨(), _, (.cons (.tmp rfl) .nil), rfl, Sm, .nil _, .nil _⟩
        · skip
          have hc4p := eq_of_bne_false hc4
          (repeat refine cw_seq ?_); refine cw_skip ?_
          (repeat refine cw_seq ?_); refine cw_region ?_
          refine rw_q rfl rfl rfl (q_ldA rfl rfl (fun _ => rfl) rfl Mm rfl) ?_
          refine rw_stA .sq (.inl ⟨_, rfl⟩) (guard_none rfl) rfl rfl rfl rfl rfl rfl rfl rfl rfl Ub rfl ?_
          refine rw_nil ?_
          (repeat refine cw_seq ?_); refine cw_region ?_
          refine rw_q rfl rfl rfl (q_ldA rfl rfl (fun _ => rfl) rfl Mm rfl) ?_
          refine Rp rfl rfl rfl rfl ?_
          refine Rp rfl rfl rfl rfl ?_
          refine Rp rfl rfl rfl rfl ?_
          refine rw_call (hub_Next_spec x4.1 x4.2.1 x4.2.2 ((hub_Next (⟨(⟨l1, p1⟩ : History), version1, peers1⟩ : Hub) (⟨2, (n1 : Int), 1, ([] : List Int), (⟨0, 0, 0, 0, 0, 0, 0⟩ : Op)⟩ : Rec)).1) y4 (⟨3, (n1 : Int), 0, roots1, (⟨0, 0, 0, 0, 0, 0, 0⟩ : Op)⟩ : Rec)) .sq (guard_none rfl) rfl rfl rfl Kr rfl rfl Sm ?_
          intro x5
          refine rw_pure (φ := ((((hub_Next ((hub_Next (⟨(⟨l1, p1⟩ : History), version1, peers1⟩ : Hub) (⟨2, (n1 : Int), 1, ([] : List Int), (⟨0, 0, 0, 0, 0, 0, 0⟩ : Op)⟩ : Rec)).1) (⟨3, (n1 : Int), 0, roots1, (⟨0, 0, 0, 0, 0, 0, 0⟩ : Op)⟩ : Rec)).1).h).l).length * 88 ≤ 140737488355328) [RdL EStep x5.1 ((((hub_Next ((hub_Next (⟨(⟨l1, p1⟩ : History), version1, peers1⟩ : Hub) (⟨2, (n1 : Int), 1, ([] : List Int), (⟨0, 0, 0, 0, 0, 0, 0⟩ : Op)⟩ : Rec)).1) (⟨3, (n1 : Int), 0, roots1, (⟨0, 0, 0, 0, 0, 0, 0⟩ : Op)⟩ : Rec)).1).h).l)] Sm (fun M w h => (allF1 h).len) fun hlen8 => ?_
          refine rw_pure (φ := ((((hub_Next ((hub_Next (⟨(⟨l1, p1⟩ : History), version1, peers1⟩ : Hub) (⟨2, (n1 : Int), 1, ([] : List Int), (⟨0, 0, 0, 0, 0, 0, 0⟩ : Op)⟩ : Rec)).1) (⟨3, (n1 : Int), 0, roots1, (⟨0, 0, 0, 0, 0, 0, 0⟩ : Op)⟩ : Rec)).1).h).t).length * 24 ≤ 140737488355328) [RdL EPlace x5.2.1 ((((hub_Next ((hub_Next (⟨(⟨l1, p1⟩ : History), version1, peers1⟩ : Hub) (⟨2, (n1 : Int), 1, ([] : List Int), (⟨0, 0, 0, 0, 0, 0, 0⟩ : Op)⟩ : Rec)).1) (⟨3, (n1 : Int), 0, roots1, (⟨0, 0, 0, 0, 0, 0, 0⟩ : Op)⟩ : Rec)).1).h).t)] Sm (fun M w h => (allF1 h).len) fun hlen9 => ?_
          refine rw_pure (φ := (((hub_Next ((hub_Next (⟨(⟨l1, p1⟩ : History), version1, peers1⟩ : Hub) (⟨2, (n1 : Int), 1, ([] : List Int), (⟨0, 0, 0, 0, 0, 0, 0⟩ : Op)⟩ : Rec)).1) (⟨3, (n1 : Int), 0, roots1, (⟨0, 0, 0, 0, 0, 0, 0⟩ : Op)⟩ : Rec)).1).peers).length * 40 ≤ 140737488355328) [RdN NPeer x5.2.2 (((hub_Next ((hub_Next (⟨(⟨l1, p1⟩ : History), version1, peers1⟩ : Hub) (⟨2, (n1 : Int), 1, ([] : List Int), (⟨0, 0, 0, 0, 0, 0, 0⟩ : Op)⟩ : Rec)).1) (⟨3, (n1 : Int), 0, roots1, (⟨0, 0, 0, 0, 0, 0, 0⟩ : Op)⟩ : Rec)).1).peers)] Sm (fun M w h => (allF1 h).len) fun hlen10 => ?_
          refine Rp rfl rfl rfl rfl ?_
          refine Rp rfl rfl rfl rfl ?_
          refine Rp rfl rfl rfl rfl ?_
          refine rw_alloc .sq (guard_none rfl) rfl rfl rfl rfl fun g3 => ?_
          refine rw_stA .sq (.inl ⟨_, rfl⟩) (guard_none rfl) rfl rfl rfl rfl rfl rfl rfl rfl rfl Ub rfl ?_
          refine Rp rfl rfl rfl rfl ?_
          refine rw_nil ?_
          (repeat refine cw_seq ?_); refine cw_region ?_
          refine Rp rfl rfl rfl rfl ?_
          refine Rp rfl rfl rfl rfl ?_
          refine rw_nil ?_
          (repeat refine cw_seq ?_); refine cw_cond (b := (((hub_Next ((hub_Next (⟨(⟨l1, p1⟩ : History), version1, peers1⟩ : Hub) (⟨2, (n1 : Int), 1, ([] : List Int), (⟨0, 0, 0, 0, 0, 0, 0⟩ : Op)⟩ : Rec)).1) (⟨3, (n1 : Int), 0, roots1, (⟨0, 0, 0, 0, 0, 0, 0⟩ : Op)⟩ : Rec)).2) != 0)) rfl rfl (fun hc5 => ?_) (fun hc5 => ?_)
          · skip
            have hc5p := bne_iff_ne.1 hc5
            (repeat refine cw_seq ?_); refine cw_region ?_
            refine Rp rfl rfl rfl rfl ?_
            refine rw_nil ?_
            (repeat refine cw_seq ?_)
            have hr3 : (orangerylaw_HubSees h1 roots1) = false := by rw [← hf1]; (conv => lhs; rw [hlt0_]); simp only [orangerylaw_HubSees_L0, hc3, hc4, hc5, cond_true, cond_false]
            refine cw_ret ?_
            rw [hr3]
            exact ⟨(), _, (.cons (.tmp rfl) .nil), rfl, Sm, .nil _, .nil _⟩
          · skip
            have hc5p := eq_of_bne_false hc5
            (repeat refine cw_seq ?_); refine cw_skip ?_
            (repeat refine cw_seq ?_); refine cw_region ?_
            refine rw_q rfl rfl rfl (q_ldA rfl rfl (fun _ => rfl) rfl Mm rfl) ?_
            refine rw_stA .sq (.inl ⟨_, rfl⟩) (guard_none rfl) rfl rfl rfl rfl rfl rfl rfl rfl rfl Ub rfl ?_
            refine rw_nil ?_
            (repeat refine cw_seq ?_); refine cw_region ?_
            refine rw_q rfl rfl rfl (q_add rfl rfl (fun _ => rfl) rfl (fun _ => rfl) (fun _ => by omega)) ?_
            refine Rp rfl rfl rfl rfl ?_
            refine rw_nil ?_
            refine ⟨⟨(n1 + 1), (((hub_Next ((hub_Next (⟨(⟨l1, p1⟩ : History), version1, peers1⟩ : Hub) (⟨2, (n1 : Int), 1, ([] : List Int), (⟨0, 0, 0, 0, 0, 0, 0⟩ : Op)⟩ : Rec)).1) (⟨3, (n1 : Int), 0, roots1, (⟨0, 0, 0, 0, 0, 0, 0⟩ : Op)⟩ : Rec)).1).h).l, x5.1, (((hub_Next ((hub_Next (⟨(⟨l1, p1⟩ : History), version1, peers1⟩ : Hub) (⟨2, (n1 : Int), 1, ([] : List Int), (⟨0, 0, 0, 0, 0, 0, 0⟩ : Op)⟩ : Rec)).1) (⟨3, (n1 : Int), 0, roots1, (⟨0, 0, 0, 0, 0, 0, 0⟩ : Op)⟩ : Rec)).1).h).t, x5.2.1, ((hub_Next ((hub_Next (⟨(⟨l1, p1⟩ : History), version1, peers1⟩ : Hub) (⟨2, (n1 : Int), 1, ([] : List Int), (⟨0, 0, 0, 0, 0, 0, 0⟩ : Op)⟩ : Rec)).1) (⟨3, (n1 : Int), 0, roots1, (⟨0, 0, 0, 0, 0, 0, 0⟩ : Op)⟩ : Rec)).1).version, ((hub_Next ((hub_Next (⟨(⟨l1, p1⟩ : History), version1, peers1⟩ : Hub) (⟨2, (n1 : Int), 1, ([] : List Int), (⟨0, 0, 0, 0, 0, 0, 0⟩ : Op)⟩ : Rec)).1) (⟨3, (n1 : Int), 0, roots1, (⟨0, 0, 0, 0, 0, 0, 0⟩ : Op)⟩ : Rec)).1).peers, x5.2.2⟩, ⟨hlt0, ((hub_Check_iff _).2 (Next_ok (eq_of_bne_false (by assumption))).2.2.1), (by rw [← hf1]; (conv => lhs; rw [hlt0_]); simp only [orangerylaw_HubSees_L0, hc3, hc4, hc5, cond_true, cond_false] : (orangerylaw_HubSees h1 roots1) = (orangerylaw_HubSees_L0 roots1 (3 - (n1 + 1)) (n1 + 1) ((((hub_Next ((hub_Next (⟨(⟨l1, p1⟩ : History), version1, peers1⟩ : Hub) (⟨2, (n1 : Int), 1, ([] : List Int), (⟨0, 0, 0, 0, 0, 0, 0⟩ : Op)⟩ : Rec)).1) (⟨3, (n1 : Int), 0, roots1, (⟨0, 0, 0, 0, 0, 0, 0⟩ : Op)⟩ : Rec)).1).h).l) ((((hub_Next ((hub_Next (⟨(⟨l1, p1⟩ : History), version1, peers1⟩ : Hub) (⟨2, (n1 : Int), 1, ([] : List Int), (⟨0, 0, 0, 0, 0, 0, 0⟩ : Op)⟩ : Rec)).1) (⟨3, (n1 : Int), 0, roots1, (⟨0, 0, 0, 0, 0, 0, 0⟩ : Op)⟩ : Rec)).1).h).t) (((hub_Next ((hub_Next (⟨(⟨l1, p1⟩ : History), version1, peers1⟩ : Hub) (⟨2, (n1 : Int), 1, ([] : List Int), (⟨0, 0, 0, 0, 0, 0, 0⟩ : Op)⟩ : Rec)).1) (⟨3, (n1 : Int), 0, roots1, (⟨0, 0, 0, 0, 0, 0, 0⟩ : Op)⟩ : Rec)).1).version) (((hub_Next ((hub_Next (⟨(⟨l1, p1⟩ : History), version1, peers1⟩ : Hub) (⟨2, (n1 : Int), 1, ([] : List Int), (⟨0, 0, 0, 0, 0, 0, 0⟩ : Op)⟩ : Rec)).1) (⟨3, (n1 : Int), 0, roots1, (⟨0, 0, 0, 0, 0, 0, 0⟩ : Op)⟩ : Rec)).1).peers))).symm⟩, (by simp only []; omega), Le4⟩
      · skip
        have hc3p := ne_of_beq_false hc3
        (repeat refine cw_seq ?_); refine cw_skip ?_
        (repeat refine cw_seq ?_); refine cw_region ?_
        refine rw_q rfl rfl rfl (q_ldA rfl rfl (fun _ => rfl) rfl Mm rfl) ?_
        refine Rp rfl rfl rfl rfl ?_
        refine Rp rfl rfl rfl rfl ?_
        refine Rp rfl rfl rfl rfl ?_
        refine rw_call (hub_Next_spec x1 x2 x3 (⟨(⟨l1, p1⟩ : History), version1, peers1⟩ : Hub) y4 (⟨3, (n1 : Int), 0, roots1, (⟨0, 0, 0, 0, 0, 0, 0⟩ : Op)⟩ : Rec)) .sq (guard_none rfl) rfl rfl rfl Kr rfl rfl Sm ?_
        intro x6
        refine rw_pure (φ := ((((hub_Next (⟨(⟨l1, p1⟩ : History), version1, peers1⟩ : Hub) (⟨3, (n1 : Int), 0, roots1, (⟨0, 0, 0, 0, 0, 0, 0⟩ : Op)⟩ : Rec)).1).h).l).length * 88 ≤ 140737488355328) [RdL EStep x6.1 ((((hub_Next (⟨(⟨l1, p1⟩ : History), version1, peers1⟩ : Hub) (⟨3, (n1 : Int), 0, roots1, (⟨0, 0, 0, 0, 0, 0, 0⟩ : Op)⟩ : Rec)).1).h).l)] Sm (fun M w h => (allF1 h).len) fun hlen11 => ?_
        refine rw_pure (φ := ((((hub_Next (⟨(⟨l1, p1⟩ : History), version1, peers1⟩ : Hub) (⟨3, (n1 : Int), 0, roots1, (⟨0, 0, 0, 0, 0, 0, 0⟩ : Op)⟩ : Rec)).1).h).t).length * 24 ≤ 140737488355328) [RdL EPlace x6.2.1 ((((hub_Next (⟨(⟨l1, p1⟩ : History), version1, peers1⟩ : Hub) (⟨3, (n1 : Int), 0, roots1, (⟨0, 0, 0, 0, 0, 0, 0⟩ : Op)⟩ : Rec)).1).h).t)] Sm (fun M w h => (allF1 h).len) fun hlen12 => ?_
        refine rw_pure (φ := (((hub_Next (⟨(⟨l1, p1⟩ : History), version1, peers1⟩ : Hub) (⟨3, (n1 : Int), 0, roots1, (⟨0, 0, 0, 0, 0, 0, 0⟩ : Op)⟩ : Rec)).1).peers).length * 40 ≤ 140737488355328) [RdN NPeer x6.2.2 (((hub_Next (⟨(⟨l1, p1⟩ : History), version1, peers1⟩ : Hub) (⟨3, (n1 : Int), 0, roots1, (⟨0, 0, 0, 0, 0, 0, 0⟩ : Op)⟩ : Rec)).1).peers)] Sm (fun M w h => (allF1 h).len) fun hlen13 => ?_
        refine Rp rfl rfl rfl rfl ?_
        refine Rp rfl rfl rfl rfl ?_
        refine Rp rfl rfl rfl rfl ?_
        refine rw_alloc .sq (guard_none rfl) rfl rfl rfl rfl fun g4 => ?_
        refine rw_stA .sq (.inl ⟨_, rfl⟩) (guard_none rfl) rfl rfl rfl rfl rfl rfl rfl rfl rfl Ub rfl ?_
        refine Rp rfl rfl rfl rfl ?_
        refine rw_nil ?_
        (repeat refine cw_seq ?_); refine cw_region ?_
        refine Rp rfl rfl rfl rfl ?_
        refine Rp rfl rfl rfl rfl ?_
        refine rw_nil ?_
        (repeat refine cw_seq ?_); refine cw_cond (b := (((hub_Next (⟨(⟨l1, p1⟩ : History), version1, peers1⟩ : Hub) (⟨3, (n1 : Int), 0, roots1, (⟨0, 0, 0, 0, 0, 0, 0⟩ : Op)⟩ : Rec)).2) != 0)) rfl rfl (fun hc6 => ?_) (fun hc6 => ?_)
        · skip
          have hc6p := bne_iff_ne.1 hc6
          (repeat refine cw_seq ?_); refine cw_region ?_
          refine Rp rfl rfl rfl rfl ?_
          refine rw_nil ?_
          (repeat refine cw_seq ?_)
          have hr4 : (orangerylaw_HubSees h1 roots1) = false := by rw [← hf1]; (conv => lhs; rw [hlt0_]); simp only [orangerylaw_HubSees_L0, hc3, hc6, cond_true, cond_false]
          refine cw_ret ?_
          rw [hr4]
          exact ⟨(), _, (.cons (.tmp rfl) .nil), rfl, Sm, .nil _, .nil _⟩
        · skip
          have hc6p := eq_of_bne_false hc6
          (repeat refine cw_seq ?_); refine cw_skip ?_
          (repeat refine cw_seq ?_); refine cw_region ?_
          refine rw_q rfl rfl rfl (q_ldA rfl rfl (fun _ => rfl) rfl Mm rfl) ?_
          refine rw_stA .sq (.inl ⟨_, rfl⟩) (guard_none rfl) rfl rfl rfl rfl rfl rfl rfl rfl rfl Ub rfl ?_
          refine rw_nil ?_
          (repeat refine cw_seq ?_); refine cw_region ?_
          refine rw_q rfl rfl rfl (q_add rfl rfl (fun _ => rfl) rfl (fun _ => rfl) (fun _ => by omega)) ?_
          refine Rp rfl rfl rfl rfl ?_
          refine rw_nil ?_
          refine ⟨⟨(n1 + 1), (((hub_Next (⟨(⟨l1, p1⟩ : History), version1, peers1⟩ : Hub) (⟨3, (n1 : Int), 0, roots1, (⟨0, 0, 0, 0, 0, 0, 0⟩ : Op)⟩ : Rec)).1).h).l, x6.1, (((hub_Next (⟨(⟨l1, p1⟩ : History), version1, peers1⟩ : Hub) (⟨3, (n1 : Int), 0, roots1, (⟨0, 0, 0, 0, 0, 0, 0⟩ : Op)⟩ : Rec)).1).h).t, x6.2.1, ((hub_Next (⟨(⟨l1, p1⟩ : History), version1, peers1⟩ : Hub) (⟨3, (n1 : Int), 0, roots1, (⟨0, 0, 0, 0, 0, 0, 0⟩ : Op)⟩ : Rec)).1).version, ((hub_Next (⟨(⟨l1, p1⟩ : History), version1, peers1⟩ : Hub) (⟨3, (n1 : Int), 0, roots1, (⟨0, 0, 0, 0, 0, 0, 0⟩ : Op)⟩ : Rec)).1).peers, x6.2.2⟩, ⟨hlt0, ((hub_Check_iff _).2 (Next_ok (eq_of_bne_false (by assumption))).2.2.1), (by rw [← hf1]; (conv => lhs; rw [hlt0_]); simp only [orangerylaw_HubSees_L0, hc3, hc6, cond_true, cond_false] : (orangerylaw_HubSees h1 roots1) = (orangerylaw_HubSees_L0 roots1 (3 - (n1 + 1)) (n1 + 1) ((((hub_Next (⟨(⟨l1, p1⟩ : History), version1, peers1⟩ : Hub) (⟨3, (n1 : Int), 0, roots1, (⟨0, 0, 0, 0, 0, 0, 0⟩ : Op)⟩ : Rec)).1).h).l) ((((hub_Next (⟨(⟨l1, p1⟩ : History), version1, peers1⟩ : Hub) (⟨3, (n1 : Int), 0, roots1, (⟨0, 0, 0, 0, 0, 0, 0⟩ : Op)⟩ : Rec)).1).h).t) (((hub_Next (⟨(⟨l1, p1⟩ : History), version1, peers1⟩ : Hub) (⟨3, (n1 : Int), 0, roots1, (⟨0, 0, 0, 0, 0, 0, 0⟩ : Op)⟩ : Rec)).1).version) (((hub_Next (⟨(⟨l1, p1⟩ : History), version1, peers1⟩ : Hub) (⟨3, (n1 : Int), 0, roots1, (⟨0, 0, 0, 0, 0, 0, 0⟩ : Op)⟩ : Rec)).1).peers))).symm⟩, (by simp only []; omega), Le4⟩
    · skip
      have hge0 : 3 ≤ n1 := by have := of_decide_eq_false hc2; omega
      have hge0_ : 3 - n1 = 0 := by omega
      (repeat refine cw_seq ?_); refine cw_exit ?_
      (repeat refine cw_seq ?_); refine cw_region ?_
      refine rw_q rfl rfl rfl (q_ldA rfl rfl (fun _ => rfl) rfl Mm rfl) ?_
      refine rw_call (hub_Sees_spec x1 x2 x3 (⟨(⟨l1, p1⟩ : History), version1, peers1⟩ : Hub) 0) .sq (guard_none rfl) rfl rfl rfl Kr rfl rfl Sm ?_
      intro x7
      refine rw_pure (φ := (((hub_Sees (⟨(⟨l1, p1⟩ : History), version1, peers1⟩ : Hub) 0).1).roots).length * 8 ≤ 140737488355328) [RdL EInt x7.1 (((hub_Sees (⟨(⟨l1, p1⟩ : History), version1, peers1⟩ : Hub) 0).1).roots)] Sm (fun M w h => (allF1 h).len) fun hlen14 => ?_
      refine rw_pure (φ := (((hub_Sees (⟨(⟨l1, p1⟩ : History), version1, peers1⟩ : Hub) 0).1).known).length * 24 ≤ 140737488355328) [RdL EPlace x7.2.1 (((hub_Sees (⟨(⟨l1, p1⟩ : History), version1, peers1⟩ : Hub) 0).1).known)] Sm (fun M w h => (allF1 h).len) fun hlen15 => ?_
      refine rw_pure (φ := (((hub_Sees (⟨(⟨l1, p1⟩ : History), version1, peers1⟩ : Hub) 0).1).way).length * 24 ≤ 140737488355328) [RdL EPlace x7.2.2 (((hub_Sees (⟨(⟨l1, p1⟩ : History), version1, peers1⟩ : Hub) 0).1).way)] Sm (fun M w h => (allF1 h).len) fun hlen16 => ?_
      refine Rp rfl rfl rfl rfl ?_
      refine Rp rfl rfl rfl rfl ?_
      refine Rp rfl rfl rfl rfl ?_
      refine rw_alloc .sq (guard_none rfl) rfl rfl rfl rfl fun g5 => ?_
      refine rw_stA .sq (.inl ⟨_, rfl⟩) (guard_none rfl) rfl rfl rfl rfl rfl rfl rfl rfl rfl Ub rfl ?_
      refine Rp rfl rfl rfl rfl ?_
      refine rw_nil ?_
      (repeat refine cw_seq ?_); refine cw_region ?_
      refine rw_q rfl rfl rfl (q_ldA rfl rfl (fun _ => rfl) rfl Mm rfl) ?_
      refine rw_call (hub_Sees_spec x1 x2 x3 (⟨(⟨l1, p1⟩ : History), version1, peers1⟩ : Hub) 2) .sq (guard_none rfl) rfl rfl rfl Kr rfl rfl Sm ?_
      intro x8
      refine rw_pure (φ := (((hub_Sees (⟨(⟨l1, p1⟩ : History), version1, peers1⟩ : Hub) 2).1).roots).length * 8 ≤ 140737488355328) [RdL EInt x8.1 (((hub_Sees (⟨(⟨l1, p1⟩ : History), version1, peers1⟩ : Hub) 2).1).roots)] Sm (fun M w h => (allF1 h).len) fun hlen17 => ?_
      refine rw_pure (φ := (((hub_Sees (⟨(⟨l1, p1⟩ : History), version1, peers1⟩ : Hub) 2).1).known).length * 24 ≤ 140737488355328) [RdL EPlace x8.2.1 (((hub_Sees (⟨(⟨l1, p1⟩ : History), version1, peers1⟩ : Hub) 2).1).known)] Sm (fun M w h => (allF1 h).len) fun hlen18 => ?_
      refine rw_pure (φ := (((hub_Sees (⟨(⟨l1, p1⟩ : History), version1, peers1⟩ : Hub) 2).1).way).length * 24 ≤ 140737488355328) [RdL EPlace x8.2.2 (((hub_Sees (⟨(⟨l1, p1⟩ : History), version1, peers1⟩ : Hub) 2).1).way)] Sm (fun M w h => (allF1 h).len) fun hlen19 => ?_
      refine Rp rfl rfl rfl rfl ?_
      refine Rp rfl rfl rfl rfl ?_
      refine Rp rfl rfl rfl rfl ?_
      refine rw_alloc .sq (guard_none rfl) rfl rfl rfl rfl fun g6 => ?_
      refine rw_stA .sq (.inl ⟨_, rfl⟩) (guard_none rfl) rfl rfl rfl rfl rfl rfl rfl rfl rfl Ub rfl ?_
      refine Rp rfl rfl rfl rfl ?_
      refine rw_nil ?_
      (repeat refine cw_seq ?_); refine cw_region ?_
      refine Rp rfl rfl rfl rfl ?_
      refine Rp rfl rfl rfl rfl ?_
      refine Rp rfl rfl rfl rfl ?_
      refine rw_qg (guard_vf rfl rfl rfl) rfl rfl (q_pev rfl Bt) ?_
      refine rw_qg (guard_vf rfl rfl rfl) rfl rfl (q_pev rfl Bt) ?_
      refine rw_q rfl rfl rfl (q_pev rfl Bt) ?_
      refine Rp rfl rfl rfl rfl ?_
      refine rw_qg (guard_vf rfl rfl rfl) rfl rfl (q_ldA rfl rfl Bt rfl Mm rfl) ?_
      refine rw_qg (guard_vf rfl rfl rfl) rfl rfl (q_ldA rfl rfl Bt rfl Mm rfl) ?_
      refine rw_callg (fun hG_ => view_Same_spec x7.1 x7.2.1 x7.2.2 ((hub_Sees (⟨(⟨l1, p1⟩ : History), version1, peers1⟩ : Hub) 0).1) x8.1 x8.2.1 x8.2.2 ((hub_Sees (⟨(⟨l1, p1⟩ : History), version1, peers1⟩ : Hub) 2).1)) (fun _ => rfl) .sq (guard_vf rfl rfl rfl) rfl rfl rfl Kr rfl Bt Sm ?_
      refine rw_qg (guard_vf rfl rfl rfl) rfl rfl (q_pev rfl Bt) ?_
      refine rw_q rfl rfl rfl (q_pev rfl Bt) ?_
      refine Rp rfl rfl rfl rfl ?_
      refine rw_qg (guard_vf rfl rfl rfl) rfl rfl (q_pev rfl Bt) ?_
      refine rw_qg (guard_vf rfl rfl rfl) rfl rfl (q_pev rfl Bt) ?_
      refine rw_qg (guard_vf rfl rfl rfl) rfl rfl (q_pev rfl Bt) ?_
      refine rw_qg (guard_vf rfl rfl rfl) rfl rfl (q_pev rfl Bt) ?_
      refine rw_qg (guard_ot rfl rfl rfl) rfl rfl (q_pev rfl Bt) ?_
      refine rw_qg (guard_ot rfl rfl rfl) rfl rfl (q_ld1 rfl rfl Bt rfl Mm rfl) ?_
      refine rw_qg (guard_ot rfl rfl rfl) rfl rfl (q_pev rfl Bt) ?_
      refine rw_qg (guard_ot rfl rfl rfl) rfl rfl (q_pev rfl Bt) ?_
      refine rw_qg (guard_ot rfl rfl rfl) rfl rfl (q_ld1 rfl rfl Bt rfl Mm rfl) ?_
      refine rw_qg (guard_ot rfl rfl rfl) rfl rfl (q_pev rfl Bt) ?_
      refine rw_qg (guard_ot rfl rfl rfl) rfl rfl (q_add rfl rfl Bt rfl Bt (by intro h; first | omega | (simp at h; omega))) ?_
      refine rw_qg (guard_ot rfl rfl rfl) rfl rfl (q_pev rfl Bt) ?_
      refine rw_qg (guard_vf rfl rfl rfl) rfl rfl (q_pev rfl Bt) ?_
      refine rw_q rfl rfl rfl (q_pev rfl Bt) ?_
      refine rw_nil ?_
      (repeat refine cw_seq ?_); refine cw_cond (b := ((((((hub_Sees (⟨(⟨l1, p1⟩ : History), version1, peers1⟩ : Hub) 0).2) != 0) || (((hub_Sees (⟨(⟨l1, p1⟩ : History), version1, peers1⟩ : Hub) 2).2) != 0)) || (!(view_Same ((hub_Sees (⟨(⟨l1, p1⟩ : History), version1, peers1⟩ : Hub) 0).1) ((hub_Sees (⟨(⟨l1, p1⟩ : History), version1, peers1⟩ : Hub) 2).1)))) || (((roots1.length : Int) == 0) && decide ((((((hub_Sees (⟨(⟨l1, p1⟩ : History), version1, peers1⟩ : Hub) 0).1).known).length : Int) + ((((hub_Sees (⟨(⟨l1, p1⟩ : History), version1, peers1⟩ : Hub) 0).1).way).length : Int)) > 0)))) rfl rfl (fun hc7 => ?_) (fun hc7 => ?_)
      · skip
        (repeat refine cw_seq ?_); refine cw_region ?_
        refine Rp rfl rfl rfl rfl ?_
        refine rw_nil ?_
        (repeat refine cw_seq ?_)
        have hr5 : (orangerylaw_HubSees h1 roots1) = false := by rw [← hf1, hge0_]; simp only [orangerylaw_HubSees_L0, hc7, cond_true, cond_false]
        refine cw_ret ?_
        rw [hr5]
        exact ⟨(), _, (.cons (.tmp rfl) .nil), rfl, Sm, .nil _, .nil _⟩
      · skip
        (repeat refine cw_seq ?_); refine cw_skip ?_
        (repeat refine cw_seq ?_); refine cw_region ?_
        refine Rp rfl rfl rfl rfl ?_
        refine Rp rfl rfl rfl rfl ?_
        refine Rp rfl rfl rfl rfl ?_
        refine rw_q rfl rfl rfl (q_ld1 rfl rfl (fun _ => rfl) rfl Mm rfl) ?_
        refine Rp rfl rfl rfl rfl ?_
        refine Rp rfl rfl rfl rfl ?_
        refine rw_nil ?_
        (repeat refine cw_seq ?_); refine cw_block ?_
        refine cw_pure (φ := p1.length * 24 ≤ 140737488355328) [RdL EPlace x2 p1] Sm (fun M w h => (allF1 h).len) fun hlen20 => ?_
        (repeat refine cw_seq ?_); refine cw_loopS [1, 2, 4, 10, 108, 109] [true, true, true] (fun (n2 : Nat) => [(110, .v (.int .i64 (n2 : Int)))]) (fun (n2 : Nat) => []) (fun (n2 : Nat) => []) (fun (n2 : Nat) => []) (fun (n2 : Nat) => (n2 ≤ p1.length) ∧ (orangerylaw_HubSees_L1 roots1 l1 p1 version1 peers1 (p1.drop n2)) = (orangerylaw_HubSees h1 roots1)) (fun (n2 : Nat) => p1.length - n2) 0 (.cons rfl (.cons rfl (.cons rfl (.cons rfl (.cons rfl (.cons rfl (.nil _))))))) (.keep (.keep (.keep (.nil)))) ⟨Nat.zero_le _, (by rw [← hf1, hge0_]; simp only [orangerylaw_HubSees_L0, hc7, cond_true, cond_false] : (orangerylaw_HubSees h1 roots1) = (orangerylaw_HubSees_L1 roots1 l1 p1 version1 peers1 p1)).symm⟩ Le4 ?_
        rintro n2 ⟨hkn2, hf2⟩
        simp only [List.cons_append, List.nil_append]
        (repeat refine cw_seq ?_); refine cw_region ?_
        refine Rp rfl rfl rfl rfl ?_
        refine rw_nil ?_
        (repeat refine cw_seq ?_); refine cw_cond (b := decide ((n2 : Int) < (p1.length : Int))) rfl rfl (fun hc8 => ?_) (fun hc8 => ?_)
        · skip
          have hlt1 : n2 < p1.length := Int.ofNat_lt.1 (of_decide_eq_true hc8)
          (repeat refine cw_seq ?_); refine cw_skip ?_
          (repeat refine cw_seq ?_); refine cw_block ?_
          (repeat refine cw_seq ?_); refine cw_region ?_
          refine rw_q rfl rfl rfl (q_idx EPlace n2 rfl rfl (fun _ => rfl) rfl (fun _ => rfl) rfl rfl rfl Mm rfl (fun _ => rfl) (fun _ => by first | assumption | omega)) ?_
          refine rw_q rfl rfl rfl (q_leA EPlace rfl rfl (fun _ => rfl) rfl rfl Mm (fun _ => by first | assumption | omega)) ?_
          refine rw_alloc .sq (guard_none rfl) rfl rfl rfl rfl fun g7 => ?_
          refine rw_stA .sq (.inl ⟨_, rfl⟩) (guard_none rfl) rfl rfl rfl rfl rfl rfl rfl rfl rfl Ub rfl ?_
          refine rw_nil ?_
          (repeat refine cw_seq ?_); refine cw_region ?_
          refine Rp rfl rfl rfl rfl ?_
          refine Rp rfl rfl rfl rfl ?_
          refine rw_q rfl rfl rfl (q_ldP rfl rfl (fun _ => rfl) rfl Mm rfl) ?_
          refine Rp rfl rfl rfl rfl ?_
          refine rw_q rfl rfl rfl (q_ld1 rfl rfl (fun _ => rfl) rfl Mm rfl) ?_
          refine rw_call (tree_Under_spec x2 p1 ((gt p1 n2).node) 0) .sq (guard_none rfl) rfl rfl rfl Kr rfl rfl Sm ?_
          intro _
          refine Rp rfl rfl rfl rfl ?_
          refine Rp rfl rfl rfl rfl ?_
          refine Rp rfl rfl rfl rfl ?_
          refine Rp rfl rfl rfl rfl ?_
          refine Rp rfl rfl rfl rfl ?_
          refine rw_nil ?_
          (repeat refine cw_seq ?_); refine cw_region ?_
          refine Rp rfl rfl rfl rfl ?_
          refine Rp rfl rfl rfl rfl ?_
          refine Rp rfl rfl rfl rfl ?_
          refine rw_qg (guard_vf rfl rfl rfl) rfl rfl (q_pev rfl Bt) ?_
          refine rw_qg (guard_vf rfl rfl rfl) rfl rfl (q_pev rfl Bt) ?_
          refine rw_qg (guard_ot rfl rfl rfl) rfl rfl (q_pev rfl Bt) ?_
          refine rw_callg (fun hG_ => slices_Contains_int_spec' y4 roots1 0) (fun _ => rfl) .sq (guard_ot rfl rfl rfl) rfl rfl rfl Kr rfl Bt Sm ?_
          refine rw_qg (guard_vf rfl rfl rfl) rfl rfl (q_pev rfl Bt) ?_
          refine rw_qg (guard_vf rfl rfl rfl) rfl rfl (q_pev rfl Bt) ?_
          refine rw_qg (guard_ot rfl rfl rfl) rfl rfl (q_pev rfl Bt) ?_
          refine rw_qg (guard_ot rfl rfl rfl) rfl rfl (q_ld1 rfl rfl Bt rfl Mm rfl) ?_
          refine rw_qg (guard_ot rfl rfl rfl) rfl rfl (q_ldA rfl rfl Bt rfl Mm rfl) ?_
          refine rw_callg (fun hG_ => slices_Contains_Place_spec' x7.2.1 (((hub_Sees (⟨(⟨l1, p1⟩ : History), version1, peers1⟩ : Hub) 0).1).known) (gt p1 n2)) (fun _ => rfl) .sq (guard_ot rfl rfl rfl) rfl rfl rfl Kr rfl Bt Sm ?_
          refine rw_qg (guard_ot rfl rfl rfl) rfl rfl (q_pev rfl Bt) ?_
          refine rw_qg (guard_vf rfl rfl rfl) rfl rfl (q_pev rfl Bt) ?_
          refine rw_q rfl rfl rfl (q_pev rfl Bt) ?_
          refine rw_nil ?_
          (repeat refine cw_seq ?_); refine cw_cond (b := ((((tree_Under p1 ((gt p1 n2).node) 0).2) != 0) || (((tree_Under p1 ((gt p1 n2).node) 0).1 && (decide (0 ∈ roots1))) && (!(decide ((gt p1 n2) ∈ (((hub_Sees (⟨(⟨l1, p1⟩ : History), version1, peers1⟩ : Hub) 0).1).known))))))) rfl rfl (fun hc9 => ?_) (fun hc9 => ?_)
          · skip
            (repeat refine cw_seq ?_); refine cw_region ?_
            refine Rp rfl rfl rfl rfl ?_
            refine rw_nil ?_
            (repeat refine cw_seq ?_)
            have hr6 : (orangerylaw_HubSees h1 roots1) = false := by rw [← hf2, drop_gt hlt1]; simp only [orangerylaw_HubSees_L1, hc9, cond_true, cond_false]
            refine cw_ret ?_
            rw [hr6]
            exact ⟨(), _, (.cons (.tmp rfl) .nil), rfl, Sm, .nil _, .nil _⟩
          · skip
            (repeat refine cw_seq ?_); refine cw_skip ?_
            (repeat refine cw_seq ?_); refine cw_region ?_
            refine rw_q rfl rfl rfl (q_add rfl rfl (fun _ => rfl) rfl (fun _ => rfl) (fun _ => by omega)) ?_
            refine Rp rfl rfl rfl rfl ?_
            refine rw_nil ?_
            refine ⟨(n2 + 1), ⟨hlt1, (by rw [← hf2, drop_gt hlt1]; simp only [orangerylaw_HubSees_L1, hc9, cond_true, cond_false] : (orangerylaw_HubSees h1 roots1) = (orangerylaw_HubSees_L1 roots1 l1 p1 version1 peers1 (p1.drop (n2 + 1)))).symm⟩, (by simp only []; omega), Le4⟩
        · skip
          have hge1 : p1.length ≤ n2 := by have := of_decide_eq_false hc8; omega
          (repeat refine cw_seq ?_); refine cw_exit ?_
          (repeat refine cw_seq ?_); refine cw_region ?_
          refine Rp rfl rfl rfl rfl ?_
          refine rw_nil ?_
          (repeat refine cw_seq ?_)
          have hr7 : (orangerylaw_HubSees h1 roots1) = true := by rw [← hf2, List.drop_of_length_le hge1]; simp only [orangerylaw_HubSees_L1, cond_true, cond_false]
          refine cw_ret ?_
          rw [hr7]
          exact ⟨(), _, (.cons (.tmp rfl) .nil), rfl, Sm, .nil _, .nil _⟩
end Go.Proofs.Ytchdacbjiomplaa
