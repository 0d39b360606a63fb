/- Part of this claim. No condition. -/
import Derived.Test.YtchdacbjiomplaaW25
import Derived.Test.YtchdacbjiomplaaW11
import Derived.Test.YtchdacbjiomplaaTNest
set_option linter.unusedVariables false
set_option linter.unusedSimpArgs false
namespace Go.Proofs.Ytchdacbjiomplaa
open Go Go.Proofs.Ytchdacbjiomplaa.Fw Go.Proofs
attribute [local irreducible] RdL RdN VarP
theorem slices_Clone_PeerP_spec (x : SlV) (l : List (NPeer.G × Peer)) : DoesG Try.prog 215 [x.val l.length] [RdL NPeer.E x l] ⟨[], []⟩ (fun (X : SlV × Option Nat) => X.1.val l.length) (fun (_ : SlV × Option Nat) => []) (fun (X : SlV × Option Nat) => ⟨[], [ownL NPeer.E 144 X.1 X.2 l]⟩) := by
  refine does_ofG tab_ok Try.func215 rfl Try.ntmps215 Try.results215 rfl inferInstance (fun _ => inferInstance) fun C => ?_
  refine cw_pure (φ := l.length * NPeer.E.by_ ≤ 140737488355328) [RdL NPeer.E x l] Sm (fun M w h => (allF1 h).len) fun hlen => ?_
  (repeat refine cw_seq ?_); refine cw_region ?_
  refine Rp rfl rfl rfl rfl ?_
  refine rw_nil ?_
  (repeat refine cw_seq ?_); refine cw_region ?_
  refine Rp rfl rfl rfl rfl ?_
  refine rw_q rfl rfl rfl (q_eqnil rfl rfl (fun _ => rfl) rfl) ?_
  refine rw_nil ?_
  (repeat refine cw_seq ?_); refine cw_cond rfl rfl (fun hc0 => ?_) (fun hc0 => ?_)
  · refine cw_pure [RdL NPeer.E x l] Sm (fun M w h => (allF1 h).nil_of hc0) fun hnil => ?_
    subst hnil
    refine cw_le (le_nilL NPeer.E 144) ?_
    (repeat refine cw_seq ?_); refine cw_region ?_
    refine Rp rfl rfl rfl rfl ?_
    refine rw_nil ?_
    (repeat refine cw_seq ?_); refine cw_ret ?_
    exact ⟨(⟨none, 0⟩, none), _, (.cons (.tmp rfl) .nil), rfl, .nil _, .nil _, Sp⟩
  · (repeat refine cw_seq ?_); refine cw_skip ?_
    (repeat refine cw_seq ?_); refine cw_region ?_
    refine rw_bsliceL NPeer.E [] .sq (guard_none rfl) rfl rfl rfl rfl rfl rfl rfl rfl rfl rfl rfl rfl rfl rfl rfl fun x1 x1b => ?_
    refine Rp rfl rfl rfl rfl ?_
    refine rw_appendL NPeer.E [] l (b := x1b) .sq (fun _ _ => .inl ⟨_, rfl⟩) (guard_none rfl) rfl rfl rfl rfl rfl rfl rfl (fun _ _ => Uo) rfl rfl rfl rfl rfl rfl rfl (reads_rdL Mm) (by simpa using hlen) fun x2 x2b => ?_
    refine Rp rfl rfl rfl rfl ?_
    refine rw_nil ?_
    (repeat refine cw_seq ?_); refine cw_ret ?_
    exact ⟨(x2, x2b), _, (.cons (.tmp rfl) .nil), rfl, .nil _, .nil _, Sp⟩
theorem slices_Clone_Peer_spec (x : SlV) (γ : Nat → NPeer.G) (l : List Peer) : DoesG Try.prog 215 [x.val l.length] [RdG NPeer x γ l] ⟨[], []⟩ (fun (X : SlV × Option Nat) => X.1.val l.length) (fun (_ : SlV × Option Nat) => []) (fun (X : SlV × Option Nat) => ⟨[], [ownL NPeer.E 144 X.1 X.2 (zipG γ 0 l)]⟩) := by
  have := slices_Clone_PeerP_spec x (zipG γ 0 l)
  rw [zipG_len] at this
  exact this

def hub_Check_L0  : List Peer → Int
  | [] => 0
  | pn1 :: rn1 => (bif (((decide ((pn1.life) < 0) || decide ((pn1.life) > 50)) || decide ((pn1.seq) < 0)) || decide ((pn1.seq) > 30)) then 3 else (bif (((pn1.life) == 0) && (decide ((pn1.seq) > 0) || decide (((pn1.roots).length : Int) > 0))) then 4 else (bif ((view_Roots (pn1.roots)) != 0) then (view_Roots (pn1.roots)) else (hub_Check_L0 rn1))))
def hub_Check (h1 : Hub) : Int :=
  (bif ((history_Check h1.h) != 0) then (history_Check h1.h) else (bif (decide (h1.version < 0) || decide (h1.version > 60)) then 3 else (bif ((h1.peers.length : Int) != 3) then 4 else (hub_Check_L0 h1.peers))))
theorem hub_Check_spec (y1 : SlV) (y2 : SlV) (y3 : SlV) (h1 : Hub) : Does Try.prog 114 [.agg ⟨[y1.val h1.h.l.length, y2.val h1.h.t.length, .int .i64 h1.version, y3.val h1.peers.length]⟩] [RdL EStep y1 h1.h.l, RdL EPlace y2 h1.h.t, RdN NPeer y3 h1.peers] (fun (_ : Unit) => .int .i64 (hub_Check h1)) (fun (_ : Unit) => []) := by
  refine does_of tab_ok Try.func114 rfl Try.ntmps114 Try.results114 rfl inferInstance (fun _ => inferInstance) fun C => ?_
  refine cw_pure (φ := h1.h.l.length * 88 ≤ 140737488355328) [RdL EStep y1 h1.h.l] Sm (fun M w h => (allF1 h).len) fun hlen1 => ?_
  refine cw_pure (φ := h1.h.t.length * 24 ≤ 140737488355328) [RdL EPlace y2 h1.h.t] Sm (fun M w h => (allF1 h).len) fun hlen2 => ?_
  refine cw_pure (φ := h1.peers.length * 40 ≤ 140737488355328) [RdN NPeer y3 h1.peers] Sm (fun M w h => (allF1 h).len) fun hlen3 => ?_
  (repeat refine cw_seq ?_); refine cw_region ?_
  refine rw_box_agg .sq (guard_none rfl) rfl rfl rfl rfl rfl fun g1 => ?_
  refine Rp rfl rfl rfl rfl ?_
  refine rw_nil ?_
  (repeat refine cw_seq ?_); refine cw_region ?_
  refine Rp rfl rfl rfl rfl ?_
  refine rw_q rfl rfl rfl (q_ldP rfl rfl (fun _ => rfl) rfl Mm rfl) ?_
  refine rw_call (history_Check_spec y1 y2 h1.h) .sq (guard_none rfl) rfl rfl rfl Kr rfl rfl Sm ?_
  intro _
  refine Rp rfl rfl rfl rfl ?_
  refine rw_nil ?_
  (repeat refine cw_seq ?_); refine cw_region ?_
  refine Rp rfl rfl rfl rfl ?_
  refine Rp rfl rfl rfl rfl ?_
  refine rw_nil ?_
  (repeat refine cw_seq ?_); refine cw_cond (b := ((history_Check h1.h) != 0)) rfl rfl (fun hc1 => ?_) (fun hc1 => ?_)
  · skip
    have hc1p := bne_iff_ne.1 hc1
    (repeat refine cw_seq ?_); refine cw_region ?_
    refine Rp rfl rfl rfl rfl ?_
    refine Rp rfl rfl rfl rfl ?_
    refine rw_nil ?_
    (repeat refine cw_seq ?_)
    have hr1 : (hub_Check h1) = (history_Check h1.h) := by simp only [hub_Check, hc1, cond_true, cond_false]
    refine cw_ret ?_
    rw [hr1]
    exact ⟨(), _, (.cons (.tmp rfl) .nil), rfl, Sm, .nil _, .nil _⟩
  · skip
    have hc1p := eq_of_bne_false hc1
    (repeat refine cw_seq ?_); refine cw_skip ?_
    (repeat refine cw_seq ?_); refine cw_region ?_
    refine Rp rfl rfl rfl rfl ?_
    refine rw_q rfl rfl rfl (q_ld1 rfl rfl (fun _ => rfl) rfl Mm rfl) ?_
    refine Rp rfl rfl rfl rfl ?_
    refine Rp rfl rfl rfl rfl ?_
    refine rw_qg (guard_vf rfl rfl rfl) rfl rfl (q_pev rfl Bt) ?_
    refine rw_qg (guard_vf rfl rfl rfl) rfl rfl (q_ld1 rfl rfl Bt rfl Mm rfl) ?_
    refine rw_qg (guard_vf rfl rfl rfl) rfl rfl (q_pev rfl Bt) ?_
    refine rw_q rfl rfl rfl (q_pev rfl Bt) ?_
    refine rw_nil ?_
    (repeat refine cw_seq ?_); refine cw_cond (b := (decide (h1.version < 0) || decide (h1.version > 60))) rfl rfl (fun hc2 => ?_) (fun hc2 => ?_)
    · skip
      (repeat refine cw_seq ?_); refine cw_region ?_
      refine Rp rfl rfl rfl rfl ?_
      refine rw_nil ?_
      (repeat refine cw_seq ?_)
      have hr2 : (hub_Check h1) = 3 := by simp only [hub_Check, hc1, hc2, cond_true, cond_false]
      refine cw_ret ?_
      rw [hr2]
      exact ⟨(), _, (.cons (.tmp rfl) .nil), rfl, Sm, .nil _, .nil _⟩
    · skip
      (repeat refine cw_seq ?_); refine cw_skip ?_
      (repeat refine cw_seq ?_); refine cw_region ?_
      refine Rp rfl rfl rfl rfl ?_
      refine rw_q rfl rfl rfl (q_ld1 rfl rfl (fun _ => rfl) rfl Mm rfl) ?_
      refine Rp rfl rfl rfl rfl ?_
      refine Rp rfl rfl rfl rfl ?_
      refine rw_nil ?_
      (repeat refine cw_seq ?_); refine cw_cond (b := ((h1.peers.length : Int) != 3)) rfl rfl (fun hc3 => ?_) (fun hc3 => ?_)
      · skip
        have hc3p := bne_iff_ne.1 hc3
        (repeat refine cw_seq ?_); refine cw_region ?_
        refine Rp rfl rfl rfl rfl ?_
        refine rw_nil ?_
        (repeat refine cw_seq ?_)
        have hr3 : (hub_Check h1) = 4 := by simp only [hub_Check, hc1, hc2, hc3, cond_true, cond_false]
        refine cw_ret ?_
        rw [hr3]
        exact ⟨(), _, (.cons (.tmp rfl) .nil), rfl, Sm, .nil _, .nil _⟩
      · skip
        have hc3p := eq_of_bne_false hc3
        (repeat refine cw_seq ?_); refine cw_skip ?_
        (repeat refine cw_seq ?_); refine cw_region ?_
        refine Rp rfl rfl rfl rfl ?_
        refine rw_q rfl rfl rfl (q_ld1 rfl rfl (fun _ => rfl) rfl Mm rfl) ?_
        refine Rp rfl rfl rfl rfl ?_
        refine Rp rfl rfl rfl rfl ?_
        refine rw_nil ?_
        (repeat refine cw_seq ?_); refine cw_block ?_
        (repeat refine cw_seq ?_); refine cw_loopS [2, 26, 27] [true] (fun (n1 : Nat) => [(28, .v (.int .i64 (n1 : Int)))]) (fun (n1 : Nat) => []) (fun (n1 : Nat) => []) (fun (n1 : Nat) => []) (fun (n1 : Nat) => (n1 ≤ h1.peers.length) ∧ (hub_Check_L0 (h1.peers.drop n1)) = (hub_Check h1)) (fun (n1 : Nat) => h1.peers.length - n1) 0 (.cons rfl (.cons rfl (.cons rfl (.nil _)))) (.keep (.nil)) ⟨Nat.zero_le _, (by simp only [hub_Check, hc1, hc2, hc3, cond_true, cond_false] : (hub_Check h1) = (hub_Check_L0 h1.peers)).symm⟩ Le4 ?_
        rintro n1 ⟨hkn1, hf1⟩
        simp only [List.cons_append, List.nil_append]
        (repeat refine cw_seq ?_); refine cw_region ?_
        refine Rp rfl rfl rfl rfl ?_
        refine rw_nil ?_
        (repeat refine cw_seq ?_); refine cw_cond (b := decide ((n1 : Int) < (h1.peers.length : Int))) rfl rfl (fun hc4 => ?_) (fun hc4 => ?_)
        · skip
          have hlt0 : n1 < h1.peers.length := Int.ofNat_lt.1 (of_decide_eq_true hc4)
          (repeat refine cw_seq ?_); refine cw_skip ?_
          (repeat refine cw_seq ?_); refine cw_block ?_
          (repeat refine cw_seq ?_); refine cw_region ?_
          refine rw_exN NPeer (X := y3) (l := h1.peers) Mm fun (γ1 : Nat → SlV) => ?_
          refine rw_q rfl rfl rfl (q_idxN NPeer γ1 n1 rfl rfl (fun _ => rfl) rfl (fun _ => rfl) rfl rfl rfl Mm rfl (fun _ => rfl) (fun _ => by first | assumption | omega)) ?_
          refine rw_q rfl rfl rfl (q_is (v' := .agg ⟨[.int .i64 ((gt h1.peers n1).life), .int .i64 ((gt h1.peers n1).seq), (γ1 n1).val ((gt h1.peers n1).roots).length]⟩) (q_leAN NPeer γ1 rfl rfl (fun _ => rfl) rfl rfl Mm (fun _ => by first | assumption | omega)) rfl) ?_
          refine rw_fact (F := RdL EInt (γ1 n1) ((gt h1.peers n1).roots)) [FactsG NPeer γ1 h1.peers] Sm (fun M w h => (allF1 h) n1 (by first | assumption | omega) _ (.head _)) ?_
          refine rw_alloc .sq (guard_none rfl) rfl rfl rfl rfl fun g2 => ?_
          refine rw_stA .sq (.inl ⟨_, rfl⟩) (guard_none rfl) rfl rfl rfl rfl rfl rfl rfl rfl rfl Ub rfl ?_
          refine rw_nil ?_
          (repeat refine cw_seq ?_); refine cw_region ?_
          refine Rp rfl rfl rfl rfl ?_
          refine rw_q rfl rfl rfl (q_ld1 rfl rfl (fun _ => rfl) rfl Mm rfl) ?_
          refine Rp rfl rfl rfl rfl ?_
          refine Rp rfl rfl rfl rfl ?_
          refine rw_qg (guard_vf rfl rfl rfl) rfl rfl (q_pev rfl Bt) ?_
          refine rw_qg (guard_vf rfl rfl rfl) rfl rfl (q_ld1 rfl rfl Bt rfl Mm rfl) ?_
          refine rw_qg (guard_vf rfl rfl rfl) rfl rfl (q_pev rfl Bt) ?_
          refine rw_q rfl rfl rfl (q_pev rfl Bt) ?_
          refine Rp rfl rfl rfl rfl ?_
          refine rw_qg (guard_vf rfl rfl rfl) rfl rfl (q_pev rfl Bt) ?_
          refine rw_qg (guard_vf rfl rfl rfl) rfl rfl (q_ld1 rfl rfl Bt rfl Mm rfl) ?_
          refine rw_qg (guard_vf rfl rfl rfl) rfl rfl (q_pev rfl Bt) ?_
          refine rw_q rfl rfl rfl (q_pev rfl Bt) ?_
          refine Rp rfl rfl rfl rfl ?_
          refine rw_qg (guard_vf rfl rfl rfl) rfl rfl (q_pev rfl Bt) ?_
          refine rw_qg (guard_vf rfl rfl rfl) rfl rfl (q_ld1 rfl rfl Bt rfl Mm rfl) ?_
          refine rw_qg (guard_vf rfl rfl rfl) rfl rfl (q_pev rfl Bt) ?_
          refine rw_q rfl rfl rfl (q_pev rfl Bt) ?_
          refine rw_nil ?_
          (repeat refine cw_seq ?_); refine cw_cond (b := (((decide (((gt h1.peers n1).life) < 0) || decide (((gt h1.peers n1).life) > 50)) || decide (((gt h1.peers n1).seq) < 0)) || decide (((gt h1.peers n1).seq) > 30))) rfl rfl (fun hc5 => ?_) (fun hc5 => ?_)
          · skip
            (repeat refine cw_seq ?_); refine cw_region ?_
            refine Rp rfl rfl rfl rfl ?_
            refine rw_nil ?_
            (repeat refine cw_seq ?_)
            have hr4 : (hub_Check h1) = 3 := by rw [← hf1, drop_gt hlt0]; simp only [hub_Check_L0, hc5, cond_true, cond_false]
            refine cw_ret ?_
            rw [hr4]
            exact ⟨(), _, (.cons (.tmp rfl) .nil), rfl, Sm, .nil _, .nil _⟩
          · skip
            (repeat refine cw_seq ?_); refine cw_skip ?_
            (repeat refine cw_seq ?_); refine cw_region ?_
            refine Rp rfl rfl rfl rfl ?_
            refine rw_q rfl rfl rfl (q_ld1 rfl rfl (fun _ => rfl) rfl Mm rfl) ?_
            refine Rp rfl rfl rfl rfl ?_
            refine Rp rfl rfl rfl rfl ?_
            refine rw_qg (guard_vt rfl rfl rfl) rfl rfl (q_pev rfl Bt) ?_
            refine rw_qg (guard_vt rfl rfl rfl) rfl rfl (q_ld1 rfl rfl Bt rfl Mm rfl) ?_
            refine rw_qg (guard_vt rfl rfl rfl) rfl rfl (q_pev rfl Bt) ?_
            refine rw_qg (guard_vt rfl rfl rfl) rfl rfl (q_pev rfl Bt) ?_
            refine rw_qg (guard_of rfl rfl rfl) rfl rfl (q_pev rfl Bt) ?_
            refine rw_qg (guard_of rfl rfl rfl) rfl rfl (q_ld1 rfl rfl Bt rfl Mm rfl) ?_
            refine rw_qg (guard_of rfl rfl rfl) rfl rfl (q_pev rfl Bt) ?_
            refine rw_qg (guard_of rfl rfl rfl) rfl rfl (q_pev rfl Bt) ?_
            refine rw_qg (guard_vt rfl rfl rfl) rfl rfl (q_pev rfl Bt) ?_
            refine rw_q rfl rfl rfl (q_pev rfl Bt) ?_
            refine rw_nil ?_
            (repeat refine cw_seq ?_); refine cw_cond (b := ((((gt h1.peers n1).life) == 0) && (decide (((gt h1.peers n1).seq) > 0) || decide ((((gt h1.peers n1).roots).length : Int) > 0)))) rfl rfl (fun hc6 => ?_) (fun hc6 => ?_)
            · skip
              (repeat refine cw_seq ?_); refine cw_region ?_
              refine Rp rfl rfl rfl rfl ?_
              refine rw_nil ?_
              (repeat refine cw_seq ?_)
              have hr5 : (hub_Check h1) = 4 := by rw [← hf1, drop_gt hlt0]; simp only [hub_Check_L0, hc5, hc6, cond_true, cond_false]
              refine cw_ret ?_
              rw [hr5]
              exact ⟨(), _, (.cons (.tmp rfl) .nil), rfl, Sm, .nil _, .nil _⟩
            · skip
              (repeat refine cw_seq ?_); refine cw_skip ?_
              (repeat refine cw_seq ?_); refine cw_region ?_
              refine Rp rfl rfl rfl rfl ?_
              refine rw_q rfl rfl rfl (q_ld1 rfl rfl (fun _ => rfl) rfl Mm rfl) ?_
              refine rw_call (view_Roots_spec (γ1 n1) ((gt h1.peers n1).roots)) .sq (guard_none rfl) rfl rfl rfl Kr rfl rfl Sm ?_
              intro _
              refine Rp rfl rfl rfl rfl ?_
              refine rw_nil ?_
              (repeat refine cw_seq ?_); refine cw_region ?_
              refine Rp rfl rfl rfl rfl ?_
              refine Rp rfl rfl rfl rfl ?_
              refine rw_nil ?_
              (repeat refine cw_seq ?_); refine cw_cond (b := ((view_Roots ((gt h1.peers n1).roots)) != 0)) rfl rfl (fun hc7 => ?_) (fun hc7 => ?_)
              · skip
                have hc7p := bne_iff_ne.1 hc7
                (repeat refine cw_seq ?_); refine cw_region ?_
                refine Rp rfl rfl rfl rfl ?_
                refine Rp rfl rfl rfl rfl ?_
                refine rw_nil ?_
                (repeat refine cw_seq ?_)
                have hr6 : (hub_Check h1) = (view_Roots ((gt h1.peers n1).roots)) := by rw [← hf1, drop_gt hlt0]; simp only [hub_Check_L0, hc5, hc6, hc7, cond_true, cond_false]
                refine cw_ret ?_
                rw [hr6]
                exact ⟨(), _, (.cons (.tmp rfl) .nil), rfl, Sm, .nil _, .nil _⟩
              · skip
                have hc7p := eq_of_bne_false hc7
                (repeat refine cw_seq ?_); refine cw_skip ?_
                (repeat refine cw_seq ?_); refine cw_region ?_
                refine rw_q rfl rfl rfl (q_add rfl rfl (fun _ => rfl) rfl (fun _ => rfl) (fun _ => by omega)) ?_
                refine Rp rfl rfl rfl rfl ?_
                refine rw_nil ?_
                refine ⟨(n1 + 1), ⟨hlt0, (by rw [← hf1, drop_gt hlt0]; simp only [hub_Check_L0, hc5, hc6, hc7, cond_true, cond_false] : (hub_Check h1) = (hub_Check_L0 (h1.peers.drop (n1 + 1)))).symm⟩, (by simp only []; omega), Le4⟩
        · skip
          have hge0 : h1.peers.length ≤ n1 := by have := of_decide_eq_false hc4; omega
          (repeat refine cw_seq ?_); refine cw_exit ?_
          (repeat refine cw_seq ?_); refine cw_region ?_
          refine Rp rfl rfl rfl rfl ?_
          refine rw_nil ?_
          (repeat refine cw_seq ?_)
          have hr7 : (hub_Check h1) = 0 := by rw [← hf1, List.drop_of_length_le hge0]; simp only [hub_Check_L0, cond_true, cond_false]
          refine cw_ret ?_
          rw [hr7]
          exact ⟨(), _, (.cons (.tmp rfl) .nil), rfl, Sm, .nil _, .nil _⟩

theorem hub_Check_len {h : Hub} (hc : hub_Check h = 0) : history_Check h.h = 0 ∧ 0 ≤ h.version ∧ h.version ≤ 60 ∧ h.peers.length = 3 := by
  unfold hub_Check at hc
  cases h1 : (history_Check h.h != 0) with
  | true => rw [h1, cond_true] at hc; rw [hc] at h1; cases h1
  | false =>
  rw [h1, cond_false] at hc
  cases h2 : (decide (h.version < 0) || decide (h.version > 60)) with
  | true => rw [h2, cond_true] at hc; cases hc
  | false =>
  rw [h2, cond_false] at hc
  cases h3 : ((h.peers.length : Int) != 3) with
  | true => rw [h3, cond_true] at hc; cases hc
  | false =>
  simp only [Bool.or_eq_false_iff, decide_eq_false_iff_not] at h2
  exact ⟨eq_of_bne_false h1, by omega, by omega, by have := eq_of_bne_false h3; omega⟩

def hub_Copy_L0 (h1 : Hub) : List Peer → Nat → (List Peer) → Hub
  | [], n1, l1 => (⟨h1.h, h1.version, l1⟩ : Hub)
  | pn1 :: rn1, n1, l1 => (hub_Copy_L0 h1 rn1 (n1 + 1) (l1.set n1 (gt l1 n1)))
def hub_Copy (h1 : Hub) : Hub :=
  (hub_Copy_L0 h1 h1.peers 0 h1.peers)
theorem hub_Copy_spec (y1 : SlV) (y2 : SlV) (y3 : SlV) (h1 : Hub) : DoesG Try.prog 202 [.agg ⟨[y1.val h1.h.l.length, y2.val h1.h.t.length, .int .i64 h1.version, y3.val h1.peers.length]⟩] [RdL EStep y1 h1.h.l, RdL EPlace y2 h1.h.t, RdN NPeer y3 h1.peers] ⟨[], []⟩ (fun (X : SlV × SlV × SlV × Option Nat × (Nat → SlV)) => .agg ⟨[X.1.val (((hub_Copy h1).h).l).length, X.2.1.val (((hub_Copy h1).h).t).length, .int .i64 ((hub_Copy h1).version), X.2.2.1.val ((hub_Copy h1).peers).length]⟩) (fun (X : SlV × SlV × SlV × Option Nat × (Nat → SlV)) => [RdL EStep X.1 (((hub_Copy h1).h).l), RdL EPlace X.2.1 (((hub_Copy h1).h).t), FactsG NPeer X.2.2.2.2 ((hub_Copy h1).peers)]) (fun (X : SlV × SlV × SlV × Option Nat × (Nat → SlV)) => ⟨[], [ownL NPeer.E 144 X.2.2.1 X.2.2.2.1 (zipG X.2.2.2.2 0 ((hub_Copy h1).peers))]⟩) := by
  refine does_ofG tab_ok Try.func202 rfl Try.ntmps202 Try.results202 rfl inferInstance (fun _ => inferInstance) fun C => ?_
  refine cw_pure (φ := h1.h.l.length * 88 ≤ 140737488355328) [RdL EStep y1 h1.h.l] Sm (fun M w h => (allF1 h).len) fun hlen1 => ?_
  refine cw_pure (φ := h1.h.t.length * 24 ≤ 140737488355328) [RdL EPlace y2 h1.h.t] Sm (fun M w h => (allF1 h).len) fun hlen2 => ?_
  refine cw_pure (φ := h1.peers.length * 40 ≤ 140737488355328) [RdN NPeer y3 h1.peers] Sm (fun M w h => (allF1 h).len) fun hlen3 => ?_
  (repeat refine cw_seq ?_); refine cw_region ?_
  refine rw_box_agg .sq (guard_none rfl) rfl rfl rfl rfl rfl fun g1 => ?_
  refine rw_alloc .sq (guard_none rfl) rfl rfl rfl rfl fun g2 => ?_
  refine rw_nil ?_
  (repeat refine cw_seq ?_); refine cw_regionA (fun j => match j with | 7 => some [g1] | 9 => some [g1] | _ => some []) ?_
  refine ra_q (.ab (i := 0) (js := [3, 4]) [1, 2, 5, 6, 7, 8, 9] rfl Kr Kr Kr Kr Kr) (SplitB.all _) (by simp) rfl rfl rfl (q_pev rfl (fun _ => rfl)) ?_
  refine ra_q (.ab (i := 1) (js := [3, 4]) [2, 5, 6, 7, 8, 9] rfl Kr Kr Kr Kr Kr) (SplitB.all _) (by simp) rfl rfl rfl (q_ldP rfl rfl (fun _ => rfl) rfl Mm rfl) ?_
  refine ra_q (.ab (i := 3) (js := [2]) [4, 5, 6, 7, 8, 9] rfl Kr Kr Kr Kr Kr) (SplitB.all _) (by simp) rfl rfl rfl (q_pev rfl (fun _ => rfl)) ?_
  refine ra_q (.an (i := 4) (js := [2]) rfl Kr Kr Kr Kr) (SplitB.all _) (by simp) rfl rfl rfl (q_ld1 rfl rfl (fun _ => rfl) rfl Mm rfl) ?_
  refine ra_one 2 Kr ?_
  refine rw_callG (history_Copy_spec y1 y2 h1.h) (.an rfl rfl) (.inr (by simp [Lent.ids])) (guard_none rfl) rfl rfl rfl Kr rfl rfl Sm (.nil _) (.nil _) ?_
  intro x1
  refine rw_pure (φ := h1.h.t.length * 24 ≤ 140737488355328) [RdL EPlace x1.2.2 h1.h.t] Sm (fun M w h => (allF1 h).len) fun hlen4 => ?_
  refine ra_q (.an (i := 6) (js := [5]) rfl Kr Kr Kr Kr) (SplitB.all _) (by simp) rfl rfl rfl (q_pev rfl (fun _ => rfl)) ?_
  refine ra_one 5 Kr ?_
  refine rw_exN NPeer (X := y3) (l := h1.peers) Mm fun (γ1 : Nat → SlV) => ?_
  refine rw_callG (slices_Clone_Peer_spec y3 γ1 h1.peers) (.an rfl rfl) (.inr (by simp [Lent.ids])) (guard_none rfl) rfl rfl rfl Kr rfl rfl Sm (.nil _) (.nil _) ?_
  intro x2
  refine ra_one 7 Kr ?_
  refine rw_stP (.an rfl rfl) (.inr (by simp)) (guard_none rfl) rfl rfl rfl rfl rfl rfl rfl rfl rfl Ub rfl ?_
  refine ra_q (.an (i := 8) (js := []) rfl Kr Kr Kr Kr) (SplitB.all _) (by simp) rfl rfl rfl (q_pev rfl (fun _ => rfl)) ?_
  refine ra_one 9 Kr ?_
  refine rw_st1 (.an rfl rfl) (.inr (by simp)) (guard_none rfl) rfl rfl rfl rfl rfl rfl rfl rfl rfl Ub rfl ?_
  refine ra_nil Kr ?_
  (repeat refine cw_seq ?_); refine cw_region ?_
  refine Rp rfl rfl rfl rfl ?_
  refine rw_q rfl rfl rfl (q_ld1 rfl rfl (fun _ => rfl) rfl Mm rfl) ?_
  refine Rp rfl rfl rfl rfl ?_
  refine Rp rfl rfl rfl rfl ?_
  refine rw_nil ?_
  (repeat refine cw_seq ?_); refine cw_block ?_
  (repeat refine cw_seq ?_); refine cw_loopS [1, 2, 15] [true, false] (fun (i_ : List Peer × (Nat → SlV) × Nat) => match i_ with | ⟨l1, γ2, n1⟩ => [(14, .v (x2.1.val l1.length)), (16, .v (.int .i64 (n1 : Int)))]) (fun (i_ : List Peer × (Nat → SlV) × Nat) => match i_ with | ⟨l1, γ2, n1⟩ => [⟨g1, 131, [x1.1.val h1.h.l.length, x1.2.2.val h1.h.t.length, .int .i64 h1.version, x2.1.val l1.length]⟩]) (fun (i_ : List Peer × (Nat → SlV) × Nat) => match i_ with | ⟨l1, γ2, n1⟩ => [ownL NPeer.E 144 x2.1 x2.2 (zipG γ2 0 l1), ownL EStep 37 x1.1 x1.2.1 h1.h.l]) (fun (i_ : List Peer × (Nat → SlV) × Nat) => match i_ with | ⟨l1, γ2, n1⟩ => [FactsG NPeer γ2 l1]) (fun (i_ : List Peer × (Nat → SlV) × Nat) => match i_ with | ⟨l1, γ2, n1⟩ => (n1 ≤ h1.peers.length) ∧ (l1.length = h1.peers.length) ∧ (hub_Copy_L0 h1 (h1.peers.drop n1) n1 l1) = (hub_Copy h1)) (fun (i_ : List Peer × (Nat → SlV) × Nat) => match i_ with | ⟨l1, γ2, n1⟩ => h1.peers.length - n1) ⟨h1.peers, γ1, 0⟩ (.cons rfl (.cons rfl (.cons rfl (.nil _)))) (.keep (.drop (.nil))) ⟨Nat.zero_le _, rfl, (by simp only [hub_Copy, cond_true, cond_false] : (hub_Copy h1) = (hub_Copy_L0 h1 h1.peers 0 h1.peers)).symm⟩ Le4 ?_
  rintro ⟨l1, γ2, n1⟩ ⟨hkn1, hll, hf1⟩
  simp only [List.cons_append, List.nil_append]
  (repeat refine cw_seq ?_); refine cw_region ?_
  refine Rp rfl rfl rfl rfl ?_
  refine rw_nil ?_
  (repeat refine cw_seq ?_); refine cw_cond (b := decide ((n1 : Int) < (h1.peers.length : Int))) rfl rfl (fun hc1 => ?_) (fun hc1 => ?_)
  · skip
    have hlt0 : n1 < h1.peers.length := Int.ofNat_lt.1 (of_decide_eq_true hc1)
    (repeat refine cw_seq ?_); refine cw_skip ?_
    (repeat refine cw_seq ?_); refine cw_block ?_
    (repeat refine cw_seq ?_); refine cw_region ?_
    refine Rp rfl rfl rfl rfl ?_
    refine rw_qO NPeer.E (e := 144) (X := x2.1) (b := x2.2) (l := zipG γ2 0 l1) Mm .sq rfl rfl rfl (q_idxN NPeer γ2 n1 rfl rfl (fun _ => rfl) rfl (fun _ => rfl) rfl rfl rfl (.head _) rfl (fun _ => rfl) (fun _ => by first | assumption | omega | (simp only [List.length_set]; omega))) ?_
    refine rw_qO NPeer.E (e := 144) (X := x2.1) (b := x2.2) (l := zipG γ2 0 l1) Mm .sq rfl rfl rfl (q_is (v' := .agg ⟨[.int .i64 ((gt l1 n1).life), .int .i64 ((gt l1 n1).seq), (γ2 n1).val ((gt l1 n1).roots).length]⟩) (q_leAN NPeer γ2 rfl rfl (fun _ => rfl) rfl rfl (.head _) (fun _ => by first | assumption | omega | (simp only [List.length_set]; omega))) rfl) ?_
    refine rw_fact (F := RdL EInt (γ2 n1) ((gt l1 n1).roots)) [FactsG NPeer γ2 l1] Sm (fun M w h => (allF1 h) n1 (by first | assumption | omega) _ (.head _)) ?_
    refine rw_alloc .sq (guard_none rfl) rfl rfl rfl rfl fun g3 => ?_
    refine Rp rfl rfl rfl rfl ?_
    refine rw_stA .sq (.inl ⟨_, rfl⟩) (guard_none rfl) rfl rfl rfl rfl rfl rfl rfl rfl rfl Ub rfl ?_
    refine rw_nil ?_
    (repeat refine cw_seq ?_); refine cw_regionA (fun j => match j with | 8 => some x2.2.toList | _ => some []) ?_
    refine ra_q (.an (i := 0) (js := [2, 3, 4, 5]) rfl Kr Kr Kr Kr) (SplitB.all _) (by simp) rfl rfl rfl (q_pev rfl (fun _ => rfl)) ?_
    refine ra_q (.an (i := 1) (js := [2, 3, 4, 5]) rfl Kr Kr Kr Kr) (SplitB.all _) (by simp) rfl rfl rfl (q_ld1 rfl rfl (fun _ => rfl) rfl Mm rfl) ?_
    refine ra_q (.an (i := 2) (js := [3, 4, 5]) rfl Kr Kr Kr Kr) (SplitB.all _) (by simp) rfl rfl rfl (q_pev rfl (fun _ => rfl)) ?_
    refine ra_q (.ab (i := 3) (js := []) [4, 5, 6, 7, 8] rfl Kr Kr Kr Kr Kr) (SplitB.all _) (by simp) rfl rfl rfl (q_pev rfl (fun _ => rfl)) ?_
    refine ra_q (.an (i := 4) (js := []) rfl Kr Kr Kr Kr) (SplitB.all _) (by simp) rfl rfl rfl (q_ld1 rfl rfl (fun _ => rfl) rfl Mm rfl) ?_
    refine ra_one 5 Kr ?_
    refine rw_callG (slices_Clone_Int_spec (γ2 n1) ((gt l1 n1).roots)) (.an rfl rfl) (.inr (by simp [Lent.ids])) (guard_none rfl) rfl rfl rfl Kr rfl rfl Sm (.nil _) (.nil _) ?_
    intro x5
    refine rw_qO NPeer.E (e := 144) (X := x2.1) (b := x2.2) (l := zipG γ2 0 l1) Mm (.ab (i := 6) (js := []) [7, 8] rfl Kr Kr Kr Kr Kr) rfl rfl rfl (q_idxN NPeer γ2 n1 rfl rfl (fun _ => rfl) rfl (fun _ => rfl) rfl rfl rfl (.head _) rfl (fun _ => rfl) (fun _ => by first | assumption | omega | (simp only [List.length_set]; omega))) ?_
    refine ra_q (.an (i := 7) (js := []) rfl Kr Kr Kr Kr) (SplitB.all _) (by simp) rfl rfl rfl (q_fae rfl rfl (fun _ => rfl) rfl rfl) ?_
    refine ra_one 8 Kr ?_
    refine rw_le (le_freezeL EInt 3 x5.1 x5.2 ((gt l1 n1).roots) Uo) ?_
    refine rw_stON NPeer γ2 l1 n1 2 x5.1 (gt l1 n1) (e := 144) (X := x2.1) (b := x2.2) (.an rfl rfl) (.inr (fun g h => by simp [h])) (guard_none rfl) rfl rfl rfl rfl rfl rfl rfl rfl rfl rfl rfl (by first | assumption | omega | (simp only [List.length_set]; omega)) rfl Uo ?_
    refine rw_fact (F := FactsG NPeer (updG γ2 n1 x5.1) (l1.set n1 (gt l1 n1))) [FactsG NPeer γ2 l1, RdL EInt x5.1 ((gt l1 n1).roots)] Sm (fun M w h => FactsG.upd NPeer (h _ (.head _)) (allF_sub Sm h)) ?_
    have hv1 : x2.1.val l1.length = x2.1.val (l1.set n1 (gt l1 n1)).length := congrArg (SlV.val x2.1) List.length_set.symm
    try rw [hv1]
    refine ra_nil Kr ?_
    (repeat refine cw_seq ?_); refine cw_region ?_
    refine rw_q rfl rfl rfl (q_add rfl rfl (fun _ => rfl) rfl (fun _ => rfl) (fun _ => by omega)) ?_
    refine Rp rfl rfl rfl rfl ?_
    refine rw_nil ?_
    refine ⟨⟨(l1.set n1 (gt l1 n1)), (updG γ2 n1 x5.1), (n1 + 1)⟩, ⟨hlt0, (by (try simp only [List.length_set]); omega), (by rw [← hf1, drop_gt hlt0]; simp only [hub_Copy_L0, cond_true, cond_false] : (hub_Copy h1) = (hub_Copy_L0 h1 (h1.peers.drop (n1 + 1)) (n1 + 1) (l1.set n1 (gt l1 n1)))).symm⟩, (by simp only []; omega), Le4⟩
  · skip
    have hge0 : h1.peers.length ≤ n1 := by have := of_decide_eq_false hc1; omega
    (repeat refine cw_seq ?_); refine cw_exit ?_
    (repeat refine cw_seq ?_); refine cw_region ?_
    refine rw_q rfl rfl rfl (q_ldA rfl rfl (fun _ => rfl) rfl Mm rfl) ?_
    refine rw_stA .sq (.inl ⟨_, rfl⟩) (guard_none rfl) rfl rfl rfl rfl rfl rfl rfl rfl rfl Ub rfl ?_
    refine rw_nil ?_
    (repeat refine cw_seq ?_)
    refine cw_le (le_freezeL EStep 37 x1.1 x1.2.1 h1.h.l Uo) ?_
    have hr1 : (hub_Copy h1) = (⟨h1.h, h1.version, l1⟩ : Hub) := by rw [← hf1, List.drop_of_length_le hge0]; simp only [hub_Copy_L0, cond_true, cond_false]
    refine cw_ret ?_
    rw [hr1]
    exact ⟨⟨x1.1, x1.2.2, x2.1, x2.2, γ2⟩, _, (.cons (.agg rfl rfl Mm rfl) .nil), rfl, Sm, .nil _, Sp⟩
theorem hub_Copy_L0_eq (h : Hub) : ∀ (r : List Peer) (n : Nat) (l : List Peer), hub_Copy_L0 h r n l = ⟨h.h, h.version, l⟩
  | [], _, _ => rfl
  | _ :: r, n, l => by
    have : l.set n (gt l n) = l := by
      by_cases h : n < l.length
      · rw [gt_eq h]; exact List.set_getElem_self h
      · exact List.set_eq_of_length_le (Nat.le_of_not_lt h)
    rw [hub_Copy_L0, this]; exact hub_Copy_L0_eq h r (n + 1) l
theorem hub_Copy_eq (h : Hub) : hub_Copy h = h := hub_Copy_L0_eq h _ 0 h.peers
theorem hub_Copy_spec' (y1 : SlV) (y2 : SlV) (y3 : SlV) (h1 : Hub) : DoesG Try.prog 202 [.agg ⟨[y1.val h1.h.l.length, y2.val h1.h.t.length, .int .i64 h1.version, y3.val h1.peers.length]⟩] [RdL EStep y1 h1.h.l, RdL EPlace y2 h1.h.t, RdN NPeer y3 h1.peers] ⟨[], []⟩ (fun (X : SlV × SlV × SlV × Option Nat × (Nat → SlV)) => .agg ⟨[X.1.val ((h1.h).l).length, X.2.1.val ((h1.h).t).length, .int .i64 (h1.version), X.2.2.1.val (h1.peers).length]⟩) (fun (X : SlV × SlV × SlV × Option Nat × (Nat → SlV)) => [RdL EStep X.1 ((h1.h).l), RdL EPlace X.2.1 ((h1.h).t), FactsG NPeer X.2.2.2.2 (h1.peers)]) (fun (X : SlV × SlV × SlV × Option Nat × (Nat → SlV)) => ⟨[], [ownL NPeer.E 144 X.2.2.1 X.2.2.2.1 (zipG X.2.2.2.2 0 (h1.peers))]⟩) := by
  have := hub_Copy_spec y1 y2 y3 h1
  rw [hub_Copy_eq] at this
  exact this

def note_Check (r1 : Rec) : Int :=
  (bif (decide (r1.kind < 1) || decide (r1.kind > 3)) then 4 else (bif (r1.kind == 1) then (bif (((r1.who != 0) || (r1.life != 0)) || decide ((r1.roots.length : Int) > 0)) then 4 else (move_Check r1.o)) else (bif (((!(decide (r1.o = (⟨0, 0, 0, 0, 0, 0, 0⟩ : Op)))) || ((r1.kind == 3) && (r1.life != 0))) || ((r1.kind == 2) && decide ((r1.roots.length : Int) > 0))) then 4 else (bif ((decide (r1.who < 0) || decide (r1.who ≥ 3)) || ((r1.kind == 2) && (decide (r1.life < 1) || decide (r1.life > 50)))) then 3 else (view_Roots r1.roots)))))
theorem note_Check_spec (y1 : SlV) (r1 : Rec) : Does Try.prog 201 [.agg ⟨[.int .i64 r1.kind, .int .i64 r1.who, .int .i64 r1.life, y1.val r1.roots.length, .int .i64 r1.o.time, .int .i64 r1.o.who, .int .i64 r1.o.node, .int .i64 r1.o.parent, .int .i64 r1.o.name, .int .i64 r1.o.life, .int .i64 r1.o.seq]⟩] [RdL EInt y1 r1.roots] (fun (_ : Unit) => .int .i64 (note_Check r1)) (fun (_ : Unit) => []) := by
  refine does_of tab_ok Try.func201 rfl Try.ntmps201 Try.results201 rfl inferInstance (fun _ => inferInstance) fun C => ?_
  refine cw_pure (φ := r1.roots.length * 8 ≤ 140737488355328) [RdL EInt y1 r1.roots] Sm (fun M w h => (allF1 h).len) fun hlen1 => ?_
  (repeat refine cw_seq ?_); refine cw_region ?_
  refine rw_box_agg .sq (guard_none rfl) rfl rfl rfl rfl rfl fun g1 => ?_
  refine Rp rfl rfl rfl rfl ?_
  refine rw_nil ?_
  (repeat refine cw_seq ?_); refine cw_region ?_
  refine Rp rfl rfl rfl rfl ?_
  refine rw_q rfl rfl rfl (q_ld1 rfl rfl (fun _ => rfl) rfl Mm rfl) ?_
  refine Rp rfl rfl rfl rfl ?_
  refine Rp rfl rfl rfl rfl ?_
  refine rw_qg (guard_vf rfl rfl rfl) rfl rfl (q_pev rfl Bt) ?_
  refine rw_qg (guard_vf rfl rfl rfl) rfl rfl (q_ld1 rfl rfl Bt rfl Mm rfl) ?_
  refine rw_qg (guard_vf rfl rfl rfl) rfl rfl (q_pev rfl Bt) ?_
  refine rw_q rfl rfl rfl (q_pev rfl Bt) ?_
  refine rw_nil ?_
  (repeat refine cw_seq ?_); refine cw_cond (b := (decide (r1.kind < 1) || decide (r1.kind > 3))) rfl rfl (fun hc1 => ?_) (fun hc1 => ?_)
  · skip
    (repeat refine cw_seq ?_); refine cw_region ?_
    refine Rp rfl rfl rfl rfl ?_
    refine rw_nil ?_
    (repeat refine cw_seq ?_)
    have hr1 : (note_Check r1) = 4 := by simp only [note_Check, hc1, cond_true, cond_false]
    refine cw_ret ?_
    rw [hr1]
    exact ⟨(), _, (.cons (.tmp rfl) .nil), rfl, Sm, .nil _, .nil _⟩
  · skip
    (repeat refine cw_seq ?_); refine cw_skip ?_
    (repeat refine cw_seq ?_); refine cw_region ?_
    refine Rp rfl rfl rfl rfl ?_
    refine rw_q rfl rfl rfl (q_ld1 rfl rfl (fun _ => rfl) rfl Mm rfl) ?_
    refine Rp rfl rfl rfl rfl ?_
    refine rw_nil ?_
    (repeat refine cw_seq ?_); refine cw_cond (b := (r1.kind == 1)) rfl rfl (fun hc2 => ?_) (fun hc2 => ?_)
    · skip
      have hc2p := eq_of_beq hc2
      (repeat refine cw_seq ?_); refine cw_region ?_
      refine Rp rfl rfl rfl rfl ?_
      refine rw_q rfl rfl rfl (q_ld1 rfl rfl (fun _ => rfl) rfl Mm rfl) ?_
      refine Rp rfl rfl rfl rfl ?_
      refine Rp rfl rfl rfl rfl ?_
      refine rw_qg (guard_vf rfl rfl rfl) rfl rfl (q_pev rfl Bt) ?_
      refine rw_qg (guard_vf rfl rfl rfl) rfl rfl (q_ld1 rfl rfl Bt rfl Mm rfl) ?_
      refine rw_qg (guard_vf rfl rfl rfl) rfl rfl (q_pev rfl Bt) ?_
      refine rw_q rfl rfl rfl (q_pev rfl Bt) ?_
      refine Rp rfl rfl rfl rfl ?_
      refine rw_qg (guard_vf rfl rfl rfl) rfl rfl (q_pev rfl Bt) ?_
      refine rw_qg (guard_vf rfl rfl rfl) rfl rfl (q_ld1 rfl rfl Bt rfl Mm rfl) ?_
      refine rw_qg (guard_vf rfl rfl rfl) rfl rfl (q_pev rfl Bt) ?_
      refine rw_qg (guard_vf rfl rfl rfl) rfl rfl (q_pev rfl Bt) ?_
      refine rw_q rfl rfl rfl (q_pev rfl Bt) ?_
      refine rw_nil ?_
      (repeat refine cw_seq ?_); refine cw_cond (b := (((r1.who != 0) || (r1.life != 0)) || decide ((r1.roots.length : Int) > 0))) rfl rfl (fun hc3 => ?_) (fun hc3 => ?_)
      · skip
        (repeat refine cw_seq ?_); refine cw_region ?_
        refine Rp rfl rfl rfl rfl ?_
        refine rw_nil ?_
        (repeat refine cw_seq ?_)
        have hr2 : (note_Check r1) = 4 := by simp only [note_Check, hc1, hc2, hc3, cond_true, cond_false]
        refine cw_ret ?_
        rw [hr2]
        exact ⟨(), _, (.cons (.tmp rfl) .nil), rfl, Sm, .nil _, .nil _⟩
      · skip
        (repeat refine cw_seq ?_); refine cw_skip ?_
        (repeat refine cw_seq ?_); refine cw_region ?_
        refine Rp rfl rfl rfl rfl ?_
        refine rw_q rfl rfl rfl (q_ldP rfl rfl (fun _ => rfl) rfl Mm rfl) ?_
        refine rw_call (move_Check_spec r1.o) .sq (guard_none rfl) rfl rfl rfl Kr rfl rfl Sm ?_
        intro _
        refine Rp rfl rfl rfl rfl ?_
        refine rw_nil ?_
        (repeat refine cw_seq ?_)
        have hr3 : (note_Check r1) = (move_Check r1.o) := by simp only [note_Check, hc1, hc2, hc3, cond_true, cond_false]
        refine cw_ret ?_
        rw [hr3]
        exact ⟨(), _, (.cons (.tmp rfl) .nil), rfl, Sm, .nil _, .nil _⟩
    · skip
      have hc2p := ne_of_beq_false hc2
      (repeat refine cw_seq ?_); refine cw_skip ?_
      (repeat refine cw_seq ?_); refine cw_region ?_
      refine Rp rfl rfl rfl rfl ?_
      refine rw_q rfl rfl rfl (q_ldP rfl rfl (fun _ => rfl) rfl Mm rfl) ?_
      refine Rp rfl rfl rfl rfl ?_
      refine rw_q rfl rfl rfl (q_neE eqT_Op (flatEq_Op r1.o (⟨0, 0, 0, 0, 0, 0, 0⟩ : Op)) rfl rfl (fun _ => rfl) rfl (fun _ => rfl) rfl rfl) ?_
      refine Rp rfl rfl rfl rfl ?_
      refine rw_qg (guard_vf rfl rfl rfl) rfl rfl (q_pev rfl Bt) ?_
      refine rw_qg (guard_vf rfl rfl rfl) rfl rfl (q_ld1 rfl rfl Bt rfl Mm rfl) ?_
      refine rw_qg (guard_vf rfl rfl rfl) rfl rfl (q_pev rfl Bt) ?_
      refine rw_qg (guard_vf rfl rfl rfl) rfl rfl (q_pev rfl Bt) ?_
      refine rw_qg (guard_ot rfl rfl rfl) rfl rfl (q_pev rfl Bt) ?_
      refine rw_qg (guard_ot rfl rfl rfl) rfl rfl (q_ld1 rfl rfl Bt rfl Mm rfl) ?_
      refine rw_qg (guard_ot rfl rfl rfl) rfl rfl (q_pev rfl Bt) ?_
      refine rw_qg (guard_vf rfl rfl rfl) rfl rfl (q_pev rfl Bt) ?_
      refine rw_q rfl rfl rfl (q_pev rfl Bt) ?_
      refine Rp rfl rfl rfl rfl ?_
      refine rw_qg (guard_vf rfl rfl rfl) rfl rfl (q_pev rfl Bt) ?_
      refine rw_qg (guard_vf rfl rfl rfl) rfl rfl (q_ld1 rfl rfl Bt rfl Mm rfl) ?_
      refine rw_qg (guard_vf rfl rfl rfl) rfl rfl (q_pev rfl Bt) ?_
      refine rw_qg (guard_vf rfl rfl rfl) rfl rfl (q_pev rfl Bt) ?_
      refine rw_qg (guard_ot rfl rfl rfl) rfl rfl (q_pev rfl Bt) ?_
      refine rw_qg (guard_ot rfl rfl rfl) rfl rfl (q_ld1 rfl rfl Bt rfl Mm rfl) ?_
      refine rw_qg (guard_ot rfl rfl rfl) rfl rfl (q_pev rfl Bt) ?_
      refine rw_qg (guard_ot rfl rfl rfl) rfl rfl (q_pev rfl Bt) ?_
      refine rw_qg (guard_vf rfl rfl rfl) rfl rfl (q_pev rfl Bt) ?_
      refine rw_q rfl rfl rfl (q_pev rfl Bt) ?_
      refine rw_nil ?_
      (repeat refine cw_seq ?_); refine cw_cond (b := (((!(decide (r1.o = (⟨0, 0, 0, 0, 0, 0, 0⟩ : Op)))) || ((r1.kind == 3) && (r1.life != 0))) || ((r1.kind == 2) && decide ((r1.roots.length : Int) > 0)))) rfl rfl (fun hc4 => ?_) (fun hc4 => ?_)
      · skip
        (repeat refine cw_seq ?_); refine cw_region ?_
        refine Rp rfl rfl rfl rfl ?_
        refine rw_nil ?_
        (repeat refine cw_seq ?_)
        have hr4 : (note_Check r1) = 4 := by simp only [note_Check, hc1, hc2, hc4, cond_true, cond_false]
        refine cw_ret ?_
        rw [hr4]
        exact ⟨(), _, (.cons (.tmp rfl) .nil), rfl, Sm, .nil _, .nil _⟩
      · skip
        (repeat refine cw_seq ?_); refine cw_skip ?_
        (repeat refine cw_seq ?_); refine cw_region ?_
        refine Rp rfl rfl rfl rfl ?_
        refine rw_q rfl rfl rfl (q_ld1 rfl rfl (fun _ => rfl) rfl Mm rfl) ?_
        refine Rp rfl rfl rfl rfl ?_
        refine Rp rfl rfl rfl rfl ?_
        refine rw_qg (guard_vf rfl rfl rfl) rfl rfl (q_pev rfl Bt) ?_
        refine rw_qg (guard_vf rfl rfl rfl) rfl rfl (q_ld1 rfl rfl Bt rfl Mm rfl) ?_
        refine rw_qg (guard_vf rfl rfl rfl) rfl rfl (q_pev rfl Bt) ?_
        refine rw_q rfl rfl rfl (q_pev rfl Bt) ?_
        refine Rp rfl rfl rfl rfl ?_
        refine rw_qg (guard_vf rfl rfl rfl) rfl rfl (q_pev rfl Bt) ?_
        refine rw_qg (guard_vf rfl rfl rfl) rfl rfl (q_ld1 rfl rfl Bt rfl Mm rfl) ?_
        refine rw_qg (guard_vf rfl rfl rfl) rfl rfl (q_pev rfl Bt) ?_
        refine rw_qg (guard_vf rfl rfl rfl) rfl rfl (q_pev rfl Bt) ?_
        refine rw_qg (guard_ot rfl rfl rfl) rfl rfl (q_pev rfl Bt) ?_
        refine rw_qg (guard_ot rfl rfl rfl) rfl rfl (q_ld1 rfl rfl Bt rfl Mm rfl) ?_
        refine rw_qg (guard_ot rfl rfl rfl) rfl rfl (q_pev rfl Bt) ?_
        refine rw_qg (guard_ot rfl rfl rfl) rfl rfl (q_pev rfl Bt) ?_
        refine rw_qg (guard_of rfl rfl rfl) rfl rfl (q_pev rfl Bt) ?_
        refine rw_qg (guard_of rfl rfl rfl) rfl rfl (q_ld1 rfl rfl Bt rfl Mm rfl) ?_
        refine rw_qg (guard_of rfl rfl rfl) rfl rfl (q_pev rfl Bt) ?_
        refine rw_qg (guard_ot rfl rfl rfl) rfl rfl (q_pev rfl Bt) ?_
        refine rw_qg (guard_vf rfl rfl rfl) rfl rfl (q_pev rfl Bt) ?_
        refine rw_q rfl rfl rfl (q_pev rfl Bt) ?_
        refine rw_nil ?_
        (repeat refine cw_seq ?_); refine cw_cond (b := ((decide (r1.who < 0) || decide (r1.who ≥ 3)) || ((r1.kind == 2) && (decide (r1.life < 1) || decide (r1.life > 50))))) rfl rfl (fun hc5 => ?_) (fun hc5 => ?_)
        · skip
          (repeat refine cw_seq ?_); refine cw_region ?_
          refine Rp rfl rfl rfl rfl ?_
          refine rw_nil ?_
          (repeat refine cw_seq ?_)
          have hr5 : (note_Check r1) = 3 := by simp only [note_Check, hc1, hc2, hc4, hc5, cond_true, cond_false]
          refine cw_ret ?_
          rw [hr5]
          exact ⟨(), _, (.cons (.tmp rfl) .nil), rfl, Sm, .nil _, .nil _⟩
        · skip
          (repeat refine cw_seq ?_); refine cw_skip ?_
          (repeat refine cw_seq ?_); refine cw_region ?_
          refine Rp rfl rfl rfl rfl ?_
          refine rw_q rfl rfl rfl (q_ld1 rfl rfl (fun _ => rfl) rfl Mm rfl) ?_
          refine rw_call (view_Roots_spec y1 r1.roots) .sq (guard_none rfl) rfl rfl rfl Kr rfl rfl Sm ?_
          intro _
          refine Rp rfl rfl rfl rfl ?_
          refine rw_nil ?_
          (repeat refine cw_seq ?_)
          have hr6 : (note_Check r1) = (view_Roots r1.roots) := by simp only [note_Check, hc1, hc2, hc4, hc5, cond_true, cond_false]
          refine cw_ret ?_
          rw [hr6]
          exact ⟨(), _, (.cons (.tmp rfl) .nil), rfl, Sm, .nil _, .nil _⟩

def hub_Same_1 (x1 : Peer) (y1 : Peer) : Bool :=
  (((x1.life == y1.life) && (x1.seq == y1.seq)) && (decide (x1.roots = y1.roots)))
theorem hub_Same_1_spec (y2 : SlV) (x1 : Peer) (y3 : SlV) (y1 : Peer) : Does Try.prog 179 [.agg ⟨[.int .i64 x1.life, .int .i64 x1.seq, y2.val x1.roots.length]⟩, .agg ⟨[.int .i64 y1.life, .int .i64 y1.seq, y3.val y1.roots.length]⟩] [RdL EInt y2 x1.roots, RdL EInt y3 y1.roots] (fun (_ : Unit) => .bool (hub_Same_1 x1 y1)) (fun (_ : Unit) => []) := by
  refine does_of tab_ok Try.func179 rfl Try.ntmps179 Try.results179 rfl inferInstance (fun _ => inferInstance) fun C => ?_
  refine cw_pure (φ := x1.roots.length * 8 ≤ 140737488355328) [RdL EInt y2 x1.roots] Sm (fun M w h => (allF1 h).len) fun hlen1 => ?_
  refine cw_pure (φ := y1.roots.length * 8 ≤ 140737488355328) [RdL EInt y3 y1.roots] Sm (fun M w h => (allF1 h).len) fun hlen2 => ?_
  (repeat refine cw_seq ?_); refine cw_region ?_
  refine rw_box_agg .sq (guard_none rfl) rfl rfl rfl rfl rfl fun g1 => ?_
  refine rw_box_agg .sq (guard_none rfl) rfl rfl rfl rfl rfl fun g2 => ?_
  refine Rp rfl rfl rfl rfl ?_
  refine rw_nil ?_
  (repeat refine cw_seq ?_); refine cw_region ?_
  refine Rp rfl rfl rfl rfl ?_
  refine rw_q rfl rfl rfl (q_ld1 rfl rfl (fun _ => rfl) rfl Mm rfl) ?_
  refine Rp rfl rfl rfl rfl ?_
  refine rw_q rfl rfl rfl (q_ld1 rfl rfl (fun _ => rfl) rfl Mm rfl) ?_
  refine Rp rfl rfl rfl rfl ?_
  refine Rp rfl rfl rfl rfl ?_
  refine rw_qg (guard_vt rfl rfl rfl) rfl rfl (q_pev rfl Bt) ?_
  refine rw_qg (guard_vt rfl rfl rfl) rfl rfl (q_ld1 rfl rfl Bt rfl Mm rfl) ?_
  refine rw_qg (guard_vt rfl rfl rfl) rfl rfl (q_pev rfl Bt) ?_
  refine rw_qg (guard_vt rfl rfl rfl) rfl rfl (q_ld1 rfl rfl Bt rfl Mm rfl) ?_
  refine rw_qg (guard_vt rfl rfl rfl) rfl rfl (q_pev rfl Bt) ?_
  refine rw_q rfl rfl rfl (q_pev rfl Bt) ?_
  refine Rp rfl rfl rfl rfl ?_
  refine rw_qg (guard_vt rfl rfl rfl) rfl rfl (q_pev rfl Bt) ?_
  refine rw_qg (guard_vt rfl rfl rfl) rfl rfl (q_ld1 rfl rfl Bt rfl Mm rfl) ?_
  refine rw_qg (guard_vt rfl rfl rfl) rfl rfl (q_pev rfl Bt) ?_
  refine rw_qg (guard_vt rfl rfl rfl) rfl rfl (q_ld1 rfl rfl Bt rfl Mm rfl) ?_
  refine rw_callg (fun hG_ => (fun y1 a y2 b => slices_Equal_Int_spec' y1 y2 a b) y2 x1.roots y3 y1.roots) (fun _ => rfl) .sq (guard_vt rfl rfl rfl) rfl rfl rfl Kr rfl Bt Sm ?_
  refine rw_q rfl rfl rfl (q_pev rfl Bt) ?_
  refine Rp rfl rfl rfl rfl ?_
  refine rw_nil ?_
  (repeat refine cw_seq ?_)
  have hr1 : (hub_Same_1 x1 y1) = (((x1.life == y1.life) && (x1.seq == y1.seq)) && (decide (x1.roots = y1.roots))) := by simp only [hub_Same_1, cond_true, cond_false]
  refine cw_ret ?_
  rw [hr1]
  exact ⟨(), _, (.cons (.tmp rfl) .nil), rfl, Sm, .nil _, .nil _⟩

def slices_EqualFunc_Peer_L0 (s2 : List Peer) (eq1 : Peer → Peer → Bool) : List Peer → Nat → Bool
  | [], n1 => true
  | pn1 :: rn1, n1 => (bif (!(eq1 pn1 (gt s2 n1))) then false else (slices_EqualFunc_Peer_L0 s2 eq1 rn1 (n1 + 1)))
def slices_EqualFunc_Peer (s1 : List Peer) (s2 : List Peer) (eq1 : Peer → Peer → Bool) : Bool :=
  (bif ((s1.length : Int) != (s2.length : Int)) then false else (slices_EqualFunc_Peer_L0 s2 eq1 s1 0))
theorem slices_EqualFunc_Peer_spec (y1 : SlV) (s1 : List Peer) (y2 : SlV) (s2 : List Peer) (f1 : Nat) (caps1 : List Value) (pre1 : List Pred) [StabL pre1] (eq1 : Peer → Peer → Bool) (hfb1 : tab.fnb f1 = true) (hfn1 : ∀ (z0a_ : SlV) (a0_ : Peer) (z1a_ : SlV) (a1_ : Peer), Does Try.prog f1 ([.agg ⟨[.int .i64 a0_.life, .int .i64 a0_.seq, z0a_.val a0_.roots.length]⟩, .agg ⟨[.int .i64 a1_.life, .int .i64 a1_.seq, z1a_.val a1_.roots.length]⟩] ++ caps1) (RdL EInt z0a_ a0_.roots :: RdL EInt z1a_ a1_.roots :: pre1) (fun (_ : Unit) => .bool (eq1 a0_ a1_)) (fun (_ : Unit) => [])) : Does Try.prog 178 [y1.val s1.length, y2.val s2.length, .func (.func f1) #[] ⟨caps1⟩] (RdN NPeer y1 s1 :: RdN NPeer y2 s2 :: pre1) (fun (_ : Unit) => .bool (slices_EqualFunc_Peer s1 s2 eq1)) (fun (_ : Unit) => []) := by
  refine does_of tab_ok Try.func178 rfl Try.ntmps178 Try.results178 rfl inferInstance (fun _ => inferInstance) fun C => ?_
  refine cw_pure (φ := s1.length * 40 ≤ 140737488355328) [RdN NPeer y1 s1] Sf (fun M w h => (allF1 h).len) fun hlen1 => ?_
  refine cw_pure (φ := s2.length * 40 ≤ 140737488355328) [RdN NPeer y2 s2] Sf (fun M w h => (allF1 h).len) fun hlen2 => ?_
  (repeat refine cw_seq ?_); refine cw_region ?_
  refine Rp rfl rfl rfl rfl ?_
  refine rw_nil ?_
  (repeat refine cw_seq ?_); refine cw_region ?_
  refine Rp rfl rfl rfl rfl ?_
  refine Rp rfl rfl rfl rfl ?_
  refine Rp rfl rfl rfl rfl ?_
  refine Rp rfl rfl rfl rfl ?_
  refine Rp rfl rfl rfl rfl ?_
  refine rw_nil ?_
  (repeat refine cw_seq ?_); refine cw_cond (b := ((s1.length : Int) != (s2.length : Int))) rfl rfl (fun hc1 => ?_) (fun hc1 => ?_)
  · skip
    have hc1p := bne_iff_ne.1 hc1
    (repeat refine cw_seq ?_); refine cw_region ?_
    refine Rp rfl rfl rfl rfl ?_
    refine rw_nil ?_
    (repeat refine cw_seq ?_)
    have hr1 : (slices_EqualFunc_Peer s1 s2 eq1) = false := by simp only [slices_EqualFunc_Peer, hc1, cond_true, cond_false]
    refine cw_ret ?_
    rw [hr1]
    exact ⟨(), _, (.cons (.tmp rfl) .nil), rfl, Sf, .nil _, .nil _⟩
  · skip
    have hc1p := eq_of_bne_false hc1
    (repeat refine cw_seq ?_); refine cw_skip ?_
    (repeat refine cw_seq ?_); refine cw_region ?_
    refine Rp rfl rfl rfl rfl ?_
    refine Rp rfl rfl rfl rfl ?_
    refine Rp rfl rfl rfl rfl ?_
    refine rw_nil ?_
    (repeat refine cw_seq ?_); refine cw_block ?_
    (repeat refine cw_seq ?_); refine cw_loopS [1, 2, 6, 15, 16] [] (fun (n1 : Nat) => [(17, .v (.int .i64 (n1 : Int)))]) (fun (n1 : Nat) => []) (fun (n1 : Nat) => []) (fun (n1 : Nat) => []) (fun (n1 : Nat) => (n1 ≤ s1.length) ∧ (slices_EqualFunc_Peer_L0 s2 eq1 (s1.drop n1) n1) = (slices_EqualFunc_Peer s1 s2 eq1)) (fun (n1 : Nat) => s1.length - n1) 0 (.cons rfl (.cons rfl (.cons rfl (.cons rfl (.cons rfl (.nil _)))))) (.nil) ⟨Nat.zero_le _, (by simp only [slices_EqualFunc_Peer, hc1, cond_true, cond_false] : (slices_EqualFunc_Peer s1 s2 eq1) = (slices_EqualFunc_Peer_L0 s2 eq1 s1 0)).symm⟩ Le5 ?_
    rintro n1 ⟨hkn1, hf1⟩
    simp only [List.cons_append, List.nil_append]
    (repeat refine cw_seq ?_); refine cw_region ?_
    refine Rp rfl rfl rfl rfl ?_
    refine rw_nil ?_
    (repeat refine cw_seq ?_); refine cw_cond (b := decide ((n1 : Int) < (s1.length : Int))) rfl rfl (fun hc2 => ?_) (fun hc2 => ?_)
    · skip
      have hlt0 : n1 < s1.length := Int.ofNat_lt.1 (of_decide_eq_true hc2)
      (repeat refine cw_seq ?_); refine cw_skip ?_
      (repeat refine cw_seq ?_); refine cw_block ?_
      (repeat refine cw_seq ?_); refine cw_region ?_
      refine Rp rfl rfl rfl rfl ?_
      refine rw_exN NPeer (X := y1) (l := s1) Mm fun (γ1 : Nat → SlV) => ?_
      refine rw_q rfl rfl rfl (q_idxN NPeer γ1 n1 rfl rfl (fun _ => rfl) rfl (fun _ => rfl) rfl rfl rfl Mm rfl (fun _ => rfl) (fun _ => by first | assumption | omega)) ?_
      refine rw_q rfl rfl rfl (q_is (v' := .agg ⟨[.int .i64 ((gt s1 n1).life), .int .i64 ((gt s1 n1).seq), (γ1 n1).val ((gt s1 n1).roots).length]⟩) (q_leAN NPeer γ1 rfl rfl (fun _ => rfl) rfl rfl Mm (fun _ => by first | assumption | omega)) rfl) ?_
      refine rw_fact (F := RdL EInt (γ1 n1) ((gt s1 n1).roots)) [FactsG NPeer γ1 s1] Sf (fun M w h => (allF1 h) n1 (by first | assumption | omega) _ (.head _)) ?_
      refine rw_alloc .sq (guard_none rfl) rfl rfl rfl rfl fun g1 => ?_
      refine Rp rfl rfl rfl rfl ?_
      refine rw_stA .sq (.inl ⟨_, rfl⟩) (guard_none rfl) rfl rfl rfl rfl rfl rfl rfl rfl rfl Ub rfl ?_
      refine rw_nil ?_
      (repeat refine cw_seq ?_); refine cw_region ?_
      refine Rp rfl rfl rfl rfl ?_
      refine Rp rfl rfl rfl rfl ?_
      refine rw_exN NPeer (X := y2) (l := s2) Mm fun (γ2 : Nat → SlV) => ?_
      refine rw_q rfl rfl rfl (q_idxN NPeer γ2 n1 rfl rfl (fun _ => rfl) rfl (fun _ => rfl) rfl rfl rfl Mm rfl (fun _ => rfl) (fun _ => by first | assumption | omega)) ?_
      refine rw_q rfl rfl rfl (q_is (v' := .agg ⟨[.int .i64 ((gt s2 n1).life), .int .i64 ((gt s2 n1).seq), (γ2 n1).val ((gt s2 n1).roots).length]⟩) (q_leAN NPeer γ2 rfl rfl (fun _ => rfl) rfl rfl Mm (fun _ => by first | assumption | omega)) rfl) ?_
      refine rw_fact (F := RdL EInt (γ2 n1) ((gt s2 n1).roots)) [FactsG NPeer γ2 s2] Sf (fun M w h => (allF1 h) n1 (by first | assumption | omega) _ (.head _)) ?_
      refine rw_alloc .sq (guard_none rfl) rfl rfl rfl rfl fun g2 => ?_
      refine rw_stA .sq (.inl ⟨_, rfl⟩) (guard_none rfl) rfl rfl rfl rfl rfl rfl rfl rfl rfl Ub rfl ?_
      refine rw_nil ?_
      (repeat refine cw_seq ?_); refine cw_region ?_
      refine Rp rfl rfl rfl rfl ?_
      refine rw_q rfl rfl rfl (q_ldA rfl rfl (fun _ => rfl) rfl Mm rfl) ?_
      refine rw_q rfl rfl rfl (q_ldA rfl rfl (fun _ => rfl) rfl Mm rfl) ?_
      refine rw_callv (hfn1 (γ1 n1) (gt s1 n1) (γ2 n1) (gt s2 n1)) .sq (guard_none rfl) rfl rfl rfl rfl rfl (by assumption) rfl rfl rfl Sf ?_
      intro _
      refine Rp rfl rfl rfl rfl ?_
      refine rw_nil ?_
      (repeat refine cw_seq ?_); refine cw_cond (b := (!(eq1 (gt s1 n1) (gt s2 n1)))) rfl rfl (fun hc3 => ?_) (fun hc3 => ?_)
      · skip
        (repeat refine cw_seq ?_); refine cw_region ?_
        refine Rp rfl rfl rfl rfl ?_
        refine rw_nil ?_
        (repeat refine cw_seq ?_)
        have hr2 : (slices_EqualFunc_Peer s1 s2 eq1) = false := by rw [← hf1, drop_gt hlt0]; simp only [slices_EqualFunc_Peer_L0, hc3, cond_true, cond_false]
        refine cw_ret ?_
        rw [hr2]
        exact ⟨(), _, (.cons (.tmp rfl) .nil), rfl, Sf, .nil _, .nil _⟩
      · skip
        (repeat refine cw_seq ?_); refine cw_skip ?_
        (repeat refine cw_seq ?_); refine cw_region ?_
        refine rw_q rfl rfl rfl (q_add rfl rfl (fun _ => rfl) rfl (fun _ => rfl) (fun _ => by omega)) ?_
        refine Rp rfl rfl rfl rfl ?_
        refine rw_nil ?_
        refine ⟨(n1 + 1), ⟨hlt0, (by rw [← hf1, drop_gt hlt0]; simp only [slices_EqualFunc_Peer_L0, hc3, cond_true, cond_false] : (slices_EqualFunc_Peer s1 s2 eq1) = (slices_EqualFunc_Peer_L0 s2 eq1 (s1.drop (n1 + 1)) (n1 + 1))).symm⟩, (by simp only []; omega), Le5⟩
    · skip
      have hge0 : s1.length ≤ n1 := by have := of_decide_eq_false hc2; omega
      (repeat refine cw_seq ?_); refine cw_exit ?_
      (repeat refine cw_seq ?_); refine cw_region ?_
      refine Rp rfl rfl rfl rfl ?_
      refine rw_nil ?_
      (repeat refine cw_seq ?_)
      have hr3 : (slices_EqualFunc_Peer s1 s2 eq1) = true := by rw [← hf1, List.drop_of_length_le hge0]; simp only [slices_EqualFunc_Peer_L0, cond_true, cond_false]
      refine cw_ret ?_
      rw [hr3]
      exact ⟨(), _, (.cons (.tmp rfl) .nil), rfl, Sf, .nil _, .nil _⟩

def hub_Same (a1 : Hub) (b1 : Hub) : Bool :=
  (((history_Same a1.h b1.h) && (a1.version == b1.version)) && (slices_EqualFunc_Peer a1.peers b1.peers hub_Same_1))
theorem hub_Same_spec (y1 : SlV) (y2 : SlV) (y3 : SlV) (a1 : Hub) (y4 : SlV) (y5 : SlV) (y6 : SlV) (b1 : Hub) : Does Try.prog 115 [.agg ⟨[y1.val a1.h.l.length, y2.val a1.h.t.length, .int .i64 a1.version, y3.val a1.peers.length]⟩, .agg ⟨[y4.val b1.h.l.length, y5.val b1.h.t.length, .int .i64 b1.version, y6.val b1.peers.length]⟩] [RdL EStep y1 a1.h.l, RdL EPlace y2 a1.h.t, RdN NPeer y3 a1.peers, RdL EStep y4 b1.h.l, RdL EPlace y5 b1.h.t, RdN NPeer y6 b1.peers] (fun (_ : Unit) => .bool (hub_Same a1 b1)) (fun (_ : Unit) => []) := by
  refine does_of tab_ok Try.func115 rfl Try.ntmps115 Try.results115 rfl inferInstance (fun _ => inferInstance) fun C => ?_
  refine cw_pure (φ := a1.h.l.length * 88 ≤ 140737488355328) [RdL EStep y1 a1.h.l] Sm (fun M w h => (allF1 h).len) fun hlen1 => ?_
  refine cw_pure (φ := a1.h.t.length * 24 ≤ 140737488355328) [RdL EPlace y2 a1.h.t] Sm (fun M w h => (allF1 h).len) fun hlen2 => ?_
  refine cw_pure (φ := a1.peers.length * 40 ≤ 140737488355328) [RdN NPeer y3 a1.peers] Sm (fun M w h => (allF1 h).len) fun hlen3 => ?_
  refine cw_pure (φ := b1.h.l.length * 88 ≤ 140737488355328) [RdL EStep y4 b1.h.l] Sm (fun M w h => (allF1 h).len) fun hlen4 => ?_
  refine cw_pure (φ := b1.h.t.length * 24 ≤ 140737488355328) [RdL EPlace y5 b1.h.t] Sm (fun M w h => (allF1 h).len) fun hlen5 => ?_
  refine cw_pure (φ := b1.peers.length * 40 ≤ 140737488355328) [RdN NPeer y6 b1.peers] Sm (fun M w h => (allF1 h).len) fun hlen6 => ?_
  (repeat refine cw_seq ?_); refine cw_region ?_
  refine rw_box_agg .sq (guard_none rfl) rfl rfl rfl rfl rfl fun g1 => ?_
  refine rw_box_agg .sq (guard_none rfl) rfl rfl rfl rfl rfl fun g2 => ?_
  refine Rp rfl rfl rfl rfl ?_
  refine rw_nil ?_
  (repeat refine cw_seq ?_); refine cw_region ?_
  refine Rp rfl rfl rfl rfl ?_
  refine rw_q rfl rfl rfl (q_ldP rfl rfl (fun _ => rfl) rfl Mm rfl) ?_
  refine Rp rfl rfl rfl rfl ?_
  refine rw_q rfl rfl rfl (q_ldP rfl rfl (fun _ => rfl) rfl Mm rfl) ?_
  refine rw_call (history_Same_spec y1 y2 a1.h y4 y5 b1.h) .sq (guard_none rfl) rfl rfl rfl Kr rfl rfl Sm ?_
  intro _
  refine Rp rfl rfl rfl rfl ?_
  refine rw_qg (guard_vt rfl rfl rfl) rfl rfl (q_pev rfl Bt) ?_
  refine rw_qg (guard_vt rfl rfl rfl) rfl rfl (q_ld1 rfl rfl Bt rfl Mm rfl) ?_
  refine rw_qg (guard_vt rfl rfl rfl) rfl rfl (q_pev rfl Bt) ?_
  refine rw_qg (guard_vt rfl rfl rfl) rfl rfl (q_ld1 rfl rfl Bt rfl Mm rfl) ?_
  refine rw_qg (guard_vt rfl rfl rfl) rfl rfl (q_pev rfl Bt) ?_
  refine rw_q rfl rfl rfl (q_pev rfl Bt) ?_
  refine Rp rfl rfl rfl rfl ?_
  refine rw_qg (guard_vt rfl rfl rfl) rfl rfl (q_pev rfl Bt) ?_
  refine rw_qg (guard_vt rfl rfl rfl) rfl rfl (q_ld1 rfl rfl Bt rfl Mm rfl) ?_
  refine rw_qg (guard_vt rfl rfl rfl) rfl rfl (q_pev rfl Bt) ?_
  refine rw_qg (guard_vt rfl rfl rfl) rfl rfl (q_ld1 rfl rfl Bt rfl Mm rfl) ?_
  refine rw_callg (fun hG_ => slices_EqualFunc_Peer_spec y3 a1.peers y6 b1.peers _ _ _ hub_Same_1 Kr (fun z0a_ a0_ z1a_ a1_ => hub_Same_1_spec z0a_ a0_ z1a_ a1_)) (fun _ => rfl) .sq (guard_vt rfl rfl rfl) rfl rfl rfl Kr rfl Bt Sm ?_
  refine rw_q rfl rfl rfl (q_pev rfl Bt) ?_
  refine Rp rfl rfl rfl rfl ?_
  refine rw_nil ?_
  (repeat refine cw_seq ?_)
  have hr1 : (hub_Same a1 b1) = (((history_Same a1.h b1.h) && (a1.version == b1.version)) && (slices_EqualFunc_Peer a1.peers b1.peers hub_Same_1)) := by simp only [hub_Same, cond_true, cond_false]
  refine cw_ret ?_
  rw [hr1]
  exact ⟨(), _, (.cons (.tmp rfl) .nil), rfl, Sm, .nil _, .nil _⟩

def hub_Sees (h1 : Hub) (who1 : Int) : View × Int :=
  (bif ((hub_Check h1) != 0) then ((⟨([] : List Int), ([] : List Place), ([] : List Place)⟩ : View), (hub_Check h1)) else (bif (decide (who1 < 0) || decide (who1 ≥ 3)) then ((⟨([] : List Int), ([] : List Place), ([] : List Place)⟩ : View), 5) else (((view_Of h1.h.t ((gt h1.peers who1.toNat).roots)).1), (view_Of h1.h.t ((gt h1.peers who1.toNat).roots)).2)))
theorem hub_Sees_spec (y1 : SlV) (y2 : SlV) (y3 : SlV) (h1 : Hub) (who1 : Int) : Does Try.prog 111 [.agg ⟨[y1.val h1.h.l.length, y2.val h1.h.t.length, .int .i64 h1.version, y3.val h1.peers.length]⟩, .int .i64 who1] [RdL EStep y1 h1.h.l, RdL EPlace y2 h1.h.t, RdN NPeer y3 h1.peers] (fun (X : SlV × SlV × SlV) => .tuple #[.agg ⟨[X.1.val (((hub_Sees h1 who1).1).roots).length, X.2.1.val (((hub_Sees h1 who1).1).known).length, X.2.2.val (((hub_Sees h1 who1).1).way).length]⟩, .int .i64 ((hub_Sees h1 who1).2)]) (fun (X : SlV × SlV × SlV) => [RdL EInt X.1 (((hub_Sees h1 who1).1).roots), RdL EPlace X.2.1 (((hub_Sees h1 who1).1).known), RdL EPlace X.2.2 (((hub_Sees h1 who1).1).way)]) := by
  refine does_of tab_ok Try.func111 rfl Try.ntmps111 Try.results111 rfl inferInstance (fun _ => inferInstance) fun C => ?_
  refine cw_pure (φ := h1.h.l.length * 88 ≤ 140737488355328) [RdL EStep y1 h1.h.l] Sm (fun M w h => (allF1 h).len) fun hlen1 => ?_
  refine cw_pure (φ := h1.h.t.length * 24 ≤ 140737488355328) [RdL EPlace y2 h1.h.t] Sm (fun M w h => (allF1 h).len) fun hlen2 => ?_
  refine cw_pure (φ := h1.peers.length * 40 ≤ 140737488355328) [RdN NPeer y3 h1.peers] Sm (fun M w h => (allF1 h).len) fun hlen3 => ?_
  (repeat refine cw_seq ?_); refine cw_region ?_
  refine rw_box_agg .sq (guard_none rfl) rfl rfl rfl rfl rfl fun g1 => ?_
  refine rw_alloc .sq (guard_none rfl) rfl rfl rfl rfl fun g2 => ?_
  refine Rp rfl rfl rfl rfl ?_
  refine rw_nil ?_
  (repeat refine cw_seq ?_); refine cw_region ?_
  refine rw_q rfl rfl rfl (q_ldA rfl rfl (fun _ => rfl) rfl Mm rfl) ?_
  refine rw_call (hub_Check_spec y1 y2 y3 h1) .sq (guard_none rfl) rfl rfl rfl Kr rfl rfl Sm ?_
  intro _
  refine Rp rfl rfl rfl rfl ?_
  refine rw_nil ?_
  (repeat refine cw_seq ?_); refine cw_region ?_
  refine Rp rfl rfl rfl rfl ?_
  refine Rp rfl rfl rfl rfl ?_
  refine rw_nil ?_
  (repeat refine cw_seq ?_); refine cw_cond (b := ((hub_Check h1) != 0)) rfl rfl (fun hc1 => ?_) (fun hc1 => ?_)
  · skip
    have hc1p := bne_iff_ne.1 hc1
    (repeat refine cw_seq ?_); refine cw_region ?_
    refine Rp rfl rfl rfl rfl ?_
    refine Rp rfl rfl rfl rfl ?_
    refine rw_stA .sq (.inl ⟨_, rfl⟩) (guard_none rfl) rfl rfl rfl rfl rfl rfl rfl rfl rfl Ub rfl ?_
    refine Rp rfl rfl rfl rfl ?_
    refine rw_nil ?_
    (repeat refine cw_seq ?_)
    refine cw_fact (F := RdL EInt ⟨none, 0⟩ ([] : List Int)) [] (.nil _) (fun M w _ => RdL.nil _ _ _ (by omega) M w) ?_
    refine cw_fact (F := RdL EPlace ⟨none, 0⟩ ([] : List Place)) [] (.nil _) (fun M w _ => RdL.nil _ _ _ (by omega) M w) ?_
    have hr1 : (hub_Sees h1 who1) = ((⟨([] : List Int), ([] : List Place), ([] : List Place)⟩ : View), (hub_Check h1)) := by simp only [hub_Sees, hc1, cond_true, cond_false]
    refine cw_ret ?_
    rw [hr1]
    exact ⟨⟨(⟨none, 0⟩ : SlV), (⟨none, 0⟩ : SlV), (⟨none, 0⟩ : SlV)⟩, _, (.cons (.agg rfl rfl Mm rfl) (.cons (.tmp rfl) .nil)), rfl, Sm, .nil _, .nil _⟩
  · skip
    have hc1p := eq_of_bne_false hc1
    have hpl := hub_Check_len (eq_of_bne_false hc1)
    (repeat refine cw_seq ?_); refine cw_skip ?_
    (repeat refine cw_seq ?_); refine cw_region ?_
    refine Rp rfl rfl rfl rfl ?_
    refine Rp rfl rfl rfl rfl ?_
    refine Rp rfl rfl rfl rfl ?_
    refine rw_qg (guard_vf rfl rfl rfl) rfl rfl (q_pev rfl Bt) ?_
    refine rw_qg (guard_vf rfl rfl rfl) rfl rfl (q_pev rfl Bt) ?_
    refine rw_q rfl rfl rfl (q_pev rfl Bt) ?_
    refine rw_nil ?_
    (repeat refine cw_seq ?_); refine cw_cond (b := (decide (who1 < 0) || decide (who1 ≥ 3))) rfl rfl (fun hc2 => ?_) (fun hc2 => ?_)
    · skip
      (repeat refine cw_seq ?_); refine cw_region ?_
      refine Rp rfl rfl rfl rfl ?_
      refine rw_stA .sq (.inl ⟨_, rfl⟩) (guard_none rfl) rfl rfl rfl rfl rfl rfl rfl rfl rfl Ub rfl ?_
      refine Rp rfl rfl rfl rfl ?_
      refine rw_nil ?_
      (repeat refine cw_seq ?_)
      refine cw_fact (F := RdL EInt ⟨none, 0⟩ ([] : List Int)) [] (.nil _) (fun M w _ => RdL.nil _ _ _ (by omega) M w) ?_
      refine cw_fact (F := RdL EPlace ⟨none, 0⟩ ([] : List Place)) [] (.nil _) (fun M w _ => RdL.nil _ _ _ (by omega) M w) ?_
      have hr2 : (hub_Sees h1 who1) = ((⟨([] : List Int), ([] : List Place), ([] : List Place)⟩ : View), 5) := by simp only [hub_Sees, hc1, hc2, cond_true, cond_false]
      refine cw_ret ?_
      rw [hr2]
      exact ⟨⟨(⟨none, 0⟩ : SlV), (⟨none, 0⟩ : SlV), (⟨none, 0⟩ : SlV)⟩, _, (.cons (.agg rfl rfl Mm rfl) (.cons (.tmp rfl) .nil)), rfl, Sm, .nil _, .nil _⟩
    · skip
      have hwr := hc2
      simp only [Bool.or_eq_false_iff, decide_eq_false_iff_not] at hwr
      (repeat refine cw_seq ?_); refine cw_skip ?_
      (repeat refine cw_seq ?_); refine cw_regionA (fun j => match j with | 12 => some [g2] | _ => some []) ?_
      refine ra_q (.ab (i := 0) (js := [3, 4, 5, 6, 7, 8]) [1, 2, 9, 10, 11, 12, 13] rfl Kr Kr Kr Kr Kr) (SplitB.all _) (by simp) rfl rfl rfl (q_pev rfl (fun _ => rfl)) ?_
      refine ra_q (.ab (i := 1) (js := [3, 4, 5, 6, 7, 8]) [2, 9, 10, 11, 12, 13] rfl Kr Kr Kr Kr Kr) (SplitB.all _) (by simp) rfl rfl rfl (q_pev rfl (fun _ => rfl)) ?_
      refine ra_q (.ab (i := 2) (js := [3, 4, 5, 6, 7, 8]) [9, 10, 11, 12, 13] rfl Kr Kr Kr Kr Kr) (SplitB.all _) (by simp) rfl rfl rfl (q_ldP rfl rfl (fun _ => rfl) rfl Mm rfl) ?_
      refine ra_q (.ab (i := 3) (js := [5]) [4, 6, 7, 8, 9, 10, 11, 12, 13] rfl Kr Kr Kr Kr Kr) (SplitB.all _) (by simp) rfl rfl rfl (q_pev rfl (fun _ => rfl)) ?_
      refine ra_q (.ab (i := 4) (js := [5]) [6, 7, 8, 9, 10, 11, 12, 13] rfl Kr Kr Kr Kr Kr) (SplitB.all _) (by simp) rfl rfl rfl (q_ld1 rfl rfl (fun _ => rfl) rfl Mm rfl) ?_
      refine ra_q (.ab (i := 5) (js := []) [6, 7, 8, 9, 10, 11, 12, 13] rfl Kr Kr Kr Kr Kr) (SplitB.all _) (by simp) rfl rfl rfl (q_pev rfl (fun _ => rfl)) ?_
      refine rw_exN NPeer (X := y3) (l := h1.peers) Mm fun (γ1 : Nat → SlV) => ?_
      refine ra_q (.ab (i := 6) (js := []) [7, 8, 9, 10, 11, 12, 13] rfl Kr Kr Kr Kr Kr) (SplitB.all _) (by simp) rfl rfl rfl (q_idxN NPeer γ1 who1.toNat rfl rfl (fun _ => rfl) rfl (fun _ => rfl) rfl rfl rfl Mm rfl (fun _ => by omega) (fun _ => by first | assumption | omega)) ?_
      refine ra_q (.ab (i := 7) (js := []) [8, 9, 10, 11, 12, 13] rfl Kr Kr Kr Kr Kr) (SplitB.all _) (by simp) rfl rfl rfl (q_fae rfl rfl (fun _ => rfl) rfl rfl) ?_
      refine ra_q (.ab (i := 8) (js := []) [9, 10, 11, 12, 13] rfl Kr Kr Kr Kr Kr) (SplitB.all _) (by simp) rfl rfl rfl (q_le1N NPeer γ1 (v := (γ1 who1.toNat).val ((gt h1.peers who1.toNat).roots).length) rfl rfl (fun _ => rfl) rfl rfl Mm (fun _ => by first | assumption | omega) rfl) ?_
      refine rw_fact (F := RdL EInt (γ1 who1.toNat) ((gt h1.peers who1.toNat).roots)) [FactsG NPeer γ1 h1.peers] Sm (fun M w h => (allF1 h) who1.toNat (by first | assumption | omega) _ (.head _)) ?_
      refine ra_one 9 Kr ?_
      refine rw_call (view_Of_spec y2 h1.h.t (γ1 who1.toNat) ((gt h1.peers who1.toNat).roots)) (.an rfl rfl) (guard_none rfl) rfl rfl rfl Kr rfl rfl Sm ?_
      intro x1
      refine rw_pure (φ := (((view_Of h1.h.t ((gt h1.peers who1.toNat).roots)).1).roots).length * 8 ≤ 140737488355328) [RdL EInt x1.1 (((view_Of h1.h.t ((gt h1.peers who1.toNat).roots)).1).roots)] Sm (fun M w h => (allF1 h).len) fun hlen4 => ?_
      refine rw_pure (φ := (((view_Of h1.h.t ((gt h1.peers who1.toNat).roots)).1).known).length * 24 ≤ 140737488355328) [RdL EPlace x1.2.1 (((view_Of h1.h.t ((gt h1.peers who1.toNat).roots)).1).known)] Sm (fun M w h => (allF1 h).len) fun hlen5 => ?_
      refine rw_pure (φ := (((view_Of h1.h.t ((gt h1.peers who1.toNat).roots)).1).way).length * 24 ≤ 140737488355328) [RdL EPlace x1.2.2 (((view_Of h1.h.t ((gt h1.peers who1.toNat).roots)).1).way)] Sm (fun M w h => (allF1 h).len) fun hlen6 => ?_
      refine ra_q (.an (i := 10) (js := [11]) rfl Kr Kr Kr Kr) (SplitB.all _) (by simp) rfl rfl rfl (q_pev rfl (fun _ => rfl)) ?_
      refine ra_q (.an (i := 11) (js := []) rfl Kr Kr Kr Kr) (SplitB.all _) (by simp) rfl rfl rfl (q_pev rfl (fun _ => rfl)) ?_
      refine ra_one 12 Kr ?_
      refine rw_stA (.an rfl rfl) (.inr (by simp)) (guard_none rfl) rfl rfl rfl rfl rfl rfl rfl rfl rfl Ub rfl ?_
      refine ra_q (.an (i := 13) (js := []) rfl Kr Kr Kr Kr) (SplitB.all _) (by simp) rfl rfl rfl (q_pev rfl (fun _ => rfl)) ?_
      refine ra_nil Kr ?_
      (repeat refine cw_seq ?_)
      have hr3 : (hub_Sees h1 who1) = (((view_Of h1.h.t ((gt h1.peers who1.toNat).roots)).1), (view_Of h1.h.t ((gt h1.peers who1.toNat).roots)).2) := by simp only [hub_Sees, hc1, hc2, cond_true, cond_false]
      refine cw_ret ?_
      rw [hr3]
      exact ⟨⟨x1.1, x1.2.1, x1.2.2⟩, _, (.cons (.agg rfl rfl Mm rfl) (.cons (.tmp rfl) .nil)), rfl, Sm, .nil _, .nil _⟩
end Go.Proofs.Ytchdacbjiomplaa
