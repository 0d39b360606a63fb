/- Part of this claim. No condition. -/
import Derived.Test.YtchdacbjiomplaaWH
import Derived.Test.YtchdacbjiomplaaWV
import Derived.Test.YtchdacbjiomplaaTT
import Derived.Test.YtchdacbjiomplaaFx
import Derived.Test.YtchdacbjiomplaaLM
set_option linter.unusedVariables false
set_option linter.unusedSimpArgs false
set_option maxHeartbeats 2000000
namespace Go.Proofs.Ytchdacbjiomplaa
open Go Go.Proofs.Ytchdacbjiomplaa.Fw Go.Proofs
attribute [local irreducible] RdL RdN VarP RW CW
theorem slices_Clone_PeerP_spec (x : SlV) (l : List (NPeer.G × Peer)) : DoesG Try.prog 215 [x.val l.length] [RdL NPeer.E x l] ⟨[], []⟩ (fun (X : SlV × Option Nat) => X.1.val l.length) (fun (_ : SlV × Option Nat) => []) (fun (X : SlV × Option Nat) => ⟨[], [ownL NPeer.E 144 X.1 X.2 l]⟩) := by
  refine does_ofG tab_ok Try.func215 rfl Try.ntmps215 Try.results215 rfl inferInstance (fun _ => inferInstance) fun C => ?_
  refine cw_pure (φ := l.length * NPeer.E.by_ ≤ 140737488355328) [RdL NPeer.E x l] Sm (fun M w h => (allF1 h).len) fun hlen => ?_
  refine Tx ?_
  refine rw_q rfl rfl rfl (q_eqnil rfl rfl (fun _ => rfl) rfl) ?_
  refine rw_nil ?_
  (repeat refine cw_seq ?_); refine cw_cond rfl rfl (fun hc0 => ?_) (fun hc0 => ?_)
  · refine cw_pure [RdL NPeer.E x l] Sm (fun M w h => (allF1 h).nil_of hc0) fun hnil => ?_
    subst hnil
    refine cw_le (le_nilL NPeer.E 144) ?_
    refine Tx ?_
    (repeat refine cw_seq ?_); refine cw_ret ?_
    exact ⟨(⟨none, 0⟩, none), _, (.cons (.tmp rfl) .nil), rfl, .nil _, .nil _, Sp⟩
  · refine Tx ?_
    refine rw_bsliceL NPeer.E [] .sq (guard_none rfl) rfl rfl rfl rfl rfl rfl rfl rfl rfl rfl rfl rfl rfl rfl rfl fun x1 x1b => ?_
    refine Rp rfl rfl rfl rfl ?_
    refine rw_appendL NPeer.E [] l (b := x1b) .sq (fun _ _ => .inl ⟨_, rfl⟩) (guard_none rfl) rfl rfl rfl rfl rfl rfl rfl (fun _ _ => Uo) rfl rfl rfl rfl rfl rfl rfl (reads_rdL Mm) (by simpa using hlen) fun x2 x2b => ?_
    refine Tx ?_
    (repeat refine cw_seq ?_); refine cw_ret ?_
    exact ⟨(x2, x2b), _, (.cons (.tmp rfl) .nil), rfl, .nil _, .nil _, Sp⟩
theorem slices_Clone_Peer_spec (x : SlV) (γ : Nat → NPeer.G) (l : List Peer) : DoesG Try.prog 215 [x.val l.length] [RdG NPeer x γ l] ⟨[], []⟩ (fun (X : SlV × Option Nat) => X.1.val l.length) (fun (_ : SlV × Option Nat) => []) (fun (X : SlV × Option Nat) => ⟨[], [ownL NPeer.E 144 X.1 X.2 (zipG γ 0 l)]⟩) := by
  have := slices_Clone_PeerP_spec x (zipG γ 0 l)
  rw [zipG_len] at this
  exact this

def hub_Check_L0  : List Peer → Int
  | [] => 0
  | pn1 :: rn1 => (bif (((decide ((pn1.life) < 0) || decide ((pn1.life) > 50)) || decide ((pn1.seq) < 0)) || decide ((pn1.seq) > 30)) then 3 else (bif (((pn1.life) == 0) && (decide ((pn1.seq) > 0) || decide (((pn1.roots).length : Int) > 0))) then 4 else (bif ((view_Roots (pn1.roots)) != 0) then (view_Roots (pn1.roots)) else (hub_Check_L0 rn1))))
def hub_Check (h1 : Hub) : Int :=
  (bif ((history_Check h1.h) != 0) then (history_Check h1.h) else (bif (decide (h1.version < 0) || decide (h1.version > 60)) then 3 else (bif ((h1.peers.length : Int) != 3) then 4 else (hub_Check_L0 h1.peers))))
theorem hub_Check_spec (y1 : SlV) (y2 : SlV) (y3 : SlV) (h1 : Hub) : Does Try.prog 114 [.agg ⟨[y1.val h1.h.l.length, y2.val h1.h.t.length, .int .i64 h1.version, y3.val h1.peers.length]⟩] [RdL EStep y1 h1.h.l, RdL EPlace y2 h1.h.t, RdN NPeer y3 h1.peers] (fun (_ : Unit) => .int .i64 (hub_Check h1)) (fun (_ : Unit) => []) := by
  refine does_of tab_ok Try.func114 rfl Try.ntmps114 Try.results114 rfl inferInstance (fun _ => inferInstance) fun C => ?_
  refine Pc EStep y1 h1.h.l 88 fun hlen1 => ?_
  refine Pc EPlace y2 h1.h.t 24 fun hlen2 => ?_
  refine Pn NPeer y3 h1.peers 40 fun hlen3 => ?_
  refine Tx ?_
  refine Bx fun g1 => ?_
  refine Tx ?_
  refine Cl (history_Check_spec y1 y2 h1.h) fun _ => ?_
  refine Tx ?_
  refine Cd (b := ((history_Check h1.h) != 0)) (fun hc1 => ?_) fun hc1 => ?_
  · have hc1p := bne_iff_ne.1 hc1
    refine Tx ?_
    have hr1 : (hub_Check h1) = (history_Check h1.h) := by simp only [hub_Check, hc1, cond_true, cond_false]
    refine cw_ret ?_; rw [hr1]; exact Re () (Vt Vn)
  · have hc1p := eq_of_bne_false hc1
    refine Tx ?_
    refine Cd (b := (decide (h1.version < 0) || decide (h1.version > 60))) (fun hc2 => ?_) fun hc2 => ?_
    · refine Tx ?_
      have hr2 : (hub_Check h1) = 3 := by simp only [hub_Check, hc1, hc2, cond_true, cond_false]
      refine cw_ret ?_; rw [hr2]; exact Re () (Vt Vn)
    · refine Tx ?_
      refine Cd (b := ((h1.peers.length : Int) != 3)) (fun hc3 => ?_) fun hc3 => ?_
      · have hc3p := bne_iff_ne.1 hc3
        refine Tx ?_
        have hr3 : (hub_Check h1) = 4 := by simp only [hub_Check, hc1, hc2, hc3, cond_true, cond_false]
        refine cw_ret ?_; rw [hr3]; exact Re () (Vt Vn)
      · have hc3p := eq_of_bne_false hc3
        refine Tx ?_
        (repeat refine cw_seq ?_); refine Lp [2,26,27] [true] (fun (n1 : Nat) => (⟨[(28, .v (.int .i64 (n1 : Int)))], [], [], [], (n1 ≤ h1.peers.length) ∧ (hub_Check_L0 (h1.peers.drop n1)) = (hub_Check h1), h1.peers.length - n1⟩ : Ls)) 0 (Sc (Sc (Sc Sn))) (.keep (.nil)) ⟨Nat.zero_le _, (by simp only [hub_Check, hc1, hc2, hc3, cond_true, cond_false] : (hub_Check h1) = (hub_Check_L0 h1.peers)).symm⟩ Le4 ?_
        rintro n1 ⟨hkn1, hf1⟩
        simp only [List.cons_append, List.nil_append]
        refine Tx ?_
        refine Cd (b := decide ((n1 : Int) < (h1.peers.length : Int))) (fun hc4 => ?_) fun hc4 => ?_
        · have hlt0 : n1 < h1.peers.length := Int.ofNat_lt.1 (of_decide_eq_true hc4)
          refine Tx ?_
          refine rw_exN NPeer (X := y3) (l := h1.peers) Mm fun (γ1 : Nat → SlV) => ?_
          refine rw_q rfl rfl rfl (q_idxN NPeer γ1 n1 rfl rfl (fun _ => rfl) rfl (fun _ => rfl) rfl rfl rfl Mm rfl (fun _ => rfl) (fun _ => by first | assumption | omega)) ?_
          refine rw_q rfl rfl rfl (q_is (v' := .agg ⟨[.int .i64 ((gt h1.peers n1).life), .int .i64 ((gt h1.peers n1).seq), (γ1 n1).val ((gt h1.peers n1).roots).length]⟩) (q_leAN NPeer γ1 rfl rfl (fun _ => rfl) rfl rfl Mm (fun _ => by first | assumption | omega)) rfl) ?_
          refine rw_fact (F := RdL EInt (γ1 n1) ((gt h1.peers n1).roots)) [FactsG NPeer γ1 h1.peers] Sm (fun M w h => (allF1 h) n1 (by first | assumption | omega) _ (.head _)) ?_
          refine Al fun g2 => ?_
          refine Tx ?_
          refine Cd (b := (((decide (((gt h1.peers n1).life) < 0) || decide (((gt h1.peers n1).life) > 50)) || decide (((gt h1.peers n1).seq) < 0)) || decide (((gt h1.peers n1).seq) > 30))) (fun hc5 => ?_) fun hc5 => ?_
          · refine Tx ?_
            have hr4 : (hub_Check h1) = 3 := by rw [← hf1, drop_gt hlt0]; simp only [hub_Check_L0, hc5, cond_true, cond_false]
            refine cw_ret ?_; rw [hr4]; exact Re () (Vt Vn)
          · refine Tx ?_
            refine Cd (b := ((((gt h1.peers n1).life) == 0) && (decide (((gt h1.peers n1).seq) > 0) || decide ((((gt h1.peers n1).roots).length : Int) > 0)))) (fun hc6 => ?_) fun hc6 => ?_
            · refine Tx ?_
              have hr5 : (hub_Check h1) = 4 := by rw [← hf1, drop_gt hlt0]; simp only [hub_Check_L0, hc5, hc6, cond_true, cond_false]
              refine cw_ret ?_; rw [hr5]; exact Re () (Vt Vn)
            · refine Tx ?_
              refine Cl (view_Roots_spec (γ1 n1) ((gt h1.peers n1).roots)) fun _ => ?_
              refine Tx ?_
              refine Cd (b := ((view_Roots ((gt h1.peers n1).roots)) != 0)) (fun hc7 => ?_) fun hc7 => ?_
              · have hc7p := bne_iff_ne.1 hc7
                refine Tx ?_
                have hr6 : (hub_Check h1) = (view_Roots ((gt h1.peers n1).roots)) := by rw [← hf1, drop_gt hlt0]; simp only [hub_Check_L0, hc5, hc6, hc7, cond_true, cond_false]
                refine cw_ret ?_; rw [hr6]; exact Re () (Vt Vn)
              · have hc7p := eq_of_bne_false hc7
                refine Tx ?_
                refine rw_q rfl rfl rfl (q_add rfl rfl (fun _ => rfl) rfl (fun _ => rfl) (fun _ => by omega)) ?_
                refine Tx ?_
                refine ⟨(n1 + 1), ⟨hlt0, (by rw [← hf1, drop_gt hlt0]; simp only [hub_Check_L0, hc5, hc6, hc7, cond_true, cond_false] : (hub_Check h1) = (hub_Check_L0 (h1.peers.drop (n1 + 1)))).symm⟩, (by simp only []; omega), Le4⟩
        · have hge0 : h1.peers.length ≤ n1 := by have := of_decide_eq_false hc4; omega
          refine Tx ?_
          have hr7 : (hub_Check h1) = 0 := by rw [← hf1, List.drop_of_length_le hge0]; simp only [hub_Check_L0, cond_true, cond_false]
          refine cw_ret ?_; rw [hr7]; exact Re () (Vt Vn)

theorem hub_Check_len {h : Hub} (hc : hub_Check h = 0) : history_Check h.h = 0 ∧ 0 ≤ h.version ∧ h.version ≤ 60 ∧ h.peers.length = 3 := by
  unfold hub_Check at hc
  cases h1 : (history_Check h.h != 0) with
  | true => rw [h1, cond_true] at hc; rw [hc] at h1; cases h1
  | false =>
  rw [h1, cond_false] at hc
  cases h2 : (decide (h.version < 0) || decide (h.version > 60)) with
  | true => rw [h2, cond_true] at hc; cases hc
  | false =>
  rw [h2, cond_false] at hc
  cases h3 : ((h.peers.length : Int) != 3) with
  | true => rw [h3, cond_true] at hc; cases hc
  | false =>
  simp only [Bool.or_eq_false_iff, decide_eq_false_iff_not] at h2
  exact ⟨eq_of_bne_false h1, by omega, by omega, by have := eq_of_bne_false h3; omega⟩

def hub_Copy_L0 (h1 : Hub) : List Peer → Nat → (List Peer) → Hub
  | [], n1, l1 => (⟨h1.h, h1.version, l1⟩ : Hub)
  | pn1 :: rn1, n1, l1 => (hub_Copy_L0 h1 rn1 (n1 + 1) (l1.set n1 (gt l1 n1)))
def hub_Copy (h1 : Hub) : Hub :=
  (hub_Copy_L0 h1 h1.peers 0 h1.peers)
theorem hub_Copy_spec (y1 : SlV) (y2 : SlV) (y3 : SlV) (h1 : Hub) : DoesG Try.prog 202 [.agg ⟨[y1.val h1.h.l.length, y2.val h1.h.t.length, .int .i64 h1.version, y3.val h1.peers.length]⟩] [RdL EStep y1 h1.h.l, RdL EPlace y2 h1.h.t, RdN NPeer y3 h1.peers] ⟨[], []⟩ (fun (X : SlV × SlV × SlV × Option Nat × (Nat → SlV)) => .agg ⟨[X.1.val (((hub_Copy h1).h).l).length, X.2.1.val (((hub_Copy h1).h).t).length, .int .i64 ((hub_Copy h1).version), X.2.2.1.val ((hub_Copy h1).peers).length]⟩) (fun (X : SlV × SlV × SlV × Option Nat × (Nat → SlV)) => [RdL EStep X.1 (((hub_Copy h1).h).l), RdL EPlace X.2.1 (((hub_Copy h1).h).t), FactsG NPeer X.2.2.2.2 ((hub_Copy h1).peers)]) (fun (X : SlV × SlV × SlV × Option Nat × (Nat → SlV)) => ⟨[], [ownL NPeer.E 144 X.2.2.1 X.2.2.2.1 (zipG X.2.2.2.2 0 ((hub_Copy h1).peers))]⟩) := by
  refine does_ofG tab_ok Try.func202 rfl Try.ntmps202 Try.results202 rfl inferInstance (fun _ => inferInstance) fun C => ?_
  refine Pc EStep y1 h1.h.l 88 fun hlen1 => ?_
  refine Pc EPlace y2 h1.h.t 24 fun hlen2 => ?_
  refine Pn NPeer y3 h1.peers 40 fun hlen3 => ?_
  refine Tx ?_
  refine Bx fun g1 => ?_
  refine Al fun g2 => ?_
  refine rw_nil ?_
  (repeat refine cw_seq ?_); refine cw_regionA (fun j => match j with | 7 => some [g1] | 9 => some [g1] | _ => some []) ?_
  refine Rb 0 [3,4] [1,2,5,6,7,8,9] rfl Qp ?_
  refine Rb 1 [3,4] [2,5,6,7,8,9] rfl (q_ldP rfl rfl (fun _ => rfl) rfl Mm rfl) ?_
  refine Rb 3 [2] [4,5,6,7,8,9] rfl Qp ?_
  refine Ra 4 [2] rfl Q1 ?_
  refine ra_one 2 Kr ?_
  refine rw_callG (history_Copy_spec y1 y2 h1.h) (.an rfl rfl) (.inr (by simp [Lent.ids])) (guard_none rfl) rfl rfl rfl Kr rfl rfl Sm (.nil _) (.nil _) ?_
  intro x1
  refine Pr EPlace x1.2.2 h1.h.t 24 fun hlen4 => ?_
  refine Ra 6 [5] rfl Qp ?_
  refine ra_one 5 Kr ?_
  refine rw_exN NPeer (X := y3) (l := h1.peers) Mm fun (γ1 : Nat → SlV) => ?_
  refine rw_callG (slices_Clone_Peer_spec y3 γ1 h1.peers) (.an rfl rfl) (.inr (by simp [Lent.ids])) (guard_none rfl) rfl rfl rfl Kr rfl rfl Sm (.nil _) (.nil _) ?_
  intro x2
  refine ra_one 7 Kr ?_
  refine rw_stP (.an rfl rfl) (.inr (by simp)) (guard_none rfl) rfl rfl rfl rfl rfl rfl rfl rfl rfl Ub rfl ?_
  refine Ra 8 [] rfl Qp ?_
  refine ra_one 9 Kr ?_
  refine rw_st1 (.an rfl rfl) (.inr (by simp)) (guard_none rfl) rfl rfl rfl rfl rfl rfl rfl rfl rfl Ub rfl ?_
  refine ra_nil Kr ?_
  refine Tx ?_
  (repeat refine cw_seq ?_); refine Lp [1,2,15] [true, false] (fun (i_ : List Peer × (Nat → SlV) × Nat) => match i_ with | ⟨l1, γ2, n1⟩ => (⟨[(14, .v (x2.1.val l1.length)), (16, .v (.int .i64 (n1 : Int)))], [⟨g1, 131, [x1.1.val h1.h.l.length, x1.2.2.val h1.h.t.length, .int .i64 h1.version, x2.1.val l1.length]⟩], [ownL NPeer.E 144 x2.1 x2.2 (zipG γ2 0 l1), ownL EStep 37 x1.1 x1.2.1 h1.h.l], [FactsG NPeer γ2 l1], (n1 ≤ h1.peers.length) ∧ (l1.length = h1.peers.length) ∧ (hub_Copy_L0 h1 (h1.peers.drop n1) n1 l1) = (hub_Copy h1), h1.peers.length - n1⟩ : Ls)) ⟨h1.peers, γ1, 0⟩ (Sc (Sc (Sc Sn))) (.keep (.drop (.nil))) ⟨Nat.zero_le _, rfl, (by simp only [hub_Copy, cond_true, cond_false] : (hub_Copy h1) = (hub_Copy_L0 h1 h1.peers 0 h1.peers)).symm⟩ Le4 ?_
  rintro ⟨l1, γ2, n1⟩ ⟨hkn1, hll, hf1⟩
  simp only [List.cons_append, List.nil_append]
  refine Tx ?_
  refine Cd (b := decide ((n1 : Int) < (h1.peers.length : Int))) (fun hc1 => ?_) fun hc1 => ?_
  · have hlt0 : n1 < h1.peers.length := Int.ofNat_lt.1 (of_decide_eq_true hc1)
    refine Tx ?_
    refine rw_qO NPeer.E (e := 144) (X := x2.1) (b := x2.2) (l := zipG γ2 0 l1) Mm .sq rfl rfl rfl (q_idxN NPeer γ2 n1 rfl rfl (fun _ => rfl) rfl (fun _ => rfl) rfl rfl rfl (.head _) rfl (fun _ => rfl) (fun _ => by first | assumption | omega | (simp only [List.length_set]; omega))) ?_
    refine rw_qO NPeer.E (e := 144) (X := x2.1) (b := x2.2) (l := zipG γ2 0 l1) Mm .sq rfl rfl rfl (q_is (v' := .agg ⟨[.int .i64 ((gt l1 n1).life), .int .i64 ((gt l1 n1).seq), (γ2 n1).val ((gt l1 n1).roots).length]⟩) (q_leAN NPeer γ2 rfl rfl (fun _ => rfl) rfl rfl (.head _) (fun _ => by first | assumption | omega | (simp only [List.length_set]; omega))) rfl) ?_
    refine rw_fact (F := RdL EInt (γ2 n1) ((gt l1 n1).roots)) [FactsG NPeer γ2 l1] Sm (fun M w h => (allF1 h) n1 (by first | assumption | omega) _ (.head _)) ?_
    refine Al fun g3 => ?_
    refine Tx ?_
    (repeat refine cw_seq ?_); refine cw_regionA (fun j => match j with | 8 => some x2.2.toList | _ => some []) ?_
    refine Ra 0 [2,3,4,5] rfl Qp ?_
    refine Ra 1 [2,3,4,5] rfl Q1 ?_
    refine Ra 2 [3,4,5] rfl Qp ?_
    refine Rb 3 [] [4,5,6,7,8] rfl Qp ?_
    refine Ra 4 [] rfl Q1 ?_
    refine ra_one 5 Kr ?_
    refine rw_callG (slices_Clone_Int_spec (γ2 n1) ((gt l1 n1).roots)) (.an rfl rfl) (.inr (by simp [Lent.ids])) (guard_none rfl) rfl rfl rfl Kr rfl rfl Sm (.nil _) (.nil _) ?_
    intro x5
    refine rw_qO NPeer.E (e := 144) (X := x2.1) (b := x2.2) (l := zipG γ2 0 l1) Mm (.ab (i := 6) (js := []) [7, 8] rfl Kr Kr Kr Kr Kr) rfl rfl rfl (q_idxN NPeer γ2 n1 rfl rfl (fun _ => rfl) rfl (fun _ => rfl) rfl rfl rfl (.head _) rfl (fun _ => rfl) (fun _ => by first | assumption | omega | (simp only [List.length_set]; omega))) ?_
    refine Ra 7 [] rfl (q_fae rfl rfl (fun _ => rfl) rfl rfl) ?_
    refine ra_one 8 Kr ?_
    refine rw_le (le_freezeL EInt 3 x5.1 x5.2 ((gt l1 n1).roots) Uo) ?_
    refine rw_stON NPeer γ2 l1 n1 2 x5.1 (gt l1 n1) (e := 144) (X := x2.1) (b := x2.2) (.an rfl rfl) (.inr (fun g h => by simp [h])) (guard_none rfl) rfl rfl rfl rfl rfl rfl rfl rfl rfl rfl rfl (by first | assumption | omega | (simp only [List.length_set]; omega)) rfl Uo ?_
    refine rw_fact (F := FactsG NPeer (updG γ2 n1 x5.1) (l1.set n1 (gt l1 n1))) [FactsG NPeer γ2 l1, RdL EInt x5.1 ((gt l1 n1).roots)] Sm (fun M w h => FactsG.upd NPeer (h _ (.head _)) (allF_sub Sm h)) ?_
    have hv1 : x2.1.val l1.length = x2.1.val (l1.set n1 (gt l1 n1)).length := congrArg (SlV.val x2.1) List.length_set.symm
    try rw [hv1]
    refine ra_nil Kr ?_
    refine Tx ?_
    refine rw_q rfl rfl rfl (q_add rfl rfl (fun _ => rfl) rfl (fun _ => rfl) (fun _ => by omega)) ?_
    refine Tx ?_
    refine ⟨⟨(l1.set n1 (gt l1 n1)), (updG γ2 n1 x5.1), (n1 + 1)⟩, ⟨hlt0, (by (try simp only [List.length_set]); omega), (by rw [← hf1, drop_gt hlt0]; simp only [hub_Copy_L0, cond_true, cond_false] : (hub_Copy h1) = (hub_Copy_L0 h1 (h1.peers.drop (n1 + 1)) (n1 + 1) (l1.set n1 (gt l1 n1)))).symm⟩, (by simp only []; omega), Le4⟩
  · have hge0 : h1.peers.length ≤ n1 := by have := of_decide_eq_false hc1; omega
    refine Tx ?_
    refine cw_le (le_freezeL EStep 37 x1.1 x1.2.1 h1.h.l Uo) ?_
    have hr1 : (hub_Copy h1) = (⟨h1.h, h1.version, l1⟩ : Hub) := by rw [← hf1, List.drop_of_length_le hge0]; simp only [hub_Copy_L0, cond_true, cond_false]
    refine cw_ret ?_; rw [hr1]; exact Re ⟨x1.1, x1.2.2, x2.1, x2.2, γ2⟩ (Va Vn)
theorem hub_Copy_L0_eq (h : Hub) : ∀ (r : List Peer) (n : Nat) (l : List Peer), hub_Copy_L0 h r n l = ⟨h.h, h.version, l⟩
  | [], _, _ => rfl
  | _ :: r, n, l => by
    have : l.set n (gt l n) = l := by
      by_cases h : n < l.length
      · rw [gt_eq h]; exact List.set_getElem_self h
      · exact List.set_eq_of_length_le (Nat.le_of_not_lt h)
    rw [hub_Copy_L0, this]; exact hub_Copy_L0_eq h r (n + 1) l
theorem hub_Copy_eq (h : Hub) : hub_Copy h = h := hub_Copy_L0_eq h _ 0 h.peers
theorem hub_Copy_spec' (y1 : SlV) (y2 : SlV) (y3 : SlV) (h1 : Hub) : DoesG Try.prog 202 [.agg ⟨[y1.val h1.h.l.length, y2.val h1.h.t.length, .int .i64 h1.version, y3.val h1.peers.length]⟩] [RdL EStep y1 h1.h.l, RdL EPlace y2 h1.h.t, RdN NPeer y3 h1.peers] ⟨[], []⟩ (fun (X : SlV × SlV × SlV × Option Nat × (Nat → SlV)) => .agg ⟨[X.1.val ((h1.h).l).length, X.2.1.val ((h1.h).t).length, .int .i64 (h1.version), X.2.2.1.val (h1.peers).length]⟩) (fun (X : SlV × SlV × SlV × Option Nat × (Nat → SlV)) => [RdL EStep X.1 ((h1.h).l), RdL EPlace X.2.1 ((h1.h).t), FactsG NPeer X.2.2.2.2 (h1.peers)]) (fun (X : SlV × SlV × SlV × Option Nat × (Nat → SlV)) => ⟨[], [ownL NPeer.E 144 X.2.2.1 X.2.2.2.1 (zipG X.2.2.2.2 0 (h1.peers))]⟩) := by
  have := hub_Copy_spec y1 y2 y3 h1
  rw [hub_Copy_eq] at this
  exact this

def note_Check (r1 : Rec) : Int :=
  (bif (decide (r1.kind < 1) || decide (r1.kind > 3)) then 4 else (bif (r1.kind == 1) then (bif (((r1.who != 0) || (r1.life != 0)) || decide ((r1.roots.length : Int) > 0)) then 4 else (move_Check r1.o)) else (bif (((!(decide (r1.o = (⟨0, 0, 0, 0, 0, 0, 0⟩ : Op)))) || ((r1.kind == 3) && (r1.life != 0))) || ((r1.kind == 2) && decide ((r1.roots.length : Int) > 0))) then 4 else (bif ((decide (r1.who < 0) || decide (r1.who ≥ 3)) || ((r1.kind == 2) && (decide (r1.life < 1) || decide (r1.life > 50)))) then 3 else (view_Roots r1.roots)))))
theorem note_Check_spec (y1 : SlV) (r1 : Rec) : Does Try.prog 201 [.agg ⟨[.int .i64 r1.kind, .int .i64 r1.who, .int .i64 r1.life, y1.val r1.roots.length, .int .i64 r1.o.time, .int .i64 r1.o.who, .int .i64 r1.o.node, .int .i64 r1.o.parent, .int .i64 r1.o.name, .int .i64 r1.o.life, .int .i64 r1.o.seq]⟩] [RdL EInt y1 r1.roots] (fun (_ : Unit) => .int .i64 (note_Check r1)) (fun (_ : Unit) => []) := by
  refine does_of tab_ok Try.func201 rfl Try.ntmps201 Try.results201 rfl inferInstance (fun _ => inferInstance) fun C => ?_
  refine Pc EInt y1 r1.roots 8 fun hlen1 => ?_
  refine Tx ?_
  refine Bx fun g1 => ?_
  refine Tx ?_
  refine Cd (b := (decide (r1.kind < 1) || decide (r1.kind > 3))) (fun hc1 => ?_) fun hc1 => ?_
  · refine Tx ?_
    have hr1 : (note_Check r1) = 4 := by simp only [note_Check, hc1, cond_true, cond_false]
    refine cw_ret ?_; rw [hr1]; exact Re () (Vt Vn)
  · refine Tx ?_
    refine Cd (b := (r1.kind == 1)) (fun hc2 => ?_) fun hc2 => ?_
    · have hc2p := eq_of_beq hc2
      refine Tx ?_
      refine Cd (b := (((r1.who != 0) || (r1.life != 0)) || decide ((r1.roots.length : Int) > 0))) (fun hc3 => ?_) fun hc3 => ?_
      · refine Tx ?_
        have hr2 : (note_Check r1) = 4 := by simp only [note_Check, hc1, hc2, hc3, cond_true, cond_false]
        refine cw_ret ?_; rw [hr2]; exact Re () (Vt Vn)
      · refine Tx ?_
        refine Cl (move_Check_spec r1.o) fun _ => ?_
        refine Tx ?_
        have hr3 : (note_Check r1) = (move_Check r1.o) := by simp only [note_Check, hc1, hc2, hc3, cond_true, cond_false]
        refine cw_ret ?_; rw [hr3]; exact Re () (Vt Vn)
    · have hc2p := ne_of_beq_false hc2
      refine Tx ?_
      refine rw_q rfl rfl rfl (q_neE eqT_Op (flatEq_Op r1.o (⟨0, 0, 0, 0, 0, 0, 0⟩ : Op)) rfl rfl (fun _ => rfl) rfl (fun _ => rfl) rfl rfl) ?_
      refine Tx ?_
      refine Cd (b := (((!(decide (r1.o = (⟨0, 0, 0, 0, 0, 0, 0⟩ : Op)))) || ((r1.kind == 3) && (r1.life != 0))) || ((r1.kind == 2) && decide ((r1.roots.length : Int) > 0)))) (fun hc4 => ?_) fun hc4 => ?_
      · refine Tx ?_
        have hr4 : (note_Check r1) = 4 := by simp only [note_Check, hc1, hc2, hc4, cond_true, cond_false]
        refine cw_ret ?_; rw [hr4]; exact Re () (Vt Vn)
      · refine Tx ?_
        refine Cd (b := ((decide (r1.who < 0) || decide (r1.who ≥ 3)) || ((r1.kind == 2) && (decide (r1.life < 1) || decide (r1.life > 50))))) (fun hc5 => ?_) fun hc5 => ?_
        · refine Tx ?_
          have hr5 : (note_Check r1) = 3 := by simp only [note_Check, hc1, hc2, hc4, hc5, cond_true, cond_false]
          refine cw_ret ?_; rw [hr5]; exact Re () (Vt Vn)
        · refine Tx ?_
          refine Cl (view_Roots_spec y1 r1.roots) fun _ => ?_
          refine Tx ?_
          have hr6 : (note_Check r1) = (view_Roots r1.roots) := by simp only [note_Check, hc1, hc2, hc4, hc5, cond_true, cond_false]
          refine cw_ret ?_; rw [hr6]; exact Re () (Vt Vn)

def hub_Same_1 (x1 : Peer) (y1 : Peer) : Bool :=
  (((x1.life == y1.life) && (x1.seq == y1.seq)) && (decide (x1.roots = y1.roots)))
theorem hub_Same_1_spec (y2 : SlV) (x1 : Peer) (y3 : SlV) (y1 : Peer) : Does Try.prog 179 [.agg ⟨[.int .i64 x1.life, .int .i64 x1.seq, y2.val x1.roots.length]⟩, .agg ⟨[.int .i64 y1.life, .int .i64 y1.seq, y3.val y1.roots.length]⟩] [RdL EInt y2 x1.roots, RdL EInt y3 y1.roots] (fun (_ : Unit) => .bool (hub_Same_1 x1 y1)) (fun (_ : Unit) => []) := by
  refine does_of tab_ok Try.func179 rfl Try.ntmps179 Try.results179 rfl inferInstance (fun _ => inferInstance) fun C => ?_
  refine Pc EInt y2 x1.roots 8 fun hlen1 => ?_
  refine Pc EInt y3 y1.roots 8 fun hlen2 => ?_
  refine Tx ?_
  refine Bx fun g1 => ?_
  refine Bx fun g2 => ?_
  refine Tx ?_
  refine rw_callg (fun hG_ => (fun y1 a y2 b => slices_Equal_Int_spec' y1 y2 a b) y2 x1.roots y3 y1.roots) (fun _ => rfl) .sq (guard_vt rfl rfl rfl) rfl rfl rfl Kr rfl Bt Sm ?_
  refine Tx ?_
  have hr1 : (hub_Same_1 x1 y1) = (((x1.life == y1.life) && (x1.seq == y1.seq)) && (decide (x1.roots = y1.roots))) := by simp only [hub_Same_1, cond_true, cond_false]
  refine cw_ret ?_; rw [hr1]; exact Re () (Vt Vn)

def slices_EqualFunc_Peer_L0 (s2 : List Peer) (eq1 : Peer → Peer → Bool) : List Peer → Nat → Bool
  | [], n1 => true
  | pn1 :: rn1, n1 => (bif (!(eq1 pn1 (gt s2 n1))) then false else (slices_EqualFunc_Peer_L0 s2 eq1 rn1 (n1 + 1)))
def slices_EqualFunc_Peer (s1 : List Peer) (s2 : List Peer) (eq1 : Peer → Peer → Bool) : Bool :=
  (bif ((s1.length : Int) != (s2.length : Int)) then false else (slices_EqualFunc_Peer_L0 s2 eq1 s1 0))
theorem slices_EqualFunc_Peer_spec (y1 : SlV) (s1 : List Peer) (y2 : SlV) (s2 : List Peer) (f1 : Nat) (caps1 : List Value) (pre1 : List Pred) [StabL pre1] (eq1 : Peer → Peer → Bool) (hfb1 : tab.fnb f1 = true) (hfn1 : ∀ (z0a_ : SlV) (a0_ : Peer) (z1a_ : SlV) (a1_ : Peer), Does Try.prog f1 ([.agg ⟨[.int .i64 a0_.life, .int .i64 a0_.seq, z0a_.val a0_.roots.length]⟩, .agg ⟨[.int .i64 a1_.life, .int .i64 a1_.seq, z1a_.val a1_.roots.length]⟩] ++ caps1) (RdL EInt z0a_ a0_.roots :: RdL EInt z1a_ a1_.roots :: pre1) (fun (_ : Unit) => .bool (eq1 a0_ a1_)) (fun (_ : Unit) => [])) : Does Try.prog 178 [y1.val s1.length, y2.val s2.length, .func (.func f1) #[] ⟨caps1⟩] (RdN NPeer y1 s1 :: RdN NPeer y2 s2 :: pre1) (fun (_ : Unit) => .bool (slices_EqualFunc_Peer s1 s2 eq1)) (fun (_ : Unit) => []) := by
  refine does_of tab_ok Try.func178 rfl Try.ntmps178 Try.results178 rfl inferInstance (fun _ => inferInstance) fun C => ?_
  refine cw_pure (φ := s1.length * 40 ≤ 140737488355328) [RdN NPeer y1 s1] Sf (fun M w h => (allF1 h).len) fun hlen1 => ?_
  refine cw_pure (φ := s2.length * 40 ≤ 140737488355328) [RdN NPeer y2 s2] Sf (fun M w h => (allF1 h).len) fun hlen2 => ?_
  refine Tx ?_
  refine Cd (b := ((s1.length : Int) != (s2.length : Int))) (fun hc1 => ?_) fun hc1 => ?_
  · have hc1p := bne_iff_ne.1 hc1
    refine Tx ?_
    have hr1 : (slices_EqualFunc_Peer s1 s2 eq1) = false := by simp only [slices_EqualFunc_Peer, hc1, cond_true, cond_false]
    refine cw_ret ?_
    rw [hr1]
    exact ⟨(), _, (.cons (.tmp rfl) .nil), rfl, Sf, .nil _, .nil _⟩
  · have hc1p := eq_of_bne_false hc1
    refine Tx ?_
    (repeat refine cw_seq ?_); refine Lp [1,2,6,15,16] [] (fun (n1 : Nat) => (⟨[(17, .v (.int .i64 (n1 : Int)))], [], [], [], (n1 ≤ s1.length) ∧ (slices_EqualFunc_Peer_L0 s2 eq1 (s1.drop n1) n1) = (slices_EqualFunc_Peer s1 s2 eq1), s1.length - n1⟩ : Ls)) 0 (Sc (Sc (Sc (Sc (Sc Sn))))) (.nil) ⟨Nat.zero_le _, (by simp only [slices_EqualFunc_Peer, hc1, cond_true, cond_false] : (slices_EqualFunc_Peer s1 s2 eq1) = (slices_EqualFunc_Peer_L0 s2 eq1 s1 0)).symm⟩ Le5 ?_
    rintro n1 ⟨hkn1, hf1⟩
    simp only [List.cons_append, List.nil_append]
    refine Tx ?_
    refine Cd (b := decide ((n1 : Int) < (s1.length : Int))) (fun hc2 => ?_) fun hc2 => ?_
    · have hlt0 : n1 < s1.length := Int.ofNat_lt.1 (of_decide_eq_true hc2)
      refine Tx ?_
      refine rw_exN NPeer (X := y1) (l := s1) Mm fun (γ1 : Nat → SlV) => ?_
      refine rw_q rfl rfl rfl (q_idxN NPeer γ1 n1 rfl rfl (fun _ => rfl) rfl (fun _ => rfl) rfl rfl rfl Mm rfl (fun _ => rfl) (fun _ => by first | assumption | omega)) ?_
      refine rw_q rfl rfl rfl (q_is (v' := .agg ⟨[.int .i64 ((gt s1 n1).life), .int .i64 ((gt s1 n1).seq), (γ1 n1).val ((gt s1 n1).roots).length]⟩) (q_leAN NPeer γ1 rfl rfl (fun _ => rfl) rfl rfl Mm (fun _ => by first | assumption | omega)) rfl) ?_
      refine rw_fact (F := RdL EInt (γ1 n1) ((gt s1 n1).roots)) [FactsG NPeer γ1 s1] Sf (fun M w h => (allF1 h) n1 (by first | assumption | omega) _ (.head _)) ?_
      refine Al fun g1 => ?_
      refine Tx ?_
      refine rw_exN NPeer (X := y2) (l := s2) Mm fun (γ2 : Nat → SlV) => ?_
      refine rw_q rfl rfl rfl (q_idxN NPeer γ2 n1 rfl rfl (fun _ => rfl) rfl (fun _ => rfl) rfl rfl rfl Mm rfl (fun _ => rfl) (fun _ => by first | assumption | omega)) ?_
      refine rw_q rfl rfl rfl (q_is (v' := .agg ⟨[.int .i64 ((gt s2 n1).life), .int .i64 ((gt s2 n1).seq), (γ2 n1).val ((gt s2 n1).roots).length]⟩) (q_leAN NPeer γ2 rfl rfl (fun _ => rfl) rfl rfl Mm (fun _ => by first | assumption | omega)) rfl) ?_
      refine rw_fact (F := RdL EInt (γ2 n1) ((gt s2 n1).roots)) [FactsG NPeer γ2 s2] Sf (fun M w h => (allF1 h) n1 (by first | assumption | omega) _ (.head _)) ?_
      refine Al fun g2 => ?_
      refine Tx ?_
      refine rw_callv (hfn1 (γ1 n1) (gt s1 n1) (γ2 n1) (gt s2 n1)) .sq (guard_none rfl) rfl rfl rfl rfl rfl (by assumption) rfl rfl rfl Sf ?_
      intro _
      refine Tx ?_
      refine Cd (b := (!(eq1 (gt s1 n1) (gt s2 n1)))) (fun hc3 => ?_) fun hc3 => ?_
      · refine Tx ?_
        have hr2 : (slices_EqualFunc_Peer s1 s2 eq1) = false := by rw [← hf1, drop_gt hlt0]; simp only [slices_EqualFunc_Peer_L0, hc3, cond_true, cond_false]
        refine cw_ret ?_
        rw [hr2]
        exact ⟨(), _, (.cons (.tmp rfl) .nil), rfl, Sf, .nil _, .nil _⟩
      · refine Tx ?_
        refine rw_q rfl rfl rfl (q_add rfl rfl (fun _ => rfl) rfl (fun _ => rfl) (fun _ => by omega)) ?_
        refine Tx ?_
        refine ⟨(n1 + 1), ⟨hlt0, (by rw [← hf1, drop_gt hlt0]; simp only [slices_EqualFunc_Peer_L0, hc3, cond_true, cond_false] : (slices_EqualFunc_Peer s1 s2 eq1) = (slices_EqualFunc_Peer_L0 s2 eq1 (s1.drop (n1 + 1)) (n1 + 1))).symm⟩, (by simp only []; omega), Le5⟩
    · have hge0 : s1.length ≤ n1 := by have := of_decide_eq_false hc2; omega
      refine Tx ?_
      have hr3 : (slices_EqualFunc_Peer s1 s2 eq1) = true := by rw [← hf1, List.drop_of_length_le hge0]; simp only [slices_EqualFunc_Peer_L0, cond_true, cond_false]
      refine cw_ret ?_
      rw [hr3]
      exact ⟨(), _, (.cons (.tmp rfl) .nil), rfl, Sf, .nil _, .nil _⟩

def hub_Same (a1 : Hub) (b1 : Hub) : Bool :=
  (((history_Same a1.h b1.h) && (a1.version == b1.version)) && (slices_EqualFunc_Peer a1.peers b1.peers hub_Same_1))
theorem hub_Same_spec (y1 : SlV) (y2 : SlV) (y3 : SlV) (a1 : Hub) (y4 : SlV) (y5 : SlV) (y6 : SlV) (b1 : Hub) : Does Try.prog 115 [.agg ⟨[y1.val a1.h.l.length, y2.val a1.h.t.length, .int .i64 a1.version, y3.val a1.peers.length]⟩, .agg ⟨[y4.val b1.h.l.length, y5.val b1.h.t.length, .int .i64 b1.version, y6.val b1.peers.length]⟩] [RdL EStep y1 a1.h.l, RdL EPlace y2 a1.h.t, RdN NPeer y3 a1.peers, RdL EStep y4 b1.h.l, RdL EPlace y5 b1.h.t, RdN NPeer y6 b1.peers] (fun (_ : Unit) => .bool (hub_Same a1 b1)) (fun (_ : Unit) => []) := by
  refine does_of tab_ok Try.func115 rfl Try.ntmps115 Try.results115 rfl inferInstance (fun _ => inferInstance) fun C => ?_
  refine Pc EStep y1 a1.h.l 88 fun hlen1 => ?_
  refine Pc EPlace y2 a1.h.t 24 fun hlen2 => ?_
  refine Pn NPeer y3 a1.peers 40 fun hlen3 => ?_
  refine Pc EStep y4 b1.h.l 88 fun hlen4 => ?_
  refine Pc EPlace y5 b1.h.t 24 fun hlen5 => ?_
  refine Pn NPeer y6 b1.peers 40 fun hlen6 => ?_
  refine Tx ?_
  refine Bx fun g1 => ?_
  refine Bx fun g2 => ?_
  refine Tx ?_
  refine Cl (history_Same_spec y1 y2 a1.h y4 y5 b1.h) fun _ => ?_
  refine Tx ?_
  refine rw_callg (fun hG_ => slices_EqualFunc_Peer_spec y3 a1.peers y6 b1.peers _ _ _ hub_Same_1 Kr (fun z0a_ a0_ z1a_ a1_ => hub_Same_1_spec z0a_ a0_ z1a_ a1_)) (fun _ => rfl) .sq (guard_vt rfl rfl rfl) rfl rfl rfl Kr rfl Bt Sm ?_
  refine Tx ?_
  have hr1 : (hub_Same a1 b1) = (((history_Same a1.h b1.h) && (a1.version == b1.version)) && (slices_EqualFunc_Peer a1.peers b1.peers hub_Same_1)) := by simp only [hub_Same, cond_true, cond_false]
  refine cw_ret ?_; rw [hr1]; exact Re () (Vt Vn)

def hub_Sees (h1 : Hub) (who1 : Int) : View × Int :=
  (bif ((hub_Check h1) != 0) then ((⟨([] : List Int), ([] : List Place), ([] : List Place)⟩ : View), (hub_Check h1)) else (bif (decide (who1 < 0) || decide (who1 ≥ 3)) then ((⟨([] : List Int), ([] : List Place), ([] : List Place)⟩ : View), 5) else (((view_Of h1.h.t ((gt h1.peers who1.toNat).roots)).1), (view_Of h1.h.t ((gt h1.peers who1.toNat).roots)).2)))
theorem hub_Sees_spec (y1 : SlV) (y2 : SlV) (y3 : SlV) (h1 : Hub) (who1 : Int) : Does Try.prog 111 [.agg ⟨[y1.val h1.h.l.length, y2.val h1.h.t.length, .int .i64 h1.version, y3.val h1.peers.length]⟩, .int .i64 who1] [RdL EStep y1 h1.h.l, RdL EPlace y2 h1.h.t, RdN NPeer y3 h1.peers] (fun (X : SlV × SlV × SlV) => .tuple #[.agg ⟨[X.1.val (((hub_Sees h1 who1).1).roots).length, X.2.1.val (((hub_Sees h1 who1).1).known).length, X.2.2.val (((hub_Sees h1 who1).1).way).length]⟩, .int .i64 ((hub_Sees h1 who1).2)]) (fun (X : SlV × SlV × SlV) => [RdL EInt X.1 (((hub_Sees h1 who1).1).roots), RdL EPlace X.2.1 (((hub_Sees h1 who1).1).known), RdL EPlace X.2.2 (((hub_Sees h1 who1).1).way)]) := by
  refine does_of tab_ok Try.func111 rfl Try.ntmps111 Try.results111 rfl inferInstance (fun _ => inferInstance) fun C => ?_
  refine Pc EStep y1 h1.h.l 88 fun hlen1 => ?_
  refine Pc EPlace y2 h1.h.t 24 fun hlen2 => ?_
  refine Pn NPeer y3 h1.peers 40 fun hlen3 => ?_
  refine Tx ?_
  refine Bx fun g1 => ?_
  refine Al fun g2 => ?_
  refine Tx ?_
  refine Cl (hub_Check_spec y1 y2 y3 h1) fun _ => ?_
  refine Tx ?_
  refine Cd (b := ((hub_Check h1) != 0)) (fun hc1 => ?_) fun hc1 => ?_
  · have hc1p := bne_iff_ne.1 hc1
    refine Tx ?_
    refine Fc EInt ?_
    refine Fc EPlace ?_
    have hr1 : (hub_Sees h1 who1) = ((⟨([] : List Int), ([] : List Place), ([] : List Place)⟩ : View), (hub_Check h1)) := by simp only [hub_Sees, hc1, cond_true, cond_false]
    refine cw_ret ?_; rw [hr1]; exact Re ⟨(⟨none, 0⟩ : SlV), (⟨none, 0⟩ : SlV), (⟨none, 0⟩ : SlV)⟩ (Va (Vt Vn))
  · have hc1p := eq_of_bne_false hc1
    have hpl := hub_Check_len (eq_of_bne_false hc1)
    refine Tx ?_
    refine Cd (b := (decide (who1 < 0) || decide (who1 ≥ 3))) (fun hc2 => ?_) fun hc2 => ?_
    · refine Tx ?_
      refine Fc EInt ?_
      refine Fc EPlace ?_
      have hr2 : (hub_Sees h1 who1) = ((⟨([] : List Int), ([] : List Place), ([] : List Place)⟩ : View), 5) := by simp only [hub_Sees, hc1, hc2, cond_true, cond_false]
      refine cw_ret ?_; rw [hr2]; exact Re ⟨(⟨none, 0⟩ : SlV), (⟨none, 0⟩ : SlV), (⟨none, 0⟩ : SlV)⟩ (Va (Vt Vn))
    · have hwr := hc2
      simp only [Bool.or_eq_false_iff, decide_eq_false_iff_not] at hwr
      refine Tx ?_
      (repeat refine cw_seq ?_); refine cw_regionA (fun j => match j with | 12 => some [g2] | _ => some []) ?_
      refine Rb 0 [3,4,5,6,7,8] [1,2,9,10,11,12,13] rfl Qp ?_
      refine Rb 1 [3,4,5,6,7,8] [2,9,10,11,12,13] rfl Qp ?_
      refine Rb 2 [3,4,5,6,7,8] [9,10,11,12,13] rfl (q_ldP rfl rfl (fun _ => rfl) rfl Mm rfl) ?_
      refine Rb 3 [5] [4,6,7,8,9,10,11,12,13] rfl Qp ?_
      refine Rb 4 [5] [6,7,8,9,10,11,12,13] rfl Q1 ?_
      refine Rb 5 [] [6,7,8,9,10,11,12,13] rfl Qp ?_
      refine rw_exN NPeer (X := y3) (l := h1.peers) Mm fun (γ1 : Nat → SlV) => ?_
      refine Rb 6 [] [7,8,9,10,11,12,13] rfl (q_idxN NPeer γ1 who1.toNat rfl rfl (fun _ => rfl) rfl (fun _ => rfl) rfl rfl rfl Mm rfl (fun _ => by omega) (fun _ => by first | assumption | omega)) ?_
      refine Rb 7 [] [8,9,10,11,12,13] rfl (q_fae rfl rfl (fun _ => rfl) rfl rfl) ?_
      refine Rb 8 [] [9,10,11,12,13] rfl (q_le1N NPeer γ1 (v := (γ1 who1.toNat).val ((gt h1.peers who1.toNat).roots).length) rfl rfl (fun _ => rfl) rfl rfl Mm (fun _ => by first | assumption | omega) rfl) ?_
      refine rw_fact (F := RdL EInt (γ1 who1.toNat) ((gt h1.peers who1.toNat).roots)) [FactsG NPeer γ1 h1.peers] Sm (fun M w h => (allF1 h) who1.toNat (by first | assumption | omega) _ (.head _)) ?_
      refine ra_one 9 Kr ?_
      refine rw_call (view_Of_spec y2 h1.h.t (γ1 who1.toNat) ((gt h1.peers who1.toNat).roots)) (.an rfl rfl) (guard_none rfl) rfl rfl rfl Kr rfl rfl Sm ?_
      intro x1
      refine Pr EInt x1.1 (((view_Of h1.h.t ((gt h1.peers who1.toNat).roots)).1).roots) 8 fun hlen4 => ?_
      refine Pr EPlace x1.2.1 (((view_Of h1.h.t ((gt h1.peers who1.toNat).roots)).1).known) 24 fun hlen5 => ?_
      refine Pr EPlace x1.2.2 (((view_Of h1.h.t ((gt h1.peers who1.toNat).roots)).1).way) 24 fun hlen6 => ?_
      refine Ra 10 [11] rfl Qp ?_
      refine Ra 11 [] rfl Qp ?_
      refine ra_one 12 Kr ?_
      refine rw_stA (.an rfl rfl) (.inr (by simp)) (guard_none rfl) rfl rfl rfl rfl rfl rfl rfl rfl rfl Ub rfl ?_
      refine Ra 13 [] rfl Qp ?_
      refine ra_nil Kr ?_
      (repeat refine cw_seq ?_)
      have hr3 : (hub_Sees h1 who1) = (((view_Of h1.h.t ((gt h1.peers who1.toNat).roots)).1), (view_Of h1.h.t ((gt h1.peers who1.toNat).roots)).2) := by simp only [hub_Sees, hc1, hc2, cond_true, cond_false]
      refine cw_ret ?_; rw [hr3]; exact Re ⟨x1.1, x1.2.1, x1.2.2⟩ (Va (Vt Vn))
end Go.Proofs.Ytchdacbjiomplaa

set_option maxHeartbeats 2000000
namespace Go.Proofs.Ytchdacbjiomplaa
open Go Go.Proofs.Ytchdacbjiomplaa.Fw Go.Proofs
attribute [local irreducible] RdL RdN VarP RW CW
def hub_New  : Hub :=
  (⟨(⟨([] : List Step), ([] : List Place)⟩ : History), 0, [(⟨0, 0, ([] : List Int)⟩ : Peer), (⟨0, 0, ([] : List Int)⟩ : Peer), (⟨0, 0, ([] : List Int)⟩ : Peer)]⟩ : Hub)
theorem hub_New_spec  : Does Try.prog 117 [] [] (fun (X : SlV × SlV × SlV) => .agg ⟨[X.1.val (((hub_New).h).l).length, X.2.1.val (((hub_New).h).t).length, .int .i64 ((hub_New).version), X.2.2.val ((hub_New).peers).length]⟩) (fun (X : SlV × SlV × SlV) => [RdL EStep X.1 (((hub_New).h).l), RdL EPlace X.2.1 (((hub_New).h).t), RdN NPeer X.2.2 ((hub_New).peers)]) := by
  refine does_of tab_ok Try.func117 rfl Try.ntmps117 Try.results117 rfl inferInstance (fun _ => inferInstance) fun C => ?_
  refine Tx ?_
  refine Al fun g1 => ?_
  refine Tx ?_
  refine rw_mksliceL NPeer.E (zipG (fun _ => (⟨none, 0⟩ : SlV)) 0 [(⟨0, 0, ([] : List Int)⟩ : Peer), (⟨0, 0, ([] : List Int)⟩ : Peer), (⟨0, 0, ([] : List Int)⟩ : Peer)]) .sq (guard_none rfl) rfl rfl rfl rfl rfl rfl rfl rfl rfl rfl rfl rfl rfl rfl rfl rfl rfl fun x1 x1b => ?_
  refine Fr EInt ?_
  refine rw_fact (F := FactsG NPeer (fun _ => (⟨none, 0⟩ : SlV)) [(⟨0, 0, ([] : List Int)⟩ : Peer), (⟨0, 0, ([] : List Int)⟩ : Peer), (⟨0, 0, ([] : List Int)⟩ : Peer)]) [RdL EInt (⟨none, 0⟩ : SlV) ([] : List Int)] Sm (fun M w h => FactsG.const NPeer (by intro a ha; simp only [List.mem_cons, List.not_mem_nil, or_false, or_self] at ha; subst ha; exact allF_sub Sm h)) ?_
  refine Tx ?_
  refine Fc EStep ?_
  refine Fc EPlace ?_
  refine cw_le (le_freezeL NPeer.E 144 x1 x1b (zipG (fun _ => (⟨none, 0⟩ : SlV)) 0 [(⟨0, 0, ([] : List Int)⟩ : Peer), (⟨0, 0, ([] : List Int)⟩ : Peer), (⟨0, 0, ([] : List Int)⟩ : Peer)]) Uo) ?_
  refine cw_fact (F := RdN NPeer x1 [(⟨0, 0, ([] : List Int)⟩ : Peer), (⟨0, 0, ([] : List Int)⟩ : Peer), (⟨0, 0, ([] : List Int)⟩ : Peer)]) [RdG NPeer x1 (fun _ => (⟨none, 0⟩ : SlV)) [(⟨0, 0, ([] : List Int)⟩ : Peer), (⟨0, 0, ([] : List Int)⟩ : Peer), (⟨0, 0, ([] : List Int)⟩ : Peer)], FactsG NPeer (fun _ => (⟨none, 0⟩ : SlV)) [(⟨0, 0, ([] : List Int)⟩ : Peer), (⟨0, 0, ([] : List Int)⟩ : Peer), (⟨0, 0, ([] : List Int)⟩ : Peer)]] Sm (fun M w h => RdN.ofG NPeer (h _ (.head _)) (h _ (.tail _ (.head _)))) ?_
  have hr1 : (hub_New) = (⟨(⟨([] : List Step), ([] : List Place)⟩ : History), 0, [(⟨0, 0, ([] : List Int)⟩ : Peer), (⟨0, 0, ([] : List Int)⟩ : Peer), (⟨0, 0, ([] : List Int)⟩ : Peer)]⟩ : Hub) := by simp only [hub_New, cond_true, cond_false]
  refine cw_ret ?_; rw [hr1]; exact Re ⟨(⟨none, 0⟩ : SlV), (⟨none, 0⟩ : SlV), x1⟩ (Va Vn)
end Go.Proofs.Ytchdacbjiomplaa

set_option maxHeartbeats 2000000
namespace Go.Proofs.Ytchdacbjiomplaa
open Go Go.Proofs.Ytchdacbjiomplaa.Fw Go.Proofs
attribute [local irreducible] RdL RdN VarP RW CW
theorem hub_L0_ok : ∀ {l : List Peer}, hub_Check_L0 l = 0 → ∀ p ∈ l, (0 ≤ p.life ∧ p.life ≤ 50 ∧ 0 ≤ p.seq ∧ p.seq ≤ 30) ∧ (p.life = 0 → p.seq = 0 ∧ p.roots = []) ∧ view_Roots p.roots = 0
  | [], _ => by simp
  | q :: l, h => by
    rw [hub_Check_L0] at h
    cases h1 : (((decide (q.life < 0) || decide (q.life > 50)) || decide (q.seq < 0)) || decide (q.seq > 30)) with
    | true => rw [h1, cond_true] at h; cases h
    | false =>
    rw [h1, cond_false] at h
    cases h2 : ((q.life == 0) && (decide (q.seq > 0) || decide ((q.roots.length : Int) > 0))) with
    | true => rw [h2, cond_true] at h; cases h
    | false =>
    rw [h2, cond_false] at h
    cases h3 : (view_Roots q.roots != 0) with
    | true => rw [h3, cond_true] at h; rw [h] at h3; cases h3
    | false =>
    rw [h3, cond_false] at h
    intro p hp
    rcases List.mem_cons.1 hp with rfl | hp
    · simp only [Bool.or_eq_false_iff, decide_eq_false_iff_not] at h1
      refine ⟨by omega, fun hl => ?_, eq_of_bne_false h3⟩
      simp only [Bool.and_eq_false_iff, beq_eq_false_iff_ne, Bool.or_eq_false_iff, decide_eq_false_iff_not] at h2
      rcases h2 with h2 | h2
      · exact absurd hl h2
      · exact ⟨by omega, List.length_eq_zero_iff.1 (by omega)⟩
    · exact hub_L0_ok h p hp
theorem hub_peers {h : Hub} (hc : hub_Check h = 0) : ∀ p ∈ h.peers, (0 ≤ p.life ∧ p.life ≤ 50 ∧ 0 ≤ p.seq ∧ p.seq ≤ 30) ∧ (p.life = 0 → p.seq = 0 ∧ p.roots = []) ∧ view_Roots p.roots = 0 := by
  obtain ⟨h1, h2, h3, h4⟩ := hub_Check_len hc
  have e1 : (history_Check h.h != 0) = false := by rw [h1]; rfl
  have e2 : (decide (h.version < 0) || decide (h.version > 60)) = false := by simp; omega
  have e3 : ((h.peers.length : Int) != 3) = false := by rw [h4]; rfl
  unfold hub_Check at hc
  rw [e1, cond_false, e2, cond_false, e3, cond_false] at hc
  exact hub_L0_ok hc
theorem hub_seq {h : Hub} (hc : hub_Check h = 0) : ∀ p ∈ h.peers, 0 ≤ p.seq ∧ p.seq ≤ 30 := fun p hp => by have := (hub_peers hc p hp).1; omega
theorem note_who {r : Rec} (h : note_Check r = 0) : (r.kind = 1 → 0 ≤ r.o.who ∧ r.o.who < 3) ∧ (r.kind ≠ 1 → 0 ≤ r.who ∧ r.who < 3) ∧ 1 ≤ r.kind ∧ r.kind ≤ 3 ∧ (r.kind ≠ 1 → view_Roots r.roots = 0) := by
  unfold note_Check at h
  cases h1 : (decide (r.kind < 1) || decide (r.kind > 3)) with
  | true => rw [h1, cond_true] at h; cases h
  | false =>
  rw [h1, cond_false] at h
  simp only [Bool.or_eq_false_iff, decide_eq_false_iff_not] at h1
  cases h2 : (r.kind == 1) with
  | true =>
    rw [h2, cond_true] at h
    have h2 := eq_of_beq h2
    cases h3 : (((r.who != 0) || (r.life != 0)) || decide ((r.roots.length : Int) > 0)) with
    | true => rw [h3, cond_true] at h; cases h
    | false =>
      rw [h3, cond_false, move_Check_eq] at h
      have := chkO_ok h
      exact ⟨fun _ => by omega, fun hn => absurd h2 hn, by omega, by omega, fun hn => absurd h2 hn⟩
  | false =>
    rw [h2, cond_false] at h
    have h2 := beq_eq_false_iff_ne.1 h2
    cases h3 : (((!(decide (r.o = (⟨0, 0, 0, 0, 0, 0, 0⟩ : Op)))) || ((r.kind == 3) && (r.life != 0))) || ((r.kind == 2) && decide ((r.roots.length : Int) > 0))) with
    | true => rw [h3, cond_true] at h; cases h
    | false =>
      rw [h3, cond_false] at h
      cases h4 : ((decide (r.who < 0) || decide (r.who ≥ 3)) || ((r.kind == 2) && (decide (r.life < 1) || decide (r.life > 50)))) with
      | true => rw [h4, cond_true] at h; cases h
      | false =>
        rw [h4, cond_false] at h
        simp only [Bool.or_eq_false_iff, decide_eq_false_iff_not] at h4
        exact ⟨fun he => absurd he h2, fun _ => by omega, by omega, by omega, fun _ => h⟩

def hub_accept (h1 : Hub) (o1 : Op) : Int × Hub :=
  (bif ((((gt h1.peers o1.who.toNat).life) != o1.life) || ((((gt h1.peers o1.who.toNat).seq) + 1) != o1.seq)) then (7, h1) else (bif (((history_Put h1.h o1).2) == 0) then ((history_Put h1.h o1).2, (⟨((history_Put h1.h o1).1), h1.version, (h1.peers.set o1.who.toNat (⟨(gt h1.peers o1.who.toNat).life, o1.seq, (gt h1.peers o1.who.toNat).roots⟩ : Peer))⟩ : Hub)) else ((history_Put h1.h o1).2, h1)))
theorem hub_accept_spec (c1 : Nat) (y1 : SlV) (y2 : SlV) (y3 : SlV) (y3b : Option Nat) (γ1 : Nat → SlV) (h1 : Hub) (o1 : Op) (hp : h1.peers.length = 3) (hw : 0 ≤ o1.who ∧ o1.who < 3) (hl : h1.h.l.length ≤ 1000) (hs : ∀ p ∈ h1.peers, 0 ≤ p.seq ∧ p.seq ≤ 30) : DoesG Try.prog 203 [.pointer (some ⟨c1, 0, none⟩), .agg ⟨[.int .i64 o1.time, .int .i64 o1.who, .int .i64 o1.node, .int .i64 o1.parent, .int .i64 o1.name, .int .i64 o1.life, .int .i64 o1.seq]⟩] [RdL EStep y1 h1.h.l, RdL EPlace y2 h1.h.t, FactsG NPeer γ1 h1.peers] ⟨[⟨c1, 131, [y1.val h1.h.l.length, y2.val h1.h.t.length, .int .i64 h1.version, y3.val h1.peers.length]⟩], [ownL NPeer.E 144 y3 y3b (zipG γ1 0 h1.peers)]⟩ (fun (X : SlV × SlV × SlV × Option Nat × (Nat → SlV)) => .int .i64 ((hub_accept h1 o1).1)) (fun (X : SlV × SlV × SlV × Option Nat × (Nat → SlV)) => [RdL EStep X.1 ((((hub_accept h1 o1).2).h).l), RdL EPlace X.2.1 ((((hub_accept h1 o1).2).h).t), FactsG NPeer X.2.2.2.2 (((hub_accept h1 o1).2).peers)]) (fun (X : SlV × SlV × SlV × Option Nat × (Nat → SlV)) => ⟨[⟨c1, 131, [X.1.val ((((hub_accept h1 o1).2).h).l).length, X.2.1.val ((((hub_accept h1 o1).2).h).t).length, .int .i64 (((hub_accept h1 o1).2).version), X.2.2.1.val (((hub_accept h1 o1).2).peers).length]⟩], [ownL NPeer.E 144 X.2.2.1 X.2.2.2.1 (zipG X.2.2.2.2 0 (((hub_accept h1 o1).2).peers))]⟩) := by
  refine does_ofG tab_ok Try.func203 rfl Try.ntmps203 Try.results203 rfl inferInstance (fun _ => inferInstance) fun C => ?_
  refine Tx ?_
  refine Bx fun g1 => ?_
  refine Tx ?_
  have hsb := hs (gt h1.peers o1.who.toNat) (gt_mem (by omega))
  (repeat refine cw_seq ?_); refine cw_regionA (fun _ => some []) ?_
  refine Rb 0 [4,5,6] [1,2,3,7,8] rfl Qp ?_
  refine Rb 1 [4,5,6] [2,3,7,8] rfl Qp ?_
  refine Rb 2 [4,5,6] [3,7,8] rfl Qp ?_
  refine Ra 3 [4,5,6] rfl Q1 ?_
  refine Rb 4 [] [5,6,7,8] rfl Qp ?_
  refine Rb 5 [] [6,7,8] rfl Qp ?_
  refine Ra 6 [] rfl Q1 ?_
  refine rw_qO NPeer.E (e := 144) (X := y3) (b := y3b) (l := zipG γ1 0 h1.peers) Mm (.an (i := 7) (js := []) rfl Kr Kr Kr Kr) rfl rfl rfl (q_idxN NPeer γ1 o1.who.toNat rfl rfl (fun _ => rfl) rfl (fun _ => rfl) rfl rfl rfl (.head _) rfl (fun _ => by omega) (fun _ => by first | assumption | omega | (simp only [List.length_set]; omega))) ?_
  refine Ra 8 [] rfl Qp ?_
  refine ra_nil Kr ?_
  (repeat refine cw_seq ?_); refine cw_regionA (fun _ => some []) ?_
  refine Rb 0 [4,5] [1,2,3,6,7,8,9,10,11,12,13,14,15,16] rfl Qp ?_
  refine Rb 1 [4,5] [2,3,6,7,8,9,10,11,12,13,14,15,16] rfl Qp ?_
  refine Rb 2 [4,5] [3,6,7,8,9,10,11,12,13,14,15,16] rfl (q_fae rfl rfl (fun _ => rfl) rfl rfl) ?_
  refine rw_qO NPeer.E (e := 144) (X := y3) (b := y3b) (l := zipG γ1 0 h1.peers) Mm (.ab (i := 3) (js := [4, 5]) [6, 7, 8, 9, 10, 11, 12, 13, 14, 15, 16] rfl Kr Kr Kr Kr Kr) rfl rfl rfl (q_le1N NPeer γ1 (v := .int .i64 ((gt h1.peers o1.who.toNat).life)) rfl rfl (fun _ => rfl) rfl rfl (.head _) (fun _ => by first | assumption | omega | (simp only [List.length_set]; omega)) rfl) ?_
  refine Rb 4 [] [5,6,7,8,9,10,11,12,13,14,15,16] rfl Qp ?_
  refine Rb 5 [] [6,7,8,9,10,11,12,13,14,15,16] rfl Q1 ?_
  refine Rb 6 [] [7,8,9,10,11,12,13,14,15,16] rfl Qp ?_
  refine Ra 7 [] rfl Qp ?_
  refine Gb 8 [13,14] [9,10,11,12,15,16] rfl (guard_vf rfl rfl rfl) (q_pev rfl Bt) ?_
  refine Gb 9 [13,14] [10,11,12,15,16] rfl (guard_vf rfl rfl rfl) (q_pev rfl Bt) ?_
  refine Gb 10 [13,14] [11,12,15,16] rfl (guard_vf rfl rfl rfl) (q_fae rfl rfl Bt rfl rfl) ?_
  refine rw_qgO NPeer.E (e := 144) (X := y3) (b := y3b) (l := zipG γ1 0 h1.peers) Mm (.ab (i := 11) (js := [13, 14]) [12, 15, 16] rfl Kr Kr Kr Kr Kr) (guard_vf rfl rfl rfl) rfl rfl (q_le1N NPeer γ1 (v := .int .i64 ((gt h1.peers o1.who.toNat).seq)) rfl rfl Bt rfl rfl (.head _) (by first | (intro _; first | assumption | omega | (simp only [List.length_set]; omega)) | (intro h; simp at h; omega)) rfl) ?_
  refine Gb 12 [13,14] [15,16] rfl (guard_vf rfl rfl rfl) (q_add rfl rfl Bt rfl Bt (by intro h; first | omega | (simp at h; omega))) ?_
  refine Gb 13 [] [14,15,16] rfl (guard_vf rfl rfl rfl) (q_pev rfl Bt) ?_
  refine Gb 14 [] [15,16] rfl (guard_vf rfl rfl rfl) (q_ld1 rfl rfl Bt rfl Mm rfl) ?_
  refine Ga 15 [] rfl (guard_vf rfl rfl rfl) (q_pev rfl Bt) ?_
  refine Ra 16 [] rfl (q_pev rfl Bt) ?_
  refine ra_nil Kr ?_
  (repeat refine cw_seq ?_)
  refine Cd (b := ((((gt h1.peers o1.who.toNat).life) != o1.life) || ((((gt h1.peers o1.who.toNat).seq) + 1) != o1.seq))) (fun hc1 => ?_) fun hc1 => ?_
  · refine Tx ?_
    have hr1 : (hub_accept h1 o1) = (7, h1) := by simp only [hub_accept, hc1, cond_true, cond_false]
    refine cw_ret ?_; rw [hr1]; exact Re ⟨y1, y2, y3, y3b, γ1⟩ (Vt Vn)
  · refine Tx ?_
    refine cw_join [0, 3, 4, 5] [true, true] (fun (i_ : Nat × SlV × SlV) => match i_ with | ⟨g2, x1, x2⟩ => [(6, .v (.pointer (some ⟨g2, 0, none⟩))), (7, .v (.int .i64 ((history_Put h1.h o1).2)))]) (fun (i_ : Nat × SlV × SlV) => match i_ with | ⟨g2, x1, x2⟩ => [⟨g2, 94, [x1.val (((history_Put h1.h o1).1).l).length, x2.val (((history_Put h1.h o1).1).t).length]⟩]) (fun (i_ : Nat × SlV × SlV) => match i_ with | ⟨g2, x1, x2⟩ => [ownL NPeer.E 144 y3 y3b (zipG γ1 0 h1.peers)]) (fun (i_ : Nat × SlV × SlV) => match i_ with | ⟨g2, x1, x2⟩ => [RdL EStep x1 (((history_Put h1.h o1).1).l), RdL EPlace x2 (((history_Put h1.h o1).1).t)]) (fun _ => True) (.cons rfl (.cons rfl (.cons rfl (.cons rfl (.nil _))))) (.keep (.keep (.nil))) ?_ ?_
    · refine cw_regionA (fun j => match j with | 10 => none | _ => some []) ?_
      refine Rb 0 [4,9] [1,2,3,5,6,7,8,10,11] rfl Qp ?_
      refine Rb 1 [4,9] [2,3,5,6,7,8,10,11] rfl Qp ?_
      refine Rb 2 [4,9] [3,5,6,7,8,10,11] rfl Qp ?_
      refine Rb 3 [4,9] [5,6,7,8,10,11] rfl (q_ldP rfl rfl (fun _ => rfl) rfl Mm rfl) ?_
      refine Rb 4 [9] [5,6,7,8,10,11] rfl (q_ldA rfl rfl (fun _ => rfl) rfl Mm rfl) ?_
      refine ra_two 5 9 Kr ?_ ?_
      · refine rw_call (history_Put_spec y1 y2 h1.h o1 (by first | assumption | omega)) (.an rfl rfl) (guard_none rfl) rfl rfl rfl Kr rfl rfl Sm ?_
        intro x3
        refine Pr EStep x3.1 (((history_Put h1.h o1).1).l) 88 fun hlen1 => ?_
        refine Pr EPlace x3.2 (((history_Put h1.h o1).1).t) 24 fun hlen2 => ?_
        refine Ra 6 [9] rfl Qp ?_
        refine Ra 7 [8,9] rfl Qp ?_
        refine ra_p (.an (i := 8) (js := [9, 10]) rfl Kr Kr Kr Kr) rfl rfl rfl (q_pev rfl (fun _ => rfl)) ?_
        refine ra_one 9 Kr ?_
        refine rw_alloc (.an rfl rfl) (guard_none rfl) rfl rfl rfl rfl fun g3 => ?_
        refine ra_one 10 Kr ?_
        refine rw_stA (.lo [g3] rfl rfl) (.inr (by simp)) (guard_none rfl) rfl rfl rfl rfl rfl rfl rfl rfl rfl Ub rfl ?_
        refine Ra 11 [] rfl Qp ?_
        refine ra_nil Kr ?_
        refine ⟨⟨g3, x3.1, x3.2⟩, trivial, Le4⟩
      · refine rw_alloc (.an rfl rfl) (guard_none rfl) rfl rfl rfl rfl fun g4 => ?_
        refine ra_one 5 Kr ?_
        refine rw_call (history_Put_spec y1 y2 h1.h o1 (by first | assumption | omega)) (.an rfl rfl) (guard_none rfl) rfl rfl rfl Kr rfl rfl Sm ?_
        intro x4
        refine Pr EStep x4.1 (((history_Put h1.h o1).1).l) 88 fun hlen3 => ?_
        refine Pr EPlace x4.2 (((history_Put h1.h o1).1).t) 24 fun hlen4 => ?_
        refine Ra 6 [] rfl Qp ?_
        refine Ra 7 [8] rfl Qp ?_
        refine ra_p (.an (i := 8) (js := [10]) rfl Kr Kr Kr Kr) rfl rfl rfl (q_pev rfl (fun _ => rfl)) ?_
        refine ra_one 10 Kr ?_
        refine rw_stA (.lo [g4] rfl rfl) (.inr (by simp)) (guard_none rfl) rfl rfl rfl rfl rfl rfl rfl rfl rfl Ub rfl ?_
        refine Ra 11 [] rfl Qp ?_
        refine ra_nil Kr ?_
        refine ⟨⟨g4, x4.1, x4.2⟩, trivial, Le4⟩
    · rintro ⟨g2, x1, x2⟩ -
      simp only [List.cons_append, List.nil_append]
      refine Tx ?_
      refine Cd (b := (((history_Put h1.h o1).2) == 0)) (fun hc2 => ?_) fun hc2 => ?_
      · have hc2p := eq_of_beq hc2
        (repeat refine cw_seq ?_); refine cw_regionA (fun j => match j with | 7 => none | 10 => none | _ => some []) ?_
        refine Ra 0 [1,2,3,4] rfl Qp ?_
        refine ra_p (.an (i := 1) (js := [2, 3, 4, 5, 6, 7]) rfl Kr Kr Kr Kr) rfl rfl rfl (q_pev rfl (fun _ => rfl)) ?_
        refine Ra 2 [3,4] rfl (q_ldA rfl rfl (fun _ => rfl) rfl Mm rfl) ?_
        refine ra_p (.an (i := 3) (js := [5, 6, 7]) rfl Kr Kr Kr Kr) rfl rfl rfl (q_pev rfl (fun _ => rfl)) ?_
        refine Rb 5 [4] [6,7,8,9,10] rfl Qp ?_
        refine Ra 6 [4] rfl Qp ?_
        refine ra_two 4 7 Kr ?_ ?_
        · refine ra_now rfl rfl rfl rfl (q_ld1 rfl rfl (fun _ => rfl) rfl Mm rfl) ?_
          refine ra_one 7 Kr ?_
          refine rw_stP (.lo [c1] rfl rfl) (.inr (by simp)) (guard_none rfl) rfl rfl rfl rfl rfl rfl rfl rfl rfl Ub rfl ?_
          refine Rb 8 [] [9,10] rfl Qp ?_
          refine Ra 9 [] rfl (q_fae rfl rfl (fun _ => rfl) rfl rfl) ?_
          refine ra_one 10 Kr ?_
          refine rw_stON NPeer γ1 h1.peers o1.who.toNat 1 (γ1 o1.who.toNat) (⟨(gt h1.peers o1.who.toNat).life, o1.seq, (gt h1.peers o1.who.toNat).roots⟩ : Peer) (e := 144) (X := y3) (b := y3b) (.lo y3b.toList rfl rfl) (.inr (fun g h => by simp [h])) (guard_none rfl) rfl rfl rfl rfl rfl rfl rfl rfl rfl rfl rfl (by first | assumption | omega | (simp only [List.length_set]; omega)) rfl Uo ?_
          refine rw_fact (F := RdL EInt (γ1 o1.who.toNat) ((gt h1.peers o1.who.toNat).roots)) [FactsG NPeer γ1 h1.peers] Sm (fun M w h => (allF1 h) o1.who.toNat (by first | assumption | omega) _ (.head _)) ?_
          refine rw_fact (F := FactsG NPeer (updG γ1 o1.who.toNat (γ1 o1.who.toNat)) (h1.peers.set o1.who.toNat (⟨(gt h1.peers o1.who.toNat).life, o1.seq, (gt h1.peers o1.who.toNat).roots⟩ : Peer))) [FactsG NPeer γ1 h1.peers, RdL EInt (γ1 o1.who.toNat) ((gt h1.peers o1.who.toNat).roots)] Sm (fun M w h => FactsG.upd NPeer (h _ (.head _)) (allF_sub Sm h)) ?_
          have hv1 : y3.val h1.peers.length = y3.val (h1.peers.set o1.who.toNat (⟨(gt h1.peers o1.who.toNat).life, o1.seq, (gt h1.peers o1.who.toNat).roots⟩ : Peer)).length := congrArg (SlV.val y3) List.length_set.symm
          try rw [hv1]
          refine ra_nil Kr ?_
          refine Tx ?_
          have hr2 : (hub_accept h1 o1) = ((history_Put h1.h o1).2, (⟨((history_Put h1.h o1).1), h1.version, (h1.peers.set o1.who.toNat (⟨(gt h1.peers o1.who.toNat).life, o1.seq, (gt h1.peers o1.who.toNat).roots⟩ : Peer))⟩ : Hub)) := by simp only [hub_accept, hc1, hc2, cond_true, cond_false]
          refine cw_ret ?_; rw [hr2]; exact Re ⟨x1, x2, y3, y3b, (updG γ1 o1.who.toNat (γ1 o1.who.toNat))⟩ (Vt Vn)
        · refine rw_stP (.lo [c1] rfl rfl) (.inr (by simp)) (guard_none rfl) rfl rfl rfl rfl rfl rfl rfl rfl rfl Ub rfl ?_
          refine Ra 4 [] rfl Q1 ?_
          refine Rb 8 [] [9,10] rfl Qp ?_
          refine Ra 9 [] rfl (q_fae rfl rfl (fun _ => rfl) rfl rfl) ?_
          refine ra_one 10 Kr ?_
          refine rw_stON NPeer γ1 h1.peers o1.who.toNat 1 (γ1 o1.who.toNat) (⟨(gt h1.peers o1.who.toNat).life, o1.seq, (gt h1.peers o1.who.toNat).roots⟩ : Peer) (e := 144) (X := y3) (b := y3b) (.lo y3b.toList rfl rfl) (.inr (fun g h => by simp [h])) (guard_none rfl) rfl rfl rfl rfl rfl rfl rfl rfl rfl rfl rfl (by first | assumption | omega | (simp only [List.length_set]; omega)) rfl Uo ?_
          refine rw_fact (F := RdL EInt (γ1 o1.who.toNat) ((gt h1.peers o1.who.toNat).roots)) [FactsG NPeer γ1 h1.peers] Sm (fun M w h => (allF1 h) o1.who.toNat (by first | assumption | omega) _ (.head _)) ?_
          refine rw_fact (F := FactsG NPeer (updG γ1 o1.who.toNat (γ1 o1.who.toNat)) (h1.peers.set o1.who.toNat (⟨(gt h1.peers o1.who.toNat).life, o1.seq, (gt h1.peers o1.who.toNat).roots⟩ : Peer))) [FactsG NPeer γ1 h1.peers, RdL EInt (γ1 o1.who.toNat) ((gt h1.peers o1.who.toNat).roots)] Sm (fun M w h => FactsG.upd NPeer (h _ (.head _)) (allF_sub Sm h)) ?_
          have hv2 : y3.val h1.peers.length = y3.val (h1.peers.set o1.who.toNat (⟨(gt h1.peers o1.who.toNat).life, o1.seq, (gt h1.peers o1.who.toNat).roots⟩ : Peer)).length := congrArg (SlV.val y3) List.length_set.symm
          try rw [hv2]
          refine ra_nil Kr ?_
          refine Tx ?_
          have hr3 : (hub_accept h1 o1) = ((history_Put h1.h o1).2, (⟨((history_Put h1.h o1).1), h1.version, (h1.peers.set o1.who.toNat (⟨(gt h1.peers o1.who.toNat).life, o1.seq, (gt h1.peers o1.who.toNat).roots⟩ : Peer))⟩ : Hub)) := by simp only [hub_accept, hc1, hc2, cond_true, cond_false]
          refine cw_ret ?_; rw [hr3]; exact Re ⟨x1, x2, y3, y3b, (updG γ1 o1.who.toNat (γ1 o1.who.toNat))⟩ (Vt Vn)
      · have hc2p := ne_of_beq_false hc2
        refine Tx ?_
        have hr4 : (hub_accept h1 o1) = ((history_Put h1.h o1).2, h1) := by simp only [hub_accept, hc1, hc2, cond_true, cond_false]
        refine cw_ret ?_; rw [hr4]; exact Re ⟨y1, y2, y3, y3b, γ1⟩ (Vt Vn)
end Go.Proofs.Ytchdacbjiomplaa

set_option maxHeartbeats 2000000
namespace Go.Proofs.Ytchdacbjiomplaa
open Go Go.Proofs.Ytchdacbjiomplaa.Fw Go.Proofs
attribute [local irreducible] RdL RdN VarP RW CW
def hub_next (h1 : Hub) (r1 : Rec) : Hub × Int :=
  (bif ((note_Check r1) != 0) then ((⟨(⟨([] : List Step), ([] : List Place)⟩ : History), 0, ([] : List Peer)⟩ : Hub), (note_Check r1)) else (bif (h1.version == 60) then ((⟨(⟨([] : List Step), ([] : List Place)⟩ : History), 0, ([] : List Peer)⟩ : Hub), 2) else (bif (r1.kind == 1) then (bif (((hub_accept (⟨h1.h, (h1.version + 1), h1.peers⟩ : Hub) r1.o).1) != 0) then ((⟨(⟨([] : List Step), ([] : List Place)⟩ : History), 0, ([] : List Peer)⟩ : Hub), (hub_accept (⟨h1.h, (h1.version + 1), h1.peers⟩ : Hub) r1.o).1) else (((hub_accept (⟨h1.h, (h1.version + 1), h1.peers⟩ : Hub) r1.o).2), 0)) else (bif (r1.kind == 2) then (bif (r1.life != (((gt h1.peers r1.who.toNat).life) + 1)) then ((⟨(⟨([] : List Step), ([] : List Place)⟩ : History), 0, ([] : List Peer)⟩ : Hub), 7) else ((⟨h1.h, (h1.version + 1), (h1.peers.set r1.who.toNat (⟨r1.life, 0, ([] : List Int)⟩ : Peer))⟩ : Hub), 0)) else (bif (r1.kind == 3) then (bif (((gt h1.peers r1.who.toNat).life) == 0) then ((⟨(⟨([] : List Step), ([] : List Place)⟩ : History), 0, ([] : List Peer)⟩ : Hub), 5) else ((⟨h1.h, (h1.version + 1), (h1.peers.set r1.who.toNat (⟨(gt h1.peers r1.who.toNat).life, (gt h1.peers r1.who.toNat).seq, r1.roots⟩ : Peer))⟩ : Hub), 0)) else ((⟨h1.h, (h1.version + 1), h1.peers⟩ : Hub), 0))))))
theorem hub_next_spec (y1 : SlV) (y2 : SlV) (y3 : SlV) (h1 : Hub) (y4 : SlV) (r1 : Rec) (hk : hub_Check h1 = 0) : Does Try.prog 173 [.agg ⟨[y1.val h1.h.l.length, y2.val h1.h.t.length, .int .i64 h1.version, y3.val h1.peers.length]⟩, .agg ⟨[.int .i64 r1.kind, .int .i64 r1.who, .int .i64 r1.life, y4.val r1.roots.length, .int .i64 r1.o.time, .int .i64 r1.o.who, .int .i64 r1.o.node, .int .i64 r1.o.parent, .int .i64 r1.o.name, .int .i64 r1.o.life, .int .i64 r1.o.seq]⟩] [RdL EStep y1 h1.h.l, RdL EPlace y2 h1.h.t, RdN NPeer y3 h1.peers, RdL EInt y4 r1.roots] (fun (X : SlV × SlV × SlV) => .tuple #[.agg ⟨[X.1.val ((((hub_next h1 r1).1).h).l).length, X.2.1.val ((((hub_next h1 r1).1).h).t).length, .int .i64 (((hub_next h1 r1).1).version), X.2.2.val (((hub_next h1 r1).1).peers).length]⟩, .int .i64 ((hub_next h1 r1).2)]) (fun (X : SlV × SlV × SlV) => [RdL EStep X.1 ((((hub_next h1 r1).1).h).l), RdL EPlace X.2.1 ((((hub_next h1 r1).1).h).t), RdN NPeer X.2.2 (((hub_next h1 r1).1).peers)]) := by
  refine does_of tab_ok Try.func173 rfl Try.ntmps173 Try.results173 rfl inferInstance (fun _ => inferInstance) fun C => ?_
  refine Pc EStep y1 h1.h.l 88 fun hlen1 => ?_
  refine Pc EPlace y2 h1.h.t 24 fun hlen2 => ?_
  refine Pn NPeer y3 h1.peers 40 fun hlen3 => ?_
  refine Pc EInt y4 r1.roots 8 fun hlen4 => ?_
  refine Tx ?_
  refine Bx fun g1 => ?_
  refine Bx fun g2 => ?_
  refine Al fun g3 => ?_
  refine Tx ?_
  refine Cl (note_Check_spec y4 r1) fun _ => ?_
  refine Tx ?_
  refine Cd (b := ((note_Check r1) != 0)) (fun hc1 => ?_) fun hc1 => ?_
  · have hc1p := bne_iff_ne.1 hc1
    refine Tx ?_
    refine Fc EStep ?_
    refine Fc EPlace ?_
    refine cw_fact (F := RdN NPeer ⟨none, 0⟩ ([] : List Peer)) [] (.nil _) (fun M w _ => RdN.nil _ M w) ?_
    have hr1 : (hub_next h1 r1) = ((⟨(⟨([] : List Step), ([] : List Place)⟩ : History), 0, ([] : List Peer)⟩ : Hub), (note_Check r1)) := by simp only [hub_next, hc1, cond_true, cond_false]
    refine cw_ret ?_; rw [hr1]; exact Re ⟨(⟨none, 0⟩ : SlV), (⟨none, 0⟩ : SlV), (⟨none, 0⟩ : SlV)⟩ (Va (Vt Vn))
  · have hc1p := eq_of_bne_false hc1
    have hnw := note_who (eq_of_bne_false hc1)
    have hcl := hub_Check_len hk
    have hcq := history_Check_len hcl.1
    have hsq := hub_seq hk
    refine Tx ?_
    refine Cd (b := (h1.version == 60)) (fun hc2 => ?_) fun hc2 => ?_
    · have hc2p := eq_of_beq hc2
      refine Tx ?_
      refine Fc EStep ?_
      refine Fc EPlace ?_
      refine cw_fact (F := RdN NPeer ⟨none, 0⟩ ([] : List Peer)) [] (.nil _) (fun M w _ => RdN.nil _ M w) ?_
      have hr2 : (hub_next h1 r1) = ((⟨(⟨([] : List Step), ([] : List Place)⟩ : History), 0, ([] : List Peer)⟩ : Hub), 2) := by simp only [hub_next, hc1, hc2, cond_true, cond_false]
      refine cw_ret ?_; rw [hr2]; exact Re ⟨(⟨none, 0⟩ : SlV), (⟨none, 0⟩ : SlV), (⟨none, 0⟩ : SlV)⟩ (Va (Vt Vn))
    · have hc2p := ne_of_beq_false hc2
      refine Tx ?_
      refine Cg (hub_Copy_spec' y1 y2 y3 h1) fun x1 => ?_
      refine Pr EStep x1.1 h1.h.l 88 fun hlen5 => ?_
      refine Pr EPlace x1.2.1 h1.h.t 24 fun hlen6 => ?_
      refine Tx ?_
      refine rw_q rfl rfl rfl (q_add rfl rfl (fun _ => rfl) rfl (fun _ => rfl) (fun _ => by omega)) ?_
      refine Tx ?_
      refine Cd (b := (r1.kind == 1)) (fun hc3 => ?_) fun hc3 => ?_
      · have hc3p := eq_of_beq hc3
        refine Tx ?_
        refine rw_callG (hub_accept_spec g1 x1.1 x1.2.1 x1.2.2.1 x1.2.2.2.1 x1.2.2.2.2 (⟨h1.h, (h1.version + 1), h1.peers⟩ : Hub) r1.o hcl.2.2.2 (hnw.1 (by assumption)) (Nat.le_trans hcq (by omega)) hsq) .sq (.inl ⟨_, rfl⟩) (guard_none rfl) rfl rfl rfl Kr rfl rfl Sm (by first | exact .cons (.here _ _) (.nil _) | exact .cons (.there _ (.here _ _)) (.nil _) | exact .cons (.there _ (.there _ (.here _ _))) (.nil _) | exact .cons (.there _ (.there _ (.there _ (.here _ _)))) (.nil _)) (by first | exact .cons (.here _ _) (.nil _) | exact .cons (.there _ (.here _ _)) (.nil _) | exact .cons (.there _ (.there _ (.here _ _))) (.nil _) | exact .cons (.there _ (.there _ (.there _ (.here _ _)))) (.nil _)) ?_
        intro x2
        refine Tx ?_
        refine Cd (b := (((hub_accept (⟨h1.h, (h1.version + 1), h1.peers⟩ : Hub) r1.o).1) != 0)) (fun hc4 => ?_) fun hc4 => ?_
        · have hc4p := bne_iff_ne.1 hc4
          refine Tx ?_
          refine Fc EStep ?_
          refine Fc EPlace ?_
          refine cw_fact (F := RdN NPeer ⟨none, 0⟩ ([] : List Peer)) [] (.nil _) (fun M w _ => RdN.nil _ M w) ?_
          have hr3 : (hub_next h1 r1) = ((⟨(⟨([] : List Step), ([] : List Place)⟩ : History), 0, ([] : List Peer)⟩ : Hub), (hub_accept (⟨h1.h, (h1.version + 1), h1.peers⟩ : Hub) r1.o).1) := by simp only [hub_next, hc1, hc2, hc3, hc4, cond_true, cond_false]
          refine cw_ret ?_; rw [hr3]; exact Re ⟨(⟨none, 0⟩ : SlV), (⟨none, 0⟩ : SlV), (⟨none, 0⟩ : SlV)⟩ (Va (Vt Vn))
        · have hc4p := eq_of_bne_false hc4
          refine Tx ?_
          refine cw_le (le_freezeL NPeer.E 144 x2.2.2.1 x2.2.2.2.1 (zipG x2.2.2.2.2 0 (((hub_accept (⟨h1.h, (h1.version + 1), h1.peers⟩ : Hub) r1.o).2).peers)) Uo) ?_
          refine cw_fact (F := RdN NPeer x2.2.2.1 (((hub_accept (⟨h1.h, (h1.version + 1), h1.peers⟩ : Hub) r1.o).2).peers)) [RdG NPeer x2.2.2.1 x2.2.2.2.2 (((hub_accept (⟨h1.h, (h1.version + 1), h1.peers⟩ : Hub) r1.o).2).peers), FactsG NPeer x2.2.2.2.2 (((hub_accept (⟨h1.h, (h1.version + 1), h1.peers⟩ : Hub) r1.o).2).peers)] Sm (fun M w h => RdN.ofG NPeer (h _ (.head _)) (h _ (.tail _ (.head _)))) ?_
          have hr4 : (hub_next h1 r1) = (((hub_accept (⟨h1.h, (h1.version + 1), h1.peers⟩ : Hub) r1.o).2), 0) := by simp only [hub_next, hc1, hc2, hc3, hc4, cond_true, cond_false]
          refine cw_ret ?_; rw [hr4]; exact Re ⟨x2.1, x2.2.1, x2.2.2.1⟩ (Va (Vt Vn))
      · have hc3p := ne_of_beq_false hc3
        refine Tx ?_
        refine Cd (b := (r1.kind == 2)) (fun hc5 => ?_) fun hc5 => ?_
        · have hc5p := eq_of_beq hc5
          have hlb := (hub_peers hk (gt h1.peers r1.who.toNat) (gt_mem (by omega))).1
          (repeat refine cw_seq ?_); refine cw_regionA (fun _ => some []) ?_
          refine Rb 0 [2,3,4,5,6,7,8,9] [1,10] rfl Qp ?_
          refine Ra 1 [2,3,4,5,6,7,8,9] rfl Q1 ?_
          refine Rb 2 [4,5] [3,6,7,8,9,10] rfl Qp ?_
          refine Rb 3 [4,5] [6,7,8,9,10] rfl Q1 ?_
          refine Rb 4 [] [5,6,7,8,9,10] rfl Qp ?_
          refine Rb 5 [] [6,7,8,9,10] rfl Q1 ?_
          refine rw_qO NPeer.E (e := 144) (X := x1.2.2.1) (b := x1.2.2.2.1) (l := zipG x1.2.2.2.2 0 h1.peers) Mm (.ab (i := 6) (js := []) [7, 8, 9, 10] rfl Kr Kr Kr Kr Kr) rfl rfl rfl (q_idxN NPeer x1.2.2.2.2 r1.who.toNat rfl rfl (fun _ => rfl) rfl (fun _ => rfl) rfl rfl rfl (.head _) rfl (fun _ => by omega) (fun _ => by first | assumption | omega | (simp only [List.length_set]; omega))) ?_
          refine Rb 7 [] [8,9,10] rfl (q_fae rfl rfl (fun _ => rfl) rfl rfl) ?_
          refine rw_qO NPeer.E (e := 144) (X := x1.2.2.1) (b := x1.2.2.2.1) (l := zipG x1.2.2.2.2 0 h1.peers) Mm (.ab (i := 8) (js := []) [9, 10] rfl Kr Kr Kr Kr Kr) rfl rfl rfl (q_le1N NPeer x1.2.2.2.2 (v := .int .i64 ((gt h1.peers r1.who.toNat).life)) rfl rfl (fun _ => rfl) rfl rfl (.head _) (fun _ => by first | assumption | omega | (simp only [List.length_set]; omega)) rfl) ?_
          refine Ra 9 [] rfl (q_add rfl rfl (fun _ => rfl) rfl (fun _ => rfl) (fun _ => by omega)) ?_
          refine Ra 10 [] rfl Qp ?_
          refine ra_nil Kr ?_
          (repeat refine cw_seq ?_)
          refine Cd (b := (r1.life != (((gt h1.peers r1.who.toNat).life) + 1))) (fun hc6 => ?_) fun hc6 => ?_
          · have hc6p := bne_iff_ne.1 hc6
            refine Tx ?_
            refine rw_qO NPeer.E (e := 144) (X := x1.2.2.1) (b := x1.2.2.2.1) (l := zipG x1.2.2.2.2 0 h1.peers) Mm .sq rfl rfl rfl (q_idxN NPeer x1.2.2.2.2 r1.who.toNat rfl rfl (fun _ => rfl) rfl (fun _ => rfl) rfl rfl rfl (.head _) rfl (fun _ => by omega) (fun _ => by first | assumption | omega | (simp only [List.length_set]; omega))) ?_
            refine Fr EInt ?_
            refine rw_stON NPeer x1.2.2.2.2 h1.peers r1.who.toNat 0 (⟨none, 0⟩ : SlV) (⟨r1.life, 0, ([] : List Int)⟩ : Peer) (e := 144) (X := x1.2.2.1) (b := x1.2.2.2.1) .sq (.inl ⟨_, rfl⟩) (guard_none rfl) rfl rfl rfl rfl rfl rfl rfl rfl rfl rfl rfl (by first | assumption | omega | (simp only [List.length_set]; omega)) rfl Uo ?_
            refine rw_fact (F := FactsG NPeer (updG x1.2.2.2.2 r1.who.toNat (⟨none, 0⟩ : SlV)) (h1.peers.set r1.who.toNat (⟨r1.life, 0, ([] : List Int)⟩ : Peer))) [FactsG NPeer x1.2.2.2.2 h1.peers, RdL EInt (⟨none, 0⟩ : SlV) ([] : List Int)] Sm (fun M w h => FactsG.upd NPeer (h _ (.head _)) (allF_sub Sm h)) ?_
            have hv1 : x1.2.2.1.val h1.peers.length = x1.2.2.1.val (h1.peers.set r1.who.toNat (⟨r1.life, 0, ([] : List Int)⟩ : Peer)).length := congrArg (SlV.val x1.2.2.1) List.length_set.symm
            try rw [hv1]
            refine Tx ?_
            refine Cd (b := ((7 : Int) != 0)) (fun hc7 => ?_) fun hc7 => ?_
            · refine Tx ?_
              refine Fc EStep ?_
              refine Fc EPlace ?_
              refine cw_fact (F := RdN NPeer ⟨none, 0⟩ ([] : List Peer)) [] (.nil _) (fun M w _ => RdN.nil _ M w) ?_
              have hr5 : (hub_next h1 r1) = ((⟨(⟨([] : List Step), ([] : List Place)⟩ : History), 0, ([] : List Peer)⟩ : Hub), 7) := by simp only [hub_next, hc1, hc2, hc3, hc5, hc6, cond_true, cond_false]
              refine cw_ret ?_; rw [hr5]; exact Re ⟨(⟨none, 0⟩ : SlV), (⟨none, 0⟩ : SlV), (⟨none, 0⟩ : SlV)⟩ (Va (Vt Vn))
            · exact Bool.noConfusion (hc7.symm.trans (show ((7 : Int) != 0) = true by decide))
          · have hc6p := eq_of_bne_false hc6
            refine Tx ?_
            refine rw_qO NPeer.E (e := 144) (X := x1.2.2.1) (b := x1.2.2.2.1) (l := zipG x1.2.2.2.2 0 h1.peers) Mm .sq rfl rfl rfl (q_idxN NPeer x1.2.2.2.2 r1.who.toNat rfl rfl (fun _ => rfl) rfl (fun _ => rfl) rfl rfl rfl (.head _) rfl (fun _ => by omega) (fun _ => by first | assumption | omega | (simp only [List.length_set]; omega))) ?_
            refine Fr EInt ?_
            refine rw_stON NPeer x1.2.2.2.2 h1.peers r1.who.toNat 0 (⟨none, 0⟩ : SlV) (⟨r1.life, 0, ([] : List Int)⟩ : Peer) (e := 144) (X := x1.2.2.1) (b := x1.2.2.2.1) .sq (.inl ⟨_, rfl⟩) (guard_none rfl) rfl rfl rfl rfl rfl rfl rfl rfl rfl rfl rfl (by first | assumption | omega | (simp only [List.length_set]; omega)) rfl Uo ?_
            refine rw_fact (F := FactsG NPeer (updG x1.2.2.2.2 r1.who.toNat (⟨none, 0⟩ : SlV)) (h1.peers.set r1.who.toNat (⟨r1.life, 0, ([] : List Int)⟩ : Peer))) [FactsG NPeer x1.2.2.2.2 h1.peers, RdL EInt (⟨none, 0⟩ : SlV) ([] : List Int)] Sm (fun M w h => FactsG.upd NPeer (h _ (.head _)) (allF_sub Sm h)) ?_
            have hv2 : x1.2.2.1.val h1.peers.length = x1.2.2.1.val (h1.peers.set r1.who.toNat (⟨r1.life, 0, ([] : List Int)⟩ : Peer)).length := congrArg (SlV.val x1.2.2.1) List.length_set.symm
            try rw [hv2]
            refine Tx ?_
            refine Cd (b := ((0 : Int) != 0)) (fun hc8 => ?_) fun hc8 => ?_
            · exact Bool.noConfusion (hc8.symm.trans (show ((0 : Int) != 0) = false by decide))
            · refine Tx ?_
              refine cw_le (le_freezeL NPeer.E 144 x1.2.2.1 x1.2.2.2.1 (zipG (updG x1.2.2.2.2 r1.who.toNat (⟨none, 0⟩ : SlV)) 0 (h1.peers.set r1.who.toNat (⟨r1.life, 0, ([] : List Int)⟩ : Peer))) Uo) ?_
              refine cw_fact (F := RdN NPeer x1.2.2.1 (h1.peers.set r1.who.toNat (⟨r1.life, 0, ([] : List Int)⟩ : Peer))) [RdG NPeer x1.2.2.1 (updG x1.2.2.2.2 r1.who.toNat (⟨none, 0⟩ : SlV)) (h1.peers.set r1.who.toNat (⟨r1.life, 0, ([] : List Int)⟩ : Peer)), FactsG NPeer (updG x1.2.2.2.2 r1.who.toNat (⟨none, 0⟩ : SlV)) (h1.peers.set r1.who.toNat (⟨r1.life, 0, ([] : List Int)⟩ : Peer))] Sm (fun M w h => RdN.ofG NPeer (h _ (.head _)) (h _ (.tail _ (.head _)))) ?_
              have hr6 : (hub_next h1 r1) = ((⟨h1.h, (h1.version + 1), (h1.peers.set r1.who.toNat (⟨r1.life, 0, ([] : List Int)⟩ : Peer))⟩ : Hub), 0) := by simp only [hub_next, hc1, hc2, hc3, hc5, hc6, cond_true, cond_false]
              refine cw_ret ?_; rw [hr6]; exact Re ⟨x1.1, x1.2.1, x1.2.2.1⟩ (Va (Vt Vn))
        · have hc5p := ne_of_beq_false hc5
          refine Tx ?_
          refine Cd (b := (r1.kind == 3)) (fun hc9 => ?_) fun hc9 => ?_
          · have hc9p := eq_of_beq hc9
            refine Tx ?_
            refine rw_qO NPeer.E (e := 144) (X := x1.2.2.1) (b := x1.2.2.2.1) (l := zipG x1.2.2.2.2 0 h1.peers) Mm .sq rfl rfl rfl (q_idxN NPeer x1.2.2.2.2 r1.who.toNat rfl rfl (fun _ => rfl) rfl (fun _ => rfl) rfl rfl rfl (.head _) rfl (fun _ => by omega) (fun _ => by first | assumption | omega | (simp only [List.length_set]; omega))) ?_
            refine rw_q rfl rfl rfl (q_fae rfl rfl (fun _ => rfl) rfl rfl) ?_
            refine rw_qO NPeer.E (e := 144) (X := x1.2.2.1) (b := x1.2.2.2.1) (l := zipG x1.2.2.2.2 0 h1.peers) Mm .sq rfl rfl rfl (q_le1N NPeer x1.2.2.2.2 (v := .int .i64 ((gt h1.peers r1.who.toNat).life)) rfl rfl (fun _ => rfl) rfl rfl (.head _) (fun _ => by first | assumption | omega | (simp only [List.length_set]; omega)) rfl) ?_
            refine Tx ?_
            refine Cd (b := (((gt h1.peers r1.who.toNat).life) == 0)) (fun hc10 => ?_) fun hc10 => ?_
            · have hc10p := eq_of_beq hc10
              refine Tx ?_
              (repeat refine cw_seq ?_); refine cw_regionA (fun j => match j with | 9 => some x1.2.2.2.1.toList | _ => some []) ?_
              refine Ra 0 [2,3,4,5,6] rfl Qp ?_
              refine Ra 1 [2,3,4,5,6] rfl Q1 ?_
              refine Ra 2 [4,5,6] rfl Qp ?_
              refine Ra 3 [4,5,6] rfl Q1 ?_
              refine Rb 4 [] [5,6,7,8,9] rfl Qp ?_
              refine Ra 5 [] rfl Q1 ?_
              refine ra_one 6 Kr ?_
              refine rw_callG (slices_Clone_Int_spec y4 r1.roots) (.an rfl rfl) (.inr (by simp [Lent.ids])) (guard_none rfl) rfl rfl rfl Kr rfl rfl Sm (.nil _) (.nil _) ?_
              intro x3
              refine rw_qO NPeer.E (e := 144) (X := x1.2.2.1) (b := x1.2.2.2.1) (l := zipG x1.2.2.2.2 0 h1.peers) Mm (.ab (i := 7) (js := []) [8, 9] rfl Kr Kr Kr Kr Kr) rfl rfl rfl (q_idxN NPeer x1.2.2.2.2 r1.who.toNat rfl rfl (fun _ => rfl) rfl (fun _ => rfl) rfl rfl rfl (.head _) rfl (fun _ => by omega) (fun _ => by first | assumption | omega | (simp only [List.length_set]; omega))) ?_
              refine Ra 8 [] rfl (q_fae rfl rfl (fun _ => rfl) rfl rfl) ?_
              refine ra_one 9 Kr ?_
              refine rw_le (le_freezeL EInt 3 x3.1 x3.2 r1.roots Uo) ?_
              refine rw_stON NPeer x1.2.2.2.2 h1.peers r1.who.toNat 2 x3.1 (⟨(gt h1.peers r1.who.toNat).life, (gt h1.peers r1.who.toNat).seq, r1.roots⟩ : Peer) (e := 144) (X := x1.2.2.1) (b := x1.2.2.2.1) (.an rfl rfl) (.inr (fun g h => by simp [h])) (guard_none rfl) rfl rfl rfl rfl rfl rfl rfl rfl rfl rfl rfl (by first | assumption | omega | (simp only [List.length_set]; omega)) rfl Uo ?_
              refine rw_fact (F := FactsG NPeer (updG x1.2.2.2.2 r1.who.toNat x3.1) (h1.peers.set r1.who.toNat (⟨(gt h1.peers r1.who.toNat).life, (gt h1.peers r1.who.toNat).seq, r1.roots⟩ : Peer))) [FactsG NPeer x1.2.2.2.2 h1.peers, RdL EInt x3.1 r1.roots] Sm (fun M w h => FactsG.upd NPeer (h _ (.head _)) (allF_sub Sm h)) ?_
              have hv3 : x1.2.2.1.val h1.peers.length = x1.2.2.1.val (h1.peers.set r1.who.toNat (⟨(gt h1.peers r1.who.toNat).life, (gt h1.peers r1.who.toNat).seq, r1.roots⟩ : Peer)).length := congrArg (SlV.val x1.2.2.1) List.length_set.symm
              try rw [hv3]
              refine ra_nil Kr ?_
              refine Tx ?_
              refine Cd (b := ((5 : Int) != 0)) (fun hc11 => ?_) fun hc11 => ?_
              · refine Tx ?_
                refine Fc EStep ?_
                refine Fc EPlace ?_
                refine cw_fact (F := RdN NPeer ⟨none, 0⟩ ([] : List Peer)) [] (.nil _) (fun M w _ => RdN.nil _ M w) ?_
                have hr7 : (hub_next h1 r1) = ((⟨(⟨([] : List Step), ([] : List Place)⟩ : History), 0, ([] : List Peer)⟩ : Hub), 5) := by simp only [hub_next, hc1, hc2, hc3, hc5, hc9, hc10, cond_true, cond_false]
                refine cw_ret ?_; rw [hr7]; exact Re ⟨(⟨none, 0⟩ : SlV), (⟨none, 0⟩ : SlV), (⟨none, 0⟩ : SlV)⟩ (Va (Vt Vn))
              · exact Bool.noConfusion (hc11.symm.trans (show ((5 : Int) != 0) = true by decide))
            · have hc10p := ne_of_beq_false hc10
              refine Tx ?_
              (repeat refine cw_seq ?_); refine cw_regionA (fun j => match j with | 9 => some x1.2.2.2.1.toList | _ => some []) ?_
              refine Ra 0 [2,3,4,5,6] rfl Qp ?_
              refine Ra 1 [2,3,4,5,6] rfl Q1 ?_
              refine Ra 2 [4,5,6] rfl Qp ?_
              refine Ra 3 [4,5,6] rfl Q1 ?_
              refine Rb 4 [] [5,6,7,8,9] rfl Qp ?_
              refine Ra 5 [] rfl Q1 ?_
              refine ra_one 6 Kr ?_
              refine rw_callG (slices_Clone_Int_spec y4 r1.roots) (.an rfl rfl) (.inr (by simp [Lent.ids])) (guard_none rfl) rfl rfl rfl Kr rfl rfl Sm (.nil _) (.nil _) ?_
              intro x4
              refine rw_qO NPeer.E (e := 144) (X := x1.2.2.1) (b := x1.2.2.2.1) (l := zipG x1.2.2.2.2 0 h1.peers) Mm (.ab (i := 7) (js := []) [8, 9] rfl Kr Kr Kr Kr Kr) rfl rfl rfl (q_idxN NPeer x1.2.2.2.2 r1.who.toNat rfl rfl (fun _ => rfl) rfl (fun _ => rfl) rfl rfl rfl (.head _) rfl (fun _ => by omega) (fun _ => by first | assumption | omega | (simp only [List.length_set]; omega))) ?_
              refine Ra 8 [] rfl (q_fae rfl rfl (fun _ => rfl) rfl rfl) ?_
              refine ra_one 9 Kr ?_
              refine rw_le (le_freezeL EInt 3 x4.1 x4.2 r1.roots Uo) ?_
              refine rw_stON NPeer x1.2.2.2.2 h1.peers r1.who.toNat 2 x4.1 (⟨(gt h1.peers r1.who.toNat).life, (gt h1.peers r1.who.toNat).seq, r1.roots⟩ : Peer) (e := 144) (X := x1.2.2.1) (b := x1.2.2.2.1) (.an rfl rfl) (.inr (fun g h => by simp [h])) (guard_none rfl) rfl rfl rfl rfl rfl rfl rfl rfl rfl rfl rfl (by first | assumption | omega | (simp only [List.length_set]; omega)) rfl Uo ?_
              refine rw_fact (F := FactsG NPeer (updG x1.2.2.2.2 r1.who.toNat x4.1) (h1.peers.set r1.who.toNat (⟨(gt h1.peers r1.who.toNat).life, (gt h1.peers r1.who.toNat).seq, r1.roots⟩ : Peer))) [FactsG NPeer x1.2.2.2.2 h1.peers, RdL EInt x4.1 r1.roots] Sm (fun M w h => FactsG.upd NPeer (h _ (.head _)) (allF_sub Sm h)) ?_
              have hv4 : x1.2.2.1.val h1.peers.length = x1.2.2.1.val (h1.peers.set r1.who.toNat (⟨(gt h1.peers r1.who.toNat).life, (gt h1.peers r1.who.toNat).seq, r1.roots⟩ : Peer)).length := congrArg (SlV.val x1.2.2.1) List.length_set.symm
              try rw [hv4]
              refine ra_nil Kr ?_
              refine Tx ?_
              refine Cd (b := ((0 : Int) != 0)) (fun hc12 => ?_) fun hc12 => ?_
              · exact Bool.noConfusion (hc12.symm.trans (show ((0 : Int) != 0) = false by decide))
              · refine Tx ?_
                refine cw_le (le_freezeL NPeer.E 144 x1.2.2.1 x1.2.2.2.1 (zipG (updG x1.2.2.2.2 r1.who.toNat x4.1) 0 (h1.peers.set r1.who.toNat (⟨(gt h1.peers r1.who.toNat).life, (gt h1.peers r1.who.toNat).seq, r1.roots⟩ : Peer))) Uo) ?_
                refine cw_fact (F := RdN NPeer x1.2.2.1 (h1.peers.set r1.who.toNat (⟨(gt h1.peers r1.who.toNat).life, (gt h1.peers r1.who.toNat).seq, r1.roots⟩ : Peer))) [RdG NPeer x1.2.2.1 (updG x1.2.2.2.2 r1.who.toNat x4.1) (h1.peers.set r1.who.toNat (⟨(gt h1.peers r1.who.toNat).life, (gt h1.peers r1.who.toNat).seq, r1.roots⟩ : Peer)), FactsG NPeer (updG x1.2.2.2.2 r1.who.toNat x4.1) (h1.peers.set r1.who.toNat (⟨(gt h1.peers r1.who.toNat).life, (gt h1.peers r1.who.toNat).seq, r1.roots⟩ : Peer))] Sm (fun M w h => RdN.ofG NPeer (h _ (.head _)) (h _ (.tail _ (.head _)))) ?_
                have hr8 : (hub_next h1 r1) = ((⟨h1.h, (h1.version + 1), (h1.peers.set r1.who.toNat (⟨(gt h1.peers r1.who.toNat).life, (gt h1.peers r1.who.toNat).seq, r1.roots⟩ : Peer))⟩ : Hub), 0) := by simp only [hub_next, hc1, hc2, hc3, hc5, hc9, hc10, cond_true, cond_false]
                refine cw_ret ?_; rw [hr8]; exact Re ⟨x1.1, x1.2.1, x1.2.2.1⟩ (Va (Vt Vn))
          · have hc9p := ne_of_beq_false hc9
            refine Tx ?_
            refine Cd (b := ((0 : Int) != 0)) (fun hc13 => ?_) fun hc13 => ?_
            · exact Bool.noConfusion (hc13.symm.trans (show ((0 : Int) != 0) = false by decide))
            · refine Tx ?_
              refine cw_le (le_freezeL NPeer.E 144 x1.2.2.1 x1.2.2.2.1 (zipG x1.2.2.2.2 0 h1.peers) Uo) ?_
              refine cw_fact (F := RdN NPeer x1.2.2.1 h1.peers) [RdG NPeer x1.2.2.1 x1.2.2.2.2 h1.peers, FactsG NPeer x1.2.2.2.2 h1.peers] Sm (fun M w h => RdN.ofG NPeer (h _ (.head _)) (h _ (.tail _ (.head _)))) ?_
              have hr9 : (hub_next h1 r1) = ((⟨h1.h, (h1.version + 1), h1.peers⟩ : Hub), 0) := by simp only [hub_next, hc1, hc2, hc3, hc5, hc9, cond_true, cond_false]
              refine cw_ret ?_; rw [hr9]; exact Re ⟨x1.1, x1.2.1, x1.2.2.1⟩ (Va (Vt Vn))

def hub_Next (h1 : Hub) (r1 : Rec) : Hub × Int :=
  (bif ((hub_Check h1) != 0) then ((⟨(⟨([] : List Step), ([] : List Place)⟩ : History), 0, ([] : List Peer)⟩ : Hub), (hub_Check h1)) else (((hub_next h1 r1).1), (hub_next h1 r1).2))
theorem hub_Next_spec (y1 : SlV) (y2 : SlV) (y3 : SlV) (h1 : Hub) (y4 : SlV) (r1 : Rec) : Does Try.prog 110 [.agg ⟨[y1.val h1.h.l.length, y2.val h1.h.t.length, .int .i64 h1.version, y3.val h1.peers.length]⟩, .agg ⟨[.int .i64 r1.kind, .int .i64 r1.who, .int .i64 r1.life, y4.val r1.roots.length, .int .i64 r1.o.time, .int .i64 r1.o.who, .int .i64 r1.o.node, .int .i64 r1.o.parent, .int .i64 r1.o.name, .int .i64 r1.o.life, .int .i64 r1.o.seq]⟩] [RdL EStep y1 h1.h.l, RdL EPlace y2 h1.h.t, RdN NPeer y3 h1.peers, RdL EInt y4 r1.roots] (fun (X : SlV × SlV × SlV) => .tuple #[.agg ⟨[X.1.val ((((hub_Next h1 r1).1).h).l).length, X.2.1.val ((((hub_Next h1 r1).1).h).t).length, .int .i64 (((hub_Next h1 r1).1).version), X.2.2.val (((hub_Next h1 r1).1).peers).length]⟩, .int .i64 ((hub_Next h1 r1).2)]) (fun (X : SlV × SlV × SlV) => [RdL EStep X.1 ((((hub_Next h1 r1).1).h).l), RdL EPlace X.2.1 ((((hub_Next h1 r1).1).h).t), RdN NPeer X.2.2 (((hub_Next h1 r1).1).peers)]) := by
  refine does_of tab_ok Try.func110 rfl Try.ntmps110 Try.results110 rfl inferInstance (fun _ => inferInstance) fun C => ?_
  refine Pc EStep y1 h1.h.l 88 fun hlen1 => ?_
  refine Pc EPlace y2 h1.h.t 24 fun hlen2 => ?_
  refine Pn NPeer y3 h1.peers 40 fun hlen3 => ?_
  refine Pc EInt y4 r1.roots 8 fun hlen4 => ?_
  refine Tx ?_
  refine Bx fun g1 => ?_
  refine Bx fun g2 => ?_
  refine Al fun g3 => ?_
  refine Tx ?_
  refine Cl (hub_Check_spec y1 y2 y3 h1) fun _ => ?_
  refine Tx ?_
  refine Cd (b := ((hub_Check h1) != 0)) (fun hc1 => ?_) fun hc1 => ?_
  · have hc1p := bne_iff_ne.1 hc1
    refine Tx ?_
    refine Fc EStep ?_
    refine Fc EPlace ?_
    refine cw_fact (F := RdN NPeer ⟨none, 0⟩ ([] : List Peer)) [] (.nil _) (fun M w _ => RdN.nil _ M w) ?_
    have hr1 : (hub_Next h1 r1) = ((⟨(⟨([] : List Step), ([] : List Place)⟩ : History), 0, ([] : List Peer)⟩ : Hub), (hub_Check h1)) := by simp only [hub_Next, hc1, cond_true, cond_false]
    refine cw_ret ?_; rw [hr1]; exact Re ⟨(⟨none, 0⟩ : SlV), (⟨none, 0⟩ : SlV), (⟨none, 0⟩ : SlV)⟩ (Va (Vt Vn))
  · have hc1p := eq_of_bne_false hc1
    refine Tx ?_
    refine Cl (hub_next_spec y1 y2 y3 h1 y4 r1 (eq_of_bne_false (by assumption))) fun x1 => ?_
    refine Pr EStep x1.1 ((((hub_next h1 r1).1).h).l) 88 fun hlen5 => ?_
    refine Pr EPlace x1.2.1 ((((hub_next h1 r1).1).h).t) 24 fun hlen6 => ?_
    refine Pm NPeer x1.2.2 (((hub_next h1 r1).1).peers) 40 fun hlen7 => ?_
    refine Tx ?_
    have hr2 : (hub_Next h1 r1) = (((hub_next h1 r1).1), (hub_next h1 r1).2) := by simp only [hub_Next, hc1, cond_true, cond_false]
    refine cw_ret ?_; rw [hr2]; exact Re ⟨x1.1, x1.2.1, x1.2.2⟩ (Va (Vt Vn))
end Go.Proofs.Ytchdacbjiomplaa
