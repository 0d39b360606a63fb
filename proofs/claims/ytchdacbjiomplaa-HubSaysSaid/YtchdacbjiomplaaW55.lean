/- Part of this claim. No condition. -/
import Derived.Test.YtchdacbjiomplaaWU
import Derived.Test.YtchdacbjiomplaaW29
import Derived.Test.YtchdacbjiomplaaWR
set_option linter.unusedVariables false
set_option linter.unusedSimpArgs false
set_option maxHeartbeats 2000000
namespace Go.Proofs.Ytchdacbjiomplaa
open Go Go.Proofs.Ytchdacbjiomplaa.Fw Go.Proofs
attribute [local irreducible] RdL RdN VarP RW CW
def orangeryref_CheckRec (r1 : Rec) : Int :=
  (bif (r1.kind == 1) then (bif (((r1.who != 0) || (r1.life != 0)) || ((r1.roots.length : Int) != 0)) then 4 else (orangeryref_CheckOp r1.o)) else (bif (r1.kind == 2) then (bif ((!(decide (r1.o = (⟨0, 0, 0, 0, 0, 0, 0⟩ : Op)))) || ((r1.roots.length : Int) != 0)) then 4 else (bif ((!(orangeryref_in r1.who 0 2)) || (!(orangeryref_in r1.life 1 50))) then 3 else 0)) else (bif (r1.kind == 3) then (bif ((!(decide (r1.o = (⟨0, 0, 0, 0, 0, 0, 0⟩ : Op)))) || (r1.life != 0)) then 4 else (bif (!(orangeryref_in r1.who 0 2)) then 3 else (orangeryref_CheckRoots r1.roots))) else 4)))
theorem orangeryref_CheckRec_spec (y1 : SlV) (r1 : Rec) : Does Try.prog 176 [.agg ⟨[.int .i64 r1.kind, .int .i64 r1.who, .int .i64 r1.life, y1.val r1.roots.length, .int .i64 r1.o.time, .int .i64 r1.o.who, .int .i64 r1.o.node, .int .i64 r1.o.parent, .int .i64 r1.o.name, .int .i64 r1.o.life, .int .i64 r1.o.seq]⟩] [RdL EInt y1 r1.roots] (fun (_ : Unit) => .int .i64 (orangeryref_CheckRec r1)) (fun (_ : Unit) => []) := by
  refine does_of tab_ok Try.func176 rfl Try.ntmps176 Try.results176 rfl inferInstance (fun _ => inferInstance) fun C => ?_
  refine Pc EInt y1 r1.roots 8 fun hlen1 => ?_
  refine Tx ?_
  refine Bx fun g1 => ?_
  refine Tx ?_
  refine Cd (b := (r1.kind == 1)) (fun hc1 => ?_) fun hc1 => ?_
  · have hc1p := eq_of_beq hc1
    refine Tx ?_
    refine Cd (b := (((r1.who != 0) || (r1.life != 0)) || ((r1.roots.length : Int) != 0))) (fun hc2 => ?_) fun hc2 => ?_
    · refine Tx ?_
      have hr1 : (orangeryref_CheckRec r1) = 4 := by simp only [orangeryref_CheckRec, hc1, hc2, cond_true, cond_false]
      refine cw_ret ?_; rw [hr1]; exact Re () (Vt Vn)
    · refine Tx ?_
      refine Cl (orangeryref_CheckOp_spec r1.o) fun _ => ?_
      refine Tx ?_
      have hr2 : (orangeryref_CheckRec r1) = (orangeryref_CheckOp r1.o) := by simp only [orangeryref_CheckRec, hc1, hc2, cond_true, cond_false]
      refine cw_ret ?_; rw [hr2]; exact Re () (Vt Vn)
  · have hc1p := ne_of_beq_false hc1
    refine Tx ?_
    refine Cd (b := (r1.kind == 2)) (fun hc3 => ?_) fun hc3 => ?_
    · have hc3p := eq_of_beq hc3
      refine Tx ?_
      refine rw_q rfl rfl rfl (q_neE eqT_Op (flatEq_Op r1.o (⟨0, 0, 0, 0, 0, 0, 0⟩ : Op)) rfl rfl (fun _ => rfl) rfl (fun _ => rfl) rfl rfl) ?_
      refine Tx ?_
      refine Cd (b := ((!(decide (r1.o = (⟨0, 0, 0, 0, 0, 0, 0⟩ : Op)))) || ((r1.roots.length : Int) != 0))) (fun hc4 => ?_) fun hc4 => ?_
      · refine Tx ?_
        have hr3 : (orangeryref_CheckRec r1) = 4 := by simp only [orangeryref_CheckRec, hc1, hc3, hc4, cond_true, cond_false]
        refine cw_ret ?_; rw [hr3]; exact Re () (Vt Vn)
      · refine Tx ?_
        refine Cl (orangeryref_in_spec r1.who 0 2) fun _ => ?_
        refine Tx ?_
        refine rw_callg (fun hG_ => orangeryref_in_spec r1.life 1 50) (fun _ => rfl) .sq (guard_vf rfl rfl rfl) rfl rfl rfl Kr rfl Bt Sm ?_
        refine Tx ?_
        refine Cd (b := ((!(orangeryref_in r1.who 0 2)) || (!(orangeryref_in r1.life 1 50)))) (fun hc5 => ?_) fun hc5 => ?_
        · refine Tx ?_
          have hr4 : (orangeryref_CheckRec r1) = 3 := by simp only [orangeryref_CheckRec, hc1, hc3, hc4, hc5, cond_true, cond_false]
          refine cw_ret ?_; rw [hr4]; exact Re () (Vt Vn)
        · refine Tx ?_
          have hr5 : (orangeryref_CheckRec r1) = 0 := by simp only [orangeryref_CheckRec, hc1, hc3, hc4, hc5, cond_true, cond_false]
          refine cw_ret ?_; rw [hr5]; exact Re () (Vt Vn)
    · have hc3p := ne_of_beq_false hc3
      refine Tx ?_
      refine Cd (b := (r1.kind == 3)) (fun hc6 => ?_) fun hc6 => ?_
      · have hc6p := eq_of_beq hc6
        refine Tx ?_
        refine rw_q rfl rfl rfl (q_neE eqT_Op (flatEq_Op r1.o (⟨0, 0, 0, 0, 0, 0, 0⟩ : Op)) rfl rfl (fun _ => rfl) rfl (fun _ => rfl) rfl rfl) ?_
        refine Tx ?_
        refine Cd (b := ((!(decide (r1.o = (⟨0, 0, 0, 0, 0, 0, 0⟩ : Op)))) || (r1.life != 0))) (fun hc7 => ?_) fun hc7 => ?_
        · refine Tx ?_
          have hr6 : (orangeryref_CheckRec r1) = 4 := by simp only [orangeryref_CheckRec, hc1, hc3, hc6, hc7, cond_true, cond_false]
          refine cw_ret ?_; rw [hr6]; exact Re () (Vt Vn)
        · refine Tx ?_
          refine Cl (orangeryref_in_spec r1.who 0 2) fun _ => ?_
          refine Tx ?_
          refine Cd (b := (!(orangeryref_in r1.who 0 2))) (fun hc8 => ?_) fun hc8 => ?_
          · refine Tx ?_
            have hr7 : (orangeryref_CheckRec r1) = 3 := by simp only [orangeryref_CheckRec, hc1, hc3, hc6, hc7, hc8, cond_true, cond_false]
            refine cw_ret ?_; rw [hr7]; exact Re () (Vt Vn)
          · refine Tx ?_
            refine Cl (orangeryref_CheckRoots_spec y1 r1.roots) fun _ => ?_
            refine Tx ?_
            have hr8 : (orangeryref_CheckRec r1) = (orangeryref_CheckRoots r1.roots) := by simp only [orangeryref_CheckRec, hc1, hc3, hc6, hc7, hc8, cond_true, cond_false]
            refine cw_ret ?_; rw [hr8]; exact Re () (Vt Vn)
      · have hc6p := ne_of_beq_false hc6
        refine Tx ?_
        have hr9 : (orangeryref_CheckRec r1) = 4 := by simp only [orangeryref_CheckRec, hc1, hc3, hc6, cond_true, cond_false]
        refine cw_ret ?_; rw [hr9]; exact Re () (Vt Vn)

def orangeryref_CheckHub_L0  : List Peer → Int
  | [] => 0
  | pn1 :: rn1 => (bif ((!(orangeryref_in (pn1.life) 0 50)) || (!(orangeryref_in (pn1.seq) 0 30))) then 3 else (bif (((pn1.life) == 0) && (((pn1.seq) != 0) || (((pn1.roots).length : Int) != 0))) then 4 else (bif ((orangeryref_CheckRoots (pn1.roots)) != 0) then (orangeryref_CheckRoots (pn1.roots)) else (orangeryref_CheckHub_L0 rn1))))
def orangeryref_CheckHub (h1 : Hub) : Int :=
  (bif ((orangeryref_CheckHistory h1.h) != 0) then (orangeryref_CheckHistory h1.h) else (bif (!(orangeryref_in h1.version 0 60)) then 3 else (bif ((h1.peers.length : Int) != 3) then 4 else (orangeryref_CheckHub_L0 h1.peers))))
theorem orangeryref_CheckHub_spec (y1 : SlV) (y2 : SlV) (y3 : SlV) (h1 : Hub) : Does Try.prog 113 [.agg ⟨[y1.val h1.h.l.length, y2.val h1.h.t.length, .int .i64 h1.version, y3.val h1.peers.length]⟩] [RdL EStep y1 h1.h.l, RdL EPlace y2 h1.h.t, RdN NPeer y3 h1.peers] (fun (_ : Unit) => .int .i64 (orangeryref_CheckHub h1)) (fun (_ : Unit) => []) := by
  refine does_of tab_ok Try.func113 rfl Try.ntmps113 Try.results113 rfl inferInstance (fun _ => inferInstance) fun C => ?_
  refine Pc EStep y1 h1.h.l 88 fun hlen1 => ?_
  refine Pc EPlace y2 h1.h.t 24 fun hlen2 => ?_
  refine Pn NPeer y3 h1.peers 40 fun hlen3 => ?_
  refine Tx ?_
  refine Bx fun g1 => ?_
  refine Tx ?_
  refine Cl (orangeryref_CheckHistory_spec y1 y2 h1.h) fun _ => ?_
  refine Tx ?_
  refine Cd (b := ((orangeryref_CheckHistory h1.h) != 0)) (fun hc1 => ?_) fun hc1 => ?_
  · have hc1p := bne_iff_ne.1 hc1
    refine Tx ?_
    have hr1 : (orangeryref_CheckHub h1) = (orangeryref_CheckHistory h1.h) := by simp only [orangeryref_CheckHub, hc1, cond_true, cond_false]
    refine cw_ret ?_; rw [hr1]; exact Re () (Vt Vn)
  · have hc1p := eq_of_bne_false hc1
    refine Tx ?_
    refine Cl (orangeryref_in_spec h1.version 0 60) fun _ => ?_
    refine Tx ?_
    refine Cd (b := (!(orangeryref_in h1.version 0 60))) (fun hc2 => ?_) fun hc2 => ?_
    · refine Tx ?_
      have hr2 : (orangeryref_CheckHub h1) = 3 := by simp only [orangeryref_CheckHub, hc1, hc2, cond_true, cond_false]
      refine cw_ret ?_; rw [hr2]; exact Re () (Vt Vn)
    · refine Tx ?_
      refine Cd (b := ((h1.peers.length : Int) != 3)) (fun hc3 => ?_) fun hc3 => ?_
      · have hc3p := bne_iff_ne.1 hc3
        refine Tx ?_
        have hr3 : (orangeryref_CheckHub h1) = 4 := by simp only [orangeryref_CheckHub, hc1, hc2, hc3, cond_true, cond_false]
        refine cw_ret ?_; rw [hr3]; exact Re () (Vt Vn)
      · have hc3p := eq_of_bne_false hc3
        refine Tx ?_
        (repeat refine cw_seq ?_); refine Lp [2,22,23] [true] (fun (n1 : Nat) => (⟨[(24, .v (.int .i64 (n1 : Int)))], [], [], [], (n1 ≤ h1.peers.length) ∧ (orangeryref_CheckHub_L0 (h1.peers.drop n1)) = (orangeryref_CheckHub h1), h1.peers.length - n1⟩ : Ls)) 0 (Sc (Sc (Sc Sn))) (.keep (.nil)) ⟨Nat.zero_le _, (by simp only [orangeryref_CheckHub, hc1, hc2, hc3, cond_true, cond_false] : (orangeryref_CheckHub h1) = (orangeryref_CheckHub_L0 h1.peers)).symm⟩ Le4 ?_
        rintro n1 ⟨hkn1, hf1⟩
        simp only [List.cons_append, List.nil_append]
        refine Tx ?_
        refine Cd (b := decide ((n1 : Int) < (h1.peers.length : Int))) (fun hc4 => ?_) fun hc4 => ?_
        · have hlt0 : n1 < h1.peers.length := Int.ofNat_lt.1 (of_decide_eq_true hc4)
          refine Tx ?_
          refine rw_exN NPeer (X := y3) (l := h1.peers) Mm fun (γ1 : Nat → SlV) => ?_
          refine rw_q rfl rfl rfl (q_idxN NPeer γ1 n1 rfl rfl (fun _ => rfl) rfl (fun _ => rfl) rfl rfl rfl Mm rfl (fun _ => rfl) (fun _ => by first | assumption | omega)) ?_
          refine rw_q rfl rfl rfl (q_is (v' := .agg ⟨[.int .i64 ((gt h1.peers n1).life), .int .i64 ((gt h1.peers n1).seq), (γ1 n1).val ((gt h1.peers n1).roots).length]⟩) (q_leAN NPeer γ1 rfl rfl (fun _ => rfl) rfl rfl Mm (fun _ => by first | assumption | omega)) rfl) ?_
          refine rw_fact (F := RdL EInt (γ1 n1) ((gt h1.peers n1).roots)) [FactsG NPeer γ1 h1.peers] Sm (fun M w h => (allF1 h) n1 (by first | assumption | omega) _ (.head _)) ?_
          refine Al fun g2 => ?_
          refine Tx ?_
          refine Cl (orangeryref_in_spec ((gt h1.peers n1).life) 0 50) fun _ => ?_
          refine Tx ?_
          refine rw_callg (fun hG_ => orangeryref_in_spec ((gt h1.peers n1).seq) 0 30) (fun _ => rfl) .sq (guard_vf rfl rfl rfl) rfl rfl rfl Kr rfl Bt Sm ?_
          refine Tx ?_
          refine Cd (b := ((!(orangeryref_in ((gt h1.peers n1).life) 0 50)) || (!(orangeryref_in ((gt h1.peers n1).seq) 0 30)))) (fun hc5 => ?_) fun hc5 => ?_
          · refine Tx ?_
            have hr4 : (orangeryref_CheckHub h1) = 3 := by rw [← hf1, drop_gt hlt0]; simp only [orangeryref_CheckHub_L0, hc5, cond_true, cond_false]
            refine cw_ret ?_; rw [hr4]; exact Re () (Vt Vn)
          · refine Tx ?_
            refine Cd (b := ((((gt h1.peers n1).life) == 0) && ((((gt h1.peers n1).seq) != 0) || ((((gt h1.peers n1).roots).length : Int) != 0)))) (fun hc6 => ?_) fun hc6 => ?_
            · refine Tx ?_
              have hr5 : (orangeryref_CheckHub h1) = 4 := by rw [← hf1, drop_gt hlt0]; simp only [orangeryref_CheckHub_L0, hc5, hc6, cond_true, cond_false]
              refine cw_ret ?_; rw [hr5]; exact Re () (Vt Vn)
            · refine Tx ?_
              refine Cl (orangeryref_CheckRoots_spec (γ1 n1) ((gt h1.peers n1).roots)) fun _ => ?_
              refine Tx ?_
              refine Cd (b := ((orangeryref_CheckRoots ((gt h1.peers n1).roots)) != 0)) (fun hc7 => ?_) fun hc7 => ?_
              · have hc7p := bne_iff_ne.1 hc7
                refine Tx ?_
                have hr6 : (orangeryref_CheckHub h1) = (orangeryref_CheckRoots ((gt h1.peers n1).roots)) := by rw [← hf1, drop_gt hlt0]; simp only [orangeryref_CheckHub_L0, hc5, hc6, hc7, cond_true, cond_false]
                refine cw_ret ?_; rw [hr6]; exact Re () (Vt Vn)
              · have hc7p := eq_of_bne_false hc7
                refine Tx ?_
                refine rw_q rfl rfl rfl (q_add rfl rfl (fun _ => rfl) rfl (fun _ => rfl) (fun _ => by omega)) ?_
                refine Tx ?_
                refine ⟨(n1 + 1), ⟨hlt0, (by rw [← hf1, drop_gt hlt0]; simp only [orangeryref_CheckHub_L0, hc5, hc6, hc7, cond_true, cond_false] : (orangeryref_CheckHub h1) = (orangeryref_CheckHub_L0 (h1.peers.drop (n1 + 1)))).symm⟩, (by simp only []; omega), Le4⟩
        · have hge0 : h1.peers.length ≤ n1 := by have := of_decide_eq_false hc4; omega
          refine Tx ?_
          have hr7 : (orangeryref_CheckHub h1) = 0 := by rw [← hf1, List.drop_of_length_le hge0]; simp only [orangeryref_CheckHub_L0, cond_true, cond_false]
          refine cw_ret ?_; rw [hr7]; exact Re () (Vt Vn)

def orangeryref_SameHub_1 (x1 : Peer) (y1 : Peer) : Bool :=
  (((x1.life == y1.life) && (x1.seq == y1.seq)) && (decide (x1.roots = y1.roots)))
theorem orangeryref_SameHub_1_spec (y2 : SlV) (x1 : Peer) (y3 : SlV) (y1 : Peer) : Does Try.prog 180 [.agg ⟨[.int .i64 x1.life, .int .i64 x1.seq, y2.val x1.roots.length]⟩, .agg ⟨[.int .i64 y1.life, .int .i64 y1.seq, y3.val y1.roots.length]⟩] [RdL EInt y2 x1.roots, RdL EInt y3 y1.roots] (fun (_ : Unit) => .bool (orangeryref_SameHub_1 x1 y1)) (fun (_ : Unit) => []) := by
  refine does_of tab_ok Try.func180 rfl Try.ntmps180 Try.results180 rfl inferInstance (fun _ => inferInstance) fun C => ?_
  refine Pc EInt y2 x1.roots 8 fun hlen1 => ?_
  refine Pc EInt y3 y1.roots 8 fun hlen2 => ?_
  refine Tx ?_
  refine Bx fun g1 => ?_
  refine Bx fun g2 => ?_
  refine Tx ?_
  refine rw_callg (fun hG_ => (fun y1 a y2 b => slices_Equal_Int_spec' y1 y2 a b) y2 x1.roots y3 y1.roots) (fun _ => rfl) .sq (guard_vt rfl rfl rfl) rfl rfl rfl Kr rfl Bt Sm ?_
  refine Tx ?_
  have hr1 : (orangeryref_SameHub_1 x1 y1) = (((x1.life == y1.life) && (x1.seq == y1.seq)) && (decide (x1.roots = y1.roots))) := by simp only [orangeryref_SameHub_1, cond_true, cond_false]
  refine cw_ret ?_; rw [hr1]; exact Re () (Vt Vn)

def orangeryref_SameHub (a1 : Hub) (b1 : Hub) : Bool :=
  (((orangeryref_SameHistory a1.h b1.h) && (a1.version == b1.version)) && (slices_EqualFunc_Peer a1.peers b1.peers orangeryref_SameHub_1))
theorem orangeryref_SameHub_spec (y1 : SlV) (y2 : SlV) (y3 : SlV) (a1 : Hub) (y4 : SlV) (y5 : SlV) (y6 : SlV) (b1 : Hub) : Does Try.prog 116 [.agg ⟨[y1.val a1.h.l.length, y2.val a1.h.t.length, .int .i64 a1.version, y3.val a1.peers.length]⟩, .agg ⟨[y4.val b1.h.l.length, y5.val b1.h.t.length, .int .i64 b1.version, y6.val b1.peers.length]⟩] [RdL EStep y1 a1.h.l, RdL EPlace y2 a1.h.t, RdN NPeer y3 a1.peers, RdL EStep y4 b1.h.l, RdL EPlace y5 b1.h.t, RdN NPeer y6 b1.peers] (fun (_ : Unit) => .bool (orangeryref_SameHub a1 b1)) (fun (_ : Unit) => []) := by
  refine does_of tab_ok Try.func116 rfl Try.ntmps116 Try.results116 rfl inferInstance (fun _ => inferInstance) fun C => ?_
  refine Pc EStep y1 a1.h.l 88 fun hlen1 => ?_
  refine Pc EPlace y2 a1.h.t 24 fun hlen2 => ?_
  refine Pn NPeer y3 a1.peers 40 fun hlen3 => ?_
  refine Pc EStep y4 b1.h.l 88 fun hlen4 => ?_
  refine Pc EPlace y5 b1.h.t 24 fun hlen5 => ?_
  refine Pn NPeer y6 b1.peers 40 fun hlen6 => ?_
  refine Tx ?_
  refine Bx fun g1 => ?_
  refine Bx fun g2 => ?_
  refine Tx ?_
  refine Cl (orangeryref_SameHistory_spec y1 y2 a1.h y4 y5 b1.h) fun _ => ?_
  refine Tx ?_
  refine rw_callg (fun hG_ => slices_EqualFunc_Peer_spec y3 a1.peers y6 b1.peers _ _ _ orangeryref_SameHub_1 Kr (fun z0a_ a0_ z1a_ a1_ => orangeryref_SameHub_1_spec z0a_ a0_ z1a_ a1_)) (fun _ => rfl) .sq (guard_vt rfl rfl rfl) rfl rfl rfl Kr rfl Bt Sm ?_
  refine Tx ?_
  have hr1 : (orangeryref_SameHub a1 b1) = (((orangeryref_SameHistory a1.h b1.h) && (a1.version == b1.version)) && (slices_EqualFunc_Peer a1.peers b1.peers orangeryref_SameHub_1)) := by simp only [orangeryref_SameHub, cond_true, cond_false]
  refine cw_ret ?_; rw [hr1]; exact Re () (Vt Vn)

def orangeryref_FreshHub  : Hub :=
  (⟨(⟨([] : List Step), ([] : List Place)⟩ : History), 0, [(⟨0, 0, ([] : List Int)⟩ : Peer), (⟨0, 0, ([] : List Int)⟩ : Peer), (⟨0, 0, ([] : List Int)⟩ : Peer)]⟩ : Hub)
theorem orangeryref_FreshHub_spec  : Does Try.prog 118 [] [] (fun (X : SlV × SlV × SlV) => .agg ⟨[X.1.val (((orangeryref_FreshHub).h).l).length, X.2.1.val (((orangeryref_FreshHub).h).t).length, .int .i64 ((orangeryref_FreshHub).version), X.2.2.val ((orangeryref_FreshHub).peers).length]⟩) (fun (X : SlV × SlV × SlV) => [RdL EStep X.1 (((orangeryref_FreshHub).h).l), RdL EPlace X.2.1 (((orangeryref_FreshHub).h).t), RdN NPeer X.2.2 ((orangeryref_FreshHub).peers)]) := by
  refine does_of tab_ok Try.func118 rfl Try.ntmps118 Try.results118 rfl inferInstance (fun _ => inferInstance) fun C => ?_
  refine Tx ?_
  refine Al fun g1 => ?_
  refine Tx ?_
  refine rw_mksliceL NPeer.E (zipG (fun _ => (⟨none, 0⟩ : SlV)) 0 [(⟨0, 0, ([] : List Int)⟩ : Peer), (⟨0, 0, ([] : List Int)⟩ : Peer), (⟨0, 0, ([] : List Int)⟩ : Peer)]) .sq (guard_none rfl) rfl rfl rfl rfl rfl rfl rfl rfl rfl rfl rfl rfl rfl rfl rfl rfl rfl fun x1 x1b => ?_
  refine Fr EInt ?_
  refine rw_fact (F := FactsG NPeer (fun _ => (⟨none, 0⟩ : SlV)) [(⟨0, 0, ([] : List Int)⟩ : Peer), (⟨0, 0, ([] : List Int)⟩ : Peer), (⟨0, 0, ([] : List Int)⟩ : Peer)]) [RdL EInt (⟨none, 0⟩ : SlV) ([] : List Int)] Sm (fun M w h => FactsG.const NPeer (by intro a ha; simp only [List.mem_cons, List.not_mem_nil, or_false, or_self] at ha; subst ha; exact allF_sub Sm h)) ?_
  refine Tx ?_
  refine Fc EStep ?_
  refine Fc EPlace ?_
  refine cw_le (le_freezeL NPeer.E 144 x1 x1b (zipG (fun _ => (⟨none, 0⟩ : SlV)) 0 [(⟨0, 0, ([] : List Int)⟩ : Peer), (⟨0, 0, ([] : List Int)⟩ : Peer), (⟨0, 0, ([] : List Int)⟩ : Peer)]) Uo) ?_
  refine cw_fact (F := RdN NPeer x1 [(⟨0, 0, ([] : List Int)⟩ : Peer), (⟨0, 0, ([] : List Int)⟩ : Peer), (⟨0, 0, ([] : List Int)⟩ : Peer)]) [RdG NPeer x1 (fun _ => (⟨none, 0⟩ : SlV)) [(⟨0, 0, ([] : List Int)⟩ : Peer), (⟨0, 0, ([] : List Int)⟩ : Peer), (⟨0, 0, ([] : List Int)⟩ : Peer)], FactsG NPeer (fun _ => (⟨none, 0⟩ : SlV)) [(⟨0, 0, ([] : List Int)⟩ : Peer), (⟨0, 0, ([] : List Int)⟩ : Peer), (⟨0, 0, ([] : List Int)⟩ : Peer)]] Sm (fun M w h => RdN.ofG NPeer (h _ (.head _)) (h _ (.tail _ (.head _)))) ?_
  have hr1 : (orangeryref_FreshHub) = (⟨(⟨([] : List Step), ([] : List Place)⟩ : History), 0, [(⟨0, 0, ([] : List Int)⟩ : Peer), (⟨0, 0, ([] : List Int)⟩ : Peer), (⟨0, 0, ([] : List Int)⟩ : Peer)]⟩ : Hub) := by simp only [orangeryref_FreshHub, cond_true, cond_false]
  refine cw_ret ?_; rw [hr1]; exact Re ⟨(⟨none, 0⟩ : SlV), (⟨none, 0⟩ : SlV), x1⟩ (Va Vn)
end Go.Proofs.Ytchdacbjiomplaa
