/- Part of this claim. No condition. -/
import Derived.Test.YtchdacbjiomplaaW55
import Derived.Test.YtchdacbjiomplaaLHub
import Derived.Test.YtchdacbjiomplaaFx
set_option linter.unusedVariables false
set_option linter.unusedSimpArgs false
set_option maxHeartbeats 2000000
namespace Go.Proofs.Ytchdacbjiomplaa
open Go Go.Proofs.Ytchdacbjiomplaa.Fw Go.Proofs
attribute [local irreducible] RdL RdN VarP RW CW
def orangeryref_nexted_L0 (h1 : Hub) (r1 : Rec) : List Step → (Hub × Int)
  | [] => (bif (((orangeryref_Folded ((orangeryref_OpsOf h1.h) ++ [r1.o])).2) != 0) then ((⟨(⟨([] : List Step), ([] : List Place)⟩ : History), 0, ([] : List Peer)⟩ : Hub), (orangeryref_Folded ((orangeryref_OpsOf h1.h) ++ [r1.o])).2) else ((⟨((orangeryref_Folded ((orangeryref_OpsOf h1.h) ++ [r1.o])).1), (h1.version + 1), (h1.peers.set r1.o.who.toNat (⟨(gt h1.peers r1.o.who.toNat).life, (((gt h1.peers r1.o.who.toNat).seq) + 1), (gt h1.peers r1.o.who.toNat).roots⟩ : Peer))⟩ : Hub), 0))
  | pn1 :: rn1 => (bif decide ((⟨(pn1.o).time, (pn1.o).who⟩ : Stamp) = (⟨r1.o.time, r1.o.who⟩ : Stamp)) then ((⟨(⟨([] : List Step), ([] : List Place)⟩ : History), 0, ([] : List Peer)⟩ : Hub), 6) else (orangeryref_nexted_L0 h1 r1 rn1))
def orangeryref_nexted (h1 : Hub) (r1 : Rec) : Hub × Int :=
  (bif (h1.version == 60) then ((⟨(⟨([] : List Step), ([] : List Place)⟩ : History), 0, ([] : List Peer)⟩ : Hub), 2) else (bif (r1.kind == 1) then (bif ((r1.o.life != ((gt h1.peers r1.o.who.toNat).life)) || (r1.o.seq != (((gt h1.peers r1.o.who.toNat).seq) + 1))) then ((⟨(⟨([] : List Step), ([] : List Place)⟩ : History), 0, ([] : List Peer)⟩ : Hub), 7) else (orangeryref_nexted_L0 h1 r1 h1.h.l)) else (bif (r1.kind == 2) then (bif ((((gt h1.peers r1.who.toNat).life) + 1) != r1.life) then ((⟨(⟨([] : List Step), ([] : List Place)⟩ : History), 0, ([] : List Peer)⟩ : Hub), 7) else ((⟨h1.h, (h1.version + 1), (h1.peers.set r1.who.toNat (⟨r1.life, 0, ([] : List Int)⟩ : Peer))⟩ : Hub), 0)) else (bif (r1.kind == 3) then (bif decide (((gt h1.peers r1.who.toNat).life) < 1) then ((⟨(⟨([] : List Step), ([] : List Place)⟩ : History), 0, ([] : List Peer)⟩ : Hub), 5) else ((⟨h1.h, (h1.version + 1), (h1.peers.set r1.who.toNat (⟨(gt h1.peers r1.who.toNat).life, (gt h1.peers r1.who.toNat).seq, r1.roots⟩ : Peer))⟩ : Hub), 0)) else ((⟨h1.h, (h1.version + 1), h1.peers⟩ : Hub), 0)))))
theorem orangeryref_nexted_spec (y1 : SlV) (y2 : SlV) (y3 : SlV) (h1 : Hub) (y4 : SlV) (r1 : Rec) (hk : hub_Check h1 = 0) (hn : note_Check r1 = 0) : Does Try.prog 177 [.agg ⟨[y1.val h1.h.l.length, y2.val h1.h.t.length, .int .i64 h1.version, y3.val h1.peers.length]⟩, .agg ⟨[.int .i64 r1.kind, .int .i64 r1.who, .int .i64 r1.life, y4.val r1.roots.length, .int .i64 r1.o.time, .int .i64 r1.o.who, .int .i64 r1.o.node, .int .i64 r1.o.parent, .int .i64 r1.o.name, .int .i64 r1.o.life, .int .i64 r1.o.seq]⟩] [RdL EStep y1 h1.h.l, RdL EPlace y2 h1.h.t, RdN NPeer y3 h1.peers, RdL EInt y4 r1.roots] (fun (X : SlV × SlV × SlV) => .tuple #[.agg ⟨[X.1.val ((((orangeryref_nexted h1 r1).1).h).l).length, X.2.1.val ((((orangeryref_nexted h1 r1).1).h).t).length, .int .i64 (((orangeryref_nexted h1 r1).1).version), X.2.2.val (((orangeryref_nexted h1 r1).1).peers).length]⟩, .int .i64 ((orangeryref_nexted h1 r1).2)]) (fun (X : SlV × SlV × SlV) => [RdL EStep X.1 ((((orangeryref_nexted h1 r1).1).h).l), RdL EPlace X.2.1 ((((orangeryref_nexted h1 r1).1).h).t), RdN NPeer X.2.2 (((orangeryref_nexted h1 r1).1).peers)]) := by
  refine does_of tab_ok Try.func177 rfl Try.ntmps177 Try.results177 rfl inferInstance (fun _ => inferInstance) fun C => ?_
  refine Pc EStep y1 h1.h.l 88 fun hlen1 => ?_
  refine Pc EPlace y2 h1.h.t 24 fun hlen2 => ?_
  refine Pn NPeer y3 h1.peers 40 fun hlen3 => ?_
  refine Pc EInt y4 r1.roots 8 fun hlen4 => ?_
  have hcl := hub_Check_len hk
  have hcq := history_Check_len hcl.1
  have hnw := note_who hn
  have hpb := hub_peers hk
  have hpl := hcl.2.2.2
  have hol := orangeryref_OpsOf_len h1.h
  refine Tx ?_
  refine Bx fun g1 => ?_
  refine Bx fun g2 => ?_
  refine Al fun g3 => ?_
  refine Tx ?_
  refine Cd (b := (h1.version == 60)) (fun hc1 => ?_) fun hc1 => ?_
  · have hc1p := eq_of_beq hc1
    refine Tx ?_
    refine Fc EStep ?_
    refine Fc EPlace ?_
    refine cw_fact (F := RdN NPeer ⟨none, 0⟩ ([] : List Peer)) [] (.nil _) (fun M w _ => RdN.nil _ M w) ?_
    have hr1 : (orangeryref_nexted h1 r1) = ((⟨(⟨([] : List Step), ([] : List Place)⟩ : History), 0, ([] : List Peer)⟩ : Hub), 2) := by simp only [orangeryref_nexted, hc1, cond_true, cond_false]
    refine cw_ret ?_; rw [hr1]; exact Re ⟨(⟨none, 0⟩ : SlV), (⟨none, 0⟩ : SlV), (⟨none, 0⟩ : SlV)⟩ (Va (Vt Vn))
  · have hc1p := ne_of_beq_false hc1
    refine Tx ?_
    refine rw_bsliceL NPeer.E [] .sq (guard_none rfl) rfl rfl rfl rfl rfl rfl rfl rfl rfl rfl rfl rfl rfl rfl rfl fun x1 x1b => ?_
    refine Tx ?_
    refine rw_exN NPeer (X := y3) (l := h1.peers) Mm fun (γ1 : Nat → SlV) => ?_
    refine rw_appendN0 NPeer γ1 h1.peers (b := x1b) .sq (fun _ _ => .inl ⟨_, rfl⟩) (guard_none rfl) rfl rfl rfl rfl rfl rfl rfl (fun _ _ => Uo) rfl rfl rfl rfl rfl rfl rfl (reads_rdN (EN := NPeer) (X := y3) (γ := γ1) (l := h1.peers) Mm) (by show h1.peers.length * 40 ≤ 140737488355328; omega) fun x2 x2b => ?_
    refine Tx ?_
    refine rw_q rfl rfl rfl (q_add rfl rfl (fun _ => rfl) rfl (fun _ => rfl) (fun _ => by omega)) ?_
    refine Tx ?_
    refine Al fun g4 => ?_
    refine Tx ?_
    refine Cd (b := (r1.kind == 1)) (fun hc2 => ?_) fun hc2 => ?_
    · have hc2p := eq_of_beq hc2
      have hw1 := hnw.1 (eq_of_beq hc2)
      have hsb := (hpb (gt h1.peers r1.o.who.toNat) (gt_mem (by omega))).1
      refine Tx ?_
      refine rw_qO NPeer.E (e := 144) (X := x2) (b := x2b) (l := zipG γ1 0 h1.peers) Mm .sq rfl rfl rfl (q_idxN NPeer γ1 r1.o.who.toNat rfl rfl (fun _ => rfl) rfl (fun _ => rfl) rfl rfl rfl (.head _) rfl (fun _ => by omega) (fun _ => by first | assumption | omega | (simp only [List.length_set]; omega))) ?_
      refine Tx ?_
      (repeat refine cw_seq ?_); refine cw_regionA (fun _ => some []) ?_
      refine Rb 0 [3,4,5,6] [1,2,7,8,9,10,11,12,13,14,15,16,17,18] rfl Qp ?_
      refine Rb 1 [3,4,5,6] [2,7,8,9,10,11,12,13,14,15,16,17,18] rfl Qp ?_
      refine Rb 2 [3,4,5,6] [7,8,9,10,11,12,13,14,15,16,17,18] rfl Q1 ?_
      refine Rb 3 [] [4,5,6,7,8,9,10,11,12,13,14,15,16,17,18] rfl Qp ?_
      refine Rb 4 [] [5,6,7,8,9,10,11,12,13,14,15,16,17,18] rfl Qp ?_
      refine Rb 5 [] [6,7,8,9,10,11,12,13,14,15,16,17,18] rfl (q_fae rfl rfl (fun _ => rfl) rfl rfl) ?_
      refine rw_qO NPeer.E (e := 144) (X := x2) (b := x2b) (l := zipG γ1 0 h1.peers) Mm (.ab (i := 6) (js := []) [7, 8, 9, 10, 11, 12, 13, 14, 15, 16, 17, 18] rfl Kr Kr Kr Kr Kr) rfl rfl rfl (q_le1N NPeer γ1 (v := .int .i64 ((gt h1.peers r1.o.who.toNat).life)) rfl rfl (fun _ => rfl) rfl rfl (.head _) (fun _ => by first | assumption | omega | (simp only [List.length_set]; omega)) rfl) ?_
      refine Rb 7 [] [8,9,10,11,12,13,14,15,16,17,18] rfl Qp ?_
      refine Ra 8 [] rfl Qp ?_
      refine Gb 9 [12,13,14,15,16] [10,11,17,18] rfl (guard_vf rfl rfl rfl) (q_pev rfl Bt) ?_
      refine Gb 10 [12,13,14,15,16] [11,17,18] rfl (guard_vf rfl rfl rfl) (q_pev rfl Bt) ?_
      refine Gb 11 [12,13,14,15,16] [17,18] rfl (guard_vf rfl rfl rfl) (q_ld1 rfl rfl Bt rfl Mm rfl) ?_
      refine Gb 12 [] [13,14,15,16,17,18] rfl (guard_vf rfl rfl rfl) (q_pev rfl Bt) ?_
      refine Gb 13 [] [14,15,16,17,18] rfl (guard_vf rfl rfl rfl) (q_pev rfl Bt) ?_
      refine Gb 14 [] [15,16,17,18] rfl (guard_vf rfl rfl rfl) (q_fae rfl rfl Bt rfl rfl) ?_
      refine rw_qgO NPeer.E (e := 144) (X := x2) (b := x2b) (l := zipG γ1 0 h1.peers) Mm (.ab (i := 15) (js := []) [16, 17, 18] rfl Kr Kr Kr Kr Kr) (guard_vf rfl rfl rfl) rfl rfl (q_le1N NPeer γ1 (v := .int .i64 ((gt h1.peers r1.o.who.toNat).seq)) rfl rfl Bt rfl rfl (.head _) (by first | (intro _; first | assumption | omega | (simp only [List.length_set]; omega)) | (intro h; simp at h; omega)) rfl) ?_
      refine Gb 16 [] [17,18] rfl (guard_vf rfl rfl rfl) (q_add rfl rfl Bt rfl Bt (by intro h; first | omega | (simp at h; omega))) ?_
      refine Ga 17 [] rfl (guard_vf rfl rfl rfl) (q_pev rfl Bt) ?_
      refine Ra 18 [] rfl (q_pev rfl Bt) ?_
      refine ra_nil Kr ?_
      (repeat refine cw_seq ?_)
      refine Cd (b := ((r1.o.life != ((gt h1.peers r1.o.who.toNat).life)) || (r1.o.seq != (((gt h1.peers r1.o.who.toNat).seq) + 1)))) (fun hc3 => ?_) fun hc3 => ?_
      · refine Tx ?_
        refine Fc EStep ?_
        refine Fc EPlace ?_
        refine cw_fact (F := RdN NPeer ⟨none, 0⟩ ([] : List Peer)) [] (.nil _) (fun M w _ => RdN.nil _ M w) ?_
        have hr2 : (orangeryref_nexted h1 r1) = ((⟨(⟨([] : List Step), ([] : List Place)⟩ : History), 0, ([] : List Peer)⟩ : Hub), 7) := by simp only [orangeryref_nexted, hc1, hc2, hc3, cond_true, cond_false]
        refine cw_ret ?_; rw [hr2]; exact Re ⟨(⟨none, 0⟩ : SlV), (⟨none, 0⟩ : SlV), (⟨none, 0⟩ : SlV)⟩ (Va (Vt Vn))
      · refine Tx ?_
        (repeat refine cw_seq ?_); refine Lp [2,3,4,5,7,8,60,61] [true, true, true, true] (fun (n1 : Nat) => (⟨[(62, .v (.int .i64 (n1 : Int)))], [], [ownL NPeer.E 144 x2 x2b (zipG γ1 0 h1.peers)], [], (n1 ≤ h1.h.l.length) ∧ (orangeryref_nexted_L0 h1 r1 (h1.h.l.drop n1)) = (orangeryref_nexted h1 r1), h1.h.l.length - n1⟩ : Ls)) 0 (Sc (Sc (Sc (Sc (Sc (Sc (Sc (Sc Sn)))))))) (.keep (.keep (.keep (.keep (.nil))))) ⟨Nat.zero_le _, (by simp only [orangeryref_nexted, hc1, hc2, hc3, cond_true, cond_false] : (orangeryref_nexted h1 r1) = (orangeryref_nexted_L0 h1 r1 h1.h.l)).symm⟩ Le4 ?_
        rintro n1 ⟨hkn1, hf1⟩
        simp only [List.cons_append, List.nil_append]
        refine Tx ?_
        refine Cd (b := decide ((n1 : Int) < (h1.h.l.length : Int))) (fun hc4 => ?_) fun hc4 => ?_
        · have hlt0 : n1 < h1.h.l.length := Int.ofNat_lt.1 (of_decide_eq_true hc4)
          refine Tx ?_
          refine rw_q rfl rfl rfl (q_idx EStep n1 rfl rfl (fun _ => rfl) rfl (fun _ => rfl) rfl rfl rfl Mm rfl (fun _ => rfl) (fun _ => by first | assumption | omega)) ?_
          refine rw_q rfl rfl rfl (q_leA EStep rfl rfl (fun _ => rfl) rfl rfl Mm (fun _ => by first | assumption | omega)) ?_
          refine Al fun g5 => ?_
          refine Tx ?_
          refine rw_q rfl rfl rfl (q_eqE eqT_Stamp (flatEq_Stamp (⟨((gt h1.h.l n1).o).time, ((gt h1.h.l n1).o).who⟩ : Stamp) (⟨r1.o.time, r1.o.who⟩ : Stamp)) rfl rfl (fun _ => rfl) rfl (fun _ => rfl) rfl rfl) ?_
          refine rw_nil ?_
          (repeat refine cw_seq ?_)
          refine Cd (b := decide ((⟨((gt h1.h.l n1).o).time, ((gt h1.h.l n1).o).who⟩ : Stamp) = (⟨r1.o.time, r1.o.who⟩ : Stamp))) (fun hc5 => ?_) fun hc5 => ?_
          · have hc5p := of_decide_eq_true hc5
            refine Tx ?_
            refine Fc EStep ?_
            refine Fc EPlace ?_
            refine cw_fact (F := RdN NPeer ⟨none, 0⟩ ([] : List Peer)) [] (.nil _) (fun M w _ => RdN.nil _ M w) ?_
            have hr3 : (orangeryref_nexted h1 r1) = ((⟨(⟨([] : List Step), ([] : List Place)⟩ : History), 0, ([] : List Peer)⟩ : Hub), 6) := by rw [← hf1, drop_gt hlt0]; simp only [orangeryref_nexted_L0, hc5, cond_true, cond_false]
            refine cw_ret ?_; rw [hr3]; exact Re ⟨(⟨none, 0⟩ : SlV), (⟨none, 0⟩ : SlV), (⟨none, 0⟩ : SlV)⟩ (Va (Vt Vn))
          · have hc5p := of_decide_eq_false hc5
            refine Tx ?_
            refine rw_q rfl rfl rfl (q_add rfl rfl (fun _ => rfl) rfl (fun _ => rfl) (fun _ => by omega)) ?_
            refine Tx ?_
            refine ⟨(n1 + 1), ⟨hlt0, (by rw [← hf1, drop_gt hlt0]; simp only [orangeryref_nexted_L0, hc5, cond_true, cond_false] : (orangeryref_nexted h1 r1) = (orangeryref_nexted_L0 h1 r1 (h1.h.l.drop (n1 + 1)))).symm⟩, (by simp only []; omega), Le4⟩
        · have hge0 : h1.h.l.length ≤ n1 := by have := of_decide_eq_false hc4; omega
          refine Tx ?_
          refine cw_join [4, 5, 7, 8] [true, true, true, true] (fun (i_ : Nat × SlV × SlV) => match i_ with | ⟨g6, x3, x4⟩ => [(11, .v (.pointer (some ⟨g6, 0, none⟩))), (12, .v (.int .i64 ((orangeryref_Folded ((orangeryref_OpsOf h1.h) ++ [r1.o])).2)))]) (fun (i_ : Nat × SlV × SlV) => match i_ with | ⟨g6, x3, x4⟩ => [⟨g6, 94, [x3.val (((orangeryref_Folded ((orangeryref_OpsOf h1.h) ++ [r1.o])).1).l).length, x4.val (((orangeryref_Folded ((orangeryref_OpsOf h1.h) ++ [r1.o])).1).t).length]⟩]) (fun (i_ : Nat × SlV × SlV) => match i_ with | ⟨g6, x3, x4⟩ => [ownL NPeer.E 144 x2 x2b (zipG γ1 0 h1.peers)]) (fun (i_ : Nat × SlV × SlV) => match i_ with | ⟨g6, x3, x4⟩ => [RdL EStep x3 (((orangeryref_Folded ((orangeryref_OpsOf h1.h) ++ [r1.o])).1).l), RdL EPlace x4 (((orangeryref_Folded ((orangeryref_OpsOf h1.h) ++ [r1.o])).1).t)]) (fun _ => True) (.cons rfl (.cons rfl (.cons rfl (.cons rfl (.nil _))))) (.keep (.keep (.keep (.keep (.nil))))) ?_ ?_
          · refine cw_regionA (fun j => match j with | 6 => none | 12 => none | _ => some []) ?_
            refine Rb 0 [3,4,5,11] [1,2,6,7,8,9,10,12,13] rfl Qp ?_
            refine Rb 1 [3,4,5,11] [2,6,7,8,9,10,12,13] rfl (q_ldP rfl rfl (fun _ => rfl) rfl Mm rfl) ?_
            refine Rb 3 [2,11] [4,5,6,7,8,9,10,12,13] rfl Qp ?_
            refine Rb 4 [2,11] [5,6,7,8,9,10,12,13] rfl (q_ldP rfl rfl (fun _ => rfl) rfl Mm rfl) ?_
            refine ra_three 2 5 11 Kr ?_ ?_ ?_
            · refine rw_callG (orangeryref_OpsOf_spec y1 y2 h1.h) (.an rfl rfl) (.inr (by simp [Lent.ids])) (guard_none rfl) rfl rfl rfl Kr rfl rfl Sm (.nil _) (.nil _) ?_
              intro x5
              refine ra_two 5 11 Kr ?_ ?_
              · refine rw_bsliceL EOp [r1.o] (.an rfl rfl) (guard_none rfl) rfl rfl rfl rfl rfl rfl rfl rfl rfl rfl rfl rfl rfl rfl rfl fun x6 x6b => ?_
                refine ra_two 6 11 Kr ?_ ?_
                · refine rw_appendL EOp (orangeryref_OpsOf h1.h) [r1.o] (b := x5.2) (.lo (x5.2 : Option Nat).toList rfl rfl) (fun g h => .inr (by simp [h])) (guard_none rfl) rfl rfl rfl rfl rfl rfl rfl (fun _ _ => Uo) rfl rfl rfl rfl rfl rfl rfl (reads_ownL (e := 33) (b := x6b) Mm) (by show ((orangeryref_OpsOf h1.h).length + 1) * 56 ≤ 140737488355328; (try simp only [List.length_append, List.length_cons, List.length_nil]); omega) fun x7 x7b => ?_
                  refine ra_two 7 11 Kr ?_ ?_
                  · refine rw_le (le_freezeL EOp 33 x7 x7b ((orangeryref_OpsOf h1.h) ++ [r1.o]) Uo) ?_
                    refine rw_call (orangeryref_Folded_spec x7 ((orangeryref_OpsOf h1.h) ++ [r1.o])) (.an rfl rfl) (guard_none rfl) rfl rfl rfl Kr rfl rfl Sm ?_
                    intro x8
                    refine Pr EStep x8.1 (((orangeryref_Folded ((orangeryref_OpsOf h1.h) ++ [r1.o])).1).l) 88 fun hlen5 => ?_
                    refine Pr EPlace x8.2 (((orangeryref_Folded ((orangeryref_OpsOf h1.h) ++ [r1.o])).1).t) 24 fun hlen6 => ?_
                    refine Ra 8 [11] rfl Qp ?_
                    refine Ra 9 [10,11] rfl Qp ?_
                    refine ra_p (.an (i := 10) (js := [11, 12]) rfl Kr Kr Kr Kr) rfl rfl rfl (q_pev rfl (fun _ => rfl)) ?_
                    refine ra_one 11 Kr ?_
                    refine rw_alloc (.an rfl rfl) (guard_none rfl) rfl rfl rfl rfl fun g7 => ?_
                    refine ra_one 12 Kr ?_
                    refine rw_stA (.lo [g7] rfl rfl) (.inr (by simp)) (guard_none rfl) rfl rfl rfl rfl rfl rfl rfl rfl rfl Ub rfl ?_
                    refine Ra 13 [] rfl Qp ?_
                    refine ra_nil Kr ?_
                    refine ⟨⟨g7, x8.1, x8.2⟩, trivial, Le4⟩
                  · refine rw_alloc (.an rfl rfl) (guard_none rfl) rfl rfl rfl rfl fun g8 => ?_
                    refine ra_one 7 Kr ?_
                    refine rw_le (le_freezeL EOp 33 x7 x7b ((orangeryref_OpsOf h1.h) ++ [r1.o]) Uo) ?_
                    refine rw_call (orangeryref_Folded_spec x7 ((orangeryref_OpsOf h1.h) ++ [r1.o])) (.an rfl rfl) (guard_none rfl) rfl rfl rfl Kr rfl rfl Sm ?_
                    intro x9
                    refine Pr EStep x9.1 (((orangeryref_Folded ((orangeryref_OpsOf h1.h) ++ [r1.o])).1).l) 88 fun hlen7 => ?_
                    refine Pr EPlace x9.2 (((orangeryref_Folded ((orangeryref_OpsOf h1.h) ++ [r1.o])).1).t) 24 fun hlen8 => ?_
                    refine Ra 8 [] rfl Qp ?_
                    refine Ra 9 [10] rfl Qp ?_
                    refine ra_p (.an (i := 10) (js := [12]) rfl Kr Kr Kr Kr) rfl rfl rfl (q_pev rfl (fun _ => rfl)) ?_
                    refine ra_one 12 Kr ?_
                    refine rw_stA (.lo [g8] rfl rfl) (.inr (by simp)) (guard_none rfl) rfl rfl rfl rfl rfl rfl rfl rfl rfl Ub rfl ?_
                    refine Ra 13 [] rfl Qp ?_
                    refine ra_nil Kr ?_
                    refine ⟨⟨g8, x9.1, x9.2⟩, trivial, Le4⟩
                · refine rw_alloc (.an rfl rfl) (guard_none rfl) rfl rfl rfl rfl fun g9 => ?_
                  refine ra_one 6 Kr ?_
                  refine rw_appendL EOp (orangeryref_OpsOf h1.h) [r1.o] (b := x5.2) (.lo (x5.2 : Option Nat).toList rfl rfl) (fun g h => .inr (by simp [h])) (guard_none rfl) rfl rfl rfl rfl rfl rfl rfl (fun _ _ => Uo) rfl rfl rfl rfl rfl rfl rfl (reads_ownL (e := 33) (b := x6b) Mm) (by show ((orangeryref_OpsOf h1.h).length + 1) * 56 ≤ 140737488355328; (try simp only [List.length_append, List.length_cons, List.length_nil]); omega) fun x10 x10b => ?_
                  refine ra_one 7 Kr ?_
                  refine rw_le (le_freezeL EOp 33 x10 x10b ((orangeryref_OpsOf h1.h) ++ [r1.o]) Uo) ?_
                  refine rw_call (orangeryref_Folded_spec x10 ((orangeryref_OpsOf h1.h) ++ [r1.o])) (.an rfl rfl) (guard_none rfl) rfl rfl rfl Kr rfl rfl Sm ?_
                  intro x11
                  refine Pr EStep x11.1 (((orangeryref_Folded ((orangeryref_OpsOf h1.h) ++ [r1.o])).1).l) 88 fun hlen9 => ?_
                  refine Pr EPlace x11.2 (((orangeryref_Folded ((orangeryref_OpsOf h1.h) ++ [r1.o])).1).t) 24 fun hlen10 => ?_
                  refine Ra 8 [] rfl Qp ?_
                  refine Ra 9 [10] rfl Qp ?_
                  refine ra_p (.an (i := 10) (js := [12]) rfl Kr Kr Kr Kr) rfl rfl rfl (q_pev rfl (fun _ => rfl)) ?_
                  refine ra_one 12 Kr ?_
                  refine rw_stA (.lo [g9] rfl rfl) (.inr (by simp)) (guard_none rfl) rfl rfl rfl rfl rfl rfl rfl rfl rfl Ub rfl ?_
                  refine Ra 13 [] rfl Qp ?_
                  refine ra_nil Kr ?_
                  refine ⟨⟨g9, x11.1, x11.2⟩, trivial, Le4⟩
              · refine rw_alloc (.an rfl rfl) (guard_none rfl) rfl rfl rfl rfl fun g10 => ?_
                refine ra_one 5 Kr ?_
                refine rw_bsliceL EOp [r1.o] (.an rfl rfl) (guard_none rfl) rfl rfl rfl rfl rfl rfl rfl rfl rfl rfl rfl rfl rfl rfl rfl fun x12 x12b => ?_
                refine ra_one 6 Kr ?_
                refine rw_appendL EOp (orangeryref_OpsOf h1.h) [r1.o] (b := x5.2) (.lo (x5.2 : Option Nat).toList rfl rfl) (fun g h => .inr (by simp [h])) (guard_none rfl) rfl rfl rfl rfl rfl rfl rfl (fun _ _ => Uo) rfl rfl rfl rfl rfl rfl rfl (reads_ownL (e := 33) (b := x12b) Mm) (by show ((orangeryref_OpsOf h1.h).length + 1) * 56 ≤ 140737488355328; (try simp only [List.length_append, List.length_cons, List.length_nil]); omega) fun x13 x13b => ?_
                refine ra_one 7 Kr ?_
                refine rw_le (le_freezeL EOp 33 x13 x13b ((orangeryref_OpsOf h1.h) ++ [r1.o]) Uo) ?_
                refine rw_call (orangeryref_Folded_spec x13 ((orangeryref_OpsOf h1.h) ++ [r1.o])) (.an rfl rfl) (guard_none rfl) rfl rfl rfl Kr rfl rfl Sm ?_
                intro x14
                refine Pr EStep x14.1 (((orangeryref_Folded ((orangeryref_OpsOf h1.h) ++ [r1.o])).1).l) 88 fun hlen11 => ?_
                refine Pr EPlace x14.2 (((orangeryref_Folded ((orangeryref_OpsOf h1.h) ++ [r1.o])).1).t) 24 fun hlen12 => ?_
                refine Ra 8 [] rfl Qp ?_
                refine Ra 9 [10] rfl Qp ?_
                refine ra_p (.an (i := 10) (js := [12]) rfl Kr Kr Kr Kr) rfl rfl rfl (q_pev rfl (fun _ => rfl)) ?_
                refine ra_one 12 Kr ?_
                refine rw_stA (.lo [g10] rfl rfl) (.inr (by simp)) (guard_none rfl) rfl rfl rfl rfl rfl rfl rfl rfl rfl Ub rfl ?_
                refine Ra 13 [] rfl Qp ?_
                refine ra_nil Kr ?_
                refine ⟨⟨g10, x14.1, x14.2⟩, trivial, Le4⟩
            · refine rw_bsliceL EOp [r1.o] (.an rfl rfl) (guard_none rfl) rfl rfl rfl rfl rfl rfl rfl rfl rfl rfl rfl rfl rfl rfl rfl fun x15 x15b => ?_
              refine ra_two 2 11 Kr ?_ ?_
              · refine rw_callG (orangeryref_OpsOf_spec y1 y2 h1.h) (.an rfl rfl) (.inr (by simp [Lent.ids])) (guard_none rfl) rfl rfl rfl Kr rfl rfl Sm (.nil _) (.nil _) ?_
                intro x16
                refine ra_two 6 11 Kr ?_ ?_
                · refine rw_appendL EOp (orangeryref_OpsOf h1.h) [r1.o] (b := x16.2) (.lo (x16.2 : Option Nat).toList rfl rfl) (fun g h => .inr (by simp [h])) (guard_none rfl) rfl rfl rfl rfl rfl rfl rfl (fun _ _ => Uo) rfl rfl rfl rfl rfl rfl rfl (reads_ownL (e := 33) (b := x15b) Mm) (by show ((orangeryref_OpsOf h1.h).length + 1) * 56 ≤ 140737488355328; (try simp only [List.length_append, List.length_cons, List.length_nil]); omega) fun x17 x17b => ?_
                  refine ra_two 7 11 Kr ?_ ?_
                  · refine rw_le (le_freezeL EOp 33 x17 x17b ((orangeryref_OpsOf h1.h) ++ [r1.o]) Uo) ?_
                    refine rw_call (orangeryref_Folded_spec x17 ((orangeryref_OpsOf h1.h) ++ [r1.o])) (.an rfl rfl) (guard_none rfl) rfl rfl rfl Kr rfl rfl Sm ?_
                    intro x18
                    refine Pr EStep x18.1 (((orangeryref_Folded ((orangeryref_OpsOf h1.h) ++ [r1.o])).1).l) 88 fun hlen13 => ?_
                    refine Pr EPlace x18.2 (((orangeryref_Folded ((orangeryref_OpsOf h1.h) ++ [r1.o])).1).t) 24 fun hlen14 => ?_
                    refine Ra 8 [11] rfl Qp ?_
                    refine Ra 9 [10,11] rfl Qp ?_
                    refine ra_p (.an (i := 10) (js := [11, 12]) rfl Kr Kr Kr Kr) rfl rfl rfl (q_pev rfl (fun _ => rfl)) ?_
                    refine ra_one 11 Kr ?_
                    refine rw_alloc (.an rfl rfl) (guard_none rfl) rfl rfl rfl rfl fun g11 => ?_
                    refine ra_one 12 Kr ?_
                    refine rw_stA (.lo [g11] rfl rfl) (.inr (by simp)) (guard_none rfl) rfl rfl rfl rfl rfl rfl rfl rfl rfl Ub rfl ?_
                    refine Ra 13 [] rfl Qp ?_
                    refine ra_nil Kr ?_
                    refine ⟨⟨g11, x18.1, x18.2⟩, trivial, Le4⟩
                  · refine rw_alloc (.an rfl rfl) (guard_none rfl) rfl rfl rfl rfl fun g12 => ?_
                    refine ra_one 7 Kr ?_
                    refine rw_le (le_freezeL EOp 33 x17 x17b ((orangeryref_OpsOf h1.h) ++ [r1.o]) Uo) ?_
                    refine rw_call (orangeryref_Folded_spec x17 ((orangeryref_OpsOf h1.h) ++ [r1.o])) (.an rfl rfl) (guard_none rfl) rfl rfl rfl Kr rfl rfl Sm ?_
                    intro x19
                    refine Pr EStep x19.1 (((orangeryref_Folded ((orangeryref_OpsOf h1.h) ++ [r1.o])).1).l) 88 fun hlen15 => ?_
                    refine Pr EPlace x19.2 (((orangeryref_Folded ((orangeryref_OpsOf h1.h) ++ [r1.o])).1).t) 24 fun hlen16 => ?_
                    refine Ra 8 [] rfl Qp ?_
                    refine Ra 9 [10] rfl Qp ?_
                    refine ra_p (.an (i := 10) (js := [12]) rfl Kr Kr Kr Kr) rfl rfl rfl (q_pev rfl (fun _ => rfl)) ?_
                    refine ra_one 12 Kr ?_
                    refine rw_stA (.lo [g12] rfl rfl) (.inr (by simp)) (guard_none rfl) rfl rfl rfl rfl rfl rfl rfl rfl rfl Ub rfl ?_
                    refine Ra 13 [] rfl Qp ?_
                    refine ra_nil Kr ?_
                    refine ⟨⟨g12, x19.1, x19.2⟩, trivial, Le4⟩
                · refine rw_alloc (.an rfl rfl) (guard_none rfl) rfl rfl rfl rfl fun g13 => ?_
                  refine ra_one 6 Kr ?_
                  refine rw_appendL EOp (orangeryref_OpsOf h1.h) [r1.o] (b := x16.2) (.lo (x16.2 : Option Nat).toList rfl rfl) (fun g h => .inr (by simp [h])) (guard_none rfl) rfl rfl rfl rfl rfl rfl rfl (fun _ _ => Uo) rfl rfl rfl rfl rfl rfl rfl (reads_ownL (e := 33) (b := x15b) Mm) (by show ((orangeryref_OpsOf h1.h).length + 1) * 56 ≤ 140737488355328; (try simp only [List.length_append, List.length_cons, List.length_nil]); omega) fun x20 x20b => ?_
                  refine ra_one 7 Kr ?_
                  refine rw_le (le_freezeL EOp 33 x20 x20b ((orangeryref_OpsOf h1.h) ++ [r1.o]) Uo) ?_
                  refine rw_call (orangeryref_Folded_spec x20 ((orangeryref_OpsOf h1.h) ++ [r1.o])) (.an rfl rfl) (guard_none rfl) rfl rfl rfl Kr rfl rfl Sm ?_
                  intro x21
                  refine Pr EStep x21.1 (((orangeryref_Folded ((orangeryref_OpsOf h1.h) ++ [r1.o])).1).l) 88 fun hlen17 => ?_
                  refine Pr EPlace x21.2 (((orangeryref_Folded ((orangeryref_OpsOf h1.h) ++ [r1.o])).1).t) 24 fun hlen18 => ?_
                  refine Ra 8 [] rfl Qp ?_
                  refine Ra 9 [10] rfl Qp ?_
                  refine ra_p (.an (i := 10) (js := [12]) rfl Kr Kr Kr Kr) rfl rfl rfl (q_pev rfl (fun _ => rfl)) ?_
                  refine ra_one 12 Kr ?_
                  refine rw_stA (.lo [g13] rfl rfl) (.inr (by simp)) (guard_none rfl) rfl rfl rfl rfl rfl rfl rfl rfl rfl Ub rfl ?_
                  refine Ra 13 [] rfl Qp ?_
                  refine ra_nil Kr ?_
                  refine ⟨⟨g13, x21.1, x21.2⟩, trivial, Le4⟩
              · refine rw_alloc (.an rfl rfl) (guard_none rfl) rfl rfl rfl rfl fun g14 => ?_
                refine ra_one 2 Kr ?_
                refine rw_callG (orangeryref_OpsOf_spec y1 y2 h1.h) (.an rfl rfl) (.inr (by simp [Lent.ids])) (guard_none rfl) rfl rfl rfl Kr rfl rfl Sm (.nil _) (.nil _) ?_
                intro x22
                refine ra_one 6 Kr ?_
                refine rw_appendL EOp (orangeryref_OpsOf h1.h) [r1.o] (b := x22.2) (.lo (x22.2 : Option Nat).toList rfl rfl) (fun g h => .inr (by simp [h])) (guard_none rfl) rfl rfl rfl rfl rfl rfl rfl (fun _ _ => Uo) rfl rfl rfl rfl rfl rfl rfl (reads_ownL (e := 33) (b := x15b) Mm) (by show ((orangeryref_OpsOf h1.h).length + 1) * 56 ≤ 140737488355328; (try simp only [List.length_append, List.length_cons, List.length_nil]); omega) fun x23 x23b => ?_
                refine ra_one 7 Kr ?_
                refine rw_le (le_freezeL EOp 33 x23 x23b ((orangeryref_OpsOf h1.h) ++ [r1.o]) Uo) ?_
                refine rw_call (orangeryref_Folded_spec x23 ((orangeryref_OpsOf h1.h) ++ [r1.o])) (.an rfl rfl) (guard_none rfl) rfl rfl rfl Kr rfl rfl Sm ?_
                intro x24
                refine Pr EStep x24.1 (((orangeryref_Folded ((orangeryref_OpsOf h1.h) ++ [r1.o])).1).l) 88 fun hlen19 => ?_
                refine Pr EPlace x24.2 (((orangeryref_Folded ((orangeryref_OpsOf h1.h) ++ [r1.o])).1).t) 24 fun hlen20 => ?_
                refine Ra 8 [] rfl Qp ?_
                refine Ra 9 [10] rfl Qp ?_
                refine ra_p (.an (i := 10) (js := [12]) rfl Kr Kr Kr Kr) rfl rfl rfl (q_pev rfl (fun _ => rfl)) ?_
                refine ra_one 12 Kr ?_
                refine rw_stA (.lo [g14] rfl rfl) (.inr (by simp)) (guard_none rfl) rfl rfl rfl rfl rfl rfl rfl rfl rfl Ub rfl ?_
                refine Ra 13 [] rfl Qp ?_
                refine ra_nil Kr ?_
                refine ⟨⟨g14, x24.1, x24.2⟩, trivial, Le4⟩
            · refine rw_alloc (.an rfl rfl) (guard_none rfl) rfl rfl rfl rfl fun g15 => ?_
              refine ra_two 2 5 Kr ?_ ?_
              · refine rw_callG (orangeryref_OpsOf_spec y1 y2 h1.h) (.an rfl rfl) (.inr (by simp [Lent.ids])) (guard_none rfl) rfl rfl rfl Kr rfl rfl Sm (.nil _) (.nil _) ?_
                intro x25
                refine ra_one 5 Kr ?_
                refine rw_bsliceL EOp [r1.o] (.an rfl rfl) (guard_none rfl) rfl rfl rfl rfl rfl rfl rfl rfl rfl rfl rfl rfl rfl rfl rfl fun x26 x26b => ?_
                refine ra_one 6 Kr ?_
                refine rw_appendL EOp (orangeryref_OpsOf h1.h) [r1.o] (b := x25.2) (.lo (x25.2 : Option Nat).toList rfl rfl) (fun g h => .inr (by simp [h])) (guard_none rfl) rfl rfl rfl rfl rfl rfl rfl (fun _ _ => Uo) rfl rfl rfl rfl rfl rfl rfl (reads_ownL (e := 33) (b := x26b) Mm) (by show ((orangeryref_OpsOf h1.h).length + 1) * 56 ≤ 140737488355328; (try simp only [List.length_append, List.length_cons, List.length_nil]); omega) fun x27 x27b => ?_
                refine ra_one 7 Kr ?_
                refine rw_le (le_freezeL EOp 33 x27 x27b ((orangeryref_OpsOf h1.h) ++ [r1.o]) Uo) ?_
                refine rw_call (orangeryref_Folded_spec x27 ((orangeryref_OpsOf h1.h) ++ [r1.o])) (.an rfl rfl) (guard_none rfl) rfl rfl rfl Kr rfl rfl Sm ?_
                intro x28
                refine Pr EStep x28.1 (((orangeryref_Folded ((orangeryref_OpsOf h1.h) ++ [r1.o])).1).l) 88 fun hlen21 => ?_
                refine Pr EPlace x28.2 (((orangeryref_Folded ((orangeryref_OpsOf h1.h) ++ [r1.o])).1).t) 24 fun hlen22 => ?_
                refine Ra 8 [] rfl Qp ?_
                refine Ra 9 [10] rfl Qp ?_
                refine ra_p (.an (i := 10) (js := [12]) rfl Kr Kr Kr Kr) rfl rfl rfl (q_pev rfl (fun _ => rfl)) ?_
                refine ra_one 12 Kr ?_
                refine rw_stA (.lo [g15] rfl rfl) (.inr (by simp)) (guard_none rfl) rfl rfl rfl rfl rfl rfl rfl rfl rfl Ub rfl ?_
                refine Ra 13 [] rfl Qp ?_
                refine ra_nil Kr ?_
                refine ⟨⟨g15, x28.1, x28.2⟩, trivial, Le4⟩
              · refine rw_bsliceL EOp [r1.o] (.an rfl rfl) (guard_none rfl) rfl rfl rfl rfl rfl rfl rfl rfl rfl rfl rfl rfl rfl rfl rfl fun x29 x29b => ?_
                refine ra_one 2 Kr ?_
                refine rw_callG (orangeryref_OpsOf_spec y1 y2 h1.h) (.an rfl rfl) (.inr (by simp [Lent.ids])) (guard_none rfl) rfl rfl rfl Kr rfl rfl Sm (.nil _) (.nil _) ?_
                intro x30
                refine ra_one 6 Kr ?_
                refine rw_appendL EOp (orangeryref_OpsOf h1.h) [r1.o] (b := x30.2) (.lo (x30.2 : Option Nat).toList rfl rfl) (fun g h => .inr (by simp [h])) (guard_none rfl) rfl rfl rfl rfl rfl rfl rfl (fun _ _ => Uo) rfl rfl rfl rfl rfl rfl rfl (reads_ownL (e := 33) (b := x29b) Mm) (by show ((orangeryref_OpsOf h1.h).length + 1) * 56 ≤ 140737488355328; (try simp only [List.length_append, List.length_cons, List.length_nil]); omega) fun x31 x31b => ?_
                refine ra_one 7 Kr ?_
                refine rw_le (le_freezeL EOp 33 x31 x31b ((orangeryref_OpsOf h1.h) ++ [r1.o]) Uo) ?_
                refine rw_call (orangeryref_Folded_spec x31 ((orangeryref_OpsOf h1.h) ++ [r1.o])) (.an rfl rfl) (guard_none rfl) rfl rfl rfl Kr rfl rfl Sm ?_
                intro x32
                refine Pr EStep x32.1 (((orangeryref_Folded ((orangeryref_OpsOf h1.h) ++ [r1.o])).1).l) 88 fun hlen23 => ?_
                refine Pr EPlace x32.2 (((orangeryref_Folded ((orangeryref_OpsOf h1.h) ++ [r1.o])).1).t) 24 fun hlen24 => ?_
                refine Ra 8 [] rfl Qp ?_
                refine Ra 9 [10] rfl Qp ?_
                refine ra_p (.an (i := 10) (js := [12]) rfl Kr Kr Kr Kr) rfl rfl rfl (q_pev rfl (fun _ => rfl)) ?_
                refine ra_one 12 Kr ?_
                refine rw_stA (.lo [g15] rfl rfl) (.inr (by simp)) (guard_none rfl) rfl rfl rfl rfl rfl rfl rfl rfl rfl Ub rfl ?_
                refine Ra 13 [] rfl Qp ?_
                refine ra_nil Kr ?_
                refine ⟨⟨g15, x32.1, x32.2⟩, trivial, Le4⟩
          · rintro ⟨g6, x3, x4⟩ -
            simp only [List.cons_append, List.nil_append]
            refine Tx ?_
            refine Cd (b := (((orangeryref_Folded ((orangeryref_OpsOf h1.h) ++ [r1.o])).2) != 0)) (fun hc6 => ?_) fun hc6 => ?_
            · have hc6p := bne_iff_ne.1 hc6
              refine Tx ?_
              refine Fc EStep ?_
              refine Fc EPlace ?_
              refine cw_fact (F := RdN NPeer ⟨none, 0⟩ ([] : List Peer)) [] (.nil _) (fun M w _ => RdN.nil _ M w) ?_
              have hr4 : (orangeryref_nexted h1 r1) = ((⟨(⟨([] : List Step), ([] : List Place)⟩ : History), 0, ([] : List Peer)⟩ : Hub), (orangeryref_Folded ((orangeryref_OpsOf h1.h) ++ [r1.o])).2) := by rw [← hf1, List.drop_of_length_le hge0]; simp only [orangeryref_nexted_L0, hc6, cond_true, cond_false]
              refine cw_ret ?_; rw [hr4]; exact Re ⟨(⟨none, 0⟩ : SlV), (⟨none, 0⟩ : SlV), (⟨none, 0⟩ : SlV)⟩ (Va (Vt Vn))
            · have hc6p := eq_of_bne_false hc6
              refine Tx ?_
              refine rw_stP .sq (.inl ⟨_, rfl⟩) (guard_none rfl) rfl rfl rfl rfl rfl rfl rfl rfl rfl Ub rfl ?_
              refine Tx ?_
              refine rw_q rfl rfl rfl (q_fae rfl rfl (fun _ => rfl) rfl rfl) ?_
              refine rw_qO NPeer.E (e := 144) (X := x2) (b := x2b) (l := zipG γ1 0 h1.peers) Mm .sq rfl rfl rfl (q_le1N NPeer γ1 (v := .int .i64 ((gt h1.peers r1.o.who.toNat).seq)) rfl rfl (fun _ => rfl) rfl rfl (.head _) (fun _ => by first | assumption | omega | (simp only [List.length_set]; omega)) rfl) ?_
              refine rw_q rfl rfl rfl (q_add rfl rfl (fun _ => rfl) rfl (fun _ => rfl) (fun _ => by omega)) ?_
              refine Rp rfl rfl rfl rfl ?_
              refine rw_q rfl rfl rfl (q_fae rfl rfl (fun _ => rfl) rfl rfl) ?_
              refine rw_stON NPeer γ1 h1.peers r1.o.who.toNat 1 (γ1 r1.o.who.toNat) (⟨(gt h1.peers r1.o.who.toNat).life, (((gt h1.peers r1.o.who.toNat).seq) + 1), (gt h1.peers r1.o.who.toNat).roots⟩ : Peer) (e := 144) (X := x2) (b := x2b) .sq (.inl ⟨_, rfl⟩) (guard_none rfl) rfl rfl rfl rfl rfl rfl rfl rfl rfl rfl rfl (by first | assumption | omega | (simp only [List.length_set]; omega)) rfl Uo ?_
              refine rw_fact (F := RdL EInt (γ1 r1.o.who.toNat) ((gt h1.peers r1.o.who.toNat).roots)) [FactsG NPeer γ1 h1.peers] Sm (fun M w h => (allF1 h) r1.o.who.toNat (by first | assumption | omega) _ (.head _)) ?_
              refine rw_fact (F := FactsG NPeer (updG γ1 r1.o.who.toNat (γ1 r1.o.who.toNat)) (h1.peers.set r1.o.who.toNat (⟨(gt h1.peers r1.o.who.toNat).life, (((gt h1.peers r1.o.who.toNat).seq) + 1), (gt h1.peers r1.o.who.toNat).roots⟩ : Peer))) [FactsG NPeer γ1 h1.peers, RdL EInt (γ1 r1.o.who.toNat) ((gt h1.peers r1.o.who.toNat).roots)] Sm (fun M w h => FactsG.upd NPeer (h _ (.head _)) (allF_sub Sm h)) ?_
              have hv1 : x2.val h1.peers.length = x2.val (h1.peers.set r1.o.who.toNat (⟨(gt h1.peers r1.o.who.toNat).life, (((gt h1.peers r1.o.who.toNat).seq) + 1), (gt h1.peers r1.o.who.toNat).roots⟩ : Peer)).length := congrArg (SlV.val x2) List.length_set.symm
              try rw [hv1]
              refine Tx ?_
              refine cw_le (le_freezeL NPeer.E 144 x2 x2b (zipG (updG γ1 r1.o.who.toNat (γ1 r1.o.who.toNat)) 0 (h1.peers.set r1.o.who.toNat (⟨(gt h1.peers r1.o.who.toNat).life, (((gt h1.peers r1.o.who.toNat).seq) + 1), (gt h1.peers r1.o.who.toNat).roots⟩ : Peer))) Uo) ?_
              refine cw_fact (F := RdN NPeer x2 (h1.peers.set r1.o.who.toNat (⟨(gt h1.peers r1.o.who.toNat).life, (((gt h1.peers r1.o.who.toNat).seq) + 1), (gt h1.peers r1.o.who.toNat).roots⟩ : Peer))) [RdG NPeer x2 (updG γ1 r1.o.who.toNat (γ1 r1.o.who.toNat)) (h1.peers.set r1.o.who.toNat (⟨(gt h1.peers r1.o.who.toNat).life, (((gt h1.peers r1.o.who.toNat).seq) + 1), (gt h1.peers r1.o.who.toNat).roots⟩ : Peer)), FactsG NPeer (updG γ1 r1.o.who.toNat (γ1 r1.o.who.toNat)) (h1.peers.set r1.o.who.toNat (⟨(gt h1.peers r1.o.who.toNat).life, (((gt h1.peers r1.o.who.toNat).seq) + 1), (gt h1.peers r1.o.who.toNat).roots⟩ : Peer))] Sm (fun M w h => RdN.ofG NPeer (h _ (.head _)) (h _ (.tail _ (.head _)))) ?_
              have hr5 : (orangeryref_nexted h1 r1) = ((⟨((orangeryref_Folded ((orangeryref_OpsOf h1.h) ++ [r1.o])).1), (h1.version + 1), (h1.peers.set r1.o.who.toNat (⟨(gt h1.peers r1.o.who.toNat).life, (((gt h1.peers r1.o.who.toNat).seq) + 1), (gt h1.peers r1.o.who.toNat).roots⟩ : Peer))⟩ : Hub), 0) := by rw [← hf1, List.drop_of_length_le hge0]; simp only [orangeryref_nexted_L0, hc6, cond_true, cond_false]
              refine cw_ret ?_; rw [hr5]; exact Re ⟨x3, x4, x2⟩ (Va (Vt Vn))
    · have hc2p := ne_of_beq_false hc2
      have hw2 := hnw.2.1 (ne_of_beq_false hc2)
      have hlb := (hpb (gt h1.peers r1.who.toNat) (gt_mem (by omega))).1
      refine Tx ?_
      refine Cd (b := (r1.kind == 2)) (fun hc7 => ?_) fun hc7 => ?_
      · have hc7p := eq_of_beq hc7
        (repeat refine cw_seq ?_); refine cw_regionA (fun _ => some []) ?_
        refine Rb 0 [1,2,7,8] [3,4,5,6,9] rfl Qp ?_
        refine Rb 1 [7,8] [2,3,4,5,6,9] rfl Qp ?_
        refine Rb 2 [7,8] [3,4,5,6,9] rfl Q1 ?_
        refine rw_qO NPeer.E (e := 144) (X := x2) (b := x2b) (l := zipG γ1 0 h1.peers) Mm (.ab (i := 3) (js := [7, 8]) [4, 5, 6, 9] rfl Kr Kr Kr Kr Kr) rfl rfl rfl (q_idxN NPeer γ1 r1.who.toNat rfl rfl (fun _ => rfl) rfl (fun _ => rfl) rfl rfl rfl (.head _) rfl (fun _ => by omega) (fun _ => by first | assumption | omega | (simp only [List.length_set]; omega))) ?_
        refine Rb 4 [7,8] [5,6,9] rfl (q_fae rfl rfl (fun _ => rfl) rfl rfl) ?_
        refine rw_qO NPeer.E (e := 144) (X := x2) (b := x2b) (l := zipG γ1 0 h1.peers) Mm (.ab (i := 5) (js := [7, 8]) [6, 9] rfl Kr Kr Kr Kr Kr) rfl rfl rfl (q_le1N NPeer γ1 (v := .int .i64 ((gt h1.peers r1.who.toNat).life)) rfl rfl (fun _ => rfl) rfl rfl (.head _) (fun _ => by first | assumption | omega | (simp only [List.length_set]; omega)) rfl) ?_
        refine Ra 6 [7,8] rfl (q_add rfl rfl (fun _ => rfl) rfl (fun _ => rfl) (fun _ => by omega)) ?_
        refine Rb 7 [] [8,9] rfl Qp ?_
        refine Ra 8 [] rfl Q1 ?_
        refine Ra 9 [] rfl Qp ?_
        refine ra_nil Kr ?_
        (repeat refine cw_seq ?_)
        refine Cd (b := ((((gt h1.peers r1.who.toNat).life) + 1) != r1.life)) (fun hc8 => ?_) fun hc8 => ?_
        · have hc8p := bne_iff_ne.1 hc8
          refine Tx ?_
          refine Fc EStep ?_
          refine Fc EPlace ?_
          refine cw_fact (F := RdN NPeer ⟨none, 0⟩ ([] : List Peer)) [] (.nil _) (fun M w _ => RdN.nil _ M w) ?_
          have hr6 : (orangeryref_nexted h1 r1) = ((⟨(⟨([] : List Step), ([] : List Place)⟩ : History), 0, ([] : List Peer)⟩ : Hub), 7) := by simp only [orangeryref_nexted, hc1, hc2, hc7, hc8, cond_true, cond_false]
          refine cw_ret ?_; rw [hr6]; exact Re ⟨(⟨none, 0⟩ : SlV), (⟨none, 0⟩ : SlV), (⟨none, 0⟩ : SlV)⟩ (Va (Vt Vn))
        · have hc8p := eq_of_bne_false hc8
          refine Tx ?_
          refine rw_qO NPeer.E (e := 144) (X := x2) (b := x2b) (l := zipG γ1 0 h1.peers) Mm .sq rfl rfl rfl (q_idxN NPeer γ1 r1.who.toNat rfl rfl (fun _ => rfl) rfl (fun _ => rfl) rfl rfl rfl (.head _) rfl (fun _ => by omega) (fun _ => by first | assumption | omega | (simp only [List.length_set]; omega))) ?_
          refine Fr EInt ?_
          refine rw_stON NPeer γ1 h1.peers r1.who.toNat 0 (⟨none, 0⟩ : SlV) (⟨r1.life, 0, ([] : List Int)⟩ : Peer) (e := 144) (X := x2) (b := x2b) .sq (.inl ⟨_, rfl⟩) (guard_none rfl) rfl rfl rfl rfl rfl rfl rfl rfl rfl rfl rfl (by first | assumption | omega | (simp only [List.length_set]; omega)) rfl Uo ?_
          refine rw_fact (F := FactsG NPeer (updG γ1 r1.who.toNat (⟨none, 0⟩ : SlV)) (h1.peers.set r1.who.toNat (⟨r1.life, 0, ([] : List Int)⟩ : Peer))) [FactsG NPeer γ1 h1.peers, RdL EInt (⟨none, 0⟩ : SlV) ([] : List Int)] Sm (fun M w h => FactsG.upd NPeer (h _ (.head _)) (allF_sub Sm h)) ?_
          have hv2 : x2.val h1.peers.length = x2.val (h1.peers.set r1.who.toNat (⟨r1.life, 0, ([] : List Int)⟩ : Peer)).length := congrArg (SlV.val x2) List.length_set.symm
          try rw [hv2]
          refine Tx ?_
          refine cw_le (le_freezeL NPeer.E 144 x2 x2b (zipG (updG γ1 r1.who.toNat (⟨none, 0⟩ : SlV)) 0 (h1.peers.set r1.who.toNat (⟨r1.life, 0, ([] : List Int)⟩ : Peer))) Uo) ?_
          refine cw_fact (F := RdN NPeer x2 (h1.peers.set r1.who.toNat (⟨r1.life, 0, ([] : List Int)⟩ : Peer))) [RdG NPeer x2 (updG γ1 r1.who.toNat (⟨none, 0⟩ : SlV)) (h1.peers.set r1.who.toNat (⟨r1.life, 0, ([] : List Int)⟩ : Peer)), FactsG NPeer (updG γ1 r1.who.toNat (⟨none, 0⟩ : SlV)) (h1.peers.set r1.who.toNat (⟨r1.life, 0, ([] : List Int)⟩ : Peer))] Sm (fun M w h => RdN.ofG NPeer (h _ (.head _)) (h _ (.tail _ (.head _)))) ?_
          have hr7 : (orangeryref_nexted h1 r1) = ((⟨h1.h, (h1.version + 1), (h1.peers.set r1.who.toNat (⟨r1.life, 0, ([] : List Int)⟩ : Peer))⟩ : Hub), 0) := by simp only [orangeryref_nexted, hc1, hc2, hc7, hc8, cond_true, cond_false]
          refine cw_ret ?_; rw [hr7]; exact Re ⟨y1, y2, x2⟩ (Va (Vt Vn))
      · have hc7p := ne_of_beq_false hc7
        refine Tx ?_
        refine Cd (b := (r1.kind == 3)) (fun hc9 => ?_) fun hc9 => ?_
        · have hc9p := eq_of_beq hc9
          refine Tx ?_
          refine rw_qO NPeer.E (e := 144) (X := x2) (b := x2b) (l := zipG γ1 0 h1.peers) Mm .sq rfl rfl rfl (q_idxN NPeer γ1 r1.who.toNat rfl rfl (fun _ => rfl) rfl (fun _ => rfl) rfl rfl rfl (.head _) rfl (fun _ => by omega) (fun _ => by first | assumption | omega | (simp only [List.length_set]; omega))) ?_
          refine rw_q rfl rfl rfl (q_fae rfl rfl (fun _ => rfl) rfl rfl) ?_
          refine rw_qO NPeer.E (e := 144) (X := x2) (b := x2b) (l := zipG γ1 0 h1.peers) Mm .sq rfl rfl rfl (q_le1N NPeer γ1 (v := .int .i64 ((gt h1.peers r1.who.toNat).life)) rfl rfl (fun _ => rfl) rfl rfl (.head _) (fun _ => by first | assumption | omega | (simp only [List.length_set]; omega)) rfl) ?_
          refine Tx ?_
          refine Cd (b := decide (((gt h1.peers r1.who.toNat).life) < 1)) (fun hc10 => ?_) fun hc10 => ?_
          · have hc10p := of_decide_eq_true hc10
            refine Tx ?_
            refine Fc EStep ?_
            refine Fc EPlace ?_
            refine cw_fact (F := RdN NPeer ⟨none, 0⟩ ([] : List Peer)) [] (.nil _) (fun M w _ => RdN.nil _ M w) ?_
            have hr8 : (orangeryref_nexted h1 r1) = ((⟨(⟨([] : List Step), ([] : List Place)⟩ : History), 0, ([] : List Peer)⟩ : Hub), 5) := by simp only [orangeryref_nexted, hc1, hc2, hc7, hc9, hc10, cond_true, cond_false]
            refine cw_ret ?_; rw [hr8]; exact Re ⟨(⟨none, 0⟩ : SlV), (⟨none, 0⟩ : SlV), (⟨none, 0⟩ : SlV)⟩ (Va (Vt Vn))
          · have hc10p := of_decide_eq_false hc10
            refine Tx ?_
            refine rw_qO NPeer.E (e := 144) (X := x2) (b := x2b) (l := zipG γ1 0 h1.peers) Mm .sq rfl rfl rfl (q_idxN NPeer γ1 r1.who.toNat rfl rfl (fun _ => rfl) rfl (fun _ => rfl) rfl rfl rfl (.head _) rfl (fun _ => by omega) (fun _ => by first | assumption | omega | (simp only [List.length_set]; omega))) ?_
            refine rw_q rfl rfl rfl (q_fae rfl rfl (fun _ => rfl) rfl rfl) ?_
            refine rw_stON NPeer γ1 h1.peers r1.who.toNat 2 y4 (⟨(gt h1.peers r1.who.toNat).life, (gt h1.peers r1.who.toNat).seq, r1.roots⟩ : Peer) (e := 144) (X := x2) (b := x2b) .sq (.inl ⟨_, rfl⟩) (guard_none rfl) rfl rfl rfl rfl rfl rfl rfl rfl rfl rfl rfl (by first | assumption | omega | (simp only [List.length_set]; omega)) rfl Uo ?_
            refine rw_fact (F := FactsG NPeer (updG γ1 r1.who.toNat y4) (h1.peers.set r1.who.toNat (⟨(gt h1.peers r1.who.toNat).life, (gt h1.peers r1.who.toNat).seq, r1.roots⟩ : Peer))) [FactsG NPeer γ1 h1.peers, RdL EInt y4 r1.roots] Sm (fun M w h => FactsG.upd NPeer (h _ (.head _)) (allF_sub Sm h)) ?_
            have hv3 : x2.val h1.peers.length = x2.val (h1.peers.set r1.who.toNat (⟨(gt h1.peers r1.who.toNat).life, (gt h1.peers r1.who.toNat).seq, r1.roots⟩ : Peer)).length := congrArg (SlV.val x2) List.length_set.symm
            try rw [hv3]
            refine Tx ?_
            refine cw_le (le_freezeL NPeer.E 144 x2 x2b (zipG (updG γ1 r1.who.toNat y4) 0 (h1.peers.set r1.who.toNat (⟨(gt h1.peers r1.who.toNat).life, (gt h1.peers r1.who.toNat).seq, r1.roots⟩ : Peer))) Uo) ?_
            refine cw_fact (F := RdN NPeer x2 (h1.peers.set r1.who.toNat (⟨(gt h1.peers r1.who.toNat).life, (gt h1.peers r1.who.toNat).seq, r1.roots⟩ : Peer))) [RdG NPeer x2 (updG γ1 r1.who.toNat y4) (h1.peers.set r1.who.toNat (⟨(gt h1.peers r1.who.toNat).life, (gt h1.peers r1.who.toNat).seq, r1.roots⟩ : Peer)), FactsG NPeer (updG γ1 r1.who.toNat y4) (h1.peers.set r1.who.toNat (⟨(gt h1.peers r1.who.toNat).life, (gt h1.peers r1.who.toNat).seq, r1.roots⟩ : Peer))] Sm (fun M w h => RdN.ofG NPeer (h _ (.head _)) (h _ (.tail _ (.head _)))) ?_
            have hr9 : (orangeryref_nexted h1 r1) = ((⟨h1.h, (h1.version + 1), (h1.peers.set r1.who.toNat (⟨(gt h1.peers r1.who.toNat).life, (gt h1.peers r1.who.toNat).seq, r1.roots⟩ : Peer))⟩ : Hub), 0) := by simp only [orangeryref_nexted, hc1, hc2, hc7, hc9, hc10, cond_true, cond_false]
            refine cw_ret ?_; rw [hr9]; exact Re ⟨y1, y2, x2⟩ (Va (Vt Vn))
        · have hc9p := ne_of_beq_false hc9
          refine Tx ?_
          refine cw_le (le_freezeL NPeer.E 144 x2 x2b (zipG γ1 0 h1.peers) Uo) ?_
          refine cw_fact (F := RdN NPeer x2 h1.peers) [RdG NPeer x2 γ1 h1.peers, FactsG NPeer γ1 h1.peers] Sm (fun M w h => RdN.ofG NPeer (h _ (.head _)) (h _ (.tail _ (.head _)))) ?_
          have hr10 : (orangeryref_nexted h1 r1) = ((⟨h1.h, (h1.version + 1), h1.peers⟩ : Hub), 0) := by simp only [orangeryref_nexted, hc1, hc2, hc7, hc9, cond_true, cond_false]
          refine cw_ret ?_; rw [hr10]; exact Re ⟨y1, y2, x2⟩ (Va (Vt Vn))
end Go.Proofs.Ytchdacbjiomplaa
