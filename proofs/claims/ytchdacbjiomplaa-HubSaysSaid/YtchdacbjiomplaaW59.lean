/- Part of this claim. No condition. -/
import Derived.Test.YtchdacbjiomplaaW57
import Derived.Test.YtchdacbjiomplaaW48
set_option linter.unusedVariables false
set_option linter.unusedSimpArgs false
set_option maxHeartbeats 2000000
namespace Go.Proofs.Ytchdacbjiomplaa
open Go Go.Proofs.Ytchdacbjiomplaa.Fw Go.Proofs
attribute [local irreducible] RdL RdN VarP RW CW
def orangerylaw_HubSays (h1 : Hub) (r1 : Rec) (g1 : Hub) (who1 : Int) : Bool :=
  (bif (((!orangerylaw_accepted) || ((hub_Check h1) != (orangeryref_CheckHub h1))) || (!((hub_Same h1 g1) == (orangeryref_SameHub h1 g1)))) then false else (bif ((((((!orangerylaw_accepted) || ((hub_Check h1) != (orangeryref_CheckHub h1))) || (!((hub_Same h1 g1) == (orangeryref_SameHub h1 g1)))) || (!(orangeryref_SameHub hub_New orangeryref_FreshHub))) || (((hub_Next h1 r1).2) != ((orangeryref_Nexted h1 r1).2))) || (!(orangeryref_SameHub ((hub_Next h1 r1).1) ((orangeryref_Nexted h1 r1).1)))) then false else (bif (((orangeryref_CheckHub h1) == 0) && (decide (who1 < 0) || decide (who1 > 2))) then ((((hub_Sees h1 who1).2) == 5) && (orangeryref_SameView ((hub_Sees h1 who1).1) (⟨([] : List Int), ([] : List Place), ([] : List Place)⟩ : View))) else (bif ((orangeryref_CheckHub h1) != 0) then ((((hub_Sees h1 who1).2) == (orangeryref_CheckHub h1)) && (orangeryref_SameView ((hub_Sees h1 who1).1) (⟨([] : List Int), ([] : List Place), ([] : List Place)⟩ : View))) else ((((hub_Sees h1 who1).2) == ((orangeryref_Seen h1.h.t ((gt h1.peers who1.toNat).roots)).2)) && (orangeryref_SameView ((hub_Sees h1 who1).1) ((orangeryref_Seen h1.h.t ((gt h1.peers who1.toNat).roots)).1)))))))
theorem orangerylaw_HubSays_spec (y1 : SlV) (y2 : SlV) (y3 : SlV) (h1 : Hub) (y4 : SlV) (r1 : Rec) (y5 : SlV) (y6 : SlV) (y7 : SlV) (g1 : Hub) (who1 : Int) : Does Try.prog 24 [.agg ⟨[y1.val h1.h.l.length, y2.val h1.h.t.length, .int .i64 h1.version, y3.val h1.peers.length]⟩, .agg ⟨[.int .i64 r1.kind, .int .i64 r1.who, .int .i64 r1.life, y4.val r1.roots.length, .int .i64 r1.o.time, .int .i64 r1.o.who, .int .i64 r1.o.node, .int .i64 r1.o.parent, .int .i64 r1.o.name, .int .i64 r1.o.life, .int .i64 r1.o.seq]⟩, .agg ⟨[y5.val g1.h.l.length, y6.val g1.h.t.length, .int .i64 g1.version, y7.val g1.peers.length]⟩, .int .i64 who1] [RdL EStep y1 h1.h.l, RdL EPlace y2 h1.h.t, RdN NPeer y3 h1.peers, RdL EInt y4 r1.roots, RdL EStep y5 g1.h.l, RdL EPlace y6 g1.h.t, RdN NPeer y7 g1.peers] (fun (_ : Unit) => .bool (orangerylaw_HubSays h1 r1 g1 who1)) (fun (_ : Unit) => []) := by
  refine does_of tab_ok Try.func24 rfl Try.ntmps24 Try.results24 rfl inferInstance (fun _ => inferInstance) fun C => ?_
  refine Pc EStep y1 h1.h.l 88 fun hlen1 => ?_
  refine Pc EPlace y2 h1.h.t 24 fun hlen2 => ?_
  refine Pn NPeer y3 h1.peers 40 fun hlen3 => ?_
  refine Pc EInt y4 r1.roots 8 fun hlen4 => ?_
  refine Pc EStep y5 g1.h.l 88 fun hlen5 => ?_
  refine Pc EPlace y6 g1.h.t 24 fun hlen6 => ?_
  refine Pn NPeer y7 g1.peers 40 fun hlen7 => ?_
  refine Tx ?_
  refine Bx fun g2 => ?_
  refine Bx fun g3 => ?_
  refine Bx fun g4 => ?_
  refine Tx ?_
  refine Cl (hub_Next_spec y1 y2 y3 h1 y4 r1) fun x1 => ?_
  refine Pr EStep x1.1 ((((hub_Next h1 r1).1).h).l) 88 fun hlen8 => ?_
  refine Pr EPlace x1.2.1 ((((hub_Next h1 r1).1).h).t) 24 fun hlen9 => ?_
  refine Pm NPeer x1.2.2 (((hub_Next h1 r1).1).peers) 40 fun hlen10 => ?_
  refine Tx ?_
  refine Al fun g5 => ?_
  refine Tx ?_
  refine Cl (hub_Sees_spec y1 y2 y3 h1 who1) fun x2 => ?_
  refine Pr EInt x2.1 (((hub_Sees h1 who1).1).roots) 8 fun hlen11 => ?_
  refine Pr EPlace x2.2.1 (((hub_Sees h1 who1).1).known) 24 fun hlen12 => ?_
  refine Pr EPlace x2.2.2 (((hub_Sees h1 who1).1).way) 24 fun hlen13 => ?_
  refine Tx ?_
  refine Al fun g6 => ?_
  refine Tx ?_
  refine Cl (orangeryref_Nexted_spec y1 y2 y3 h1 y4 r1) fun x3 => ?_
  refine Pr EStep x3.1 ((((orangeryref_Nexted h1 r1).1).h).l) 88 fun hlen14 => ?_
  refine Pr EPlace x3.2.1 ((((orangeryref_Nexted h1 r1).1).h).t) 24 fun hlen15 => ?_
  refine Pm NPeer x3.2.2 (((orangeryref_Nexted h1 r1).1).peers) 40 fun hlen16 => ?_
  refine Tx ?_
  refine Al fun g7 => ?_
  refine Tx ?_
  refine Cl (orangeryref_CheckHub_spec y1 y2 y3 h1) fun _ => ?_
  refine Tx ?_
  (repeat refine cw_seq ?_); refine cw_regionA (fun _ => some []) ?_
  refine ra_one 0 Kr ?_
  refine rw_call (orangerylaw_accepted_spec ) (.an rfl rfl) (guard_none rfl) rfl rfl rfl Kr rfl rfl Sm ?_
  intro _
  refine Rb 1 [] [2,3,4,5,6,7,8,9,10,11,12,13,14,15,16,17,18,19,20,21,22,23,24,25,26,27,28,29,30,31,32,33] rfl Qp ?_
  refine Rb 2 [] [3,4,5,6,7,8,9,10,11,12,13,14,15,16,17,18,19,20,21,22,23,24,25,26,27,28,29,30,31,32,33] rfl Qp ?_
  refine Gb 3 [5] [4,6,7,8,9,10,11,12,13,14,15,16,17,18,19,20,21,22,23,24,25,26,27,28,29,30,31,32,33] rfl (guard_vf rfl rfl rfl) (q_ldA rfl rfl Bt rfl Mm rfl) ?_
  refine Gb 5 [4] [6,7,8,9,10,11,12,13,14,15,16,17,18,19,20,21,22,23,24,25,26,27,28,29,30,31,32,33] rfl (guard_vf rfl rfl rfl) (q_pev rfl Bt) ?_
  refine ra_one 4 Kr ?_
  refine rw_callg (fun hG_ => hub_Check_spec y1 y2 y3 h1) (fun _ => rfl) (.an rfl rfl) (guard_vf rfl rfl rfl) rfl rfl rfl Kr rfl Bt Sm ?_
  refine Gb 6 [] [7,8,9,10,11,12,13,14,15,16,17,18,19,20,21,22,23,24,25,26,27,28,29,30,31,32,33] rfl (guard_vf rfl rfl rfl) (q_pev rfl Bt) ?_
  refine Rb 7 [] [8,9,10,11,12,13,14,15,16,17,18,19,20,21,22,23,24,25,26,27,28,29,30,31,32,33] rfl (q_pev rfl Bt) ?_
  refine Rb 8 [] [9,10,11,12,13,14,15,16,17,18,19,20,21,22,23,24,25,26,27,28,29,30,31,32,33] rfl Qp ?_
  refine Gb 9 [10,12,13] [11,14,15,16,17,18,19,20,21,22,23,24,25,26,27,28,29,30,31,32,33] rfl (guard_vf rfl rfl rfl) (q_ldA rfl rfl Bt rfl Mm rfl) ?_
  refine Gb 10 [12,13] [11,14,15,16,17,18,19,20,21,22,23,24,25,26,27,28,29,30,31,32,33] rfl (guard_vf rfl rfl rfl) (q_ldA rfl rfl Bt rfl Mm rfl) ?_
  refine Gb 12 [11,13] [14,15,16,17,18,19,20,21,22,23,24,25,26,27,28,29,30,31,32,33] rfl (guard_vf rfl rfl rfl) (q_ldA rfl rfl Bt rfl Mm rfl) ?_
  refine Gb 13 [11] [14,15,16,17,18,19,20,21,22,23,24,25,26,27,28,29,30,31,32,33] rfl (guard_vf rfl rfl rfl) (q_ldA rfl rfl Bt rfl Mm rfl) ?_
  refine ra_one 11 Kr ?_
  refine rw_callg (fun hG_ => hub_Same_spec y1 y2 y3 h1 y5 y6 y7 g1) (fun _ => rfl) (.an rfl rfl) (guard_vf rfl rfl rfl) rfl rfl rfl Kr rfl Bt Sm ?_
  refine ra_one 14 Kr ?_
  refine rw_callg (fun hG_ => orangeryref_SameHub_spec y1 y2 y3 h1 y5 y6 y7 g1) (fun _ => rfl) (.an rfl rfl) (guard_vf rfl rfl rfl) rfl rfl rfl Kr rfl Bt Sm ?_
  refine Gb 15 [] [16,17,18,19,20,21,22,23,24,25,26,27,28,29,30,31,32,33] rfl (guard_vf rfl rfl rfl) (q_neb und_4 rfl rfl Bt rfl Bt) ?_
  refine Rb 16 [] [17,18,19,20,21,22,23,24,25,26,27,28,29,30,31,32,33] rfl (q_pev rfl Bt) ?_
  refine Rb 17 [] [18,19,20,21,22,23,24,25,26,27,28,29,30,31,32,33] rfl Qp ?_
  refine ra_one 18 Kr ?_
  refine rw_split (.an rfl rfl) (guard_vf rfl rfl rfl) (fun hg1 => ?_) (fun hg1 => ?_)
  · have hg1n : (((!orangerylaw_accepted) || ((hub_Check h1) != (orangeryref_CheckHub h1))) || (!((hub_Same h1 g1) == (orangeryref_SameHub h1 g1)))) = false := not_is hg1
    refine rw_call (hub_New_spec ) (.an rfl rfl) (guard_is (guard_vf rfl rfl rfl) hg1) rfl rfl rfl Kr rfl rfl Sm ?_
    intro x4
    refine Pr EStep x4.1 hub_New.h.l 88 fun hlen17 => ?_
    refine Pr EPlace x4.2.1 hub_New.h.t 24 fun hlen18 => ?_
    refine Pm NPeer x4.2.2 hub_New.peers 40 fun hlen19 => ?_
    refine ra_one 19 Kr ?_
    refine rw_call (orangeryref_FreshHub_spec ) (.an rfl rfl) (guard_is (guard_vf rfl rfl rfl) (by rw [hg1n]; rfl)) rfl rfl rfl Kr rfl rfl Sm ?_
    intro x5
    refine Pr EStep x5.1 orangeryref_FreshHub.h.l 88 fun hlen20 => ?_
    refine Pr EPlace x5.2.1 orangeryref_FreshHub.h.t 24 fun hlen21 => ?_
    refine Pm NPeer x5.2.2 orangeryref_FreshHub.peers 40 fun hlen22 => ?_
    refine ra_one 20 Kr ?_
    refine rw_call (orangeryref_SameHub_spec x4.1 x4.2.1 x4.2.2 hub_New x5.1 x5.2.1 x5.2.2 orangeryref_FreshHub) (.an rfl rfl) (guard_is (guard_vf rfl rfl rfl) (by rw [hg1n]; rfl)) rfl rfl rfl Kr rfl rfl Sm ?_
    intro _
    refine Gb 21 [] [22,23,24,25,26,27,28,29,30,31,32,33] rfl (guard_vf rfl rfl rfl) (q_pev rfl Bt) ?_
    refine Rb 22 [] [23,24,25,26,27,28,29,30,31,32,33] rfl (q_pev rfl Bt) ?_
    refine Rb 23 [] [24,25,26,27,28,29,30,31,32,33] rfl Qp ?_
    refine Gb 24 [25] [26,27,28,29,30,31,32,33] rfl (guard_vf rfl rfl rfl) (q_pev rfl Bt) ?_
    refine Gb 25 [] [26,27,28,29,30,31,32,33] rfl (guard_vf rfl rfl rfl) (q_pev rfl Bt) ?_
    refine Gb 26 [] [27,28,29,30,31,32,33] rfl (guard_vf rfl rfl rfl) (q_pev rfl Bt) ?_
    refine Rb 27 [] [28,29,30,31,32,33] rfl (q_pev rfl Bt) ?_
    refine Ra 28 [] rfl Qp ?_
    refine Gb 29 [30] [31,32,33] rfl (guard_vf rfl rfl rfl) (q_ldA rfl rfl Bt rfl Mm rfl) ?_
    refine Gb 30 [] [31,32,33] rfl (guard_vf rfl rfl rfl) (q_ldA rfl rfl Bt rfl Mm rfl) ?_
    refine ra_one 31 Kr ?_
    refine rw_callg (fun hG_ => orangeryref_SameHub_spec x1.1 x1.2.1 x1.2.2 ((hub_Next h1 r1).1) x3.1 x3.2.1 x3.2.2 ((orangeryref_Nexted h1 r1).1)) (fun _ => rfl) (.an rfl rfl) (guard_vf rfl rfl rfl) rfl rfl rfl Kr rfl Bt Sm ?_
    refine Ga 32 [] rfl (guard_vf rfl rfl rfl) (q_pev rfl Bt) ?_
    refine Ra 33 [] rfl (q_pev rfl Bt) ?_
    refine ra_nil Kr ?_
    (repeat refine cw_seq ?_)
    refine Cd (b := ((((((!orangerylaw_accepted) || ((hub_Check h1) != (orangeryref_CheckHub h1))) || (!((hub_Same h1 g1) == (orangeryref_SameHub h1 g1)))) || (!(orangeryref_SameHub hub_New orangeryref_FreshHub))) || (((hub_Next h1 r1).2) != ((orangeryref_Nexted h1 r1).2))) || (!(orangeryref_SameHub ((hub_Next h1 r1).1) ((orangeryref_Nexted h1 r1).1))))) (fun hc1 => ?_) fun hc1 => ?_
    · try simp only [hg1n, Bool.true_and, Bool.and_true, Bool.false_or, Bool.or_false, Bool.false_and, Bool.and_false, Bool.true_or, Bool.or_true, Bool.not_true, Bool.not_false] at hc1
      refine Tx ?_
      have hr1 : (orangerylaw_HubSays h1 r1 g1 who1) = false := by simp only [orangerylaw_HubSays, hg1n, hc1, Bool.true_and, Bool.and_true, Bool.false_or, Bool.or_false, Bool.false_and, Bool.and_false, Bool.true_or, Bool.or_true, Bool.not_true, Bool.not_false, cond_true, cond_false]
      refine cw_ret ?_; rw [hr1]; exact Re () (Vt Vn)
    · try simp only [hg1n, Bool.true_and, Bool.and_true, Bool.false_or, Bool.or_false, Bool.false_and, Bool.and_false, Bool.true_or, Bool.or_true, Bool.not_true, Bool.not_false] at hc1
      refine Tx ?_
      refine Cd (b := (((orangeryref_CheckHub h1) == 0) && (decide (who1 < 0) || decide (who1 > 2)))) (fun hc2 => ?_) fun hc2 => ?_
      · try simp only [hg1n, Bool.true_and, Bool.and_true, Bool.false_or, Bool.or_false, Bool.false_and, Bool.and_false, Bool.true_or, Bool.or_true, Bool.not_true, Bool.not_false] at hc2
        refine Tx ?_
        refine Cd (b := ((5 : Int) != 0)) (fun hc3 => ?_) fun hc3 => ?_
        · refine Tx ?_
          refine Fr EInt ?_
          refine Fr EPlace ?_
          refine rw_callg (fun hG_ => orangeryref_SameView_spec x2.1 x2.2.1 x2.2.2 ((hub_Sees h1 who1).1) (⟨none, 0⟩ : SlV) (⟨none, 0⟩ : SlV) (⟨none, 0⟩ : SlV) (⟨([] : List Int), ([] : List Place), ([] : List Place)⟩ : View)) (fun _ => rfl) .sq (guard_vt rfl rfl rfl) rfl rfl rfl Kr rfl Bt Sm ?_
          refine Tx ?_
          have hr2 : (orangerylaw_HubSays h1 r1 g1 who1) = ((((hub_Sees h1 who1).2) == 5) && (orangeryref_SameView ((hub_Sees h1 who1).1) (⟨([] : List Int), ([] : List Place), ([] : List Place)⟩ : View))) := by simp only [orangerylaw_HubSays, hg1n, hc1, hc2, Bool.true_and, Bool.and_true, Bool.false_or, Bool.or_false, Bool.false_and, Bool.and_false, Bool.true_or, Bool.or_true, Bool.not_true, Bool.not_false, cond_true, cond_false]
          refine cw_ret ?_; rw [hr2]; exact Re () (Vt Vn)
        · exact Bool.noConfusion (hc3.symm.trans (show ((5 : Int) != 0) = true by decide))
      · try simp only [hg1n, Bool.true_and, Bool.and_true, Bool.false_or, Bool.or_false, Bool.false_and, Bool.and_false, Bool.true_or, Bool.or_true, Bool.not_true, Bool.not_false] at hc2
        have h1c := hc2
        refine Tx ?_
        refine Cd (b := ((orangeryref_CheckHub h1) != 0)) (fun hc4 => ?_) fun hc4 => ?_
        · try simp only [hg1n, Bool.true_and, Bool.and_true, Bool.false_or, Bool.or_false, Bool.false_and, Bool.and_false, Bool.true_or, Bool.or_true, Bool.not_true, Bool.not_false] at hc4
          have hc4p := bne_iff_ne.1 hc4
          refine Tx ?_
          refine Fr EInt ?_
          refine Fr EPlace ?_
          refine rw_callg (fun hG_ => orangeryref_SameView_spec x2.1 x2.2.1 x2.2.2 ((hub_Sees h1 who1).1) (⟨none, 0⟩ : SlV) (⟨none, 0⟩ : SlV) (⟨none, 0⟩ : SlV) (⟨([] : List Int), ([] : List Place), ([] : List Place)⟩ : View)) (fun _ => rfl) .sq (guard_vt rfl rfl rfl) rfl rfl rfl Kr rfl Bt Sm ?_
          refine Tx ?_
          have hr3 : (orangerylaw_HubSays h1 r1 g1 who1) = ((((hub_Sees h1 who1).2) == (orangeryref_CheckHub h1)) && (orangeryref_SameView ((hub_Sees h1 who1).1) (⟨([] : List Int), ([] : List Place), ([] : List Place)⟩ : View))) := by simp only [orangerylaw_HubSays, hg1n, hc1, hc2, hc4, Bool.true_and, Bool.and_true, Bool.false_or, Bool.or_false, Bool.false_and, Bool.and_false, Bool.true_or, Bool.or_true, Bool.not_true, Bool.not_false, cond_true, cond_false]
          refine cw_ret ?_; rw [hr3]; exact Re () (Vt Vn)
        · try simp only [hg1n, Bool.true_and, Bool.and_true, Bool.false_or, Bool.or_false, Bool.false_and, Bool.and_false, Bool.true_or, Bool.or_true, Bool.not_true, Bool.not_false] at hc4
          have hc4p := eq_of_bne_false hc4
          have hb := eq_of_bne_false hc4
          have hcl := hub_Check_len ((CheckHub_eq h1).symm.trans hb)
          have hwr : 0 ≤ who1 ∧ who1 ≤ 2 := by
            rw [hb] at h1c
            simp at h1c
            omega
          refine Tx ?_
          refine cw_join [8, 11, 12] [true, true, true, true, true, true] (fun (i_ : Nat × SlV × SlV × SlV) => match i_ with | ⟨g8, x6, x7, x8⟩ => [(16, .v (.pointer (some ⟨g8, 0, none⟩))), (17, .v (.int .i64 ((orangeryref_Seen h1.h.t ((gt h1.peers who1.toNat).roots)).2)))]) (fun (i_ : Nat × SlV × SlV × SlV) => match i_ with | ⟨g8, x6, x7, x8⟩ => [⟨g8, 51, [x6.val (((orangeryref_Seen h1.h.t ((gt h1.peers who1.toNat).roots)).1).roots).length, x7.val (((orangeryref_Seen h1.h.t ((gt h1.peers who1.toNat).roots)).1).known).length, x8.val (((orangeryref_Seen h1.h.t ((gt h1.peers who1.toNat).roots)).1).way).length]⟩]) (fun (i_ : Nat × SlV × SlV × SlV) => match i_ with | ⟨g8, x6, x7, x8⟩ => []) (fun (i_ : Nat × SlV × SlV × SlV) => match i_ with | ⟨g8, x6, x7, x8⟩ => [RdL EInt x6 (((orangeryref_Seen h1.h.t ((gt h1.peers who1.toNat).roots)).1).roots), RdL EPlace x7 (((orangeryref_Seen h1.h.t ((gt h1.peers who1.toNat).roots)).1).known), RdL EPlace x8 (((orangeryref_Seen h1.h.t ((gt h1.peers who1.toNat).roots)).1).way)]) (fun _ => True) (.cons rfl (.cons rfl (.cons rfl (.nil _)))) (.keep (.keep (.keep (.keep (.keep (.keep (.nil))))))) ?_ ?_
          · refine cw_regionA (fun j => match j with | 14 => none | _ => some []) ?_
            refine Rb 0 [3,4,5,6,7,8,13] [1,2,9,10,11,12,14,15] rfl Qp ?_
            refine Rb 1 [3,4,5,6,7,8,13] [2,9,10,11,12,14,15] rfl Qp ?_
            refine Rb 2 [3,4,5,6,7,8,13] [9,10,11,12,14,15] rfl (q_ldP rfl rfl (fun _ => rfl) rfl Mm rfl) ?_
            refine Rb 3 [5,13] [4,6,7,8,9,10,11,12,14,15] rfl Qp ?_
            refine Rb 4 [5,13] [6,7,8,9,10,11,12,14,15] rfl Q1 ?_
            refine Rb 5 [13] [6,7,8,9,10,11,12,14,15] rfl Qp ?_
            refine rw_exN NPeer (X := y3) (l := h1.peers) Mm fun (γ1 : Nat → SlV) => ?_
            refine Rb 6 [13] [7,8,9,10,11,12,14,15] rfl (q_idxN NPeer γ1 who1.toNat rfl rfl (fun _ => rfl) rfl (fun _ => rfl) rfl rfl rfl Mm rfl (fun _ => by omega) (fun _ => by first | assumption | omega)) ?_
            refine Rb 7 [13] [8,9,10,11,12,14,15] rfl (q_fae rfl rfl (fun _ => rfl) rfl rfl) ?_
            refine Rb 8 [13] [9,10,11,12,14,15] rfl (q_le1N NPeer γ1 (v := (γ1 who1.toNat).val ((gt h1.peers who1.toNat).roots).length) rfl rfl (fun _ => rfl) rfl rfl Mm (fun _ => by first | assumption | omega) rfl) ?_
            refine rw_fact (F := RdL EInt (γ1 who1.toNat) ((gt h1.peers who1.toNat).roots)) [FactsG NPeer γ1 h1.peers] Sm (fun M w h => (allF1 h) who1.toNat (by first | assumption | omega) _ (.head _)) ?_
            refine ra_two 9 13 Kr ?_ ?_
            · refine rw_call (orangeryref_Seen_spec y2 h1.h.t (γ1 who1.toNat) ((gt h1.peers who1.toNat).roots)) (.an rfl rfl) (guard_none rfl) rfl rfl rfl Kr rfl rfl Sm ?_
              intro x9
              refine Pr EInt x9.1 (((orangeryref_Seen h1.h.t ((gt h1.peers who1.toNat).roots)).1).roots) 8 fun hlen23 => ?_
              refine Pr EPlace x9.2.1 (((orangeryref_Seen h1.h.t ((gt h1.peers who1.toNat).roots)).1).known) 24 fun hlen24 => ?_
              refine Pr EPlace x9.2.2 (((orangeryref_Seen h1.h.t ((gt h1.peers who1.toNat).roots)).1).way) 24 fun hlen25 => ?_
              refine Ra 10 [13] rfl Qp ?_
              refine Ra 11 [12,13] rfl Qp ?_
              refine ra_p (.an (i := 12) (js := [13, 14]) rfl Kr Kr Kr Kr) rfl rfl rfl (q_pev rfl (fun _ => rfl)) ?_
              refine ra_one 13 Kr ?_
              refine rw_alloc (.an rfl rfl) (guard_none rfl) rfl rfl rfl rfl fun g9 => ?_
              refine ra_one 14 Kr ?_
              refine rw_stA (.lo [g9] rfl rfl) (.inr (by simp)) (guard_none rfl) rfl rfl rfl rfl rfl rfl rfl rfl rfl Ub rfl ?_
              refine Ra 15 [] rfl Qp ?_
              refine ra_nil Kr ?_
              refine ⟨⟨g9, x9.1, x9.2.1, x9.2.2⟩, trivial, Le4⟩
            · refine rw_alloc (.an rfl rfl) (guard_none rfl) rfl rfl rfl rfl fun g10 => ?_
              refine ra_one 9 Kr ?_
              refine rw_call (orangeryref_Seen_spec y2 h1.h.t (γ1 who1.toNat) ((gt h1.peers who1.toNat).roots)) (.an rfl rfl) (guard_none rfl) rfl rfl rfl Kr rfl rfl Sm ?_
              intro x10
              refine Pr EInt x10.1 (((orangeryref_Seen h1.h.t ((gt h1.peers who1.toNat).roots)).1).roots) 8 fun hlen26 => ?_
              refine Pr EPlace x10.2.1 (((orangeryref_Seen h1.h.t ((gt h1.peers who1.toNat).roots)).1).known) 24 fun hlen27 => ?_
              refine Pr EPlace x10.2.2 (((orangeryref_Seen h1.h.t ((gt h1.peers who1.toNat).roots)).1).way) 24 fun hlen28 => ?_
              refine Ra 10 [] rfl Qp ?_
              refine Ra 11 [12] rfl Qp ?_
              refine ra_p (.an (i := 12) (js := [14]) rfl Kr Kr Kr Kr) rfl rfl rfl (q_pev rfl (fun _ => rfl)) ?_
              refine ra_one 14 Kr ?_
              refine rw_stA (.lo [g10] rfl rfl) (.inr (by simp)) (guard_none rfl) rfl rfl rfl rfl rfl rfl rfl rfl rfl Ub rfl ?_
              refine Ra 15 [] rfl Qp ?_
              refine ra_nil Kr ?_
              refine ⟨⟨g10, x10.1, x10.2.1, x10.2.2⟩, trivial, Le4⟩
          · rintro ⟨g8, x6, x7, x8⟩ -
            simp only [List.cons_append, List.nil_append]
            refine Tx ?_
            refine rw_callg (fun hG_ => orangeryref_SameView_spec x2.1 x2.2.1 x2.2.2 ((hub_Sees h1 who1).1) x6 x7 x8 ((orangeryref_Seen h1.h.t ((gt h1.peers who1.toNat).roots)).1)) (fun _ => rfl) .sq (guard_vt rfl rfl rfl) rfl rfl rfl Kr rfl Bt Sm ?_
            refine Tx ?_
            have hr4 : (orangerylaw_HubSays h1 r1 g1 who1) = ((((hub_Sees h1 who1).2) == ((orangeryref_Seen h1.h.t ((gt h1.peers who1.toNat).roots)).2)) && (orangeryref_SameView ((hub_Sees h1 who1).1) ((orangeryref_Seen h1.h.t ((gt h1.peers who1.toNat).roots)).1))) := by simp only [orangerylaw_HubSays, hg1n, hc1, hc2, hc4, Bool.true_and, Bool.and_true, Bool.false_or, Bool.or_false, Bool.false_and, Bool.and_false, Bool.true_or, Bool.or_true, Bool.not_true, Bool.not_false, cond_true, cond_false]
            refine cw_ret ?_; rw [hr4]; exact Re () (Vt Vn)
  · have hg1n : (((!orangerylaw_accepted) || ((hub_Check h1) != (orangeryref_CheckHub h1))) || (!((hub_Same h1 g1) == (orangeryref_SameHub h1 g1)))) = true := not_is hg1
    refine rw_dead (.an rfl rfl) (guard_vf rfl rfl rfl) hg1 rfl rfl ?_
    refine ra_one 19 Kr ?_
    refine rw_dead (.an rfl rfl) (guard_vf rfl rfl rfl) (by rw [hg1n]; rfl) rfl rfl ?_
    refine ra_one 20 Kr ?_
    refine rw_dead (.an rfl rfl) (guard_vf rfl rfl rfl) (by rw [hg1n]; rfl) rfl rfl ?_
    refine Gb 21 [] [22,23,24,25,26,27,28,29,30,31,32,33] rfl (guard_vf rfl rfl rfl) (q_dead (v := .bool false) (by rw [hg1n]; rfl)) ?_
    refine Rb 22 [] [23,24,25,26,27,28,29,30,31,32,33] rfl (q_pev rfl Bt) ?_
    refine Rb 23 [] [24,25,26,27,28,29,30,31,32,33] rfl Qp ?_
    refine Gb 24 [25] [26,27,28,29,30,31,32,33] rfl (guard_vf rfl rfl rfl) (q_dead (v := .bool false) (by rw [((by simp only [hg1n, Bool.and_false, Bool.false_and, Bool.or_true, Bool.true_or, Bool.or_false, Bool.false_or, Bool.and_true, Bool.true_and, Bool.not_true, Bool.not_false]) : ((((!orangerylaw_accepted) || ((hub_Check h1) != (orangeryref_CheckHub h1))) || (!((hub_Same h1 g1) == (orangeryref_SameHub h1 g1)))) || false) = true)]; rfl)) ?_
    refine Gb 25 [] [26,27,28,29,30,31,32,33] rfl (guard_vf rfl rfl rfl) (q_dead (v := .bool false) (by rw [((by simp only [hg1n, Bool.and_false, Bool.false_and, Bool.or_true, Bool.true_or, Bool.or_false, Bool.false_or, Bool.and_true, Bool.true_and, Bool.not_true, Bool.not_false]) : ((((!orangerylaw_accepted) || ((hub_Check h1) != (orangeryref_CheckHub h1))) || (!((hub_Same h1 g1) == (orangeryref_SameHub h1 g1)))) || false) = true)]; rfl)) ?_
    refine Gb 26 [] [27,28,29,30,31,32,33] rfl (guard_vf rfl rfl rfl) (q_dead (v := .bool false) (by rw [((by simp only [hg1n, Bool.and_false, Bool.false_and, Bool.or_true, Bool.true_or, Bool.or_false, Bool.false_or, Bool.and_true, Bool.true_and, Bool.not_true, Bool.not_false]) : ((((!orangerylaw_accepted) || ((hub_Check h1) != (orangeryref_CheckHub h1))) || (!((hub_Same h1 g1) == (orangeryref_SameHub h1 g1)))) || false) = true)]; rfl)) ?_
    refine Rb 27 [] [28,29,30,31,32,33] rfl (q_pev rfl Bt) ?_
    refine Ra 28 [] rfl Qp ?_
    refine Gb 29 [30] [31,32,33] rfl (guard_vf rfl rfl rfl) (q_dead (v := .bool false) (by rw [((by simp only [hg1n, Bool.and_false, Bool.false_and, Bool.or_true, Bool.true_or, Bool.or_false, Bool.false_or, Bool.and_true, Bool.true_and, Bool.not_true, Bool.not_false]) : (((((!orangerylaw_accepted) || ((hub_Check h1) != (orangeryref_CheckHub h1))) || (!((hub_Same h1 g1) == (orangeryref_SameHub h1 g1)))) || false) || false) = true)]; rfl)) ?_
    refine Gb 30 [] [31,32,33] rfl (guard_vf rfl rfl rfl) (q_dead (v := .bool false) (by rw [((by simp only [hg1n, Bool.and_false, Bool.false_and, Bool.or_true, Bool.true_or, Bool.or_false, Bool.false_or, Bool.and_true, Bool.true_and, Bool.not_true, Bool.not_false]) : (((((!orangerylaw_accepted) || ((hub_Check h1) != (orangeryref_CheckHub h1))) || (!((hub_Same h1 g1) == (orangeryref_SameHub h1 g1)))) || false) || false) = true)]; rfl)) ?_
    refine ra_one 31 Kr ?_
    refine rw_dead (.an rfl rfl) (guard_vf rfl rfl rfl) (by rw [((by simp only [hg1n, Bool.and_false, Bool.false_and, Bool.or_true, Bool.true_or, Bool.or_false, Bool.false_or, Bool.and_true, Bool.true_and, Bool.not_true, Bool.not_false]) : (((((!orangerylaw_accepted) || ((hub_Check h1) != (orangeryref_CheckHub h1))) || (!((hub_Same h1 g1) == (orangeryref_SameHub h1 g1)))) || false) || false) = true)]; rfl) rfl rfl ?_
    refine Ga 32 [] rfl (guard_vf rfl rfl rfl) (q_dead (v := .bool false) (by rw [((by simp only [hg1n, Bool.and_false, Bool.false_and, Bool.or_true, Bool.true_or, Bool.or_false, Bool.false_or, Bool.and_true, Bool.true_and, Bool.not_true, Bool.not_false]) : (((((!orangerylaw_accepted) || ((hub_Check h1) != (orangeryref_CheckHub h1))) || (!((hub_Same h1 g1) == (orangeryref_SameHub h1 g1)))) || false) || false) = true)]; rfl)) ?_
    refine Ra 33 [] rfl (q_pev rfl Bt) ?_
    refine ra_nil Kr ?_
    (repeat refine cw_seq ?_)
    refine Cd (b := ((((((!orangerylaw_accepted) || ((hub_Check h1) != (orangeryref_CheckHub h1))) || (!((hub_Same h1 g1) == (orangeryref_SameHub h1 g1)))) || false) || false) || false)) (fun hc5 => ?_) fun hc5 => ?_
    · refine Tx ?_
      have hr5 : (orangerylaw_HubSays h1 r1 g1 who1) = false := by simp only [orangerylaw_HubSays, hg1n, Bool.true_and, Bool.and_true, Bool.false_or, Bool.or_false, Bool.false_and, Bool.and_false, Bool.true_or, Bool.or_true, Bool.not_true, Bool.not_false, cond_true, cond_false]
      refine cw_ret ?_; rw [hr5]; exact Re () (Vt Vn)
    · exact Bool.noConfusion (hc5.symm.trans ((by simp only [hg1n, Bool.and_false, Bool.false_and, Bool.or_true, Bool.true_or, Bool.or_false, Bool.false_or, Bool.and_true, Bool.true_and, Bool.not_true, Bool.not_false]) : ((((((!orangerylaw_accepted) || ((hub_Check h1) != (orangeryref_CheckHub h1))) || (!((hub_Same h1 g1) == (orangeryref_SameHub h1 g1)))) || false) || false) || false) = true))
end Go.Proofs.Ytchdacbjiomplaa
