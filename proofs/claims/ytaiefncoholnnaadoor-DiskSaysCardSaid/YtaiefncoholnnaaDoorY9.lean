/- Part of this claim. No condition. -/
import Derived.Test.YtaiefncoholnnaaDoorY7
import Derived.Test.YtaiefncoholnnaaDoorY4
set_option linter.unusedVariables false
set_option linter.unusedSimpArgs false
set_option maxHeartbeats 2000000
namespace Go.Proofs.YtaiefncoholnnaaDoor
open Go Go.Proofs.YtaiefncoholnnaaDoor.Fw Go.Proofs
attribute [local irreducible] RdL RdN VarP LibP RW CW
def orangerylaw_NoteSays (r1 : Rec) (q1 : Rec) (s1 : Str) : Bool :=
  (bif (((((!orangerylaw_lined) || ((note_Check r1) != ((orangeryref_RecText r1).2))) || (((note_Print r1).2) != ((orangeryref_RecText r1).2))) || (((note_Print r1).1) != ((orangeryref_RecText r1).1))) || (!((note_Same r1 q1) == (orangeryref_SameRec r1 q1)))) then false else (bif decide ((s1.length : Int) > 60000) then ((((note_Parse s1).2) == 2) && (orangeryref_SameRec ((note_Parse s1).1) (⟨0, 0, 0, ([] : List Int), (⟨0, 0, 0, 0, 0, 0, 0⟩ : Op)⟩ : Rec))) else ((((note_Parse s1).2) == ((orangeryref_RecRead s1).2)) && (orangeryref_SameRec ((note_Parse s1).1) ((orangeryref_RecRead s1).1)))))
theorem orangerylaw_NoteSays_spec (y1 : SlV) (r1 : Rec) (y2 : SlV) (q1 : Rec) (s1 : Str) : Does Tryd.prog 4 [.agg ⟨[.int .i64 r1.kind, .int .i64 r1.who, .int .i64 r1.life, y1.val r1.roots.length, .int .i64 r1.o.time, .int .i64 r1.o.who, .int .i64 r1.o.node, .int .i64 r1.o.parent, .int .i64 r1.o.name, .int .i64 r1.o.life, .int .i64 r1.o.seq]⟩, .agg ⟨[.int .i64 q1.kind, .int .i64 q1.who, .int .i64 q1.life, y2.val q1.roots.length, .int .i64 q1.o.time, .int .i64 q1.o.who, .int .i64 q1.o.node, .int .i64 q1.o.parent, .int .i64 q1.o.name, .int .i64 q1.o.life, .int .i64 q1.o.seq]⟩, sV s1] [RdL EInt y1 r1.roots, RdL EInt y2 q1.roots, LibP Tryd.prog] (fun (_ : Unit) => .bool (orangerylaw_NoteSays r1 q1 s1)) (fun (_ : Unit) => []) := by
  refine does_of tab_ok Tryd.func4 rfl Tryd.ntmps4 Tryd.results4 rfl inferInstance (fun _ => inferInstance) fun C => ?_
  refine Pc EInt y1 r1.roots 8 fun hlen1 => ?_
  refine Pc EInt y2 q1.roots 8 fun hlen2 => ?_
  refine Tx ?_
  refine Bx fun g1 => ?_
  refine Bx fun g2 => ?_
  refine Tx ?_
  refine Cl (note_Print_spec y1 r1) fun _ => ?_
  refine Tx ?_
  refine Cl (note_Parse_spec s1) fun x1 => ?_
  refine Pr EInt x1 (((note_Parse s1).1).roots) 8 fun hlen3 => ?_
  refine Tx ?_
  refine Al fun g3 => ?_
  refine Tx ?_
  refine Cl (orangeryref_RecText_spec y1 r1) fun _ => ?_
  refine Tx ?_
  (repeat refine cw_seq ?_); refine cw_regionA (fun _ => some []) ?_
  refine ra_one 0 Kr ?_
  refine rw_call (orangerylaw_lined_spec ) (.an rfl rfl) (guard_none rfl) rfl rfl rfl Kr rfl rfl Sm ?_
  intro _
  refine Rb 1 [] [2,3,4,5,6,7,8,9,10,11,12,13,14,15,16,17,18,19,20,21,22,23,24,25,26] rfl Qp ?_
  refine Rb 2 [] [3,4,5,6,7,8,9,10,11,12,13,14,15,16,17,18,19,20,21,22,23,24,25,26] rfl Qp ?_
  refine Gb 3 [5] [4,6,7,8,9,10,11,12,13,14,15,16,17,18,19,20,21,22,23,24,25,26] rfl (guard_vf rfl rfl rfl) (q_ldA rfl rfl Bt rfl Mm rfl) ?_
  refine Gb 5 [4] [6,7,8,9,10,11,12,13,14,15,16,17,18,19,20,21,22,23,24,25,26] rfl (guard_vf rfl rfl rfl) (q_pev rfl Bt) ?_
  refine ra_one 4 Kr ?_
  refine rw_callg (fun hG_ => note_Check_spec y1 r1) (fun _ => rfl) (.an rfl rfl) (guard_vf rfl rfl rfl) rfl rfl rfl Kr rfl Bt Sm ?_
  refine Gb 6 [] [7,8,9,10,11,12,13,14,15,16,17,18,19,20,21,22,23,24,25,26] rfl (guard_vf rfl rfl rfl) (q_pev rfl Bt) ?_
  refine Rb 7 [] [8,9,10,11,12,13,14,15,16,17,18,19,20,21,22,23,24,25,26] rfl (q_pev rfl Bt) ?_
  refine Rb 8 [] [9,10,11,12,13,14,15,16,17,18,19,20,21,22,23,24,25,26] rfl Qp ?_
  refine Gb 9 [10] [11,12,13,14,15,16,17,18,19,20,21,22,23,24,25,26] rfl (guard_vf rfl rfl rfl) (q_pev rfl Bt) ?_
  refine Gb 10 [] [11,12,13,14,15,16,17,18,19,20,21,22,23,24,25,26] rfl (guard_vf rfl rfl rfl) (q_pev rfl Bt) ?_
  refine Gb 11 [] [12,13,14,15,16,17,18,19,20,21,22,23,24,25,26] rfl (guard_vf rfl rfl rfl) (q_pev rfl Bt) ?_
  refine Rb 12 [] [13,14,15,16,17,18,19,20,21,22,23,24,25,26] rfl (q_pev rfl Bt) ?_
  refine Rb 13 [] [14,15,16,17,18,19,20,21,22,23,24,25,26] rfl Qp ?_
  refine Gb 14 [15] [16,17,18,19,20,21,22,23,24,25,26] rfl (guard_vf rfl rfl rfl) (q_pev rfl Bt) ?_
  refine Gb 15 [] [16,17,18,19,20,21,22,23,24,25,26] rfl (guard_vf rfl rfl rfl) (q_pev rfl Bt) ?_
  refine Gb 16 [] [17,18,19,20,21,22,23,24,25,26] rfl (guard_vf rfl rfl rfl) (q_neS (a := (note_Print r1).1) (b := (orangeryref_RecText r1).1) rfl rfl Bt rfl Bt) ?_
  refine Rb 17 [] [18,19,20,21,22,23,24,25,26] rfl (q_pev rfl Bt) ?_
  refine Ra 18 [] rfl Qp ?_
  refine Gb 19 [20,22,23] [21,24,25,26] rfl (guard_vf rfl rfl rfl) (q_ldA rfl rfl Bt rfl Mm rfl) ?_
  refine Gb 20 [22,23] [21,24,25,26] rfl (guard_vf rfl rfl rfl) (q_ldA rfl rfl Bt rfl Mm rfl) ?_
  refine Gb 22 [21,23] [24,25,26] rfl (guard_vf rfl rfl rfl) (q_ldA rfl rfl Bt rfl Mm rfl) ?_
  refine Gb 23 [21] [24,25,26] rfl (guard_vf rfl rfl rfl) (q_ldA rfl rfl Bt rfl Mm rfl) ?_
  refine ra_one 21 Kr ?_
  refine rw_callg (fun hG_ => note_Same_spec y1 r1 y2 q1) (fun _ => rfl) (.an rfl rfl) (guard_vf rfl rfl rfl) rfl rfl rfl Kr rfl Bt Sm ?_
  refine ra_one 24 Kr ?_
  refine rw_callg (fun hG_ => orangeryref_SameRec_spec y1 r1 y2 q1) (fun _ => rfl) (.an rfl rfl) (guard_vf rfl rfl rfl) rfl rfl rfl Kr rfl Bt Sm ?_
  refine Ga 25 [] rfl (guard_vf rfl rfl rfl) (q_neb und_4 rfl rfl Bt rfl Bt) ?_
  refine Ra 26 [] rfl (q_pev rfl Bt) ?_
  refine ra_nil Kr ?_
  (repeat refine cw_seq ?_)
  refine Cd (b := (((((!orangerylaw_lined) || ((note_Check r1) != ((orangeryref_RecText r1).2))) || (((note_Print r1).2) != ((orangeryref_RecText r1).2))) || (((note_Print r1).1) != ((orangeryref_RecText r1).1))) || (!((note_Same r1 q1) == (orangeryref_SameRec r1 q1))))) (fun hc1 => ?_) fun hc1 => ?_
  · refine Tx ?_
    have hr1 : (orangerylaw_NoteSays r1 q1 s1) = false := by simp only [orangerylaw_NoteSays, hc1, cond_true, cond_false]
    refine cw_ret ?_; rw [hr1]; exact Re () (Vt Vn)
  · refine Tx ?_
    refine rw_q rfl rfl rfl (q_lenS (a := s1) rfl rfl (fun _ => rfl) und_9) ?_
    refine Tx ?_
    refine Cd (b := decide ((s1.length : Int) > 60000)) (fun hc2 => ?_) fun hc2 => ?_
    · have hc2p := of_decide_eq_true hc2
      refine Tx ?_
      refine Fr EInt ?_
      refine rw_callg (fun hG_ => orangeryref_SameRec_spec x1 ((note_Parse s1).1) (⟨none, 0⟩ : SlV) (⟨0, 0, 0, ([] : List Int), (⟨0, 0, 0, 0, 0, 0, 0⟩ : Op)⟩ : Rec)) (fun _ => rfl) .sq (guard_vt rfl rfl rfl) rfl rfl rfl Kr rfl Bt Sm ?_
      refine Tx ?_
      have hr2 : (orangerylaw_NoteSays r1 q1 s1) = ((((note_Parse s1).2) == 2) && (orangeryref_SameRec ((note_Parse s1).1) (⟨0, 0, 0, ([] : List Int), (⟨0, 0, 0, 0, 0, 0, 0⟩ : Op)⟩ : Rec))) := by simp only [orangerylaw_NoteSays, hc1, hc2, cond_true, cond_false]
      refine cw_ret ?_; rw [hr2]; exact Re () (Vt Vn)
    · have hc2p := of_decide_eq_false hc2
      refine Tx ?_
      refine Cl (orangeryref_RecRead_spec s1 (by first | assumption | omega)) fun x2 => ?_
      refine Pr EInt x2 (((orangeryref_RecRead s1).1).roots) 8 fun hlen4 => ?_
      refine Tx ?_
      refine Al fun g4 => ?_
      refine Tx ?_
      refine rw_callg (fun hG_ => orangeryref_SameRec_spec x1 ((note_Parse s1).1) x2 ((orangeryref_RecRead s1).1)) (fun _ => rfl) .sq (guard_vt rfl rfl rfl) rfl rfl rfl Kr rfl Bt Sm ?_
      refine Tx ?_
      have hr3 : (orangerylaw_NoteSays r1 q1 s1) = ((((note_Parse s1).2) == ((orangeryref_RecRead s1).2)) && (orangeryref_SameRec ((note_Parse s1).1) ((orangeryref_RecRead s1).1))) := by simp only [orangerylaw_NoteSays, hc1, hc2, cond_true, cond_false]
      refine cw_ret ?_; rw [hr3]; exact Re () (Vt Vn)
end Go.Proofs.YtaiefncoholnnaaDoor
