/- Part of this claim. No condition. -/
import Derived.Test.YtaiefncoholnnaaDoorY6
set_option linter.unusedVariables false
set_option linter.unusedSimpArgs false
set_option maxHeartbeats 2000000
namespace Go.Proofs.YtaiefncoholnnaaDoor
open Go Go.Proofs.YtaiefncoholnnaaDoor.Fw Go.Proofs
attribute [local irreducible] RdL RdN VarP LibP RW CW
def orangerylaw_lined  : Bool :=
  ((((((((note_Print (⟨1, 0, 0, ([] : List Int), (orangerylaw_op 3 1 4 2)⟩ : Rec)).2) == 0) && (((note_Print (⟨3, 1, 0, [0, 5], (⟨0, 0, 0, 0, 0, 0, 0⟩ : Op)⟩ : Rec)).2) == 0)) && (((note_Parse ((note_Print (⟨1, 0, 0, ([] : List Int), (orangerylaw_op 3 1 4 2)⟩ : Rec)).1)).2) == 0)) && (((note_Print (⟨1, 0, 0, ([] : List Int), (orangerylaw_op 3 1 4 2)⟩ : Rec)).1) == ([111, 112, 32, 51, 32, 49, 32, 52, 32, 50, 32, 48, 32, 49, 32, 51] : Str))) && (((note_Print (⟨3, 1, 0, [0, 5], (⟨0, 0, 0, 0, 0, 0, 0⟩ : Op)⟩ : Rec)).1) == ([114, 111, 111, 116, 115, 32, 49, 32, 48, 32, 53] : Str))) && decide ((((note_Parse ((note_Print (⟨1, 0, 0, ([] : List Int), (orangerylaw_op 3 1 4 2)⟩ : Rec)).1)).1).o) = (orangerylaw_op 3 1 4 2)))
theorem orangerylaw_lined_spec  : Does Tryd.prog 8 [] [LibP Tryd.prog] (fun (_ : Unit) => .bool (orangerylaw_lined)) (fun (_ : Unit) => []) := by
  refine does_of tab_ok Tryd.func8 rfl Tryd.ntmps8 Tryd.results8 rfl inferInstance (fun _ => inferInstance) fun C => ?_
  refine Tx ?_
  refine Cl (orangerylaw_op_spec 3 1 4 2) fun _ => ?_
  refine Rp rfl rfl rfl rfl ?_
  refine Fr EInt ?_
  refine Cl (note_Print_spec (⟨none, 0⟩ : SlV) (⟨1, 0, 0, ([] : List Int), (orangerylaw_op 3 1 4 2)⟩ : Rec)) fun _ => ?_
  refine Tx ?_
  refine rw_bsliceL EInt [0, 5] .sq (guard_none rfl) rfl rfl rfl rfl rfl rfl rfl rfl rfl rfl rfl rfl rfl rfl rfl fun x1 x1b => ?_
  refine Rp rfl rfl rfl rfl ?_
  refine rw_callR (note_Print_spec x1 (⟨3, 1, 0, [0, 5], (⟨0, 0, 0, 0, 0, 0, 0⟩ : Op)⟩ : Rec)) .sq (guard_none rfl) rfl rfl rfl Kr rfl rfl (.own Mm (.fact Mm (.nil _ _))) ?_
  intro _
  refine Tx ?_
  refine Cl (note_Parse_spec ((note_Print (⟨1, 0, 0, ([] : List Int), (orangerylaw_op 3 1 4 2)⟩ : Rec)).1)) fun x2 => ?_
  refine Pr EInt x2 (((note_Parse ((note_Print (⟨1, 0, 0, ([] : List Int), (orangerylaw_op 3 1 4 2)⟩ : Rec)).1)).1).roots) 8 fun hlen1 => ?_
  refine Tx ?_
  refine Al fun g1 => ?_
  refine Tx ?_
  (repeat refine cw_seq ?_); refine cw_regionA (fun _ => some []) ?_
  refine Rb 0 [] [1,2,3,4,5,6,7,8,9,10,11,12,13,14,15,16,17,18,19,20,21,22,23,24] rfl Qp ?_
  refine Rb 1 [] [2,3,4,5,6,7,8,9,10,11,12,13,14,15,16,17,18,19,20,21,22,23,24] rfl Qp ?_
  refine Rb 2 [] [3,4,5,6,7,8,9,10,11,12,13,14,15,16,17,18,19,20,21,22,23,24] rfl Qp ?_
  refine Gb 3 [] [4,5,6,7,8,9,10,11,12,13,14,15,16,17,18,19,20,21,22,23,24] rfl (guard_vt rfl rfl rfl) (q_pev rfl Bt) ?_
  refine Gb 4 [] [5,6,7,8,9,10,11,12,13,14,15,16,17,18,19,20,21,22,23,24] rfl (guard_vt rfl rfl rfl) (q_pev rfl Bt) ?_
  refine Rb 5 [] [6,7,8,9,10,11,12,13,14,15,16,17,18,19,20,21,22,23,24] rfl (q_pev rfl Bt) ?_
  refine Rb 6 [] [7,8,9,10,11,12,13,14,15,16,17,18,19,20,21,22,23,24] rfl Qp ?_
  refine Gb 7 [] [8,9,10,11,12,13,14,15,16,17,18,19,20,21,22,23,24] rfl (guard_vt rfl rfl rfl) (q_pev rfl Bt) ?_
  refine Gb 8 [] [9,10,11,12,13,14,15,16,17,18,19,20,21,22,23,24] rfl (guard_vt rfl rfl rfl) (q_pev rfl Bt) ?_
  refine Rb 9 [] [10,11,12,13,14,15,16,17,18,19,20,21,22,23,24] rfl (q_pev rfl Bt) ?_
  refine Rb 10 [] [11,12,13,14,15,16,17,18,19,20,21,22,23,24] rfl Qp ?_
  refine Gb 11 [] [12,13,14,15,16,17,18,19,20,21,22,23,24] rfl (guard_vt rfl rfl rfl) (q_pev rfl Bt) ?_
  refine Gb 12 [] [13,14,15,16,17,18,19,20,21,22,23,24] rfl (guard_vt rfl rfl rfl) (q_eqS (a := (note_Print (⟨1, 0, 0, ([] : List Int), (orangerylaw_op 3 1 4 2)⟩ : Rec)).1) (b := ([111, 112, 32, 51, 32, 49, 32, 52, 32, 50, 32, 48, 32, 49, 32, 51] : Str)) rfl rfl Bt rfl Bt) ?_
  refine Rb 13 [] [14,15,16,17,18,19,20,21,22,23,24] rfl (q_pev rfl Bt) ?_
  refine Rb 14 [] [15,16,17,18,19,20,21,22,23,24] rfl Qp ?_
  refine Gb 15 [] [16,17,18,19,20,21,22,23,24] rfl (guard_vt rfl rfl rfl) (q_pev rfl Bt) ?_
  refine Gb 16 [] [17,18,19,20,21,22,23,24] rfl (guard_vt rfl rfl rfl) (q_eqS (a := (note_Print (⟨3, 1, 0, [0, 5], (⟨0, 0, 0, 0, 0, 0, 0⟩ : Op)⟩ : Rec)).1) (b := ([114, 111, 111, 116, 115, 32, 49, 32, 48, 32, 53] : Str)) rfl rfl Bt rfl Bt) ?_
  refine Rb 17 [] [18,19,20,21,22,23,24] rfl (q_pev rfl Bt) ?_
  refine Ra 18 [] rfl Qp ?_
  refine Gb 19 [21] [20,22,23,24] rfl (guard_vt rfl rfl rfl) (q_pev rfl Bt) ?_
  refine Gb 20 [21] [22,23,24] rfl (guard_vt rfl rfl rfl) (q_ldP rfl rfl Bt rfl Mm rfl) ?_
  refine ra_one 21 Kr ?_
  refine rw_callg (fun hG_ => orangerylaw_op_spec 3 1 4 2) (fun _ => rfl) (.an rfl rfl) (guard_vt rfl rfl rfl) rfl rfl rfl Kr rfl Bt Sm ?_
  refine Ga 22 [] rfl (guard_vt rfl rfl rfl) (q_eqE eqT_Op (flatEq_Op (((note_Parse ((note_Print (⟨1, 0, 0, ([] : List Int), (orangerylaw_op 3 1 4 2)⟩ : Rec)).1)).1).o) (orangerylaw_op 3 1 4 2)) rfl rfl Bt rfl Bt rfl rfl) ?_
  refine Ra 23 [] rfl (q_pev rfl Bt) ?_
  refine Ra 24 [] rfl Qp ?_
  refine ra_nil Kr ?_
  (repeat refine cw_seq ?_)
  have hr1 : (orangerylaw_lined) = ((((((((note_Print (⟨1, 0, 0, ([] : List Int), (orangerylaw_op 3 1 4 2)⟩ : Rec)).2) == 0) && (((note_Print (⟨3, 1, 0, [0, 5], (⟨0, 0, 0, 0, 0, 0, 0⟩ : Op)⟩ : Rec)).2) == 0)) && (((note_Parse ((note_Print (⟨1, 0, 0, ([] : List Int), (orangerylaw_op 3 1 4 2)⟩ : Rec)).1)).2) == 0)) && (((note_Print (⟨1, 0, 0, ([] : List Int), (orangerylaw_op 3 1 4 2)⟩ : Rec)).1) == ([111, 112, 32, 51, 32, 49, 32, 52, 32, 50, 32, 48, 32, 49, 32, 51] : Str))) && (((note_Print (⟨3, 1, 0, [0, 5], (⟨0, 0, 0, 0, 0, 0, 0⟩ : Op)⟩ : Rec)).1) == ([114, 111, 111, 116, 115, 32, 49, 32, 48, 32, 53] : Str))) && decide ((((note_Parse ((note_Print (⟨1, 0, 0, ([] : List Int), (orangerylaw_op 3 1 4 2)⟩ : Rec)).1)).1).o) = (orangerylaw_op 3 1 4 2))) := by simp only [orangerylaw_lined, cond_true, cond_false]
  refine cw_ret ?_; rw [hr1]; exact Re () (Vt Vn)
end Go.Proofs.YtaiefncoholnnaaDoor
