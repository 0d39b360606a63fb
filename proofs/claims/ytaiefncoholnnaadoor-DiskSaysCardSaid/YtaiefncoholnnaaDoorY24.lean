/- Part of this claim. No condition. -/
import Derived.Test.YtaiefncoholnnaaDoorY22
import Derived.Test.YtaiefncoholnnaaDoorY23
set_option linter.unusedVariables false
set_option linter.unusedSimpArgs false
set_option maxHeartbeats 2000000
namespace Go.Proofs.YtaiefncoholnnaaDoor
open Go Go.Proofs.YtaiefncoholnnaaDoor.Fw Go.Proofs
attribute [local irreducible] RdL RdN VarP LibP RW CW
theorem tmod_in (k n : Int) (h : 0 < n) : -n < k.tmod n ∧ k.tmod n < n := ⟨by have := Int.lt_tmod_of_pos k h; omega, Int.tmod_lt_of_pos k h⟩

def orangerylaw_at (k1 : Int) (n1 : Int) : Int :=
  (bif decide ((k1.tmod n1) < 0) then ((k1.tmod n1) + n1) else (k1.tmod n1))
theorem orangerylaw_at_spec (k1 : Int) (n1 : Int) (hn : 0 < n1 ∧ n1 ≤ 1000000000000000000) : Does Tryd.prog 20 [.int .i64 k1, .int .i64 n1] [] (fun (_ : Unit) => .int .i64 (orangerylaw_at k1 n1)) (fun (_ : Unit) => []) := by
  refine does_of tab_ok Tryd.func20 rfl Tryd.ntmps20 Tryd.results20 rfl inferInstance (fun _ => inferInstance) fun C => ?_
  refine Tx ?_
  refine rw_q rfl rfl rfl (q_rem rfl rfl (fun _ => rfl) rfl (fun _ => rfl) (fun _ => by first | omega | (have := tmod_in k1 n1 (by omega); omega))) ?_
  refine Tx ?_
  refine Cd (b := decide ((k1.tmod n1) < 0)) (fun hc1 => ?_) fun hc1 => ?_
  · have hc1p := of_decide_eq_true hc1
    refine Tx ?_
    refine rw_q rfl rfl rfl (q_add rfl rfl (fun _ => rfl) rfl (fun _ => rfl) (fun _ => by first | omega | (have := tmod_in k1 n1 (by omega); omega))) ?_
    refine Tx ?_
    have hr1 : (orangerylaw_at k1 n1) = ((k1.tmod n1) + n1) := by simp only [orangerylaw_at, hc1, cond_true, cond_false]
    refine cw_ret ?_; rw [hr1]; exact Re () (Vt Vn)
  · have hc1p := of_decide_eq_false hc1
    refine Tx ?_
    have hr2 : (orangerylaw_at k1 n1) = (k1.tmod n1) := by simp only [orangerylaw_at, hc1, cond_true, cond_false]
    refine cw_ret ?_; rw [hr2]; exact Re () (Vt Vn)

theorem at_in {k n : Int} (h : 0 < n) : 0 ≤ orangerylaw_at k n ∧ orangerylaw_at k n < n := by
  have := tmod_in k n h
  unfold orangerylaw_at
  cases hb : decide (k.tmod n < 0) with
  | true => have := of_decide_eq_true hb; simp only [cond_true]; omega
  | false => have := of_decide_eq_false hb; simp only [cond_false]; omega

def orangerylaw_filed  : Bool :=
  (((((((((((disk_Put (⟨([] : List UInt8), ([] : List UInt8)⟩ : Disk) (⟨2, 1, 2, ([] : List Int), (⟨0, 0, 0, 0, 0, 0, 0⟩ : Op)⟩ : Rec)).2) == 0) && (((disk_Sync ((disk_Put (⟨([] : List UInt8), ([] : List UInt8)⟩ : Disk) (⟨2, 1, 2, ([] : List Int), (⟨0, 0, 0, 0, 0, 0, 0⟩ : Op)⟩ : Rec)).1)).2) == 0)) && (((disk_Put ((disk_Sync ((disk_Put (⟨([] : List UInt8), ([] : List UInt8)⟩ : Disk) (⟨2, 1, 2, ([] : List Int), (⟨0, 0, 0, 0, 0, 0, 0⟩ : Op)⟩ : Rec)).1)).1) (⟨2, 1, 3, ([] : List Int), (⟨0, 0, 0, 0, 0, 0, 0⟩ : Op)⟩ : Rec)).2) == 0)) && (((disk_Crash ((disk_Put ((disk_Sync ((disk_Put (⟨([] : List UInt8), ([] : List UInt8)⟩ : Disk) (⟨2, 1, 2, ([] : List Int), (⟨0, 0, 0, 0, 0, 0, 0⟩ : Op)⟩ : Rec)).1)).1) (⟨2, 1, 3, ([] : List Int), (⟨0, 0, 0, 0, 0, 0, 0⟩ : Op)⟩ : Rec)).1) 4).2) == 0)) && (((disk_Recover ((disk_Crash ((disk_Put ((disk_Sync ((disk_Put (⟨([] : List UInt8), ([] : List UInt8)⟩ : Disk) (⟨2, 1, 2, ([] : List Int), (⟨0, 0, 0, 0, 0, 0, 0⟩ : Op)⟩ : Rec)).1)).1) (⟨2, 1, 3, ([] : List Int), (⟨0, 0, 0, 0, 0, 0, 0⟩ : Op)⟩ : Rec)).1) 4).1)).2.2) == 0)) && ((((disk_Recover ((disk_Crash ((disk_Put ((disk_Sync ((disk_Put (⟨([] : List UInt8), ([] : List UInt8)⟩ : Disk) (⟨2, 1, 2, ([] : List Int), (⟨0, 0, 0, 0, 0, 0, 0⟩ : Op)⟩ : Rec)).1)).1) (⟨2, 1, 3, ([] : List Int), (⟨0, 0, 0, 0, 0, 0, 0⟩ : Op)⟩ : Rec)).1) 4).1)).1).safe) == ([108, 105, 102, 101, 32, 49, 32, 50, 10] : Str))) && (((((disk_Recover ((disk_Crash ((disk_Put ((disk_Sync ((disk_Put (⟨([] : List UInt8), ([] : List UInt8)⟩ : Disk) (⟨2, 1, 2, ([] : List Int), (⟨0, 0, 0, 0, 0, 0, 0⟩ : Op)⟩ : Rec)).1)).1) (⟨2, 1, 3, ([] : List Int), (⟨0, 0, 0, 0, 0, 0, 0⟩ : Op)⟩ : Rec)).1) 4).1)).1).wait).length : Int) == 0)) && ((((disk_Recover ((disk_Crash ((disk_Put ((disk_Sync ((disk_Put (⟨([] : List UInt8), ([] : List UInt8)⟩ : Disk) (⟨2, 1, 2, ([] : List Int), (⟨0, 0, 0, 0, 0, 0, 0⟩ : Op)⟩ : Rec)).1)).1) (⟨2, 1, 3, ([] : List Int), (⟨0, 0, 0, 0, 0, 0, 0⟩ : Op)⟩ : Rec)).1) 4).1)).2.1).length : Int) == 1)) && (((gt ((disk_Recover ((disk_Crash ((disk_Put ((disk_Sync ((disk_Put (⟨([] : List UInt8), ([] : List UInt8)⟩ : Disk) (⟨2, 1, 2, ([] : List Int), (⟨0, 0, 0, 0, 0, 0, 0⟩ : Op)⟩ : Rec)).1)).1) (⟨2, 1, 3, ([] : List Int), (⟨0, 0, 0, 0, 0, 0, 0⟩ : Op)⟩ : Rec)).1) 4).1)).2.1) 0).life) == 2))
theorem orangerylaw_filed_spec  : Does Tryd.prog 15 [] [LibP Tryd.prog] (fun (_ : Unit) => .bool (orangerylaw_filed)) (fun (_ : Unit) => []) := by
  refine does_of tab_ok Tryd.func15 rfl Tryd.ntmps15 Tryd.results15 rfl inferInstance (fun _ => inferInstance) fun C => ?_
  refine Tx ?_
  refine Fr EByte ?_
  refine Fr EInt ?_
  refine Cl (disk_Put_spec (⟨none, 0⟩ : SlV) (⟨none, 0⟩ : SlV) (⟨([] : List UInt8), ([] : List UInt8)⟩ : Disk) (⟨none, 0⟩ : SlV) (⟨2, 1, 2, ([] : List Int), (⟨0, 0, 0, 0, 0, 0, 0⟩ : Op)⟩ : Rec)) fun x1 => ?_
  refine Pr EByte x1.1 (((disk_Put (⟨([] : List UInt8), ([] : List UInt8)⟩ : Disk) (⟨2, 1, 2, ([] : List Int), (⟨0, 0, 0, 0, 0, 0, 0⟩ : Op)⟩ : Rec)).1).safe) 1 fun hlen1 => ?_
  refine Pr EByte x1.2 (((disk_Put (⟨([] : List UInt8), ([] : List UInt8)⟩ : Disk) (⟨2, 1, 2, ([] : List Int), (⟨0, 0, 0, 0, 0, 0, 0⟩ : Op)⟩ : Rec)).1).wait) 1 fun hlen2 => ?_
  refine Tx ?_
  refine Al fun g1 => ?_
  refine Tx ?_
  refine Cl (disk_Sync_spec x1.1 x1.2 ((disk_Put (⟨([] : List UInt8), ([] : List UInt8)⟩ : Disk) (⟨2, 1, 2, ([] : List Int), (⟨0, 0, 0, 0, 0, 0, 0⟩ : Op)⟩ : Rec)).1)) fun x2 => ?_
  refine Pr EByte x2.1 (((disk_Sync ((disk_Put (⟨([] : List UInt8), ([] : List UInt8)⟩ : Disk) (⟨2, 1, 2, ([] : List Int), (⟨0, 0, 0, 0, 0, 0, 0⟩ : Op)⟩ : Rec)).1)).1).safe) 1 fun hlen3 => ?_
  refine Pr EByte x2.2 (((disk_Sync ((disk_Put (⟨([] : List UInt8), ([] : List UInt8)⟩ : Disk) (⟨2, 1, 2, ([] : List Int), (⟨0, 0, 0, 0, 0, 0, 0⟩ : Op)⟩ : Rec)).1)).1).wait) 1 fun hlen4 => ?_
  refine Tx ?_
  refine Cl (disk_Put_spec x2.1 x2.2 ((disk_Sync ((disk_Put (⟨([] : List UInt8), ([] : List UInt8)⟩ : Disk) (⟨2, 1, 2, ([] : List Int), (⟨0, 0, 0, 0, 0, 0, 0⟩ : Op)⟩ : Rec)).1)).1) (⟨none, 0⟩ : SlV) (⟨2, 1, 3, ([] : List Int), (⟨0, 0, 0, 0, 0, 0, 0⟩ : Op)⟩ : Rec)) fun x3 => ?_
  refine Pr EByte x3.1 (((disk_Put ((disk_Sync ((disk_Put (⟨([] : List UInt8), ([] : List UInt8)⟩ : Disk) (⟨2, 1, 2, ([] : List Int), (⟨0, 0, 0, 0, 0, 0, 0⟩ : Op)⟩ : Rec)).1)).1) (⟨2, 1, 3, ([] : List Int), (⟨0, 0, 0, 0, 0, 0, 0⟩ : Op)⟩ : Rec)).1).safe) 1 fun hlen5 => ?_
  refine Pr EByte x3.2 (((disk_Put ((disk_Sync ((disk_Put (⟨([] : List UInt8), ([] : List UInt8)⟩ : Disk) (⟨2, 1, 2, ([] : List Int), (⟨0, 0, 0, 0, 0, 0, 0⟩ : Op)⟩ : Rec)).1)).1) (⟨2, 1, 3, ([] : List Int), (⟨0, 0, 0, 0, 0, 0, 0⟩ : Op)⟩ : Rec)).1).wait) 1 fun hlen6 => ?_
  refine Tx ?_
  refine Cl (disk_Crash_spec x3.1 x3.2 ((disk_Put ((disk_Sync ((disk_Put (⟨([] : List UInt8), ([] : List UInt8)⟩ : Disk) (⟨2, 1, 2, ([] : List Int), (⟨0, 0, 0, 0, 0, 0, 0⟩ : Op)⟩ : Rec)).1)).1) (⟨2, 1, 3, ([] : List Int), (⟨0, 0, 0, 0, 0, 0, 0⟩ : Op)⟩ : Rec)).1) 4) fun x4 => ?_
  refine Pr EByte x4.1 (((disk_Crash ((disk_Put ((disk_Sync ((disk_Put (⟨([] : List UInt8), ([] : List UInt8)⟩ : Disk) (⟨2, 1, 2, ([] : List Int), (⟨0, 0, 0, 0, 0, 0, 0⟩ : Op)⟩ : Rec)).1)).1) (⟨2, 1, 3, ([] : List Int), (⟨0, 0, 0, 0, 0, 0, 0⟩ : Op)⟩ : Rec)).1) 4).1).safe) 1 fun hlen7 => ?_
  refine Pr EByte x4.2 (((disk_Crash ((disk_Put ((disk_Sync ((disk_Put (⟨([] : List UInt8), ([] : List UInt8)⟩ : Disk) (⟨2, 1, 2, ([] : List Int), (⟨0, 0, 0, 0, 0, 0, 0⟩ : Op)⟩ : Rec)).1)).1) (⟨2, 1, 3, ([] : List Int), (⟨0, 0, 0, 0, 0, 0, 0⟩ : Op)⟩ : Rec)).1) 4).1).wait) 1 fun hlen8 => ?_
  refine Tx ?_
  refine Cl (disk_Recover_spec x4.1 x4.2 ((disk_Crash ((disk_Put ((disk_Sync ((disk_Put (⟨([] : List UInt8), ([] : List UInt8)⟩ : Disk) (⟨2, 1, 2, ([] : List Int), (⟨0, 0, 0, 0, 0, 0, 0⟩ : Op)⟩ : Rec)).1)).1) (⟨2, 1, 3, ([] : List Int), (⟨0, 0, 0, 0, 0, 0, 0⟩ : Op)⟩ : Rec)).1) 4).1)) fun x5 => ?_
  refine Pr EByte x5.1 (((disk_Recover ((disk_Crash ((disk_Put ((disk_Sync ((disk_Put (⟨([] : List UInt8), ([] : List UInt8)⟩ : Disk) (⟨2, 1, 2, ([] : List Int), (⟨0, 0, 0, 0, 0, 0, 0⟩ : Op)⟩ : Rec)).1)).1) (⟨2, 1, 3, ([] : List Int), (⟨0, 0, 0, 0, 0, 0, 0⟩ : Op)⟩ : Rec)).1) 4).1)).1).safe) 1 fun hlen9 => ?_
  refine Pr EByte x5.2.1 (((disk_Recover ((disk_Crash ((disk_Put ((disk_Sync ((disk_Put (⟨([] : List UInt8), ([] : List UInt8)⟩ : Disk) (⟨2, 1, 2, ([] : List Int), (⟨0, 0, 0, 0, 0, 0, 0⟩ : Op)⟩ : Rec)).1)).1) (⟨2, 1, 3, ([] : List Int), (⟨0, 0, 0, 0, 0, 0, 0⟩ : Op)⟩ : Rec)).1) 4).1)).1).wait) 1 fun hlen10 => ?_
  refine Pm NRec x5.2.2 ((disk_Recover ((disk_Crash ((disk_Put ((disk_Sync ((disk_Put (⟨([] : List UInt8), ([] : List UInt8)⟩ : Disk) (⟨2, 1, 2, ([] : List Int), (⟨0, 0, 0, 0, 0, 0, 0⟩ : Op)⟩ : Rec)).1)).1) (⟨2, 1, 3, ([] : List Int), (⟨0, 0, 0, 0, 0, 0, 0⟩ : Op)⟩ : Rec)).1) 4).1)).2.1) 104 fun hlen11 => ?_
  refine Tx ?_
  refine rw_qg (guard_vt rfl rfl rfl) rfl rfl (q_bstr (X := x5.1) (l := ((disk_Recover ((disk_Crash ((disk_Put ((disk_Sync ((disk_Put (⟨([] : List UInt8), ([] : List UInt8)⟩ : Disk) (⟨2, 1, 2, ([] : List Int), (⟨0, 0, 0, 0, 0, 0, 0⟩ : Op)⟩ : Rec)).1)).1) (⟨2, 1, 3, ([] : List Int), (⟨0, 0, 0, 0, 0, 0, 0⟩ : Op)⟩ : Rec)).1) 4).1)).1).safe) und_39 und_5 und_9 rfl rfl Bt Mm) ?_
  refine rw_qg (guard_vt rfl rfl rfl) rfl rfl (q_eqS (a := ((disk_Recover ((disk_Crash ((disk_Put ((disk_Sync ((disk_Put (⟨([] : List UInt8), ([] : List UInt8)⟩ : Disk) (⟨2, 1, 2, ([] : List Int), (⟨0, 0, 0, 0, 0, 0, 0⟩ : Op)⟩ : Rec)).1)).1) (⟨2, 1, 3, ([] : List Int), (⟨0, 0, 0, 0, 0, 0, 0⟩ : Op)⟩ : Rec)).1) 4).1)).1).safe) (b := ([108, 105, 102, 101, 32, 49, 32, 50, 10] : Str)) rfl rfl Bt rfl Bt) ?_
  refine Tx ?_
  refine rw_exN NRec (X := x5.2.2) (l := (disk_Recover ((disk_Crash ((disk_Put ((disk_Sync ((disk_Put (⟨([] : List UInt8), ([] : List UInt8)⟩ : Disk) (⟨2, 1, 2, ([] : List Int), (⟨0, 0, 0, 0, 0, 0, 0⟩ : Op)⟩ : Rec)).1)).1) (⟨2, 1, 3, ([] : List Int), (⟨0, 0, 0, 0, 0, 0, 0⟩ : Op)⟩ : Rec)).1) 4).1)).2.1) Mm fun (γ1 : Nat → SlV) => ?_
  refine rw_qg (guard_vt rfl rfl rfl) rfl rfl (q_idxN NRec γ1 0 rfl rfl Bt rfl Bt rfl rfl rfl Mm rfl (by intro h; first | omega | rfl | (simp at h; omega)) (by first | (intro _; first | assumption | omega) | (intro h; simp at h; omega))) ?_
  refine rw_qg (guard_vt rfl rfl rfl) rfl rfl (q_fae rfl rfl Bt rfl rfl) ?_
  refine rw_qg (guard_vt rfl rfl rfl) rfl rfl (q_le1N NRec γ1 (v := .int .i64 ((gt ((disk_Recover ((disk_Crash ((disk_Put ((disk_Sync ((disk_Put (⟨([] : List UInt8), ([] : List UInt8)⟩ : Disk) (⟨2, 1, 2, ([] : List Int), (⟨0, 0, 0, 0, 0, 0, 0⟩ : Op)⟩ : Rec)).1)).1) (⟨2, 1, 3, ([] : List Int), (⟨0, 0, 0, 0, 0, 0, 0⟩ : Op)⟩ : Rec)).1) 4).1)).2.1) 0).life)) rfl rfl Bt rfl rfl Mm (by first | (intro _; first | assumption | omega) | (intro h; simp at h; omega)) rfl) ?_
  refine Tx ?_
  have hr1 : (orangerylaw_filed) = (((((((((((disk_Put (⟨([] : List UInt8), ([] : List UInt8)⟩ : Disk) (⟨2, 1, 2, ([] : List Int), (⟨0, 0, 0, 0, 0, 0, 0⟩ : Op)⟩ : Rec)).2) == 0) && (((disk_Sync ((disk_Put (⟨([] : List UInt8), ([] : List UInt8)⟩ : Disk) (⟨2, 1, 2, ([] : List Int), (⟨0, 0, 0, 0, 0, 0, 0⟩ : Op)⟩ : Rec)).1)).2) == 0)) && (((disk_Put ((disk_Sync ((disk_Put (⟨([] : List UInt8), ([] : List UInt8)⟩ : Disk) (⟨2, 1, 2, ([] : List Int), (⟨0, 0, 0, 0, 0, 0, 0⟩ : Op)⟩ : Rec)).1)).1) (⟨2, 1, 3, ([] : List Int), (⟨0, 0, 0, 0, 0, 0, 0⟩ : Op)⟩ : Rec)).2) == 0)) && (((disk_Crash ((disk_Put ((disk_Sync ((disk_Put (⟨([] : List UInt8), ([] : List UInt8)⟩ : Disk) (⟨2, 1, 2, ([] : List Int), (⟨0, 0, 0, 0, 0, 0, 0⟩ : Op)⟩ : Rec)).1)).1) (⟨2, 1, 3, ([] : List Int), (⟨0, 0, 0, 0, 0, 0, 0⟩ : Op)⟩ : Rec)).1) 4).2) == 0)) && (((disk_Recover ((disk_Crash ((disk_Put ((disk_Sync ((disk_Put (⟨([] : List UInt8), ([] : List UInt8)⟩ : Disk) (⟨2, 1, 2, ([] : List Int), (⟨0, 0, 0, 0, 0, 0, 0⟩ : Op)⟩ : Rec)).1)).1) (⟨2, 1, 3, ([] : List Int), (⟨0, 0, 0, 0, 0, 0, 0⟩ : Op)⟩ : Rec)).1) 4).1)).2.2) == 0)) && ((((disk_Recover ((disk_Crash ((disk_Put ((disk_Sync ((disk_Put (⟨([] : List UInt8), ([] : List UInt8)⟩ : Disk) (⟨2, 1, 2, ([] : List Int), (⟨0, 0, 0, 0, 0, 0, 0⟩ : Op)⟩ : Rec)).1)).1) (⟨2, 1, 3, ([] : List Int), (⟨0, 0, 0, 0, 0, 0, 0⟩ : Op)⟩ : Rec)).1) 4).1)).1).safe) == ([108, 105, 102, 101, 32, 49, 32, 50, 10] : Str))) && (((((disk_Recover ((disk_Crash ((disk_Put ((disk_Sync ((disk_Put (⟨([] : List UInt8), ([] : List UInt8)⟩ : Disk) (⟨2, 1, 2, ([] : List Int), (⟨0, 0, 0, 0, 0, 0, 0⟩ : Op)⟩ : Rec)).1)).1) (⟨2, 1, 3, ([] : List Int), (⟨0, 0, 0, 0, 0, 0, 0⟩ : Op)⟩ : Rec)).1) 4).1)).1).wait).length : Int) == 0)) && ((((disk_Recover ((disk_Crash ((disk_Put ((disk_Sync ((disk_Put (⟨([] : List UInt8), ([] : List UInt8)⟩ : Disk) (⟨2, 1, 2, ([] : List Int), (⟨0, 0, 0, 0, 0, 0, 0⟩ : Op)⟩ : Rec)).1)).1) (⟨2, 1, 3, ([] : List Int), (⟨0, 0, 0, 0, 0, 0, 0⟩ : Op)⟩ : Rec)).1) 4).1)).2.1).length : Int) == 1)) && (((gt ((disk_Recover ((disk_Crash ((disk_Put ((disk_Sync ((disk_Put (⟨([] : List UInt8), ([] : List UInt8)⟩ : Disk) (⟨2, 1, 2, ([] : List Int), (⟨0, 0, 0, 0, 0, 0, 0⟩ : Op)⟩ : Rec)).1)).1) (⟨2, 1, 3, ([] : List Int), (⟨0, 0, 0, 0, 0, 0, 0⟩ : Op)⟩ : Rec)).1) 4).1)).2.1) 0).life) == 2)) := by simp only [orangerylaw_filed, cond_true, cond_false]
  refine cw_ret ?_; rw [hr1]; exact Re () (Vt Vn)

def orangerylaw_DiskKeeps_1_L0  : List Rec → (List Rec) → (List UInt8) → (List UInt8) → ((List Rec) × Disk)
  | [], out1, safe1, wait1 => (out1, (⟨safe1, wait1⟩ : Disk))
  | pn1 :: rn1, out1, safe1, wait1 => (bif (((disk_Put (⟨safe1, wait1⟩ : Disk) pn1).2) == 0) then (orangerylaw_DiskKeeps_1_L0 rn1 (out1 ++ [pn1]) (((disk_Put (⟨safe1, wait1⟩ : Disk) pn1).1).safe) (((disk_Put (⟨safe1, wait1⟩ : Disk) pn1).1).wait)) else (orangerylaw_DiskKeeps_1_L0 rn1 out1 safe1 wait1))
def orangerylaw_DiskKeeps_1 (l1 : List Rec) (d1 : Disk) : (List Rec) × Disk :=
  (orangerylaw_DiskKeeps_1_L0 (l1.take ((if 20 < (l1.length : Int) then 20 else (l1.length : Int)).toNat)) [] d1.safe d1.wait)
theorem orangerylaw_DiskKeeps_1_spec (y1 : SlV) (l1 : List Rec) (c1 : Nat) (y2 : SlV) (y3 : SlV) (d1 : Disk) : DoesG Tryd.prog 16 [y1.val l1.length, .pointer (some ⟨c1, 0, none⟩)] [RdN NRec y1 l1, RdL EByte y2 d1.safe, RdL EByte y3 d1.wait, LibP Tryd.prog] ⟨[⟨c1, 41, [y2.val d1.safe.length, y3.val d1.wait.length]⟩], []⟩ (fun (X : SlV × SlV × SlV) => X.1.val ((orangerylaw_DiskKeeps_1 l1 d1).1).length) (fun (X : SlV × SlV × SlV) => [RdN NRec X.1 ((orangerylaw_DiskKeeps_1 l1 d1).1), RdL EByte X.2.1 (((orangerylaw_DiskKeeps_1 l1 d1).2).safe), RdL EByte X.2.2 (((orangerylaw_DiskKeeps_1 l1 d1).2).wait)]) (fun (X : SlV × SlV × SlV) => ⟨[⟨c1, 41, [X.2.1.val (((orangerylaw_DiskKeeps_1 l1 d1).2).safe).length, X.2.2.val (((orangerylaw_DiskKeeps_1 l1 d1).2).wait).length]⟩], []⟩) := by
  refine does_ofG tab_ok Tryd.func16 rfl Tryd.ntmps16 Tryd.results16 rfl inferInstance (fun _ => inferInstance) fun C => ?_
  refine Pn NRec y1 l1 104 fun hlen1 => ?_
  refine Tx ?_
  refine rw_q rfl rfl rfl (q_min rfl rfl (fun _ => rfl) rfl (fun _ => rfl)) ?_
  refine rw_q rfl rfl rfl (q_takeN NRec ((if 20 < (l1.length : Int) then 20 else (l1.length : Int)).toNat) rfl rfl (fun _ => rfl) rfl (fun _ => rfl) rfl rfl Mm (fun _ => by omega) (fun _ => by omega)) ?_
  refine rw_fact (F := RdN NRec y1 (l1.take ((if 20 < (l1.length : Int) then 20 else (l1.length : Int)).toNat))) [RdN NRec y1 l1] Sm (fun M w h => (allF1 h).take _) ?_
  refine Tx ?_
  refine Pn NRec y1 (l1.take ((if 20 < (l1.length : Int) then 20 else (l1.length : Int)).toNat)) 104 fun hlen2 => ?_
  (repeat refine cw_seq ?_); refine Lp [1,3,13,14] [false] (fun (i_ : List Rec × SlV × Option Nat × (Nat → SlV) × Nat × List UInt8 × SlV × List UInt8 × SlV) => match i_ with | ⟨out1, x1, x1b, γ1, n1, safe1, x2, wait1, x3⟩ => (⟨[(4, .v (x1.val out1.length)), (15, .v (.int .i64 (n1 : Int)))], [⟨c1, 41, [x2.val safe1.length, x3.val wait1.length]⟩], [ownL NRec.E 28 x1 x1b (zipG γ1 0 out1)], [FactsG NRec γ1 out1, RdL EByte x2 safe1, RdL EByte x3 wait1], (n1 ≤ (l1.take ((if 20 < (l1.length : Int) then 20 else (l1.length : Int)).toNat)).length) ∧ (out1.length ≤ n1) ∧ (orangerylaw_DiskKeeps_1_L0 ((l1.take ((if 20 < (l1.length : Int) then 20 else (l1.length : Int)).toNat)).drop n1) out1 safe1 wait1) = (orangerylaw_DiskKeeps_1 l1 d1), (l1.take ((if 20 < (l1.length : Int) then 20 else (l1.length : Int)).toNat)).length - n1⟩ : Ls)) ⟨[], ⟨none, 0⟩, none, (fun _ => default), 0, d1.safe, y2, d1.wait, y3⟩ (Sc (Sc (Sc (Sc Sn)))) (.drop (.nil)) ⟨Nat.zero_le _, (by first | exact Nat.le_refl _ | exact Nat.zero_le _ | omega), (by simp only [orangerylaw_DiskKeeps_1, cond_true, cond_false] : (orangerylaw_DiskKeeps_1 l1 d1) = (orangerylaw_DiskKeeps_1_L0 (l1.take ((if 20 < (l1.length : Int) then 20 else (l1.length : Int)).toNat)) [] d1.safe d1.wait)).symm⟩ (Le.trans (le_nilL NRec.E 28) (Le.trans (le_fact (FactsG NRec (fun _ => default) ([] : List Rec)) [] (.nil _) (fun M w _ => FactsG.nil NRec _ M w)) Le4)) ?_
  rintro ⟨out1, x1, x1b, γ1, n1, safe1, x2, wait1, x3⟩ ⟨hkn1, hout1, hf1⟩
  simp only [List.cons_append, List.nil_append]
  refine Tx ?_
  refine Cd (b := decide ((n1 : Int) < ((l1.take ((if 20 < (l1.length : Int) then 20 else (l1.length : Int)).toNat)).length : Int))) (fun hc1 => ?_) fun hc1 => ?_
  · have hlt0 : n1 < (l1.take ((if 20 < (l1.length : Int) then 20 else (l1.length : Int)).toNat)).length := Int.ofNat_lt.1 (of_decide_eq_true hc1)
    refine Tx ?_
    refine rw_exN NRec (X := y1) (l := (l1.take ((if 20 < (l1.length : Int) then 20 else (l1.length : Int)).toNat))) Mm fun (γ2 : Nat → SlV) => ?_
    refine rw_q rfl rfl rfl (q_idxN NRec γ2 n1 rfl rfl (fun _ => rfl) rfl (fun _ => rfl) rfl rfl rfl Mm rfl (fun _ => rfl) (fun _ => by first | assumption | omega)) ?_
    refine rw_q rfl rfl rfl (q_is (v' := .agg ⟨[.int .i64 ((gt (l1.take ((if 20 < (l1.length : Int) then 20 else (l1.length : Int)).toNat)) n1).kind), .int .i64 ((gt (l1.take ((if 20 < (l1.length : Int) then 20 else (l1.length : Int)).toNat)) n1).who), .int .i64 ((gt (l1.take ((if 20 < (l1.length : Int) then 20 else (l1.length : Int)).toNat)) n1).life), (γ2 n1).val ((gt (l1.take ((if 20 < (l1.length : Int) then 20 else (l1.length : Int)).toNat)) n1).roots).length, .int .i64 (((gt (l1.take ((if 20 < (l1.length : Int) then 20 else (l1.length : Int)).toNat)) n1).o).time), .int .i64 (((gt (l1.take ((if 20 < (l1.length : Int) then 20 else (l1.length : Int)).toNat)) n1).o).who), .int .i64 (((gt (l1.take ((if 20 < (l1.length : Int) then 20 else (l1.length : Int)).toNat)) n1).o).node), .int .i64 (((gt (l1.take ((if 20 < (l1.length : Int) then 20 else (l1.length : Int)).toNat)) n1).o).parent), .int .i64 (((gt (l1.take ((if 20 < (l1.length : Int) then 20 else (l1.length : Int)).toNat)) n1).o).name), .int .i64 (((gt (l1.take ((if 20 < (l1.length : Int) then 20 else (l1.length : Int)).toNat)) n1).o).life), .int .i64 (((gt (l1.take ((if 20 < (l1.length : Int) then 20 else (l1.length : Int)).toNat)) n1).o).seq)]⟩) (q_leAN NRec γ2 rfl rfl (fun _ => rfl) rfl rfl Mm (fun _ => by first | assumption | omega)) rfl) ?_
    refine rw_fact (F := RdL EInt (γ2 n1) ((gt (l1.take ((if 20 < (l1.length : Int) then 20 else (l1.length : Int)).toNat)) n1).roots)) [FactsG NRec γ2 (l1.take ((if 20 < (l1.length : Int) then 20 else (l1.length : Int)).toNat))] Sm (fun M w h => (allF1 h) n1 (by first | assumption | omega) _ (.head _)) ?_
    refine Al fun g1 => ?_
    refine Tx ?_
    refine Cl (disk_Put_spec x2 x3 (⟨safe1, wait1⟩ : Disk) (γ2 n1) (gt (l1.take ((if 20 < (l1.length : Int) then 20 else (l1.length : Int)).toNat)) n1)) fun x4 => ?_
    refine Pr EByte x4.1 (((disk_Put (⟨safe1, wait1⟩ : Disk) (gt (l1.take ((if 20 < (l1.length : Int) then 20 else (l1.length : Int)).toNat)) n1)).1).safe) 1 fun hlen3 => ?_
    refine Pr EByte x4.2 (((disk_Put (⟨safe1, wait1⟩ : Disk) (gt (l1.take ((if 20 < (l1.length : Int) then 20 else (l1.length : Int)).toNat)) n1)).1).wait) 1 fun hlen4 => ?_
    refine Tx ?_
    refine Al fun g2 => ?_
    refine Tx ?_
    refine Cd (b := (((disk_Put (⟨safe1, wait1⟩ : Disk) (gt (l1.take ((if 20 < (l1.length : Int) then 20 else (l1.length : Int)).toNat)) n1)).2) == 0)) (fun hc2 => ?_) fun hc2 => ?_
    · have hc2p := eq_of_beq hc2
      (repeat refine cw_seq ?_); refine cw_regionA (fun j => match j with | 4 => none | 5 => some [c1] | _ => some []) ?_
      refine Rb 1 [0,2,3] [4,5,6] rfl Qp ?_
      refine Rb 2 [0] [3,4,5,6] rfl (q_ldA rfl rfl (fun _ => rfl) rfl Mm rfl) ?_
      refine ra_two 0 3 Kr ?_ ?_
      · refine ra_now rfl rfl rfl rfl (q_ldA rfl rfl (fun _ => rfl) rfl Mm rfl) ?_
        refine ra_one 3 Kr ?_
        refine rw_bsliceL NRec.E [((γ2 n1), (gt (l1.take ((if 20 < (l1.length : Int) then 20 else (l1.length : Int)).toNat)) n1))] (.an rfl rfl) (guard_none rfl) rfl rfl rfl rfl rfl rfl rfl rfl rfl rfl rfl rfl rfl (fillL_one rfl rfl) rfl fun x5 x5b => ?_
        refine ra_one 4 Kr ?_
        refine rw_le (le_freezeL NRec.E 28 x5 x5b [((γ2 n1), (gt (l1.take ((if 20 < (l1.length : Int) then 20 else (l1.length : Int)).toNat)) n1))] Uo) ?_
        refine rw_fact (F := RdN NRec x5 [(gt (l1.take ((if 20 < (l1.length : Int) then 20 else (l1.length : Int)).toNat)) n1)]) [RdL NRec.E x5 [((γ2 n1), (gt (l1.take ((if 20 < (l1.length : Int) then 20 else (l1.length : Int)).toNat)) n1))], RdL EInt (γ2 n1) ((gt (l1.take ((if 20 < (l1.length : Int) then 20 else (l1.length : Int)).toNat)) n1).roots)] Sm (fun M w h => RdN.of NRec (hs := [((γ2 n1), (gt (l1.take ((if 20 < (l1.length : Int) then 20 else (l1.length : Int)).toNat)) n1))]) rfl (h _ (.head _)) (allP_cons (allF_sub Sm h) (fun p hp => by cases hp))) ?_
        refine rw_exN NRec (X := x5) (l := [(gt (l1.take ((if 20 < (l1.length : Int) then 20 else (l1.length : Int)).toNat)) n1)]) Mm fun (γ3 : Nat → SlV) => ?_
        refine rw_appendN NRec γ1 γ3 out1 [(gt (l1.take ((if 20 < (l1.length : Int) then 20 else (l1.length : Int)).toNat)) n1)] (b := x1b) (.lo (x1b : Option Nat).toList rfl rfl) (fun g h => .inr (by simp [h])) (guard_none rfl) rfl rfl rfl rfl rfl rfl rfl (fun _ _ => Uo) rfl rfl rfl rfl rfl rfl rfl (reads_rdN (EN := NRec) (X := x5) (γ := γ3) (l := [(gt (l1.take ((if 20 < (l1.length : Int) then 20 else (l1.length : Int)).toNat)) n1)]) Mm) (by show (out1.length + [(gt (l1.take ((if 20 < (l1.length : Int) then 20 else (l1.length : Int)).toNat)) n1)].length) * 104 ≤ 140737488355328; (try simp only [List.length_append, List.length_cons, List.length_nil]); omega) fun x6 x6b => ?_
        refine rw_fact (F := FactsG NRec (appG γ1 out1.length γ3) (out1 ++ [(gt (l1.take ((if 20 < (l1.length : Int) then 20 else (l1.length : Int)).toNat)) n1)])) [FactsG NRec γ1 out1, FactsG NRec γ3 [(gt (l1.take ((if 20 < (l1.length : Int) then 20 else (l1.length : Int)).toNat)) n1)]] Sm (fun M w h => FactsG.app NRec (h _ (.head _)) (h _ (.tail _ (.head _)))) ?_
        refine ra_one 5 Kr ?_
        refine rw_stA (.an rfl rfl) (.inr (by simp)) (guard_none rfl) rfl rfl rfl rfl rfl rfl rfl rfl rfl Ub rfl ?_
        refine Ra 6 [] rfl Qp ?_
        refine ra_nil Kr ?_
        refine Tx ?_
        refine rw_q rfl rfl rfl (q_add rfl rfl (fun _ => rfl) rfl (fun _ => rfl) (fun _ => by omega)) ?_
        refine Tx ?_
        refine ⟨⟨(out1 ++ [(gt (l1.take ((if 20 < (l1.length : Int) then 20 else (l1.length : Int)).toNat)) n1)]), x6, x6b, (appG γ1 out1.length γ3), (n1 + 1), ((disk_Put (⟨safe1, wait1⟩ : Disk) (gt (l1.take ((if 20 < (l1.length : Int) then 20 else (l1.length : Int)).toNat)) n1)).1).safe, x4.1, ((disk_Put (⟨safe1, wait1⟩ : Disk) (gt (l1.take ((if 20 < (l1.length : Int) then 20 else (l1.length : Int)).toNat)) n1)).1).wait, x4.2⟩, ⟨hlt0, (by simp only [List.length_append, List.length_cons, List.length_nil]; omega), (by rw [← hf1, drop_gt hlt0]; simp only [orangerylaw_DiskKeeps_1_L0, hc2, cond_true, cond_false] : (orangerylaw_DiskKeeps_1 l1 d1) = (orangerylaw_DiskKeeps_1_L0 ((l1.take ((if 20 < (l1.length : Int) then 20 else (l1.length : Int)).toNat)).drop (n1 + 1)) (out1 ++ [(gt (l1.take ((if 20 < (l1.length : Int) then 20 else (l1.length : Int)).toNat)) n1)]) (((disk_Put (⟨safe1, wait1⟩ : Disk) (gt (l1.take ((if 20 < (l1.length : Int) then 20 else (l1.length : Int)).toNat)) n1)).1).safe) (((disk_Put (⟨safe1, wait1⟩ : Disk) (gt (l1.take ((if 20 < (l1.length : Int) then 20 else (l1.length : Int)).toNat)) n1)).1).wait))).symm⟩, (by simp only []; omega), Le4⟩
      · refine rw_bsliceL NRec.E [((γ2 n1), (gt (l1.take ((if 20 < (l1.length : Int) then 20 else (l1.length : Int)).toNat)) n1))] (.an rfl rfl) (guard_none rfl) rfl rfl rfl rfl rfl rfl rfl rfl rfl rfl rfl rfl rfl (fillL_one rfl rfl) rfl fun x7 x7b => ?_
        refine ra_two 0 4 Kr ?_ ?_
        · refine ra_now rfl rfl rfl rfl (q_ldA rfl rfl (fun _ => rfl) rfl Mm rfl) ?_
          refine ra_one 4 Kr ?_
          refine rw_le (le_freezeL NRec.E 28 x7 x7b [((γ2 n1), (gt (l1.take ((if 20 < (l1.length : Int) then 20 else (l1.length : Int)).toNat)) n1))] Uo) ?_
          refine rw_fact (F := RdN NRec x7 [(gt (l1.take ((if 20 < (l1.length : Int) then 20 else (l1.length : Int)).toNat)) n1)]) [RdL NRec.E x7 [((γ2 n1), (gt (l1.take ((if 20 < (l1.length : Int) then 20 else (l1.length : Int)).toNat)) n1))], RdL EInt (γ2 n1) ((gt (l1.take ((if 20 < (l1.length : Int) then 20 else (l1.length : Int)).toNat)) n1).roots)] Sm (fun M w h => RdN.of NRec (hs := [((γ2 n1), (gt (l1.take ((if 20 < (l1.length : Int) then 20 else (l1.length : Int)).toNat)) n1))]) rfl (h _ (.head _)) (allP_cons (allF_sub Sm h) (fun p hp => by cases hp))) ?_
          refine rw_exN NRec (X := x7) (l := [(gt (l1.take ((if 20 < (l1.length : Int) then 20 else (l1.length : Int)).toNat)) n1)]) Mm fun (γ4 : Nat → SlV) => ?_
          refine rw_appendN NRec γ1 γ4 out1 [(gt (l1.take ((if 20 < (l1.length : Int) then 20 else (l1.length : Int)).toNat)) n1)] (b := x1b) (.lo (x1b : Option Nat).toList rfl rfl) (fun g h => .inr (by simp [h])) (guard_none rfl) rfl rfl rfl rfl rfl rfl rfl (fun _ _ => Uo) rfl rfl rfl rfl rfl rfl rfl (reads_rdN (EN := NRec) (X := x7) (γ := γ4) (l := [(gt (l1.take ((if 20 < (l1.length : Int) then 20 else (l1.length : Int)).toNat)) n1)]) Mm) (by show (out1.length + [(gt (l1.take ((if 20 < (l1.length : Int) then 20 else (l1.length : Int)).toNat)) n1)].length) * 104 ≤ 140737488355328; (try simp only [List.length_append, List.length_cons, List.length_nil]); omega) fun x8 x8b => ?_
          refine rw_fact (F := FactsG NRec (appG γ1 out1.length γ4) (out1 ++ [(gt (l1.take ((if 20 < (l1.length : Int) then 20 else (l1.length : Int)).toNat)) n1)])) [FactsG NRec γ1 out1, FactsG NRec γ4 [(gt (l1.take ((if 20 < (l1.length : Int) then 20 else (l1.length : Int)).toNat)) n1)]] Sm (fun M w h => FactsG.app NRec (h _ (.head _)) (h _ (.tail _ (.head _)))) ?_
          refine ra_one 5 Kr ?_
          refine rw_stA (.an rfl rfl) (.inr (by simp)) (guard_none rfl) rfl rfl rfl rfl rfl rfl rfl rfl rfl Ub rfl ?_
          refine Ra 6 [] rfl Qp ?_
          refine ra_nil Kr ?_
          refine Tx ?_
          refine rw_q rfl rfl rfl (q_add rfl rfl (fun _ => rfl) rfl (fun _ => rfl) (fun _ => by omega)) ?_
          refine Tx ?_
          refine ⟨⟨(out1 ++ [(gt (l1.take ((if 20 < (l1.length : Int) then 20 else (l1.length : Int)).toNat)) n1)]), x8, x8b, (appG γ1 out1.length γ4), (n1 + 1), ((disk_Put (⟨safe1, wait1⟩ : Disk) (gt (l1.take ((if 20 < (l1.length : Int) then 20 else (l1.length : Int)).toNat)) n1)).1).safe, x4.1, ((disk_Put (⟨safe1, wait1⟩ : Disk) (gt (l1.take ((if 20 < (l1.length : Int) then 20 else (l1.length : Int)).toNat)) n1)).1).wait, x4.2⟩, ⟨hlt0, (by simp only [List.length_append, List.length_cons, List.length_nil]; omega), (by rw [← hf1, drop_gt hlt0]; simp only [orangerylaw_DiskKeeps_1_L0, hc2, cond_true, cond_false] : (orangerylaw_DiskKeeps_1 l1 d1) = (orangerylaw_DiskKeeps_1_L0 ((l1.take ((if 20 < (l1.length : Int) then 20 else (l1.length : Int)).toNat)).drop (n1 + 1)) (out1 ++ [(gt (l1.take ((if 20 < (l1.length : Int) then 20 else (l1.length : Int)).toNat)) n1)]) (((disk_Put (⟨safe1, wait1⟩ : Disk) (gt (l1.take ((if 20 < (l1.length : Int) then 20 else (l1.length : Int)).toNat)) n1)).1).safe) (((disk_Put (⟨safe1, wait1⟩ : Disk) (gt (l1.take ((if 20 < (l1.length : Int) then 20 else (l1.length : Int)).toNat)) n1)).1).wait))).symm⟩, (by simp only []; omega), Le4⟩
        · refine rw_le (le_freezeL NRec.E 28 x7 x7b [((γ2 n1), (gt (l1.take ((if 20 < (l1.length : Int) then 20 else (l1.length : Int)).toNat)) n1))] Uo) ?_
          refine rw_fact (F := RdN NRec x7 [(gt (l1.take ((if 20 < (l1.length : Int) then 20 else (l1.length : Int)).toNat)) n1)]) [RdL NRec.E x7 [((γ2 n1), (gt (l1.take ((if 20 < (l1.length : Int) then 20 else (l1.length : Int)).toNat)) n1))], RdL EInt (γ2 n1) ((gt (l1.take ((if 20 < (l1.length : Int) then 20 else (l1.length : Int)).toNat)) n1).roots)] Sm (fun M w h => RdN.of NRec (hs := [((γ2 n1), (gt (l1.take ((if 20 < (l1.length : Int) then 20 else (l1.length : Int)).toNat)) n1))]) rfl (h _ (.head _)) (allP_cons (allF_sub Sm h) (fun p hp => by cases hp))) ?_
          refine rw_exN NRec (X := x7) (l := [(gt (l1.take ((if 20 < (l1.length : Int) then 20 else (l1.length : Int)).toNat)) n1)]) Mm fun (γ5 : Nat → SlV) => ?_
          refine rw_appendN NRec γ1 γ5 out1 [(gt (l1.take ((if 20 < (l1.length : Int) then 20 else (l1.length : Int)).toNat)) n1)] (b := x1b) (.lo (x1b : Option Nat).toList rfl rfl) (fun g h => .inr (by simp [h])) (guard_none rfl) rfl rfl rfl rfl rfl rfl rfl (fun _ _ => Uo) rfl rfl rfl rfl rfl rfl rfl (reads_rdN (EN := NRec) (X := x7) (γ := γ5) (l := [(gt (l1.take ((if 20 < (l1.length : Int) then 20 else (l1.length : Int)).toNat)) n1)]) Mm) (by show (out1.length + [(gt (l1.take ((if 20 < (l1.length : Int) then 20 else (l1.length : Int)).toNat)) n1)].length) * 104 ≤ 140737488355328; (try simp only [List.length_append, List.length_cons, List.length_nil]); omega) fun x9 x9b => ?_
          refine rw_fact (F := FactsG NRec (appG γ1 out1.length γ5) (out1 ++ [(gt (l1.take ((if 20 < (l1.length : Int) then 20 else (l1.length : Int)).toNat)) n1)])) [FactsG NRec γ1 out1, FactsG NRec γ5 [(gt (l1.take ((if 20 < (l1.length : Int) then 20 else (l1.length : Int)).toNat)) n1)]] Sm (fun M w h => FactsG.app NRec (h _ (.head _)) (h _ (.tail _ (.head _)))) ?_
          refine Ra 0 [] rfl (q_ldA rfl rfl (fun _ => rfl) rfl Mm rfl) ?_
          refine ra_one 5 Kr ?_
          refine rw_stA (.an rfl rfl) (.inr (by simp)) (guard_none rfl) rfl rfl rfl rfl rfl rfl rfl rfl rfl Ub rfl ?_
          refine Ra 6 [] rfl Qp ?_
          refine ra_nil Kr ?_
          refine Tx ?_
          refine rw_q rfl rfl rfl (q_add rfl rfl (fun _ => rfl) rfl (fun _ => rfl) (fun _ => by omega)) ?_
          refine Tx ?_
          refine ⟨⟨(out1 ++ [(gt (l1.take ((if 20 < (l1.length : Int) then 20 else (l1.length : Int)).toNat)) n1)]), x9, x9b, (appG γ1 out1.length γ5), (n1 + 1), ((disk_Put (⟨safe1, wait1⟩ : Disk) (gt (l1.take ((if 20 < (l1.length : Int) then 20 else (l1.length : Int)).toNat)) n1)).1).safe, x4.1, ((disk_Put (⟨safe1, wait1⟩ : Disk) (gt (l1.take ((if 20 < (l1.length : Int) then 20 else (l1.length : Int)).toNat)) n1)).1).wait, x4.2⟩, ⟨hlt0, (by simp only [List.length_append, List.length_cons, List.length_nil]; omega), (by rw [← hf1, drop_gt hlt0]; simp only [orangerylaw_DiskKeeps_1_L0, hc2, cond_true, cond_false] : (orangerylaw_DiskKeeps_1 l1 d1) = (orangerylaw_DiskKeeps_1_L0 ((l1.take ((if 20 < (l1.length : Int) then 20 else (l1.length : Int)).toNat)).drop (n1 + 1)) (out1 ++ [(gt (l1.take ((if 20 < (l1.length : Int) then 20 else (l1.length : Int)).toNat)) n1)]) (((disk_Put (⟨safe1, wait1⟩ : Disk) (gt (l1.take ((if 20 < (l1.length : Int) then 20 else (l1.length : Int)).toNat)) n1)).1).safe) (((disk_Put (⟨safe1, wait1⟩ : Disk) (gt (l1.take ((if 20 < (l1.length : Int) then 20 else (l1.length : Int)).toNat)) n1)).1).wait))).symm⟩, (by simp only []; omega), Le4⟩
    · have hc2p := ne_of_beq_false hc2
      refine Tx ?_
      refine rw_q rfl rfl rfl (q_add rfl rfl (fun _ => rfl) rfl (fun _ => rfl) (fun _ => by omega)) ?_
      refine Tx ?_
      refine ⟨⟨out1, x1, x1b, γ1, (n1 + 1), safe1, x2, wait1, x3⟩, ⟨hlt0, (by simp only [List.length_append, List.length_cons, List.length_nil]; omega), (by rw [← hf1, drop_gt hlt0]; simp only [orangerylaw_DiskKeeps_1_L0, hc2, cond_true, cond_false] : (orangerylaw_DiskKeeps_1 l1 d1) = (orangerylaw_DiskKeeps_1_L0 ((l1.take ((if 20 < (l1.length : Int) then 20 else (l1.length : Int)).toNat)).drop (n1 + 1)) out1 safe1 wait1)).symm⟩, (by simp only []; omega), Le4⟩
  · have hge0 : (l1.take ((if 20 < (l1.length : Int) then 20 else (l1.length : Int)).toNat)).length ≤ n1 := by have := of_decide_eq_false hc1; omega
    refine Tx ?_
    refine cw_le (le_freezeL NRec.E 28 x1 x1b (zipG γ1 0 out1) Uo) ?_
    refine cw_fact (F := RdN NRec x1 out1) [RdG NRec x1 γ1 out1, FactsG NRec γ1 out1] Sm (fun M w h => RdN.ofG NRec (h _ (.head _)) (h _ (.tail _ (.head _)))) ?_
    have hr1 : (orangerylaw_DiskKeeps_1 l1 d1) = (out1, (⟨safe1, wait1⟩ : Disk)) := by rw [← hf1, List.drop_of_length_le hge0]; simp only [orangerylaw_DiskKeeps_1_L0, cond_true, cond_false]
    refine cw_ret ?_; rw [hr1]; exact Re ⟨x1, x2, x3⟩ (Vt Vn)
end Go.Proofs.YtaiefncoholnnaaDoor
