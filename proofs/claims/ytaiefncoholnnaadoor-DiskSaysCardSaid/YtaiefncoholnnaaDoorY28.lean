/- Part of this claim. No condition. -/
import Derived.Test.YtaiefncoholnnaaDoorY27
set_option linter.unusedVariables false
set_option linter.unusedSimpArgs false
set_option maxHeartbeats 2000000
namespace Go.Proofs.YtaiefncoholnnaaDoor
open Go Go.Proofs.YtaiefncoholnnaaDoor.Fw Go.Proofs
attribute [local irreducible] RdL RdN VarP LibP RW CW
def orangerylaw_DiskSays (d1 : Disk) (c1 : Rec) (n1 : Int) (x1 : Disk) : Bool :=
  (bif (((!orangerylaw_filed) || ((disk_Check d1) != (orangeryref_CheckDisk d1))) || (!((disk_Same d1 x1) == (orangeryref_SameDisk d1 x1)))) then false else (bif ((orangeryref_CheckDisk d1) != 0) then (((((((((((disk_Put d1 c1).2) == (orangeryref_CheckDisk d1)) && (((disk_Sync d1).2) == (orangeryref_CheckDisk d1))) && (((disk_Crash d1 n1).2) == (orangeryref_CheckDisk d1))) && (((disk_Recover d1).2.2) == (orangeryref_CheckDisk d1))) && ((((disk_Recover d1).2.1).length : Int) == 0)) && (orangeryref_SameDisk ((disk_Put d1 c1).1) (⟨([] : List UInt8), ([] : List UInt8)⟩ : Disk))) && (orangeryref_SameDisk ((disk_Sync d1).1) (⟨([] : List UInt8), ([] : List UInt8)⟩ : Disk))) && (orangeryref_SameDisk ((disk_Crash d1 n1).1) (⟨([] : List UInt8), ([] : List UInt8)⟩ : Disk))) && (orangeryref_SameDisk ((disk_Recover d1).1) (⟨([] : List UInt8), ([] : List UInt8)⟩ : Disk))) else (bif (((((((((disk_Put d1 c1).2) != ((orangeryref_PutOn d1 c1).2)) || (!(orangeryref_SameDisk ((disk_Put d1 c1).1) ((orangeryref_PutOn d1 c1).1)))) || (((disk_Sync d1).2) != ((orangeryref_Synced d1).2))) || (!(orangeryref_SameDisk ((disk_Sync d1).1) ((orangeryref_Synced d1).1)))) || (((disk_Recover d1).2.2) != 0)) || (!(orangeryref_SameDisk ((disk_Recover d1).1) ((orangeryref_Recovered d1).1)))) || (!(slices_EqualFunc_Rec ((disk_Recover d1).2.1) ((orangeryref_Recovered d1).2) orangeryref_SameRec))) then false else (bif (decide (n1 < 0) || decide (n1 > (d1.wait.length : Int))) then ((((disk_Crash d1 n1).2) == 3) && (orangeryref_SameDisk ((disk_Crash d1 n1).1) (⟨([] : List UInt8), ([] : List UInt8)⟩ : Disk))) else ((((disk_Crash d1 n1).2) == 0) && (orangeryref_SameDisk ((disk_Crash d1 n1).1) (⟨d1.safe, (d1.wait.take n1.toNat)⟩ : Disk)))))))
theorem orangerylaw_DiskSays_spec (y1 : SlV) (y2 : SlV) (d1 : Disk) (y3 : SlV) (c1 : Rec) (n1 : Int) (y4 : SlV) (y5 : SlV) (x1 : Disk) : Does Tryd.prog 6 [.agg ⟨[y1.val d1.safe.length, y2.val d1.wait.length]⟩, .agg ⟨[.int .i64 c1.kind, .int .i64 c1.who, .int .i64 c1.life, y3.val c1.roots.length, .int .i64 c1.o.time, .int .i64 c1.o.who, .int .i64 c1.o.node, .int .i64 c1.o.parent, .int .i64 c1.o.name, .int .i64 c1.o.life, .int .i64 c1.o.seq]⟩, .int .i64 n1, .agg ⟨[y4.val x1.safe.length, y5.val x1.wait.length]⟩] [RdL EByte y1 d1.safe, RdL EByte y2 d1.wait, RdL EInt y3 c1.roots, RdL EByte y4 x1.safe, RdL EByte y5 x1.wait, LibP Tryd.prog] (fun (_ : Unit) => .bool (orangerylaw_DiskSays d1 c1 n1 x1)) (fun (_ : Unit) => []) := by
  refine does_of tab_ok Tryd.func6 rfl Tryd.ntmps6 Tryd.results6 rfl inferInstance (fun _ => inferInstance) fun C => ?_
  refine Pc EByte y1 d1.safe 1 fun hlen1 => ?_
  refine Pc EByte y2 d1.wait 1 fun hlen2 => ?_
  refine Pc EInt y3 c1.roots 8 fun hlen3 => ?_
  refine Pc EByte y4 x1.safe 1 fun hlen4 => ?_
  refine Pc EByte y5 x1.wait 1 fun hlen5 => ?_
  refine Tx ?_
  refine Bx fun g1 => ?_
  refine Bx fun g2 => ?_
  refine Bx fun g3 => ?_
  refine Tx ?_
  refine Cl (disk_Put_spec y1 y2 d1 y3 c1) fun x2 => ?_
  refine Pr EByte x2.1 (((disk_Put d1 c1).1).safe) 1 fun hlen6 => ?_
  refine Pr EByte x2.2 (((disk_Put d1 c1).1).wait) 1 fun hlen7 => ?_
  refine Tx ?_
  refine Al fun g4 => ?_
  refine Tx ?_
  refine Cl (disk_Sync_spec y1 y2 d1) fun x3 => ?_
  refine Pr EByte x3.1 (((disk_Sync d1).1).safe) 1 fun hlen8 => ?_
  refine Pr EByte x3.2 (((disk_Sync d1).1).wait) 1 fun hlen9 => ?_
  refine Tx ?_
  refine Al fun g5 => ?_
  refine Tx ?_
  refine Cl (disk_Crash_spec y1 y2 d1 n1) fun x4 => ?_
  refine Pr EByte x4.1 (((disk_Crash d1 n1).1).safe) 1 fun hlen10 => ?_
  refine Pr EByte x4.2 (((disk_Crash d1 n1).1).wait) 1 fun hlen11 => ?_
  refine Tx ?_
  refine Al fun g6 => ?_
  refine Tx ?_
  refine Cl (disk_Recover_spec y1 y2 d1) fun x5 => ?_
  refine Pr EByte x5.1 (((disk_Recover d1).1).safe) 1 fun hlen12 => ?_
  refine Pr EByte x5.2.1 (((disk_Recover d1).1).wait) 1 fun hlen13 => ?_
  refine Pm NRec x5.2.2 ((disk_Recover d1).2.1) 104 fun hlen14 => ?_
  refine Tx ?_
  refine Al fun g7 => ?_
  refine Tx ?_
  refine Cl (orangeryref_CheckDisk_spec y1 y2 d1) fun _ => ?_
  refine Tx ?_
  refine Al fun g8 => ?_
  refine Tx ?_
  (repeat refine cw_seq ?_); refine cw_regionA (fun _ => some []) ?_
  refine ra_one 0 Kr ?_
  refine rw_call (orangerylaw_filed_spec ) (.an rfl rfl) (guard_none rfl) rfl rfl rfl Kr rfl rfl Sm ?_
  intro _
  refine Rb 1 [] [2,3,4,5,6,7,8,9,10,11,12,13,14,15,16] rfl Qp ?_
  refine Rb 2 [] [3,4,5,6,7,8,9,10,11,12,13,14,15,16] rfl Qp ?_
  refine Gb 3 [5] [4,6,7,8,9,10,11,12,13,14,15,16] rfl (guard_vf rfl rfl rfl) (q_ldA rfl rfl Bt rfl Mm rfl) ?_
  refine Gb 5 [4] [6,7,8,9,10,11,12,13,14,15,16] rfl (guard_vf rfl rfl rfl) (q_pev rfl Bt) ?_
  refine ra_one 4 Kr ?_
  refine rw_callg (fun hG_ => disk_Check_spec y1 y2 d1) (fun _ => rfl) (.an rfl rfl) (guard_vf rfl rfl rfl) rfl rfl rfl Kr rfl Bt Sm ?_
  refine Gb 6 [] [7,8,9,10,11,12,13,14,15,16] rfl (guard_vf rfl rfl rfl) (q_pev rfl Bt) ?_
  refine Rb 7 [] [8,9,10,11,12,13,14,15,16] rfl (q_pev rfl Bt) ?_
  refine Ra 8 [] rfl Qp ?_
  refine Gb 9 [10,12,13] [11,14,15,16] rfl (guard_vf rfl rfl rfl) (q_ldA rfl rfl Bt rfl Mm rfl) ?_
  refine Gb 10 [12,13] [11,14,15,16] rfl (guard_vf rfl rfl rfl) (q_ldA rfl rfl Bt rfl Mm rfl) ?_
  refine Gb 12 [11,13] [14,15,16] rfl (guard_vf rfl rfl rfl) (q_ldA rfl rfl Bt rfl Mm rfl) ?_
  refine Gb 13 [11] [14,15,16] rfl (guard_vf rfl rfl rfl) (q_ldA rfl rfl Bt rfl Mm rfl) ?_
  refine ra_one 11 Kr ?_
  refine rw_callg (fun hG_ => disk_Same_spec y1 y2 d1 y4 y5 x1) (fun _ => rfl) (.an rfl rfl) (guard_vf rfl rfl rfl) rfl rfl rfl Kr rfl Bt Sm ?_
  refine ra_one 14 Kr ?_
  refine rw_callg (fun hG_ => orangeryref_SameDisk_spec y1 y2 d1 y4 y5 x1) (fun _ => rfl) (.an rfl rfl) (guard_vf rfl rfl rfl) rfl rfl rfl Kr rfl Bt Sm ?_
  refine Ga 15 [] rfl (guard_vf rfl rfl rfl) (q_neb und_4 rfl rfl Bt rfl Bt) ?_
  refine Ra 16 [] rfl (q_pev rfl Bt) ?_
  refine ra_nil Kr ?_
  (repeat refine cw_seq ?_)
  refine Cd (b := (((!orangerylaw_filed) || ((disk_Check d1) != (orangeryref_CheckDisk d1))) || (!((disk_Same d1 x1) == (orangeryref_SameDisk d1 x1))))) (fun hc1 => ?_) fun hc1 => ?_
  · refine Tx ?_
    have hr1 : (orangerylaw_DiskSays d1 c1 n1 x1) = false := by simp only [orangerylaw_DiskSays, hc1, Bool.true_and, Bool.and_true, Bool.false_or, Bool.or_false, Bool.false_and, Bool.and_false, Bool.true_or, Bool.or_true, Bool.not_true, Bool.not_false, cond_true, cond_false]
    refine cw_ret ?_; rw [hr1]; exact Re () (Vt Vn)
  · refine Tx ?_
    refine Cd (b := ((orangeryref_CheckDisk d1) != 0)) (fun hc2 => ?_) fun hc2 => ?_
    · have hc2p := bne_iff_ne.1 hc2
      refine Tx ?_
      refine Fr EByte ?_
      refine rw_callg (fun hG_ => orangeryref_SameDisk_spec x2.1 x2.2 ((disk_Put d1 c1).1) (⟨none, 0⟩ : SlV) (⟨none, 0⟩ : SlV) (⟨([] : List UInt8), ([] : List UInt8)⟩ : Disk)) (fun _ => rfl) .sq (guard_vt rfl rfl rfl) rfl rfl rfl Kr rfl Bt Sm ?_
      refine Tx ?_
      refine rw_callg (fun hG_ => orangeryref_SameDisk_spec x3.1 x3.2 ((disk_Sync d1).1) (⟨none, 0⟩ : SlV) (⟨none, 0⟩ : SlV) (⟨([] : List UInt8), ([] : List UInt8)⟩ : Disk)) (fun _ => rfl) .sq (guard_vt rfl rfl rfl) rfl rfl rfl Kr rfl Bt Sm ?_
      refine Tx ?_
      refine rw_callg (fun hG_ => orangeryref_SameDisk_spec x4.1 x4.2 ((disk_Crash d1 n1).1) (⟨none, 0⟩ : SlV) (⟨none, 0⟩ : SlV) (⟨([] : List UInt8), ([] : List UInt8)⟩ : Disk)) (fun _ => rfl) .sq (guard_vt rfl rfl rfl) rfl rfl rfl Kr rfl Bt Sm ?_
      refine Tx ?_
      refine rw_callg (fun hG_ => orangeryref_SameDisk_spec x5.1 x5.2.1 ((disk_Recover d1).1) (⟨none, 0⟩ : SlV) (⟨none, 0⟩ : SlV) (⟨([] : List UInt8), ([] : List UInt8)⟩ : Disk)) (fun _ => rfl) .sq (guard_vt rfl rfl rfl) rfl rfl rfl Kr rfl Bt Sm ?_
      refine Tx ?_
      have hr2 : (orangerylaw_DiskSays d1 c1 n1 x1) = (((((((((((disk_Put d1 c1).2) == (orangeryref_CheckDisk d1)) && (((disk_Sync d1).2) == (orangeryref_CheckDisk d1))) && (((disk_Crash d1 n1).2) == (orangeryref_CheckDisk d1))) && (((disk_Recover d1).2.2) == (orangeryref_CheckDisk d1))) && ((((disk_Recover d1).2.1).length : Int) == 0)) && (orangeryref_SameDisk ((disk_Put d1 c1).1) (⟨([] : List UInt8), ([] : List UInt8)⟩ : Disk))) && (orangeryref_SameDisk ((disk_Sync d1).1) (⟨([] : List UInt8), ([] : List UInt8)⟩ : Disk))) && (orangeryref_SameDisk ((disk_Crash d1 n1).1) (⟨([] : List UInt8), ([] : List UInt8)⟩ : Disk))) && (orangeryref_SameDisk ((disk_Recover d1).1) (⟨([] : List UInt8), ([] : List UInt8)⟩ : Disk))) := by simp only [orangerylaw_DiskSays, hc1, hc2, Bool.true_and, Bool.and_true, Bool.false_or, Bool.or_false, Bool.false_and, Bool.and_false, Bool.true_or, Bool.or_true, Bool.not_true, Bool.not_false, cond_true, cond_false]
      refine cw_ret ?_; rw [hr2]; exact Re () (Vt Vn)
    · have hc2p := eq_of_bne_false hc2
      have hdl := CheckDisk_lens (eq_of_bne_false hc2)
      refine Tx ?_
      refine Cl (orangeryref_PutOn_spec y1 y2 d1 y3 c1 (by first | assumption | omega)) fun x6 => ?_
      refine Pr EByte x6.1 (((orangeryref_PutOn d1 c1).1).safe) 1 fun hlen15 => ?_
      refine Pr EByte x6.2 (((orangeryref_PutOn d1 c1).1).wait) 1 fun hlen16 => ?_
      refine Tx ?_
      refine Al fun g9 => ?_
      refine Tx ?_
      refine Cl (orangeryref_Synced_spec y1 y2 d1 (by first | assumption | omega)) fun x7 => ?_
      refine Pr EByte x7.1 (((orangeryref_Synced d1).1).safe) 1 fun hlen17 => ?_
      refine Pr EByte x7.2 (((orangeryref_Synced d1).1).wait) 1 fun hlen18 => ?_
      refine Tx ?_
      refine Al fun g10 => ?_
      refine Tx ?_
      refine Cl (orangeryref_Recovered_spec y1 y2 d1 (by first | assumption | omega)) fun x8 => ?_
      refine Pr EByte x8.1 (((orangeryref_Recovered d1).1).safe) 1 fun hlen19 => ?_
      refine Pr EByte x8.2.1 (((orangeryref_Recovered d1).1).wait) 1 fun hlen20 => ?_
      refine Pm NRec x8.2.2 ((orangeryref_Recovered d1).2) 104 fun hlen21 => ?_
      refine Tx ?_
      refine Al fun g11 => ?_
      refine Tx ?_
      refine rw_callg (fun hG_ => orangeryref_SameDisk_spec x2.1 x2.2 ((disk_Put d1 c1).1) x6.1 x6.2 ((orangeryref_PutOn d1 c1).1)) (fun _ => rfl) .sq (guard_vf rfl rfl rfl) rfl rfl rfl Kr rfl Bt Sm ?_
      refine Tx ?_
      refine rw_callg (fun hG_ => orangeryref_SameDisk_spec x3.1 x3.2 ((disk_Sync d1).1) x7.1 x7.2 ((orangeryref_Synced d1).1)) (fun _ => rfl) .sq (guard_vf rfl rfl rfl) rfl rfl rfl Kr rfl Bt Sm ?_
      refine Tx ?_
      refine rw_callg (fun hG_ => orangeryref_SameDisk_spec x5.1 x5.2.1 ((disk_Recover d1).1) x8.1 x8.2.1 ((orangeryref_Recovered d1).1)) (fun _ => rfl) .sq (guard_vf rfl rfl rfl) rfl rfl rfl Kr rfl Bt Sm ?_
      refine Tx ?_
      refine rw_callg (fun hG_ => slices_EqualFunc_Rec_spec x5.2.2 ((disk_Recover d1).2.1) x8.2.2 ((orangeryref_Recovered d1).2) _ _ _ orangeryref_SameRec Kr (fun z0a_ a0_ z1a_ a1_ => orangeryref_SameRec_spec z0a_ a0_ z1a_ a1_)) (fun _ => rfl) .sq (guard_vf rfl rfl rfl) rfl rfl rfl Kr rfl Bt Sm ?_
      refine Tx ?_
      refine Cd (b := (((((((((disk_Put d1 c1).2) != ((orangeryref_PutOn d1 c1).2)) || (!(orangeryref_SameDisk ((disk_Put d1 c1).1) ((orangeryref_PutOn d1 c1).1)))) || (((disk_Sync d1).2) != ((orangeryref_Synced d1).2))) || (!(orangeryref_SameDisk ((disk_Sync d1).1) ((orangeryref_Synced d1).1)))) || (((disk_Recover d1).2.2) != 0)) || (!(orangeryref_SameDisk ((disk_Recover d1).1) ((orangeryref_Recovered d1).1)))) || (!(slices_EqualFunc_Rec ((disk_Recover d1).2.1) ((orangeryref_Recovered d1).2) orangeryref_SameRec)))) (fun hc3 => ?_) fun hc3 => ?_
      · refine Tx ?_
        have hr3 : (orangerylaw_DiskSays d1 c1 n1 x1) = false := by simp only [orangerylaw_DiskSays, hc1, hc2, hc3, Bool.true_and, Bool.and_true, Bool.false_or, Bool.or_false, Bool.false_and, Bool.and_false, Bool.true_or, Bool.or_true, Bool.not_true, Bool.not_false, cond_true, cond_false]
        refine cw_ret ?_; rw [hr3]; exact Re () (Vt Vn)
      · refine Tx ?_
        refine Cd (b := (decide (n1 < 0) || decide (n1 > (d1.wait.length : Int)))) (fun hc4 => ?_) fun hc4 => ?_
        · refine Tx ?_
          refine Fr EByte ?_
          refine rw_callg (fun hG_ => orangeryref_SameDisk_spec x4.1 x4.2 ((disk_Crash d1 n1).1) (⟨none, 0⟩ : SlV) (⟨none, 0⟩ : SlV) (⟨([] : List UInt8), ([] : List UInt8)⟩ : Disk)) (fun _ => rfl) .sq (guard_vt rfl rfl rfl) rfl rfl rfl Kr rfl Bt Sm ?_
          refine Tx ?_
          have hr4 : (orangerylaw_DiskSays d1 c1 n1 x1) = ((((disk_Crash d1 n1).2) == 3) && (orangeryref_SameDisk ((disk_Crash d1 n1).1) (⟨([] : List UInt8), ([] : List UInt8)⟩ : Disk))) := by simp only [orangerylaw_DiskSays, hc1, hc2, hc3, hc4, Bool.true_and, Bool.and_true, Bool.false_or, Bool.or_false, Bool.false_and, Bool.and_false, Bool.true_or, Bool.or_true, Bool.not_true, Bool.not_false, cond_true, cond_false]
          refine cw_ret ?_; rw [hr4]; exact Re () (Vt Vn)
        · have hrg := range_of hc4
          refine Tx ?_
          (repeat refine cw_seq ?_); refine cw_regionA (fun _ => some []) ?_
          refine Rb 0 [] [1,2,3,4,5,6,7,8,9,10,11,12,13] rfl Qp ?_
          refine Rb 1 [] [2,3,4,5,6,7,8,9,10,11,12,13] rfl Qp ?_
          refine Ra 2 [] rfl Qp ?_
          refine Gb 3 [4,5,6,7,8,9,10] [11,12,13] rfl (guard_vt rfl rfl rfl) (q_ldA rfl rfl Bt rfl Mm rfl) ?_
          refine Gb 4 [6,7,8,9] [5,10,11,12,13] rfl (guard_vt rfl rfl rfl) (q_pev rfl Bt) ?_
          refine Gb 5 [6,7,8,9] [10,11,12,13] rfl (guard_vt rfl rfl rfl) (q_ld1 rfl rfl Bt rfl Mm rfl) ?_
          refine Gb 6 [8] [7,9,10,11,12,13] rfl (guard_vt rfl rfl rfl) (q_pev rfl Bt) ?_
          refine Gb 7 [8] [9,10,11,12,13] rfl (guard_vt rfl rfl rfl) (q_ld1 rfl rfl Bt rfl Mm rfl) ?_
          refine Gb 8 [] [9,10,11,12,13] rfl (guard_vt rfl rfl rfl) (q_pev rfl Bt) ?_
          refine Gb 9 [] [10,11,12,13] rfl (guard_vt rfl rfl rfl) (q_take EByte n1.toNat rfl rfl Bt rfl Bt rfl rfl Mm (by intro h; first | omega | (simp at h; omega)) (by intro h; first | omega | (simp at h; omega))) ?_
          refine rw_fact (F := RdL EByte y2 (d1.wait.take n1.toNat)) [RdL EByte y2 d1.wait] Sm (fun M w h => (allF1 h).take _) ?_
          refine Gb 10 [] [11,12,13] rfl (guard_vt rfl rfl rfl) (q_pev rfl Bt) ?_
          refine ra_one 11 Kr ?_
          refine rw_callg (fun hG_ => orangeryref_SameDisk_spec x4.1 x4.2 ((disk_Crash d1 n1).1) y1 y2 (⟨d1.safe, (d1.wait.take n1.toNat)⟩ : Disk)) (fun _ => rfl) (.an rfl rfl) (guard_vt rfl rfl rfl) rfl rfl rfl Kr rfl Bt Sm ?_
          refine Ra 12 [] rfl (q_pev rfl Bt) ?_
          refine Ra 13 [] rfl Qp ?_
          refine ra_nil Kr ?_
          (repeat refine cw_seq ?_)
          have hr5 : (orangerylaw_DiskSays d1 c1 n1 x1) = ((((disk_Crash d1 n1).2) == 0) && (orangeryref_SameDisk ((disk_Crash d1 n1).1) (⟨d1.safe, (d1.wait.take n1.toNat)⟩ : Disk))) := by simp only [orangerylaw_DiskSays, hc1, hc2, hc3, hc4, Bool.true_and, Bool.and_true, Bool.false_or, Bool.or_false, Bool.false_and, Bool.and_false, Bool.true_or, Bool.or_true, Bool.not_true, Bool.not_false, cond_true, cond_false]
          refine cw_ret ?_; rw [hr5]; exact Re () (Vt Vn)
end Go.Proofs.YtaiefncoholnnaaDoor
