/- Part of this claim. No condition. -/
import Derived.Test.YtaiefncoholnnaaDoorLDiskB
import Derived.Test.YtaiefncoholnnaaDoorY28
set_option linter.unusedVariables false
set_option linter.unusedSimpArgs false
namespace Go.Proofs.YtaiefncoholnnaaDoor
open Go Go.Proofs.YtaiefncoholnnaaDoor.Fw Go.Proofs

theorem CheckDisk_eq (d : Disk) : orangeryref_CheckDisk d = disk_Check d := by
  unfold orangeryref_CheckDisk disk_Check
  cases hb : (decide ((d.safe.length : Int) > 60000) || decide ((d.wait.length : Int) > (60000 - (d.safe.length : Int)))) with
  | true => rfl
  | false =>
    have := disk_lens hb
    simp only [cond_false]
    rw [linesOf_eq (by omega) (by decide)]
theorem PutOn_eq {d : Disk} (c : Rec) (h : disk_Check d = 0) : orangeryref_PutOn d c = disk_Put d c := by
  have hdl := disk_Check_lens h
  have h0 : (disk_Check d != 0) = false := by simpa using h
  unfold orangeryref_PutOn disk_Put
  rw [RecText_eq]
  simp only [h0, cond_false]
  cases ((note_Print c).2 != 0) with
  | true => rfl
  | false =>
    simp only [cond_false]
    have e : decide (((((d.safe.length : Int) + (d.wait.length : Int)) + (((note_Print c).1).length : Int)) + 1) > 60000) = decide (((((note_Print c).1).length : Int) + 1) > ((60000 - (d.safe.length : Int)) - (d.wait.length : Int))) := by
      apply decide_eq_decide.2; omega
    rw [e]
    simp
theorem Synced_eq {d : Disk} (h : disk_Check d = 0) : orangeryref_Synced d = disk_Sync d := by
  have h0 : (disk_Check d != 0) = false := by simpa using h
  unfold orangeryref_Synced disk_Sync
  simp only [h0, cond_false, CheckDisk_eq]
theorem Recovered_eq {d : Disk} (h : disk_Check d = 0) : orangeryref_Recovered d = ((disk_Recover d).1, (disk_Recover d).2.1) ∧ (disk_Recover d).2.2 = 0 := by
  have hdl := disk_Check_lens h
  have h0 : (disk_Check d != 0) = false := by simpa using h
  have hm := linesOf_most (s := d.safe) (most := 60) (by omega) (by decide)
  rw [linesOf_eq (by omega) (by decide)] at hm
  unfold orangeryref_Recovered disk_Recover
  rw [linesOf_eq (s := d.safe) (most := 60) (by omega) (by decide), linesOf_eq (s := d.wait) (by omega) (by omega)]
  simp only [h0, cond_false]
  simp
theorem EqSameRec (a b : List Rec) : slices_EqualFunc_Rec a b orangeryref_SameRec = decide (a = b) := EqualFunc_iff orangeryref_SameRec SameRec_iff a b
theorem SameDisk_iff (a b : Disk) : orangeryref_SameDisk a b = (decide (a.safe = b.safe) && decide (a.wait = b.wait)) := rfl

theorem DiskSays_true (d : Disk) (c : Rec) (n : Int) (x : Disk) : orangerylaw_DiskSays d c n x = true := by
  unfold orangerylaw_DiskSays
  have hs : disk_Same d x = orangeryref_SameDisk d x := rfl
  rw [filed_true, CheckDisk_eq, hs]
  by_cases h : disk_Check d = 0
  · have h0 : (disk_Check d != 0) = false := by simpa using h
    have hr := Recovered_eq h
    rw [PutOn_eq c h, Synced_eq h, hr.1]
    simp only [hr.2, h0, EqSameRec, SameDisk_iff]
    have hcr : disk_Crash d n = (bif (decide (n < 0) || decide (n > (d.wait.length : Int))) then ((⟨([] : List UInt8), ([] : List UInt8)⟩ : Disk), 3) else ((⟨d.safe, (d.wait.take n.toNat)⟩ : Disk), 0)) := by
      unfold disk_Crash
      simp only [h0, cond_false]
    rw [hcr]
    cases hb : (decide (n < 0) || decide (n > (d.wait.length : Int))) with
    | true => simp
    | false => simp
  · have h0 : (disk_Check d != 0) = true := by simpa using h
    have p1 : disk_Put d c = (⟨[], []⟩, disk_Check d) := by unfold disk_Put; simp only [h0, cond_true]
    have p2 : disk_Sync d = (⟨[], []⟩, disk_Check d) := by unfold disk_Sync; simp only [h0, cond_true]
    have p3 : disk_Crash d n = (⟨[], []⟩, disk_Check d) := by unfold disk_Crash; simp only [h0, cond_true]
    have p4 : disk_Recover d = (⟨[], []⟩, [], disk_Check d) := by unfold disk_Recover; simp only [h0, cond_true]
    simp only [p1, p2, p3, p4, h0, SameDisk_iff]
    simp
end Go.Proofs.YtaiefncoholnnaaDoor
