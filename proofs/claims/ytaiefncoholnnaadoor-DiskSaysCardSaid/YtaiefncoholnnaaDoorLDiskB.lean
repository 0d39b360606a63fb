/- Part of this claim. No condition. -/
import Derived.Test.YtaiefncoholnnaaDoorLDiskA
set_option linter.unusedVariables false
set_option linter.unusedSimpArgs false
namespace Go.Proofs.YtaiefncoholnnaaDoor
open Go Go.Proofs.YtaiefncoholnnaaDoor.Fw Go.Proofs

/-! ### What is done with a disk whose text is that of right records -/
theorem noErr {e : Int} : (e != 0) = false ↔ e = 0 := by simp
theorem dCheck_recs {a : List Rec} {w : Str} (ha : AllR a) (hn : a.length ≤ 60) (hl : (recsText a).length + w.length ≤ 60000) : disk_Check ⟨recsText a, w⟩ = 0 := by
  unfold disk_Check
  have h : (decide (((recsText a).length : Int) > 60000) || decide ((w.length : Int) > (60000 - ((recsText a).length : Int)))) = false := by
    simp only [Bool.or_eq_false_iff, decide_eq_false_iff_not]; omega
  simp only [h, cond_false, lines_all 60 ha (by omega)]

theorem dPut_eq {d : Disk} {r : Rec} (h : (disk_Put d r).2 = 0) : note_Check r = 0 ∧ d.safe.length + (d.wait ++ recsText [r]).length ≤ 60000 ∧ disk_Put d r = (⟨d.safe, d.wait ++ recsText [r]⟩, 0) := by
  unfold disk_Put at h ⊢
  cases h1 : (disk_Check d != 0) with
  | true =>
    simp only [h1, cond_true] at h
    rw [h] at h1
    simp at h1
  | false =>
    have hdl := disk_Check_lens (eq_of_bne_false h1)
    simp only [h1, cond_false] at h ⊢
    by_cases hr : note_Check r = 0
    · simp only [Print_eq, if_pos hr, bne_self_eq_false, cond_false] at h ⊢
      cases h3 : decide ((((prText r).length : Int) + 1) > ((60000 - (d.safe.length : Int)) - (d.wait.length : Int))) with
      | true => simp only [h3, cond_true] at h; exact absurd h (by decide)
      | false =>
        have h3' := of_decide_eq_false h3
        simp only [cond_false]
        refine ⟨hr, ?_, ?_⟩
        · simp only [recsText_cons, recsText_nil, List.length_append, List.length_cons, List.length_nil]; omega
        · simp [recsText]
    · have h2 : (note_Check r != 0) = true := by simpa using hr
      simp only [Print_eq, if_neg hr, h2, cond_true] at h
      exact absurd h hr

theorem dput_loop (s : Str) : ∀ (l out : List Rec) (w : Str), s.length + w.length ≤ 60000 → ∃ b, AllR b ∧ b.length ≤ l.length ∧ s.length + (w ++ recsText b).length ≤ 60000 ∧
    orangerylaw_DiskKeeps_1_L0 l out s w = (out ++ b, ⟨s, w ++ recsText b⟩)
  | [], out, w, hw => ⟨[], (fun _ h => by cases h), Nat.le_refl _, by simpa [recsText_nil] using hw, by simp [orangerylaw_DiskKeeps_1_L0, recsText_nil]⟩
  | r :: l, out, w, hw => by
    rw [orangerylaw_DiskKeeps_1_L0]
    cases hb : ((disk_Put ⟨s, w⟩ r).2 == 0) with
    | true =>
      obtain ⟨h1, h2, h3⟩ := dPut_eq (eq_of_beq hb)
      simp only at h2
      obtain ⟨b, g1, g2, g3, g4⟩ := dput_loop s l (out ++ [r]) (w ++ recsText [r]) h2
      refine ⟨r :: b, ?_, by simp only [List.length_cons]; omega, ?_, ?_⟩
      · intro x hx
        rcases List.mem_cons.1 hx with rfl | hx
        · exact h1
        · exact g1 x hx
      · rw [show w ++ recsText (r :: b) = w ++ recsText [r] ++ recsText b by simp [recsText]]; exact g3
      · simp only [h3, cond_true, g4]
        simp [recsText]
    | false =>
      obtain ⟨b, g1, g2, g3, g4⟩ := dput_loop s l out w hw
      exact ⟨b, g1, by simp only [List.length_cons]; omega, g3, by simp only [cond_false, g4]⟩

theorem dput (l : List Rec) (s w : Str) (hw : s.length + w.length ≤ 60000) : ∃ b, AllR b ∧ b.length ≤ 20 ∧ s.length + (w ++ recsText b).length ≤ 60000 ∧
    orangerylaw_DiskKeeps_1 l ⟨s, w⟩ = (b, ⟨s, w ++ recsText b⟩) := by
  obtain ⟨b, g1, g2, g3, g4⟩ := dput_loop s (l.take ((if 20 < (l.length : Int) then 20 else (l.length : Int)).toNat)) [] w hw
  refine ⟨b, g1, ?_, g3, ?_⟩
  · have h2 : ((if 20 < (l.length : Int) then 20 else (l.length : Int)).toNat) ≤ 20 := by split <;> omega
    rw [List.length_take] at g2
    omega
  · unfold orangerylaw_DiskKeeps_1
    simpa using g4

theorem dSync_recs {a : List Rec} (ha : AllR a) (hn : a.length ≤ 60) (hl : (recsText a).length ≤ 60000) : disk_Sync ⟨[], recsText a⟩ = (⟨recsText a, []⟩, 0) := by
  have h1 : disk_Check ⟨[], recsText a⟩ = 0 := dCheck_recs (a := []) (fun _ h => by cases h) (by simp) (by simpa [recsText_nil] using hl)
  have h2 : disk_Check ⟨recsText a, []⟩ = 0 := dCheck_recs ha hn (by simpa using hl)
  unfold disk_Sync
  simp only [h1, List.flatten_cons, List.flatten_nil, List.nil_append, List.append_nil, h2, bne_self_eq_false, cond_false]

theorem dCrash_recs {a : List Rec} {w : Str} {n : Int} (ha : AllR a) (hn : a.length ≤ 60) (hl : (recsText a).length + w.length ≤ 60000) (h0 : 0 ≤ n) (hk : n ≤ (w.length : Int)) : disk_Crash ⟨recsText a, w⟩ n = (⟨recsText a, w.take n.toNat⟩, 0) := by
  unfold disk_Crash
  have h : (decide (n < 0) || decide (n > (w.length : Int))) = false := by simp only [Bool.or_eq_false_iff, decide_eq_false_iff_not]; omega
  simp only [dCheck_recs ha hn hl, h, bne_self_eq_false, cond_false]

theorem dRecover_recs {a b : List Rec} {t : Str} (ha : AllR a) (hb : AllR b) (hn : a.length + b.length ≤ 60) (ht : (10 : UInt8) ∉ t) (hl : (recsText a).length + (recsText b ++ t).length ≤ 60000) :
    disk_Recover ⟨recsText a, recsText b ++ t⟩ = (⟨recsText (a ++ b), []⟩, a ++ b, 0) := by
  unfold disk_Recover
  have h2 : (recsText b ++ t).take ((recsText b).length) = recsText b := by simp
  simp only [dCheck_recs ha (by omega) hl, lines_all 60 ha (by omega), lines_of (60 - (a.length : Int)) hb ht (by omega), bne_self_eq_false, cond_false, Int.toNat_natCast, h2, List.flatten_cons, List.flatten_nil, List.append_nil, recsText_append]

theorem EqualFunc_L0_iff (f : Rec → Rec → Bool) (hf : ∀ a b, f a b = decide (a = b)) (s2 : List Rec) : ∀ (l : List Rec) (k : Nat), l.length + k = s2.length → slices_EqualFunc_Rec_L0 s2 f l k = decide (l = s2.drop k)
  | [], k, h => by
    simp only [List.length_nil, Nat.zero_add] at h
    rw [slices_EqualFunc_Rec_L0, h, List.drop_length]; simp
  | r :: l, k, h => by
    simp only [List.length_cons] at h
    have hk : k < s2.length := by omega
    rw [slices_EqualFunc_Rec_L0, hf, EqualFunc_L0_iff f hf s2 l (k + 1) (by omega), List.drop_eq_getElem_cons hk]
    have : gt s2 k = s2[k] := by simp [gt, hk]
    rw [this]
    generalize s2.drop (k + 1) = t
    by_cases h1 : r = s2[k]
    · simp [h1]
    · simp [h1]
theorem EqualFunc_iff (f : Rec → Rec → Bool) (hf : ∀ a b, f a b = decide (a = b)) (a b : List Rec) : slices_EqualFunc_Rec a b f = decide (a = b) := by
  unfold slices_EqualFunc_Rec
  by_cases h : a.length = b.length
  · have h1 : ((a.length : Int) != (b.length : Int)) = false := by simp; omega
    simp only [h1, cond_false]
    rw [EqualFunc_L0_iff f hf b a 0 (by omega)]; simp
  · have h1 : ((a.length : Int) != (b.length : Int)) = true := by simp; omega
    simp only [h1, cond_true]
    have : a ≠ b := fun e => h (by rw [e])
    simp [this]
theorem EqSame (a b : List Rec) : slices_EqualFunc_Rec a b note_Same = decide (a = b) := EqualFunc_iff note_Same Same_iff a b

theorem filed_true : orangerylaw_filed = true := by
  have p2 : note_Check ⟨2, 1, 2, [], ⟨0, 0, 0, 0, 0, 0, 0⟩⟩ = 0 := by decide
  have p3 : note_Check ⟨2, 1, 3, [], ⟨0, 0, 0, 0, 0, 0, 0⟩⟩ = 0 := by decide
  have e2 : prText ⟨2, 1, 2, [], ⟨0, 0, 0, 0, 0, 0, 0⟩⟩ = [108, 105, 102, 101, 32, 49, 32, 50] := by
    simp [prText, wordOf, numsOf, glue, Lib.itoa, Lib.decDigits]
  have e3 : prText ⟨2, 1, 3, [], ⟨0, 0, 0, 0, 0, 0, 0⟩⟩ = [108, 105, 102, 101, 32, 49, 32, 51] := by
    simp [prText, wordOf, numsOf, glue, Lib.itoa, Lib.decDigits]
  have a2 : AllR [⟨2, 1, 2, [], ⟨0, 0, 0, 0, 0, 0, 0⟩⟩] := fun x hx => by rw [List.mem_singleton] at hx; subst hx; exact p2
  have t2 : recsText [⟨2, 1, 2, [], ⟨0, 0, 0, 0, 0, 0, 0⟩⟩] = [108, 105, 102, 101, 32, 49, 32, 50, 10] := by simp [recsText, e2]
  have put1 : disk_Put ⟨[], []⟩ ⟨2, 1, 2, [], ⟨0, 0, 0, 0, 0, 0, 0⟩⟩ = (⟨[], recsText [⟨2, 1, 2, [], ⟨0, 0, 0, 0, 0, 0, 0⟩⟩]⟩, 0) := by
    have hc : disk_Check ⟨[], []⟩ = 0 := dCheck_recs (a := []) (fun _ h => by cases h) (by simp) (by simp [recsText_nil])
    unfold disk_Put
    simp only [hc, Print_eq, if_pos p2, e2, t2]
    decide
  have sy : disk_Sync ⟨[], recsText [⟨2, 1, 2, [], ⟨0, 0, 0, 0, 0, 0, 0⟩⟩]⟩ = (⟨recsText [⟨2, 1, 2, [], ⟨0, 0, 0, 0, 0, 0, 0⟩⟩], []⟩, 0) := dSync_recs a2 (by simp) (by rw [t2]; simp)
  have put2 : disk_Put ⟨recsText [⟨2, 1, 2, [], ⟨0, 0, 0, 0, 0, 0, 0⟩⟩], []⟩ ⟨2, 1, 3, [], ⟨0, 0, 0, 0, 0, 0, 0⟩⟩ = (⟨recsText [⟨2, 1, 2, [], ⟨0, 0, 0, 0, 0, 0, 0⟩⟩], [108, 105, 102, 101, 32, 49, 32, 51, 10]⟩, 0) := by
    have hc : disk_Check ⟨recsText [⟨2, 1, 2, [], ⟨0, 0, 0, 0, 0, 0, 0⟩⟩], []⟩ = 0 := dCheck_recs a2 (by simp) (by rw [t2]; simp)
    unfold disk_Put
    simp only [hc, Print_eq, if_pos p3, e3]
    rw [t2]
    decide
  have cr : disk_Crash ⟨recsText [⟨2, 1, 2, [], ⟨0, 0, 0, 0, 0, 0, 0⟩⟩], [108, 105, 102, 101, 32, 49, 32, 51, 10]⟩ 4 = (⟨recsText [⟨2, 1, 2, [], ⟨0, 0, 0, 0, 0, 0, 0⟩⟩], [108, 105, 102, 101]⟩, 0) :=
    dCrash_recs a2 (by simp) (by rw [t2]; simp) (by decide) (by simp)
  have rc : disk_Recover ⟨recsText [⟨2, 1, 2, [], ⟨0, 0, 0, 0, 0, 0, 0⟩⟩], [108, 105, 102, 101]⟩ = (⟨recsText [⟨2, 1, 2, [], ⟨0, 0, 0, 0, 0, 0, 0⟩⟩], []⟩, [⟨2, 1, 2, [], ⟨0, 0, 0, 0, 0, 0, 0⟩⟩], 0) :=
    dRecover_recs (b := []) (t := [108, 105, 102, 101]) a2 (fun _ h => by cases h) (by simp) (by decide) (by rw [t2]; simp [recsText_nil])
  unfold orangerylaw_filed
  simp only [put1, sy, put2, cr, rc]
  rw [t2]
  decide

theorem DiskKeeps_true (safe more : List Rec) (n : Int) : orangerylaw_DiskKeeps safe more n = true := by
  obtain ⟨a, a1, a2, a3, a4⟩ := dput safe [] [] (by simp)
  simp only [List.nil_append, List.length_nil, Nat.zero_add] at a3 a4
  obtain ⟨b, b1, b2, b3, b4⟩ := dput more (recsText a) [] (by simpa using a3)
  simp only [List.nil_append] at b3 b4
  have hat := at_in (k := n) (n := ((recsText b).length : Int) + 1) (by omega)
  obtain ⟨j, t, t1, t2⟩ := take_recs b (orangerylaw_at n (((recsText b).length : Int) + 1)).toNat
  have hbj : AllR (b.take j) := fun x hx => b1 x (List.mem_of_mem_take hx)
  have hjl : (b.take j).length ≤ b.length := by rw [List.length_take]; omega
  have htl : (recsText (b.take j) ++ t).length ≤ (recsText b).length := by rw [← t1, List.length_take]; omega
  have hab : AllR (a ++ b.take j) := fun x hx => (List.mem_append.1 hx).elim (a1 x) (hbj x)
  have cr := dCrash_recs (w := recsText b) (n := orangerylaw_at n (((recsText b).length : Int) + 1)) a1 (by omega) b3 hat.1 (by omega)
  rw [t1] at cr
  have rc := dRecover_recs a1 hbj (by omega) t2 (by omega)
  have htl2 := htl
  rw [List.length_append] at htl2
  have rc2 := dRecover_recs (a := a ++ b.take j) (b := []) (t := []) hab (fun _ h => by cases h) (by simp only [List.length_append, List.length_nil]; omega) (by simp) (by rw [recsText_append, List.length_append]; simp only [recsText_nil, List.nil_append, List.length_nil]; omega)
  simp only [recsText_nil, List.nil_append, List.append_nil] at rc2
  have htake : (a ++ b).take (a ++ b.take j).length = a ++ b.take j := by
    rw [List.length_append, List.take_length_add_append, List.length_take, List.take_eq_take_iff.2 (show min (min j b.length) b.length = min j b.length by omega)]
  unfold orangerylaw_DiskKeeps
  simp only [filed_true, a4, dSync_recs a1 (by omega) a3, b4, cr, rc, rc2, EqSame, List.flatten_cons, List.flatten_nil, List.append_nil, Int.toNat_natCast, htake]
  simp only [List.length_append]
  have c1 : decide (((a.length + (b.take j).length : Nat) : Int) < (a.length : Int)) = false := by simp; omega
  have c2 : decide (((a.length + (b.take j).length : Nat) : Int) > (a.length : Int) + (b.length : Int)) = false := by simp only [decide_eq_false_iff_not]; omega
  simp [disk_Same]
  omega
end Go.Proofs.YtaiefncoholnnaaDoor
