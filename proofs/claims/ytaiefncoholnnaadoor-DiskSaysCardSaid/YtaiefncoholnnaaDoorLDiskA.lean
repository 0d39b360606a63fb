/- Part of this claim. No condition. -/
import Derived.Test.YtaiefncoholnnaaDoorLNoteC
import Derived.Test.YtaiefncoholnnaaDoorY25
set_option linter.unusedVariables false
set_option linter.unusedSimpArgs false
namespace Go.Proofs.YtaiefncoholnnaaDoor
open Go Go.Proofs.YtaiefncoholnnaaDoor.Fw Go.Proofs

/-- The text of records, line by line. -/
def recsText (l : List Rec) : Str := l.flatMap (fun r => prText r ++ [10])
theorem recsText_nil : recsText [] = [] := rfl
theorem recsText_cons (r : Rec) (l : List Rec) : recsText (r :: l) = prText r ++ 10 :: recsText l := by simp [recsText]
theorem recsText_append (a b : List Rec) : recsText (a ++ b) = recsText a ++ recsText b := by simp [recsText]
theorem recsText_len (l : List Rec) : l.length ≤ (recsText l).length := by
  induction l with
  | nil => simp
  | cons r l ih => rw [recsText_cons]; simp only [List.length_append, List.length_cons]; omega

theorem word_nl (r : Rec) : (10 : UInt8) ∉ wordOf r := by
  unfold wordOf
  cases (r.kind == 1) <;> cases (r.kind == 2) <;> simp
theorem glue_nl : ∀ (l : List Int), (10 : UInt8) ∉ glue 32 (l.map Lib.itoa)
  | [] => by simp [glue]
  | n :: l => by
    have h1 : (10 : UInt8) ∉ Lib.itoa n := itoa_no (by decide)
    have h2 := glue_nl l
    simp only [glue, List.map_cons, List.flatMap_cons, List.mem_append, List.mem_cons] at h2 ⊢
    intro h
    rcases h with (h | h) | h
    · exact absurd h (by decide)
    · exact h1 h
    · exact h2 h
theorem pr_nl (r : Rec) : (10 : UInt8) ∉ prText r := by
  intro h
  rcases List.mem_append.1 h with h | h
  · exact word_nl r h
  · exact glue_nl _ h

abbrev AllR (l : List Rec) : Prop := ∀ r ∈ l, note_Check r = 0

theorem lines_step {r : Rec} (hr : note_Check r = 0) (s0 : Str) (most : Int) (f : Nat) (t : Str) (acc : List Rec) (h : (acc.length : Int) ≠ most) :
    disk_lines_L0 s0 most (f + 1) (prText r ++ 10 :: t) acc = disk_lines_L0 s0 most f t (acc ++ [r]) := by
  have h1 : ((prText r ++ 10 :: t) != ([] : Str)) = true := by simp
  have h2 : ((acc.length : Int) == most) = false := by simpa using h
  rw [disk_lines_L0]
  simp only [h1, cutc_hit t (pr_nl r), Parse_print hr, h2, cond_true, cond_false, Bool.not_true, bne_self_eq_false]

theorem lines_recs (s0 : Str) (most : Int) (t : Str) : ∀ (l acc : List Rec) (f : Nat), AllR l → ((acc.length + l.length : Nat) : Int) ≤ most →
    disk_lines_L0 s0 most (f + l.length) (recsText l ++ t) acc = disk_lines_L0 s0 most f t (acc ++ l)
  | [], acc, f, _, _ => by simp [recsText_nil]
  | r :: l, acc, f, hl, hm => by
    simp only [List.length_cons] at hm
    have e : f + (r :: l).length = (f + l.length) + 1 := by simp only [List.length_cons]; omega
    rw [e, recsText_cons, List.append_assoc, List.cons_append, lines_step (hl r (.head _)) s0 most _ _ _ (by omega),
      lines_recs s0 most t l (acc ++ [r]) f (fun x hx => hl x (.tail _ hx)) (by simp only [List.length_append, List.length_cons, List.length_nil]; omega)]
    simp

theorem lines_end (s0 : Str) (most : Int) (f : Nat) {t : Str} (ht : (10 : UInt8) ∉ t) (acc : List Rec) :
    disk_lines_L0 s0 most (f + 1) t acc = (acc, (s0.length : Int) - (t.length : Int), if t = [] then 0 else 8) := by
  rw [disk_lines_L0]
  by_cases h : t = []
  · subst h
    simp
  · have h1 : (t != ([] : Str)) = true := by simpa using h
    simp only [h1, cutc_no ht, cond_true, Bool.not_false, if_neg h]

theorem lines_of (most : Int) {l : List Rec} (hl : AllR l) {t : Str} (ht : (10 : UInt8) ∉ t) (hm : (l.length : Int) ≤ most) :
    disk_lines (recsText l ++ t) most = (l, ((recsText l).length : Int), if t = [] then 0 else 8) := by
  have hlen := recsText_len l
  have e : (recsText l ++ t).length + 1 = ((recsText l).length - l.length + t.length + 1) + l.length := by simp only [List.length_append]; omega
  unfold disk_lines
  rw [e, lines_recs _ _ _ _ _ _ hl (by simpa using hm), lines_end _ _ _ ht]
  simp only [List.nil_append, List.length_append]
  congr 2
  omega

theorem lines_all (most : Int) {l : List Rec} (hl : AllR l) (hm : (l.length : Int) ≤ most) :
    disk_lines (recsText l) most = (l, ((recsText l).length : Int), 0) := by
  have := lines_of most hl (t := []) (by simp) hm
  simpa using this

/-- A beginning of the text: whole lines, and of the next one a part. -/
theorem take_recs : ∀ (l : List Rec) (k : Nat), ∃ j t, (recsText l).take k = recsText (l.take j) ++ t ∧ (10 : UInt8) ∉ t
  | [], k => ⟨0, [], by simp [recsText_nil], by simp⟩
  | r :: l, k => by
    rw [recsText_cons]
    by_cases hk : k ≤ (prText r).length
    · refine ⟨0, (prText r).take k, ?_, fun h => pr_nl r (List.mem_of_mem_take h)⟩
      rw [List.take_append_of_le_length hk]
      simp [recsText_nil]
    · obtain ⟨j, t, h1, h2⟩ := take_recs l (k - (prText r).length - 1)
      refine ⟨j + 1, t, ?_, h2⟩
      obtain ⟨m, rfl⟩ : ∃ m, k = (prText r).length + (m + 1) := ⟨k - (prText r).length - 1, by omega⟩
      rw [show (prText r).length + (m + 1) - (prText r).length - 1 = m by omega] at h1
      rw [List.take_length_add_append, List.take_succ_cons, h1, List.take_succ_cons, recsText_cons, List.append_assoc, List.cons_append]
end Go.Proofs.YtaiefncoholnnaaDoor
