/- Part of this claim. No condition. -/
import Derived.Test.YtaiefncoholnnaaDoorLNoteD
import Derived.Test.YtaiefncoholnnaaDoorY26
set_option linter.unusedVariables false
set_option linter.unusedSimpArgs false
namespace Go.Proofs.YtaiefncoholnnaaDoor
open Go Go.Proofs.YtaiefncoholnnaaDoor.Fw Go.Proofs

/-! ### The document's lines are the program's -/
theorem suf_no {t : Str} (h : (10 : UInt8) ∉ t) : Lib.hasSuffix t [10] = false := by
  cases hb : Lib.hasSuffix t [10] with
  | false => rfl
  | true =>
    have h2 : [10].isSuffixOf t = true := hb
    have h3 := List.isSuffixOf_iff_suffix.1 h2
    exact absurd (h3.subset (.head _)) h
theorem suf_yes (p : Str) : Lib.hasSuffix (p ++ [10]) [10] = true := by
  have : [10].isSuffixOf (p ++ [10]) = true := List.isSuffixOf_iff_suffix.2 ⟨p, rfl⟩
  exact this

theorem linesOf_L0_eq (s0 : Str) (most : Int) (hs : s0.length ≤ 60000) : ∀ (f : Nat) (s : Str) (acc : List Rec) (n : Nat), s.length < f → n + s.length = s0.length → (acc.length : Int) ≤ most →
    orangeryref_linesOf_L0 most (splA 10 s) acc n = disk_lines_L0 s0 most f s acc
  | 0, s, acc, n, h, _, _ => absurd h (Nat.not_lt_zero _)
  | f + 1, s, acc, n, h, hn, hm => by
    rw [disk_lines_L0]
    rcases at_c 10 s with hno | ⟨p, r, rfl, hp⟩
    · rw [splA_no hno, orangeryref_linesOf_L0, cutc_no hno]
      by_cases h0 : s = []
      · subst h0
        simp only [List.length_nil] at hn
        simp
        omega
      · have h1 : (s == ([] : Str)) = false := by simpa using h0
        have h2 : (s != ([] : Str)) = true := by simpa using h0
        simp only [h1, h2, suf_no hno, cond_true, cond_false, Bool.not_false]
        congr 2
        omega
    · simp only [List.length_append, List.length_cons] at h hn
      have h1 : ((p ++ [10]) == ([] : Str)) = false := by simp
      have h2 : ((p ++ 10 :: r) != ([] : Str)) = true := by simp
      have h3 : (p ++ [10]).take ((p ++ [10]).length - 1) = p := by simp
      have hpl : p.length ≤ 60000 := by omega
      have h4 : (n : Int) = (s0.length : Int) - ((p ++ 10 :: r).length : Int) := by simp only [List.length_append, List.length_cons]; omega
      rw [splA_hit r hp, orangeryref_linesOf_L0, cutc_hit r hp]
      simp only [h1, h2, suf_yes, h3, RecRead_eq hpl, cond_true, cond_false, Bool.not_true, ← h4]
      by_cases he : (note_Parse p).2 = 0
      · have e1 : ((note_Parse p).2 == 0) = true := by simpa using he
        have e2 : ((note_Parse p).2 != 0) = false := by simpa using he
        simp only [e1, e2, Bool.true_and, cond_false]
        by_cases hq : (acc.length : Int) = most
        · have q1 : decide ((acc.length : Int) ≥ most) = true := by simp; omega
          have q2 : ((acc.length : Int) == most) = true := by simpa using hq
          simp only [q1, q2, cond_true]
          rfl
        · have q1 : decide ((acc.length : Int) ≥ most) = false := by simp; omega
          have q2 : ((acc.length : Int) == most) = false := by simpa using hq
          simp only [q1, q2, cond_false]
          exact linesOf_L0_eq s0 most hs f r _ _ (by omega) (by simp only [List.length_append, List.length_cons, List.length_nil]; omega) (by simp only [List.length_append, List.length_cons, List.length_nil]; omega)
      · have e1 : ((note_Parse p).2 == 0) = false := by simpa using he
        have e2 : ((note_Parse p).2 != 0) = true := by simpa using he
        simp only [e1, e2, Bool.false_and, cond_false, cond_true]

theorem linesOf_eq {s : Str} {most : Int} (hs : s.length ≤ 60000) (hm : 0 ≤ most) : orangeryref_linesOf s most = disk_lines s most := by
  unfold orangeryref_linesOf disk_lines strings_SplitAfter
  exact linesOf_L0_eq s most hs _ s [] 0 (by omega) (by omega) (by simpa using hm)
theorem linesOf_ok {s : Str} {most : Int} (hs : s.length ≤ 60000) (hm : 0 ≤ most) : (orangeryref_linesOf s most).1.length ≤ s.length ∧ 0 ≤ (orangeryref_linesOf s most).2.1 ∧ (orangeryref_linesOf s most).2.1 ≤ (s.length : Int) := by
  rw [linesOf_eq hs hm]; exact disk_lines_ok s most
theorem lines_most (s0 : Str) (most : Int) : ∀ (f : Nat) (s : Str) (l : List Rec), (l.length : Int) ≤ most → (((disk_lines_L0 s0 most f s l).1.length : Nat) : Int) ≤ most
  | 0, s, l, h => by
    have : (disk_lines_L0 s0 most 0 s l) = default := rfl
    rw [this]
    show (0 : Int) ≤ most
    omega
  | f + 1, s, l, h => by
    rw [disk_lines_L0]
    cases (s != ([] : Str)) with
    | false => exact h
    | true =>
      simp only [cond_true]
      cases (!(cutc 10 s).2.2) with
      | true => exact h
      | false =>
        simp only [cond_false]
        cases ((note_Parse (cutc 10 s).1).2 != 0) with
        | true => exact h
        | false =>
          simp only [cond_false]
          cases hq : ((l.length : Int) == most) with
          | true => exact h
          | false =>
            have hq : (l.length : Int) ≠ most := by simpa using hq
            exact lines_most s0 most f _ _ (by simp only [List.length_append, List.length_cons, List.length_nil]; omega)
theorem linesOf_most {s : Str} {most : Int} (hs : s.length ≤ 60000) (hm : 0 ≤ most) : ((orangeryref_linesOf s most).1.length : Int) ≤ most := by
  rw [linesOf_eq hs hm]; exact lines_most s most _ s [] (by simpa using hm)
end Go.Proofs.YtaiefncoholnnaaDoor
