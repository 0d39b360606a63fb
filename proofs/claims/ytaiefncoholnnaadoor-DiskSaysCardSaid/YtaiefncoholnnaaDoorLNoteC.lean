/- Part of this claim. No condition. -/
import Derived.Test.YtaiefncoholnnaaDoorLNoteB
import Derived.Test.YtaiefncoholnnaaDoorY8
set_option linter.unusedVariables false
set_option linter.unusedSimpArgs false
namespace Go.Proofs.YtaiefncoholnnaaDoor
open Go Go.Proofs.YtaiefncoholnnaaDoor.Fw Go.Proofs

theorem lined_true : orangerylaw_lined = true := by
  have h1 : note_Check ⟨1, 0, 0, [], orangerylaw_op 3 1 4 2⟩ = 0 := by decide
  have h2 : note_Check ⟨3, 1, 0, [0, 5], ⟨0, 0, 0, 0, 0, 0, 0⟩⟩ = 0 := by decide
  have e1 : prText ⟨1, 0, 0, [], orangerylaw_op 3 1 4 2⟩ = [111, 112, 32, 51, 32, 49, 32, 52, 32, 50, 32, 48, 32, 49, 32, 51] := by
    simp [prText, wordOf, numsOf, glue, orangerylaw_op, Lib.itoa, Lib.decDigits]
  have e2 : prText ⟨3, 1, 0, [0, 5], ⟨0, 0, 0, 0, 0, 0, 0⟩⟩ = [114, 111, 111, 116, 115, 32, 49, 32, 48, 32, 53] := by
    simp [prText, wordOf, numsOf, glue, Lib.itoa, Lib.decDigits]
  unfold orangerylaw_lined
  rw [Print_eq, if_pos h1, Print_eq, if_pos h2, Parse_print h1, e1, e2]
  decide

theorem NoteBack_true (r q : Rec) (s : Str) : orangerylaw_NoteBack r q s = true := by
  have key : (bif ((note_Parse s).2 != 0) then true else (((note_Print (note_Parse s).1).2 == 0) && ((note_Print (note_Parse s).1).1 == s))) = true := by
    cases h : note_Parse s with
    | mk x e =>
      by_cases he : e = 0
      · subst he
        obtain ⟨h1, h2⟩ := Parse_ok h
        simp only [Print_eq, if_pos h1, h2]
        simp
      · have : (e != 0) = true := by simpa using he
        simp only [this, cond_true]
  unfold orangerylaw_NoteBack
  rw [lined_true, key, Same_iff]
  simp only [Print_eq r]
  by_cases hr : note_Check r = 0
  · simp only [if_pos hr, Parse_print hr, Same_iff]
    have h3 : ((((0 : Int) == 0) && ((note_Print q).2 == 0)) && (!((prText r == (note_Print q).1) == decide (r = q)))) = false := by
      rw [Print_eq q]
      by_cases hq : note_Check q = 0
      · simp only [if_pos hq]
        by_cases hrq : r = q
        · subst hrq; simp
        · have : prText r ≠ prText q := fun e => hrq (by
            have h5 := Parse_print hr
            rw [e, Parse_print hq] at h5
            exact (Prod.mk.inj h5).1.symm)
          simp [hrq, this]
      · simp only [if_neg hq]
        have : (note_Check q == 0) = false := by simpa using hq
        simp [this]
    rw [h3]
    simp
  · simp only [if_neg hr]
    have : (note_Check r == 0) = false := by simpa using hr
    simp [this]
end Go.Proofs.YtaiefncoholnnaaDoor
