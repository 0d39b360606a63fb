/- Part of this claim. No condition. -/
import Derived.Test.YtaiefncoholnnaaDoorLNoteC
import Derived.Test.YtaiefncoholnnaaDoorY9
set_option linter.unusedVariables false
set_option linter.unusedSimpArgs false
namespace Go.Proofs.YtaiefncoholnnaaDoor
open Go Go.Proofs.YtaiefncoholnnaaDoor.Fw Go.Proofs

theorem SameRec_iff (a b : Rec) : orangeryref_SameRec a b = decide (a = b) := by
  obtain ⟨k, w, l, r, o⟩ := a
  obtain ⟨k', w', l', r', o'⟩ := b
  rw [orangeryref_SameRec, Bool.eq_iff_iff]
  simp only [Bool.and_eq_true, beq_iff_eq, decide_eq_true_eq, Rec.mk.injEq]
  constructor
  · rintro ⟨⟨⟨⟨h1, h2⟩, h3⟩, h4⟩, h5⟩; exact ⟨h1, h2, h3, h4, h5⟩
  · rintro ⟨h1, h2, h3, h4, h5⟩; exact ⟨⟨⟨⟨h1, h2⟩, h3⟩, h4⟩, h5⟩

theorem join_glue (w : Str) (l : List Str) : Lib.join (w :: l) [32] = w ++ glue 32 l := by
  rw [Lib.join_cons]
  congr 1

theorem RecText_eq (r : Rec) : orangeryref_RecText r = note_Print r := by
  rw [Print_eq, orangeryref_RecText, ← CheckRec_eq]
  by_cases h : note_Check r = 0
  · rw [if_pos h, h]
    simp only [RecText_1_eq, List.singleton_append, List.cons_append, List.nil_append]
    rcases (Check_iff r).1 h with ⟨h1, _⟩ | ⟨h1, _, _⟩ | ⟨h1, _, _⟩
    · rw [h1]; simp only [prText, wordOf, numsOf]; exact congrArg (·, (0 : Int)) (join_glue _ _)
    · rw [h1]; simp only [prText, wordOf, numsOf]; exact congrArg (·, (0 : Int)) (join_glue _ _)
    · rw [h1]; simp only [prText, wordOf, numsOf]; exact congrArg (·, (0 : Int)) (join_glue _ _)
  · rw [if_neg h]
    have : (note_Check r != 0) = true := by simpa using h
    rw [this, cond_true]

theorem cut_fst (s : Str) : (cutc 32 s).1 = gt (spl 32 s) 0 ∧ (spl 32 s).drop 1 = bif (cutc 32 s).2.2 then spl 32 (cutc 32 s).2.1 else [] := by
  rcases at_c 32 s with h | ⟨p, r, h1, h2⟩
  · rw [cutc_no h, spl_no h]; exact ⟨rfl, rfl⟩
  · rw [h1, cutc_hit r h2, spl_hit r h2]; exact ⟨rfl, rfl⟩
theorem spl_eq (s : Str) : spl 32 s = (cutc 32 s).1 :: (bif (cutc 32 s).2.2 then spl 32 (cutc 32 s).2.1 else []) := by
  rcases at_c 32 s with h | ⟨p, r, h1, h2⟩
  · rw [cutc_no h, spl_no h]; rfl
  · rw [h1, cutc_hit r h2, spl_hit r h2]; rfl

theorem RecRead_L0_eq (s : Str) : ∀ (f : Nat) (rest : Str) (more : Bool) (n : List Int), (bif more then rest.length + 1 else 0) < f → orangeryref_RecRead_L0 s f rest more n = readP (cutc 32 s).1 ((pn (bif more then spl 32 rest else [])).map (n ++ ·))
  | 0, _, _, _, h => absurd h (Nat.not_lt_zero _)
  | f + 1, rest, more, n, h => by
    rw [orangeryref_RecRead_L0]
    cases more with
    | false =>
      simp only [cond_false, pn, Option.map_some, List.append_nil, readP, finR, mkRec]
      simp only [← CheckRec_eq, fin_aux]
      rw [show (((cutc 32 s).1 == ([111, 112] : Str)) && ((n.length : Int) == 7)) = decide ((cutc 32 s).1 = [111, 112] ∧ n.length = 7) from and_len (k := 7),
        show (((cutc 32 s).1 == ([108, 105, 102, 101] : Str)) && ((n.length : Int) == 2)) = decide ((cutc 32 s).1 = [108, 105, 102, 101] ∧ n.length = 2) from and_len (k := 2), and_ge, bif_dec, bif_dec, bif_dec]
      by_cases h1 : (cutc 32 s).1 = [111, 112] ∧ n.length = 7
      · rw [if_pos h1, if_pos h1]
      · rw [if_neg h1, if_neg h1]
        by_cases h2 : (cutc 32 s).1 = [108, 105, 102, 101] ∧ n.length = 2
        · rw [if_pos h2, if_pos h2]
        · rw [if_neg h2, if_neg h2]
          by_cases h3 : (cutc 32 s).1 = [114, 111, 111, 116, 115] ∧ 0 < n.length
          · rw [if_pos h3, if_pos h3]
          · rw [if_neg h3, if_neg h3]
    | true =>
      simp only [cond_true] at h ⊢
      rw [spl_eq rest, pn]
      cases he : ate (cutc 32 rest).1 with
      | true => simp [readP]
      | false =>
        rw [ptv_eq he]
        cases (Lib.itoa (atv (cutc 32 rest).1) != (cutc 32 rest).1) with
        | true => rfl
        | false =>
          simp only [Bool.or_false, cond_false]
          have hm := cut_meas 32 rest
          rw [RecRead_L0_eq s f _ _ _ (by omega), Option.map_map]
          congr 2
          funext x; simp

theorem RecRead_eq {s : Str} (h : s.length ≤ 60000) : orangeryref_RecRead s = note_Parse s := by
  rw [Parse_eq h, orangeryref_RecRead, RecRead_L0_eq _ _ _ _ _ (by have := cut_meas 32 s; omega), (cut_fst s).1, (cut_fst s).2]
  congr 1
  cases pn (bif (cutc 32 s).2.2 then spl 32 (cutc 32 s).2.1 else []) <;> simp

theorem NoteSays_true (r q : Rec) (s : Str) : orangerylaw_NoteSays r q s = true := by
  unfold orangerylaw_NoteSays
  rw [lined_true, RecText_eq, Same_iff, SameRec_iff]
  have h1 : (note_Print r).2 = note_Check r := by
    rw [Print_eq]; split
    · rename_i h; exact h.symm
    · rfl
  rw [h1]
  simp only [SameRec_iff]
  by_cases hs : 60000 < s.length
  · have : decide ((s.length : Int) > 60000) = true := by simp; omega
    rw [this, Parse_long hs]
    simp
  · have : decide ((s.length : Int) > 60000) = false := by simp; omega
    rw [this, RecRead_eq (by omega)]
    simp
end Go.Proofs.YtaiefncoholnnaaDoor
