/- Part of this claim. No condition. -/
import Derived.Test.YtaiefncoholnnaaDoorLNum
import Derived.Test.YtaiefncoholnnaaDoorY5
set_option linter.unusedVariables false
set_option linter.unusedSimpArgs false
namespace Go.Proofs.YtaiefncoholnnaaDoor
open Go Go.Proofs.YtaiefncoholnnaaDoor.Fw Go.Proofs

/-! ### A record as a line, and back -/
def prText (r : Rec) : Str := wordOf r ++ glue 32 ((numsOf r).map Lib.itoa)

theorem Print_L0_eq : ∀ (l : List Int) (s : Str), note_Print_L0 l s = (s ++ glue 32 (l.map Lib.itoa), 0)
  | [], s => by simp [note_Print_L0, glue]
  | n :: l, s => by rw [note_Print_L0, Print_L0_eq l]; simp [glue]

theorem V1_eq {r : Rec} (h : note_Check r = 0) : note_Print_V1 r = (wordOf r, numsOf r) := by
  unfold note_Print_V1 wordOf numsOf
  rcases (Check_iff r).1 h with ⟨h1, _⟩ | ⟨h1, _, _⟩ | ⟨h1, _, _⟩ <;> (rw [h1]; rfl)

theorem Print_eq (r : Rec) : note_Print r = if note_Check r = 0 then (prText r, 0) else ([], note_Check r) := by
  unfold note_Print
  by_cases h : note_Check r = 0
  · rw [if_pos h, V1_eq h, Print_L0_eq, h]
    rfl
  · rw [if_neg h]
    have : (note_Check r != 0) = true := by simpa using h
    rw [this, cond_true]

/-- The numbers of the pieces, if all are. -/
def pn : List Str → Option (List Int)
  | [] => some []
  | t :: r => bif ate t || (Lib.itoa (atv t) != t) then none else (pn r).map (atv t :: ·)

abbrev noRec : Rec := ⟨0, 0, 0, [], ⟨0, 0, 0, 0, 0, 0, 0⟩⟩
def mkRec (w : Str) (n : List Int) : Option Rec :=
  if w = [111, 112] ∧ n.length = 7 then some ⟨1, 0, 0, [], ⟨gt n 0, gt n 1, gt n 2, gt n 3, gt n 4, gt n 5, gt n 6⟩⟩
  else if w = [108, 105, 102, 101] ∧ n.length = 2 then some ⟨2, gt n 0, gt n 1, [], ⟨0, 0, 0, 0, 0, 0, 0⟩⟩
  else if w = [114, 111, 111, 116, 115] ∧ 0 < n.length then some ⟨3, gt n 0, 0, n.drop 1, ⟨0, 0, 0, 0, 0, 0, 0⟩⟩
  else none
def finR (w : Str) (n : List Int) : Rec × Int := match mkRec w n with
  | none => (noRec, 1)
  | some r => if note_Check r = 0 then (r, 0) else (noRec, note_Check r)
def readP (w : Str) : Option (List Int) → Rec × Int
  | none => (noRec, 1)
  | some n => finR w n

theorem and_len {w u : Str} {n : List Int} {k : Nat} : ((w == u) && ((n.length : Int) == (k : Int))) = decide (w = u ∧ n.length = k) := by
  rw [Bool.eq_iff_iff]; simp only [Bool.and_eq_true, beq_iff_eq, decide_eq_true_eq]; exact and_congr_right fun _ => by omega
theorem and_gt {w u : Str} {n : List Int} : ((w == u) && decide ((n.length : Int) > 0)) = decide (w = u ∧ 0 < n.length) := by
  rw [Bool.eq_iff_iff]; simp only [Bool.and_eq_true, beq_iff_eq, decide_eq_true_eq]; exact and_congr_right fun _ => by omega
theorem and_ge {w u : Str} {n : List Int} : ((w == u) && decide ((n.length : Int) ≥ 1)) = decide (w = u ∧ 0 < n.length) := by
  rw [Bool.eq_iff_iff]; simp only [Bool.and_eq_true, beq_iff_eq, decide_eq_true_eq]; exact and_congr_right fun _ => by omega

theorem fin_aux (r : Rec) : (bif (note_Check r != 0) then (noRec, note_Check r) else (r, (0 : Int))) = if note_Check r = 0 then (r, 0) else (noRec, note_Check r) := by
  by_cases h : note_Check r = 0
  · rw [if_pos h, h]; rfl
  · rw [if_neg h]
    have : (note_Check r != 0) = true := by simpa using h
    rw [this, cond_true]

theorem bif_dec {α : Type} {p : Prop} [Decidable p] (a b : α) : (bif decide p then a else b) = if p then a else b := by
  by_cases h : p <;> simp [h]

theorem Parse_L0_eq (s : Str) : ∀ (l : List Str) (acc : List Int), note_Parse_L0 s l acc = readP (gt (spl 32 s) 0) ((pn l).map (acc ++ ·))
  | [], acc => by
    rw [note_Parse_L0]
    have e7 : ((7 : Int)) = ((7 : Nat) : Int) := rfl
    have e2 : ((2 : Int)) = ((2 : Nat) : Int) := rfl
    simp only [pn, Option.map_some, List.append_nil, readP, finR, mkRec]
    simp only [fin_aux]
    rw [show (((gt (spl 32 s) 0) == ([111, 112] : Str)) && ((acc.length : Int) == 7)) = decide (gt (spl 32 s) 0 = [111, 112] ∧ acc.length = 7) from and_len (k := 7),
      show (((gt (spl 32 s) 0) == ([108, 105, 102, 101] : Str)) && ((acc.length : Int) == 2)) = decide (gt (spl 32 s) 0 = [108, 105, 102, 101] ∧ acc.length = 2) from and_len (k := 2), and_gt, bif_dec, bif_dec, bif_dec]
    by_cases h1 : gt (spl 32 s) 0 = [111, 112] ∧ acc.length = 7
    · rw [if_pos h1, if_pos h1]
    · rw [if_neg h1, if_neg h1]
      by_cases h2 : gt (spl 32 s) 0 = [108, 105, 102, 101] ∧ acc.length = 2
      · rw [if_pos h2, if_pos h2]
      · rw [if_neg h2, if_neg h2]
        by_cases h3 : gt (spl 32 s) 0 = [114, 111, 111, 116, 115] ∧ 0 < acc.length
        · rw [if_pos h3, if_pos h3]
        · rw [if_neg h3, if_neg h3]
  | t :: r, acc => by
    rw [note_Parse_L0, pn]
    cases (ate t || (Lib.itoa (atv t) != t)) with
    | true => rfl
    | false =>
      simp only [cond_false]
      rw [Parse_L0_eq s r, Option.map_map]
      congr 2
      funext x; simp

theorem Parse_eq {s : Str} (h : s.length ≤ 60000) : note_Parse s = readP (gt (spl 32 s) 0) (pn ((spl 32 s).drop 1)) := by
  unfold note_Parse
  have : decide ((s.length : Int) > 60000) = false := by simp; omega
  rw [this, cond_false, Parse_L0_eq]
  congr 1
  cases pn ((spl 32 s).drop 1) <;> simp
theorem Parse_long {s : Str} (h : 60000 < s.length) : note_Parse s = (noRec, 2) := by
  unfold note_Parse
  have : decide ((s.length : Int) > 60000) = true := by simp; omega
  rw [this, cond_true]

/-! ### What is printed is read -/
theorem pn_itoa : ∀ {l : List Int}, (∀ n ∈ l, I64 n) → pn (l.map Lib.itoa) = some l
  | [], _ => rfl
  | n :: l, h => by
    have hn := h n (.head _)
    rw [List.map_cons, pn, ate_itoa hn, atv_itoa hn, pn_itoa (fun m hm => h m (.tail _ hm))]
    simp
theorem pn_some : ∀ {l : List Str} {n : List Int}, pn l = some n → l = n.map Lib.itoa
  | [], n, h => by simp [pn] at h; subst h; rfl
  | t :: l, n, h => by
    rw [pn] at h
    cases hb : (ate t || (Lib.itoa (atv t) != t)) with
    | true => rw [hb] at h; cases h
    | false =>
      rw [hb, cond_false] at h
      simp only [Bool.or_eq_false_iff, bne_eq_false_iff_eq] at hb
      cases hp : pn l with
      | none => rw [hp] at h; cases h
      | some m =>
        rw [hp] at h
        simp only [Option.map_some, Option.some.injEq] at h
        subst h
        rw [List.map_cons, hb.2, ← pn_some hp]

theorem word_no (r : Rec) : (32 : UInt8) ∉ wordOf r := by
  unfold wordOf
  cases r.kind == 1 with
  | true => rw [cond_true]; decide
  | false => rw [cond_false]; cases r.kind == 2 with
    | true => rw [cond_true]; decide
    | false => rw [cond_false]; decide
theorem mk_of {r : Rec} (h : note_Check r = 0) : mkRec (wordOf r) (numsOf r) = some r := by
  rcases (Check_iff r).1 h with ⟨h1, _⟩ | ⟨h1, _, _⟩ | ⟨h1, _, _⟩ <;> (rw [h1]; rfl)
theorem mk_some {w : Str} {n : List Int} {r : Rec} (h : mkRec w n = some r) : wordOf r = w ∧ numsOf r = n := by
  unfold mkRec at h
  split at h
  · rename_i hw
    obtain ⟨rfl, hl⟩ := hw
    simp only [Option.some.injEq] at h
    subst h
    match n, hl with
    | [a, b, c, d, e, f, g], _ => exact ⟨rfl, rfl⟩
  · split at h
    · rename_i hw
      obtain ⟨rfl, hl⟩ := hw
      simp only [Option.some.injEq] at h
      subst h
      match n, hl with
      | [a, b], _ => exact ⟨rfl, rfl⟩
    · split at h
      · rename_i hw
        obtain ⟨rfl, hl⟩ := hw
        simp only [Option.some.injEq] at h
        subst h
        match n, hl with
        | a :: l, _ => exact ⟨rfl, rfl⟩
      · cases h

theorem glue_len : ∀ {l : List Int}, (∀ n ∈ l, I64 n) → (glue 32 (l.map Lib.itoa)).length ≤ 22 * l.length
  | [], _ => by simp [glue]
  | n :: l, h => by
    have h1 := glue_len (fun m hm => h m (.tail n hm))
    have h2 := Lib.itoa_length_le n (h n (.head _)).1 (h n (.head _)).2
    simp only [glue, List.map_cons, List.flatMap_cons, List.length_append, List.length_cons] at h1 ⊢
    omega
theorem word_len (r : Rec) : (wordOf r).length ≤ 5 := by
  unfold wordOf
  cases r.kind == 1 with
  | true => rw [cond_true]; decide
  | false => rw [cond_false]; cases r.kind == 2 with
    | true => rw [cond_true]; decide
    | false => rw [cond_false]; decide
theorem prText_len {r : Rec} (h : note_Check r = 0) : (prText r).length ≤ 159 := by
  have h1 := nums_ok h
  have h2 := glue_len h1.2
  have h3 := word_len r
  rw [prText, List.length_append]
  omega
theorem spl_pr {r : Rec} : spl 32 (prText r) = wordOf r :: (numsOf r).map Lib.itoa :=
  spl_glue _ _ (word_no r) (fun t ht => by
    obtain ⟨n, _, rfl⟩ := List.mem_map.1 ht
    exact itoa_no (by decide))

theorem Parse_print {r : Rec} (h : note_Check r = 0) : note_Parse (prText r) = (r, 0) := by
  rw [Parse_eq (by have := prText_len h; omega), spl_pr, show gt (wordOf r :: (numsOf r).map Lib.itoa) 0 = wordOf r from rfl, List.drop_succ_cons, List.drop_zero, pn_itoa (nums_ok h).2, readP, finR, mk_of h]
  simp only [h, if_pos]

theorem Parse_ok {s : Str} {x : Rec} (h : note_Parse s = (x, 0)) : note_Check x = 0 ∧ prText x = s := by
  by_cases hs : s.length ≤ 60000
  · rw [Parse_eq hs] at h
    obtain ⟨w, l, h1, h2⟩ := glue_spl 32 s.length s (Nat.le_refl _)
    rw [h1] at h
    have e : gt (w :: l) 0 = w := rfl
    rw [e, List.drop_succ_cons, List.drop_zero] at h
    cases hp : pn l with
    | none => rw [hp, readP] at h; cases h
    | some n =>
      rw [hp, readP, finR] at h
      cases hm : mkRec w n with
      | none => rw [hm] at h; cases h
      | some r =>
        rw [hm] at h
        simp only at h
        split at h
        · rename_i hc
          simp only [Prod.mk.injEq, and_true] at h
          subst h
          obtain ⟨h3, h4⟩ := mk_some hm
          refine ⟨hc, ?_⟩
          rw [prText, h3, h4, h2, pn_some hp]
        · rename_i hc
          simp only [Prod.mk.injEq] at h
          exact absurd h.2 hc
  · rw [Parse_long (by omega)] at h; cases h

theorem Same_iff (a b : Rec) : note_Same a b = decide (a = b) := by
  obtain ⟨k, w, l, r, o⟩ := a
  obtain ⟨k', w', l', r', o'⟩ := b
  rw [note_Same, Bool.eq_iff_iff]
  simp only [Bool.and_eq_true, beq_iff_eq, decide_eq_true_eq, Rec.mk.injEq]
  constructor
  · rintro ⟨⟨⟨⟨h1, h2⟩, h3⟩, h4⟩, h5⟩; exact ⟨h1, h2, h3, h5, h4⟩
  · rintro ⟨h1, h2, h3, h4, h5⟩; exact ⟨⟨⟨⟨h1, h2⟩, h3⟩, h5⟩, h4⟩
end Go.Proofs.YtaiefncoholnnaaDoor
