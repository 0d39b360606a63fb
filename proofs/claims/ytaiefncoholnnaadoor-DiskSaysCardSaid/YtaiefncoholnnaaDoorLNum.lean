/- Part of this claim. No condition. -/
import Derived.Test.YtaiefncoholnnaaDoorLStr
set_option linter.unusedVariables false
set_option linter.unusedSimpArgs false
namespace Go.Proofs.YtaiefncoholnnaaDoor.Fw
open Go Go.Lib

/-! ### A number's text reads as the number -/
theorem ofNat_toNat {k : Nat} (h : k < 256) : (UInt8.ofNat k).toNat = k := by simp [UInt8.toNat_ofNat']; omega

theorem dec_digit : ∀ (u : Nat), ∀ c ∈ decDigits u, 48 ≤ c.toNat ∧ c.toNat ≤ 57 := by
  intro u
  induction u using Nat.strongRecOn with
  | _ u ih =>
    intro c hc
    rw [decDigits] at hc
    split at hc
    · rename_i h
      simp only [List.mem_singleton] at hc
      subst hc
      rw [ofNat_toNat (by omega)]; omega
    · rename_i h
      rcases List.mem_append.1 hc with hc | hc
      · exact ih _ (by omega) c hc
      · simp only [List.mem_singleton] at hc
        subst hc
        rw [ofNat_toNat (by omega)]; omega
theorem dec_ne (u : Nat) : decDigits u ≠ [] := by
  rw [decDigits]; split <;> simp

theorem parse_app : ∀ (l : Str) (acc v : Nat) (r : Str), parseUint10 acc l = .ok v → parseUint10 acc (l ++ r) = parseUint10 v r
  | [], acc, v, r, h => by simp only [parseUint10, NumEnd.ok.injEq] at h; subst h; rfl
  | c :: l, acc, v, r, h => by
    rw [List.cons_append]
    rw [parseUint10] at h ⊢
    split at h
    · rename_i h1
      rw [if_pos h1]
      split at h
      · cases h
      · rename_i h2
        rw [if_neg h2]
        split at h
        · cases h
        · rename_i h3
          rw [if_neg h3]
          exact parse_app l _ v r h
    · cases h

theorem parse_dec : ∀ (u : Nat), u < 18446744073709551616 → parseUint10 0 (decDigits u) = .ok u := by
  intro u
  induction u using Nat.strongRecOn with
  | _ u ih =>
    intro hu
    rw [decDigits]
    split
    · rename_i h
      rw [parseUint10, ofNat_toNat (by omega), if_pos (by omega), if_neg (by omega), if_neg (by omega), parseUint10]
      congr 1; omega
    · rename_i h
      rw [parse_app _ _ _ _ (ih (u / 10) (by omega) (by omega)), parseUint10, ofNat_toNat (by omega), if_pos (by omega), if_neg (by omega), if_neg (by omega), parseUint10]
      congr 1; omega

theorem atoi_itoa {n : Int} (h : -9223372036854775808 ≤ n ∧ n ≤ 9223372036854775807) : atoiAll (itoa n) = .ok n := by
  unfold itoa
  split
  · rename_i hn
    have hp := parse_dec n.natAbs (by omega)
    have hm : parseMag (decDigits n.natAbs) = .ok n.natAbs := by rw [parseMag, if_neg (dec_ne _)]; exact hp
    rw [atoiAll_minus, hm]
    simp only [signed]
    rw [if_neg (by omega)]
    congr 1; omega
  · rename_i hn
    have hp := parse_dec n.toNat (by omega)
    have hd := dec_digit n.toNat
    have hm : parseMag (decDigits n.toNat) = .ok n.toNat := by rw [parseMag, if_neg (dec_ne _)]; exact hp
    cases hc : decDigits n.toNat with
    | nil => exact absurd hc (dec_ne _)
    | cons c r =>
      have hcd := hd c (by rw [hc]; exact .head _)
      rw [hc] at hm
      rw [atoiAll_plain c r (by omega) (by omega), hm]
      simp only [signless]
      rw [if_neg (by omega)]
      congr 1; omega

theorem ate_itoa {n : Int} (h : -9223372036854775808 ≤ n ∧ n ≤ 9223372036854775807) : ate (itoa n) = false := by rw [ate, atoi_itoa h]
theorem atv_itoa {n : Int} (h : -9223372036854775808 ≤ n ∧ n ≤ 9223372036854775807) : atv (itoa n) = n := by rw [atv, atoi_itoa h]

theorem itoa_no {n : Int} {c : UInt8} (h : c.toNat < 45) : c ∉ itoa n := by
  unfold itoa
  intro hc
  split at hc
  · rcases List.mem_cons.1 hc with rfl | hc
    · exact absurd h (by decide)
    · have := dec_digit _ c hc; omega
  · have := dec_digit _ c hc; omega

/-! ### Pieces put together again -/
def glue (c : UInt8) (l : List Str) : Str := l.flatMap (fun t => c :: t)

theorem spl_glue {c : UInt8} : ∀ (w : Str) (l : List Str), c ∉ w → (∀ t ∈ l, c ∉ t) → spl c (w ++ glue c l) = w :: l
  | w, [], hw, _ => by simp only [glue, List.flatMap_nil, List.append_nil]; exact spl_no hw
  | w, t :: l, hw, hl => by
    have e : w ++ glue c (t :: l) = w ++ c :: (t ++ glue c l) := by simp [glue]
    rw [e, spl_hit _ hw, spl_glue t l (hl t (.head _)) (fun u hu => hl u (.tail _ hu))]
theorem glue_spl (c : UInt8) : ∀ (n : Nat) (s : Str), s.length ≤ n → ∃ w l, spl c s = w :: l ∧ s = w ++ glue c l
  | n, s, hn => by
    rcases at_c c s with h | ⟨p, r, h1, h2⟩
    · exact ⟨s, [], spl_no h, by simp [glue]⟩
    · cases n with
      | zero => rw [h1] at hn; simp at hn
      | succ n =>
        obtain ⟨w, l, h3, h4⟩ := glue_spl c n r (by rw [h1] at hn; simp at hn; omega)
        refine ⟨p, w :: l, by rw [h1, spl_hit r h2, h3], ?_⟩
        rw [h1]
        conv => lhs; rw [h4]
        simp [glue]
end Go.Proofs.YtaiefncoholnnaaDoor.Fw
