/- Part of this claim. No condition. -/
import Derived.Test.YtaiefncoholnnaaDoorFx
import Derived.Lib.SplitLaws
import Derived.Lib.ItoaMem
import Derived.Lib.AtoiAllCases
import Derived.Lib.ParseIntBTie
set_option linter.unusedVariables false
set_option linter.unusedSimpArgs false
namespace Go.Proofs.YtaiefncoholnnaaDoor.Fw
open Go

/-! ### Texts cut at a byte -/
/-- The pieces between the bytes c. -/
def spl (c : UInt8) : Str → List Str
  | [] => [[]]
  | b :: r => bif b == c then [] :: spl c r else match spl c r with | [] => [[b]] | h :: t => (b :: h) :: t
/-- The pieces, each with the c behind it. -/
def splA (c : UInt8) : Str → List Str
  | [] => [[]]
  | b :: r => bif b == c then [c] :: splA c r else match splA c r with | [] => [[b]] | h :: t => (b :: h) :: t
/-- What stands before the first c, what stands behind it, whether there is one. -/
def cutc (c : UInt8) : Str → Str × Str × Bool
  | [] => ([], [], false)
  | b :: r => bif b == c then ([], r, true) else (b :: (cutc c r).1, (cutc c r).2.1, (cutc c r).2.2)

theorem idx1 (c : UInt8) : ∀ s : Str, (Lib.index s [c] = -1 ∧ c ∉ s) ∨ ∃ p r, s = p ++ c :: r ∧ c ∉ p ∧ Lib.index s [c] = (p.length : Int)
  | [] => .inl ⟨rfl, by simp⟩
  | b :: l => by
    by_cases h : b = c
    · subst h
      exact .inr ⟨[], l, rfl, by simp, by simp [Lib.index]⟩
    · have hp : ([c] : Str).isPrefixOf (b :: l) = false := by simp [List.isPrefixOf, Ne.symm h]
      rcases idx1 c l with ⟨h1, h2⟩ | ⟨p, r, h1, h2, h3⟩
      · exact .inl ⟨by rw [Lib.index, hp, h1]; rfl, by simp [Ne.symm h, h2]⟩
      · refine .inr ⟨b :: p, r, by rw [h1]; rfl, by simp [Ne.symm h, h2], ?_⟩
        rw [Lib.index, hp, h3]
        have : ((p.length : Int) == -1) = false := by rw [beq_eq_false_iff_ne]; omega
        simp [this]

theorem spl_no {c : UInt8} : ∀ {s : Str}, c ∉ s → spl c s = [s]
  | [], _ => rfl
  | b :: r, h => by
    have h1 : (b == c) = false := by simp only [List.mem_cons, not_or] at h; simpa using Ne.symm h.1
    rw [spl, h1, cond_false, spl_no (by simp only [List.mem_cons, not_or] at h; exact h.2)]
theorem spl_hit {c : UInt8} (r : Str) : ∀ {p : Str}, c ∉ p → spl c (p ++ c :: r) = p :: spl c r
  | [], _ => by simp [spl]
  | b :: p, h => by
    have h1 : (b == c) = false := by simp only [List.mem_cons, not_or] at h; simpa using Ne.symm h.1
    rw [List.cons_append, spl, h1, cond_false, spl_hit r (by simp only [List.mem_cons, not_or] at h; exact h.2)]
theorem splA_no {c : UInt8} : ∀ {s : Str}, c ∉ s → splA c s = [s]
  | [], _ => rfl
  | b :: r, h => by
    have h1 : (b == c) = false := by simp only [List.mem_cons, not_or] at h; simpa using Ne.symm h.1
    rw [splA, h1, cond_false, splA_no (by simp only [List.mem_cons, not_or] at h; exact h.2)]
theorem splA_hit {c : UInt8} (r : Str) : ∀ {p : Str}, c ∉ p → splA c (p ++ c :: r) = (p ++ [c]) :: splA c r
  | [], _ => by simp [splA]
  | b :: p, h => by
    have h1 : (b == c) = false := by simp only [List.mem_cons, not_or] at h; simpa using Ne.symm h.1
    rw [List.cons_append, splA, h1, cond_false, splA_hit r (by simp only [List.mem_cons, not_or] at h; exact h.2)]; rfl
theorem cutc_no {c : UInt8} : ∀ {s : Str}, c ∉ s → cutc c s = (s, [], false)
  | [], _ => rfl
  | b :: r, h => by
    have h1 : (b == c) = false := by simp only [List.mem_cons, not_or] at h; simpa using Ne.symm h.1
    rw [cutc, h1, cond_false, cutc_no (by simp only [List.mem_cons, not_or] at h; exact h.2)]
theorem cutc_hit {c : UInt8} (r : Str) : ∀ {p : Str}, c ∉ p → cutc c (p ++ c :: r) = (p, r, true)
  | [], _ => by simp [cutc]
  | b :: p, h => by
    have h1 : (b == c) = false := by simp only [List.mem_cons, not_or] at h; simpa using Ne.symm h.1
    rw [List.cons_append, cutc, h1, cond_false, cutc_hit r (by simp only [List.mem_cons, not_or] at h; exact h.2)]
theorem at_c (c : UInt8) (s : Str) : c ∉ s ∨ ∃ p r, s = p ++ c :: r ∧ c ∉ p := by
  rcases idx1 c s with ⟨_, h⟩ | ⟨p, r, h1, h2, _⟩
  · exact .inl h
  · exact .inr ⟨p, r, h1, h2⟩

theorem cut_cutc (c : UInt8) (s : Str) : Lib.cut s [c] = cutc c s := by
  unfold Lib.cut
  rcases idx1 c s with ⟨h1, h2⟩ | ⟨p, r, h1, h2, h3⟩
  · rw [h1, if_neg (by omega), cutc_no h2]
  · rw [h3, if_pos (by omega), h1, cutc_hit r h2]
    simp

theorem splitK_spl (c : UInt8) : ∀ (n : Nat) (s : Str), s.length ≤ n → Lib.splitK [c] 0 (Lib.count s [c]) s = spl c s
  | n, s, hn => by
    rcases idx1 c s with ⟨h1, h2⟩ | ⟨p, r, h1, h2, h3⟩
    · rw [Lib.count_miss h1, spl_no h2]; rfl
    · have hr : s.drop (p.length + ([c] : Str).length) = r := by rw [h1]; simp
      rw [Lib.count_hit (by simp) h3, hr, Nat.add_comm 1, Lib.splitK, h3]
      have : ((p.length : Int) == -1) = false := by rw [beq_eq_false_iff_ne]; omega
      rw [this]
      simp only [Int.toNat_natCast, hr]
      cases n with
      | zero => rw [h1] at hn; simp at hn
      | succ n =>
        rw [splitK_spl c n r (by rw [h1] at hn; simp at hn; omega), h1, spl_hit r h2]
        simp
theorem splitK_splA (c : UInt8) : ∀ (n : Nat) (s : Str), s.length ≤ n → Lib.splitK [c] 1 (Lib.count s [c]) s = splA c s
  | n, s, hn => by
    rcases idx1 c s with ⟨h1, h2⟩ | ⟨p, r, h1, h2, h3⟩
    · rw [Lib.count_miss h1, splA_no h2]; rfl
    · have hr : s.drop (p.length + ([c] : Str).length) = r := by rw [h1]; simp
      rw [Lib.count_hit (by simp) h3, hr, Nat.add_comm 1, Lib.splitK, h3]
      have : ((p.length : Int) == -1) = false := by rw [beq_eq_false_iff_ne]; omega
      rw [this]
      simp only [Int.toNat_natCast, hr]
      cases n with
      | zero => rw [h1] at hn; simp at hn
      | succ n =>
        rw [splitK_splA c n r (by rw [h1] at hn; simp at hn; omega), h1, splA_hit r h2]
        simp [List.take_append, List.take_of_length_le]

theorem data_mk (l : Str) : (ByteArray.mk l.toArray).data.toList = l := rfl

/-- What Split makes. -/
theorem splitB_spl (c : UInt8) (s : Str) : (Lib.splitB ⟨#[c]⟩ 0 (Lib.countB ⟨s.toArray⟩ ⟨#[c]⟩) ⟨s.toArray⟩).map Value.string = (spl c s).map sV := by
  have h := Lib.splitB_data ⟨#[c]⟩ 0 (Lib.countB ⟨s.toArray⟩ ⟨#[c]⟩) ⟨s.toArray⟩
  have h2 := splitK_spl c s.length s (Nat.le_refl _)
  rw [show Lib.splitK (ByteArray.mk #[c]).data.toList 0 (Lib.countB ⟨s.toArray⟩ ⟨#[c]⟩) (ByteArray.mk s.toArray).data.toList = spl c s from h2] at h
  rw [← h, List.map_map]
  refine List.map_congr_left fun b _ => ?_
  simp [sV]
theorem splitB_splA (c : UInt8) (s : Str) : (Lib.splitB ⟨#[c]⟩ 1 (Lib.countB ⟨s.toArray⟩ ⟨#[c]⟩) ⟨s.toArray⟩).map Value.string = (splA c s).map sV := by
  have h := Lib.splitB_data ⟨#[c]⟩ 1 (Lib.countB ⟨s.toArray⟩ ⟨#[c]⟩) ⟨s.toArray⟩
  have h2 := splitK_splA c s.length s (Nat.le_refl _)
  rw [show Lib.splitK (ByteArray.mk #[c]).data.toList 1 (Lib.countB ⟨s.toArray⟩ ⟨#[c]⟩) (ByteArray.mk s.toArray).data.toList = splA c s from h2] at h
  rw [← h, List.map_map]
  refine List.map_congr_left fun b _ => ?_
  simp [sV]

theorem spl_len (c : UInt8) : ∀ s : Str, 0 < (spl c s).length ∧ (spl c s).length ≤ s.length + 1
  | [] => by simp [spl]
  | b :: r => by
    have ih := spl_len c r
    rw [spl]
    cases b == c with
    | true => simp only [cond_true, List.length_cons]; omega
    | false =>
      simp only [cond_false]
      cases h : spl c r with
      | nil => simp
      | cons a t => rw [h] at ih; simp at ih ⊢; omega
theorem splA_len (c : UInt8) : ∀ s : Str, 0 < (splA c s).length ∧ (splA c s).length ≤ s.length + 1
  | [] => by simp [splA]
  | b :: r => by
    have ih := splA_len c r
    rw [splA]
    cases b == c with
    | true => simp only [cond_true, List.length_cons]; omega
    | false =>
      simp only [cond_false]
      cases h : splA c r with
      | nil => simp
      | cons a t => rw [h] at ih; simp at ih ⊢; omega
theorem spl_mem_len {c : UInt8} : ∀ {s t : Str}, t ∈ spl c s → t.length ≤ s.length
  | [], t, h => by simp [spl] at h; simp [h]
  | b :: r, t, h => by
    rw [spl] at h
    cases hb : b == c with
    | true =>
      rw [hb, cond_true] at h
      rcases List.mem_cons.1 h with rfl | h
      · simp
      · have := spl_mem_len h; simp; omega
    | false =>
      rw [hb, cond_false] at h
      cases hs : spl c r with
      | nil => rw [hs] at h; simp at h; simp [h]
      | cons a q =>
        rw [hs] at h
        rcases List.mem_cons.1 h with rfl | h
        · have := spl_mem_len (c := c) (s := r) (t := a) (by rw [hs]; exact .head _); simp; omega
        · have := spl_mem_len (c := c) (s := r) (t := t) (by rw [hs]; exact .tail _ h); simp; omega
theorem splA_mem_len {c : UInt8} : ∀ {s t : Str}, t ∈ splA c s → t.length ≤ s.length
  | [], t, h => by simp [splA] at h; simp [h]
  | b :: r, t, h => by
    rw [splA] at h
    cases hb : b == c with
    | true =>
      rw [hb, cond_true] at h
      rcases List.mem_cons.1 h with rfl | h
      · simp
      · have := splA_mem_len h; simp; omega
    | false =>
      rw [hb, cond_false] at h
      cases hs : splA c r with
      | nil => rw [hs] at h; simp at h; simp [h]
      | cons a q =>
        rw [hs] at h
        rcases List.mem_cons.1 h with rfl | h
        · have := splA_mem_len (c := c) (s := r) (t := a) (by rw [hs]; exact .head _); simp; omega
        · have := splA_mem_len (c := c) (s := r) (t := t) (by rw [hs]; exact .tail _ h); simp; omega
theorem cutc_len (c : UInt8) : ∀ s : Str, (cutc c s).1.length ≤ s.length ∧ (cutc c s).2.1.length ≤ s.length
  | [] => by simp [cutc]
  | b :: r => by
    have := cutc_len c r
    rw [cutc]
    cases b == c with
    | true => simp
    | false => simp only [cond_false, List.length_cons]; omega
theorem cutc_lt (c : UInt8) : ∀ s : Str, (cutc c s).2.2 = true → (cutc c s).1.length + (cutc c s).2.1.length + 1 = s.length
  | [], h => by simp [cutc] at h
  | b :: r, h => by
    have ih := cutc_lt c r
    rw [cutc] at h ⊢
    cases hb : b == c with
    | true => simp
    | false => rw [hb] at h; simp only [cond_false, List.length_cons] at h ⊢; have := ih h; omega

theorem cut_meas (c : UInt8) (s : Str) : (bif (cutc c s).2.2 then (cutc c s).2.1.length + 1 else 0) ≤ s.length := by
  have := cutc_lt c s
  cases h : (cutc c s).2.2 with
  | true => have := this h; simp only [cond_true]; omega
  | false => simp

/-! ### Numbers as texts -/
def atv (s : Str) : Int := match Lib.atoiAll s with | .ok v => v | .range => Lib.atoiSat s | _ => 0
def ate (s : Str) : Bool := match Lib.atoiAll s with | .ok _ => false | _ => true
def ptv (s : Str) : Int := match Lib.atoiAll s with | .ok v => v | .range => Lib.intSat 64 s | _ => 0
theorem ptv_eq {s : Str} (h : ate s = false) : ptv s = atv s := by
  unfold ate at h; unfold ptv atv
  cases hs : Lib.atoiAll s with
  | ok v => rfl
  | range => rw [hs] at h; cases h
  | _ => rfl
theorem atv_bounds (s : Str) : -9223372036854775808 ≤ atv s ∧ atv s ≤ 9223372036854775807 := by
  unfold atv
  cases h : Lib.atoiAll s with
  | ok v => exact Lib.atoiAll_bounds h
  | range => simp only [Lib.atoiSat]; split <;> omega
  | _ => simp
theorem ptv_bounds (s : Str) : -9223372036854775808 ≤ ptv s ∧ ptv s ≤ 9223372036854775807 := by
  unfold ptv
  cases h : Lib.atoiAll s with
  | ok v => exact Lib.atoiAll_bounds h
  | range => simp only [Lib.intSat]; split <;> simp <;> omega
  | _ => simp
end Go.Proofs.YtaiefncoholnnaaDoor.Fw
