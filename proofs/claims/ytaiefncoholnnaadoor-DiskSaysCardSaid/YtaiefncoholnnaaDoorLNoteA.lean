/- Part of this claim. No condition. -/
import Derived.Test.YtaiefncoholnnaaDoorY1
import Derived.Test.YtaiefncoholnnaaDoorTLibC
set_option linter.unusedVariables false
set_option linter.unusedSimpArgs false
namespace Go.Proofs.YtaiefncoholnnaaDoor
open Go Go.Proofs.YtaiefncoholnnaaDoor.Fw Go.Proofs

/-! ### Records: the checks, and the numbers that are printed -/
abbrev I64 (n : Int) : Prop := -9223372036854775808 ≤ n ∧ n ≤ 9223372036854775807

theorem in_iff {n a b : Int} : orangeryref_in n a b = true ↔ a ≤ n ∧ n ≤ b := by simp [orangeryref_in]

theorem move_Check_iff (o : Op) : move_Check o = 0 ↔ (1 ≤ o.time ∧ o.time ≤ 10000) ∧ (0 ≤ o.who ∧ o.who ≤ 2) ∧ (1 ≤ o.node ∧ o.node ≤ 15) ∧ (0 ≤ o.parent ∧ o.parent ≤ 16) ∧ (0 ≤ o.name ∧ o.name ≤ 99) ∧ (1 ≤ o.life ∧ o.life ≤ 50) ∧ (1 ≤ o.seq ∧ o.seq ≤ 30) := by
  unfold move_Check
  generalize hb : (((((((((((((decide (o.time < 1) || decide (o.time > 10000)) || decide (o.who < 0)) || decide (o.who ≥ 3)) || decide (o.node < 1)) || decide (o.node ≥ 16)) || decide (o.parent < 0)) || decide (o.parent > 16)) || decide (o.name < 0)) || decide (o.name > 99)) || decide (o.life < 1)) || decide (o.life > 50)) || decide (o.seq < 1)) || decide (o.seq > 30)) = b
  cases b with
  | true =>
    simp only [cond_true]
    simp only [Bool.or_eq_true, decide_eq_true_eq] at hb
    constructor
    · intro h; exact absurd h (by decide)
    · intro h; simp only [or_assoc] at hb; rcases hb with hb | hb | hb | hb | hb | hb | hb | hb | hb | hb | hb | hb | hb | hb <;> omega
  | false =>
    simp only [cond_false]
    simp only [Bool.or_eq_false_iff, decide_eq_false_iff_not] at hb
    refine ⟨fun _ => ?_, fun _ => trivial⟩
    refine ⟨⟨?_, ?_⟩, ⟨?_, ?_⟩, ⟨?_, ?_⟩, ⟨?_, ?_⟩, ⟨?_, ?_⟩, ⟨?_, ?_⟩, ?_, ?_⟩ <;> omega

theorem CheckOp_eq (o : Op) : orangeryref_CheckOp o = move_Check o := by
  have h1 := move_Check_iff o
  have h2 : orangeryref_CheckOp o = 0 ↔ move_Check o = 0 := by
    rw [h1]
    unfold orangeryref_CheckOp orangeryref_CheckPlace
    generalize hb : (((!(orangeryref_in o.node 1 15)) || (!(orangeryref_in o.parent 0 16))) || (!(orangeryref_in o.name 0 99))) = b
    cases b with
    | true =>
      simp only [Bool.or_eq_true, Bool.not_eq_true', ← Bool.not_eq_true, in_iff] at hb
      simp
      omega
    | false =>
      simp only [Bool.or_eq_false_iff, Bool.not_eq_false', in_iff] at hb
      simp only [cond_false]
      generalize hc : (((((!(orangeryref_in o.time 1 10000)) || (!(orangeryref_in o.who 0 2))) || ((0 : Int) != 0)) || (!(orangeryref_in o.life 1 50))) || (!(orangeryref_in o.seq 1 30))) = c
      cases c with
      | true =>
        simp only [Bool.or_eq_true, Bool.not_eq_true', ← Bool.not_eq_true, in_iff, bne_self_eq_false, Bool.false_eq_true, or_false] at hc
        simp
        omega
      | false =>
        simp only [Bool.or_eq_false_iff, Bool.not_eq_false', in_iff] at hc
        simp
        omega
  have h3 : ∀ o, orangeryref_CheckOp o = 0 ∨ orangeryref_CheckOp o = 3 := fun o => by unfold orangeryref_CheckOp; cases (((((!(orangeryref_in o.time 1 10000)) || (!(orangeryref_in o.who 0 2))) || ((orangeryref_CheckPlace (⟨o.node, o.parent, o.name⟩ : Place)) != 0)) || (!(orangeryref_in o.life 1 50))) || (!(orangeryref_in o.seq 1 30))) <;> simp
  have h4 : move_Check o = 0 ∨ move_Check o = 3 := by unfold move_Check; cases (((((((((((((decide (o.time < 1) || decide (o.time > 10000)) || decide (o.who < 0)) || decide (o.who ≥ 3)) || decide (o.node < 1)) || decide (o.node ≥ 16)) || decide (o.parent < 0)) || decide (o.parent > 16)) || decide (o.name < 0)) || decide (o.name > 99)) || decide (o.life < 1)) || decide (o.life > 50)) || decide (o.seq < 1)) || decide (o.seq > 30)) <;> simp
  have h3 := h3 o
  omega

theorem Roots_L0_eq (l : List Int) : ∀ (r : List Int) (k : Nat) (last : Int), r = l.drop k → (k = 0 → last = -1) → (0 < k → last = gt l (k - 1)) → (0 < k → 0 ≤ last) → view_Roots_L0 l r k = orangeryref_CheckRoots_L0 r last
  | [], k, last, _, _, _, _ => rfl
  | n :: r, k, last, hr, h0, h1, h2 => by
    have hk : k < l.length := by
      have := congrArg List.length hr
      simp at this; omega
    rw [drop_gt hk] at hr
    injection hr with hn hr
    rw [view_Roots_L0, orangeryref_CheckRoots_L0]
    have e1 : (decide (n < 0) || decide (n > 16)) = !(orangeryref_in n 0 16) := by
      rw [Bool.eq_iff_iff]; simp [orangeryref_in]; try omega
    rw [e1]
    cases hb : orangeryref_in n 0 16 with
    | false => rfl
    | true =>
      rw [in_iff] at hb
      have e2 : (decide ((k : Int) > 0) && decide ((gt l (k - 1)) ≥ n)) = decide (n ≤ last) := by
        rw [Bool.eq_iff_iff]
        simp only [Bool.and_eq_true, decide_eq_true_eq]
        rcases Nat.eq_zero_or_pos k with h | h
        · have := h0 h; omega
        · have := h1 h; omega
      rw [e2]
      simp only [Bool.not_true, cond_false]
      rw [Roots_L0_eq l r (k + 1) n hr (by omega) (fun _ => by rw [Nat.add_sub_cancel, hn]) (fun _ => hb.1)]

theorem Roots_eq (l : List Int) : view_Roots l = orangeryref_CheckRoots l := by
  unfold view_Roots orangeryref_CheckRoots
  rw [Roots_L0_eq l l 0 (-1) rfl (fun _ => rfl) (fun h => absurd h (by omega)) (fun h => absurd h (by omega))]

theorem CheckRec_eq (r : Rec) : note_Check r = orangeryref_CheckRec r := by
  unfold note_Check orangeryref_CheckRec
  rw [CheckOp_eq, Roots_eq]
  have e0 : ∀ n : Nat, decide ((n : Int) > 0) = ((n : Int) != 0) := fun n => by rw [Bool.eq_iff_iff]; simp; try omega
  have e3 : ∀ n a b : Int, (!(orangeryref_in n a b)) = (decide (n < a) || decide (n > b)) := fun n a b => by rw [Bool.eq_iff_iff]; simp [orangeryref_in]; try omega
  rw [e0, e3, e3]
  have e4 : decide (r.who ≥ 3) = decide (r.who > 2) := by rw [Bool.eq_iff_iff]; simp; try omega
  rw [e4]
  obtain ⟨kind, who, life, roots, o⟩ := r
  simp only
  generalize (decide (who < 0) || decide (who > 2)) = c1
  generalize (decide (life < 1) || decide (life > 50)) = c2
  generalize decide (o = (⟨0, 0, 0, 0, 0, 0, 0⟩ : Op)) = c3
  generalize h9 : ((roots.length : Int) != 0) = c4
  generalize (life != 0) = c5
  generalize (who != 0) = c6
  by_cases h1 : kind = 1
  · subst h1; cases c6 <;> cases c5 <;> cases c4 <;> rfl
  · by_cases h2 : kind = 2
    · subst h2
      cases c4 with
      | true => cases c1 <;> cases c2 <;> cases c3 <;> rfl
      | false =>
        have : roots = [] := List.eq_nil_of_length_eq_zero (by simpa using h9)
        subst this
        cases c1 <;> cases c2 <;> cases c3 <;> rfl
    · by_cases h3 : kind = 3
      · subst h3; cases c1 <;> cases c3 <;> cases c5 <;> rfl
      · have h4 : (decide (kind < 1) || decide (kind > 3)) = true := by simp; omega
        have h5 : (kind == 1) = false := by simpa using h1
        have h6 : (kind == 2) = false := by simpa using h2
        have h7 : (kind == 3) = false := by simpa using h3
        rw [h4, h5, h6, h7]
        rfl

/-- What a record's text has: its word, its numbers. -/
def wordOf (r : Rec) : Str := bif r.kind == 1 then [111, 112] else bif r.kind == 2 then [108, 105, 102, 101] else [114, 111, 111, 116, 115]
def numsOf (r : Rec) : List Int := bif r.kind == 1 then [r.o.time, r.o.who, r.o.node, r.o.parent, r.o.name, r.o.life, r.o.seq] else bif r.kind == 2 then [r.who, r.life] else r.who :: r.roots

theorem Roots_ok {l : List Int} (h : view_Roots l = 0) : l.length ≤ 4 ∧ ∀ n ∈ l, 0 ≤ n ∧ n ≤ 16 := by
  rw [Roots_eq] at h
  unfold orangeryref_CheckRoots at h
  cases hb : decide ((l.length : Int) > 4) with
  | true => rw [hb] at h; simp at h
  | false =>
    rw [hb, cond_false] at h
    refine ⟨by have := of_decide_eq_false hb; omega, ?_⟩
    clear hb
    generalize (-1 : Int) = last at h
    induction l generalizing last with
    | nil => intro n hn; cases hn
    | cons a r ih =>
      rw [orangeryref_CheckRoots_L0] at h
      cases hi : orangeryref_in a 0 16 with
      | false => rw [hi] at h; simp at h
      | true =>
        rw [hi] at h
        cases hd : decide (a ≤ last) with
        | true => rw [hd] at h; simp at h
        | false =>
          rw [hd] at h
          simp only [Bool.not_true, cond_false] at h
          intro n hn
          rcases List.mem_cons.1 hn with rfl | hn
          · exact in_iff.1 hi
          · exact ih a h n hn

/-- A right record: one of three kinds. -/
inductive Right (r : Rec) : Prop
  | op (h : r = ⟨1, 0, 0, [], r.o⟩) (ho : move_Check r.o = 0)
  | life (h : r = ⟨2, r.who, r.life, [], ⟨0, 0, 0, 0, 0, 0, 0⟩⟩) (hw : 0 ≤ r.who ∧ r.who ≤ 2) (hl : 1 ≤ r.life ∧ r.life ≤ 50)
  | roots (h : r = ⟨3, r.who, 0, r.roots, ⟨0, 0, 0, 0, 0, 0, 0⟩⟩) (hw : 0 ≤ r.who ∧ r.who ≤ 2) (hr : view_Roots r.roots = 0)

theorem Check_iff (r : Rec) : note_Check r = 0 ↔ Right r := by
  constructor
  · intro h
    unfold note_Check at h
    obtain ⟨kind, who, life, roots, o⟩ := r
    simp only at h
    cases hk : (decide (kind < 1) || decide (kind > 3)) with
    | true => rw [hk] at h; simp at h
    | false =>
      rw [hk, cond_false] at h
      simp only [Bool.or_eq_false_iff, decide_eq_false_iff_not] at hk
      by_cases h1 : kind = 1
      · subst h1
        simp only [beq_self_eq_true, cond_true] at h
        cases hb : ((who != 0) || (life != 0)) || decide ((roots.length : Int) > 0) with
        | true => rw [hb] at h; simp at h
        | false =>
          rw [hb, cond_false] at h
          simp only [Bool.or_eq_false_iff, decide_eq_false_iff_not, bne_eq_false_iff_eq] at hb
          obtain ⟨⟨rfl, rfl⟩, h3⟩ := hb
          have : roots = [] := List.eq_nil_of_length_eq_zero (by omega)
          subst this
          exact .op rfl h
      · have h1' : (kind == 1) = false := by simpa using h1
        rw [h1', cond_false] at h
        cases hb : (((!(decide (o = (⟨0, 0, 0, 0, 0, 0, 0⟩ : Op)))) || ((kind == 3) && (life != 0))) || ((kind == 2) && decide ((roots.length : Int) > 0))) with
        | true => rw [hb] at h; simp at h
        | false =>
          rw [hb, cond_false] at h
          simp only [Bool.or_eq_false_iff, Bool.not_eq_false', decide_eq_true_eq] at hb
          obtain ⟨⟨rfl, hb1⟩, hb2⟩ := hb
          cases hc : ((decide (who < 0) || decide (who ≥ 3)) || ((kind == 2) && (decide (life < 1) || decide (life > 50)))) with
          | true => rw [hc] at h; simp at h
          | false =>
            rw [hc, cond_false] at h
            simp only [Bool.or_eq_false_iff, decide_eq_false_iff_not] at hc
            obtain ⟨⟨hc1, hc2⟩, hc3⟩ := hc
            by_cases h2 : kind = 2
            · subst h2
              simp at hb2 hc3
              subst hb2
              exact .life rfl (by simp only; omega) (by simp only; omega)
            · have h3 : kind = 3 := by omega
              subst h3
              simp at hb1
              subst hb1
              exact .roots rfl (by simp only; omega) h
  · intro h
    unfold note_Check
    cases h with
    | op h ho => rw [h]; simpa using ho
    | life h hw hl =>
      rw [h]
      have e1 : (decide (r.who < 0) || decide (r.who ≥ 3)) = false := by simp; omega
      have e2 : (decide (r.life < 1) || decide (r.life > 50)) = false := by simp; omega
      simp only [e1, e2]
      rfl
    | roots h hw hr =>
      rw [h]
      have e1 : (decide (r.who < 0) || decide (r.who ≥ 3)) = false := by simp; omega
      simp only [e1]
      exact hr

theorem nums_ok {r : Rec} (h : note_Check r = 0) : (numsOf r).length ≤ 7 ∧ ∀ n ∈ numsOf r, I64 n := by
  rcases (Check_iff r).1 h with ⟨h1, ho⟩ | ⟨h1, hw, hl⟩ | ⟨h1, hw, hr⟩
  · have h2 := (move_Check_iff r.o).1 ho
    have : numsOf r = [r.o.time, r.o.who, r.o.node, r.o.parent, r.o.name, r.o.life, r.o.seq] := by rw [h1]; rfl
    rw [this]
    refine ⟨by simp, fun n hn => ?_⟩
    simp only [List.mem_cons, List.not_mem_nil, or_false] at hn
    rcases hn with rfl | rfl | rfl | rfl | rfl | rfl | rfl <;> (simp only [I64]; omega)
  · have : numsOf r = [r.who, r.life] := by rw [h1]; rfl
    rw [this]
    refine ⟨by simp, fun n hn => ?_⟩
    simp only [List.mem_cons, List.not_mem_nil, or_false] at hn
    rcases hn with rfl | rfl <;> (simp only [I64]; omega)
  · have : numsOf r = r.who :: r.roots := by rw [h1]; rfl
    rw [this]
    have h2 := Roots_ok hr
    refine ⟨by simp only [List.length_cons]; omega, fun n hn => ?_⟩
    rcases List.mem_cons.1 hn with rfl | hn
    · simp only [I64]; omega
    · have := h2.2 n hn; simp only [I64]; omega
theorem nums_op {r : Rec} (h : note_Check r = 0) (hk : (r.kind == 1) = true) : ∀ n ∈ [r.o.time, r.o.who, r.o.node, r.o.parent, r.o.name, r.o.life, r.o.seq], I64 n := by
  have := (nums_ok h).2; rwa [numsOf, hk] at this
theorem nums_life {r : Rec} (h : note_Check r = 0) (hk : (r.kind == 2) = true) : ∀ n ∈ [r.who, r.life], I64 n := by
  have hk1 : (r.kind == 1) = false := by have := eq_of_beq hk; rw [this]; rfl
  have := (nums_ok h).2; rwa [numsOf, hk1, hk] at this
theorem nums_roots {r : Rec} (h : note_Check r = 0) (hk1 : (r.kind == 1) = false) (hk : (r.kind == 2) = false) : (r.roots.length ≤ 6) ∧ ∀ n ∈ r.who :: r.roots, I64 n := by
  have := nums_ok h; rw [numsOf, hk1, hk] at this; simp only [cond_false, List.length_cons] at this; exact ⟨by omega, this.2⟩
theorem kind_three {r : Rec} (h : note_Check r = 0) (h1 : (r.kind == 2) = false) (h2 : (r.kind == 3) = false) : (r.kind == 1) = true := by
  rcases (Check_iff r).1 h with ⟨e, _⟩ | ⟨e, _, _⟩ | ⟨e, _, _⟩
  · rw [e]; rfl
  · rw [e] at h1; cases h1
  · rw [e] at h2; cases h2
theorem not_one {r : Rec} {k : Int} (h : (r.kind == k) = true) (hk : (k == 1) = false) : (r.kind == 1) = false := by rw [eq_of_beq h]; exact hk
end Go.Proofs.YtaiefncoholnnaaDoor
