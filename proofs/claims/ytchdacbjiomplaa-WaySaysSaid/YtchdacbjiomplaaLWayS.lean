/- Part of this claim. No condition. -/
import Derived.Test.YtchdacbjiomplaaLWay
import Derived.Test.YtchdacbjiomplaaLCliC
import Derived.Test.YtchdacbjiomplaaW54
set_option linter.unusedVariables false
set_option linter.unusedSimpArgs false
namespace Go.Proofs.Ytchdacbjiomplaa
open Go Go.Proofs.Ytchdacbjiomplaa.Fw Go.Proofs
/-! ### Mail, as the document says -/
def TL (f : Int → Int) : Prop := ∀ t, f t = bif f 0 != 0 then f 0 else t
theorem TL.const {n : Int} (h : (n != 0) = true) : TL (fun _ => n) := fun t => by rw [h]; rfl
theorem TL.last (e : Int) : TL (fun t => bif e != 0 then e else t) := fun t => by
  cases h : (e != 0) with
  | true => simp only [cond_true, h]
  | false => rfl
theorem TL.bif {f g : Int → Int} (c : Bool) (hf : TL f) (hg : TL g) : TL (fun t => bif c then f t else g t) := fun t => by
  cases c with
  | true => exact hf t
  | false => exact hg t
theorem CheckMail_cons (m : Mail) (r : List Mail) : orangeryref_CheckMail_L0 (m :: r) = bif way_check m != 0 then way_check m else orangeryref_CheckMail_L0 r := by
  have h1 : orangeryref_CheckMail_L0 [m] = way_check m := CheckMail_one m
  rw [← h1]
  exact (TL.bif _ (.const rfl) (.bif _ (.const rfl) (.bif _ (.const rfl) (.bif _ (.last _) (.bif _ (.const rfl) (.bif _ (.const rfl) (.bif _ (.const rfl) (.bif _ (.const rfl) (.bif _ (.last _) (.last _))))))))) ) (orangeryref_CheckMail_L0 r)
theorem CheckMail_L0_eq : ∀ l : List Mail, orangeryref_CheckMail_L0 l = way_Check_L0 l
  | [] => rfl
  | m :: r => by rw [CheckMail_cons, way_Check_L0, CheckMail_L0_eq r]
theorem CheckMail_eq (l : List Mail) : orangeryref_CheckMail l = way_Check l := by
  unfold orangeryref_CheckMail way_Check
  rw [CheckMail_L0_eq]
theorem SameMail_1_iff (a b : Mail) : orangeryref_SameMail_1 a b = true ↔ a = b := way_same_iff a b
theorem SameMail_iff (a b : List Mail) : orangeryref_SameMail a b = true ↔ a = b := eqfunc_Mail orangeryref_SameMail_1 SameMail_1_iff a b
theorem SameMail_eq (a b : List Mail) : orangeryref_SameMail a b = way_Same a b := by
  rw [Bool.eq_iff_iff, SameMail_iff, way_Same_iff]
theorem WaySays_true (l : List Mail) (m : Mail) (k : Int) (twice : Bool) (o : List Mail) : orangerylaw_WaySays l m k twice o = true := by
  have hS : ∀ x : List Mail, orangeryref_SameMail x x = true := fun x => (SameMail_iff x x).2 rfl
  unfold orangerylaw_WaySays
  rw [posted_true, CheckMail_eq, CheckMail_eq, SameMail_eq, way_Check_one]
  have e0 : ((((!true) || ((way_Check l) != (way_Check l))) || (!((way_Same l o) == (way_Same l o))))) = false := by simp
  rw [e0, cond_false]
  unfold orangerylaw_WaySays_J1 orangerylaw_WaySays_J2
  rw [way_Send_eq, CheckMail_eq]
  cases h1 : (way_Check l != 0) with
  | true =>
    have hne : way_Check l ≠ 0 := bne_iff_ne.1 h1
    have hz : (way_Check l == 0) = false := beq_eq_false_iff_ne.2 hne
    have ht : way_Take l k twice = ([], ⟨0, 0, 0, 0, 0, 0, 0, ⟨0, 0, 0, 0, 0, 0, 0⟩, ⟨[], [], []⟩, ⟨[], [], [], []⟩⟩, way_Check l) := by
      unfold way_Take; rw [h1]; rfl
    simp only [cond_true, cond_false, hz, bne_self_eq_false, ht, hS, Bool.false_or, Bool.or_false, Bool.false_and, h1, Bool.true_and, List.length_nil]
    cases decide ((l.length : Int) < 30) <;> simp
  | false =>
    have hz0 := eq_of_bne_false h1
    have hz : (way_Check l == 0) = true := by rw [hz0]; rfl
    simp only [cond_true, cond_false, hz]
    have tail : (bif decide (k < 0) || decide (k ≥ (l.length : Int)) then
        (bif ((way_Take l k twice).2.2 == 5) && (((way_Take l k twice).1.length : Int) == 0) then ((((way_Take l k twice).2.2 == 5) && (((way_Take l k twice).1.length : Int) == 0)) && (orangeryref_SameMail [(way_Take l k twice).2.1] [⟨0, 0, 0, 0, 0, 0, 0, ⟨0, 0, 0, 0, 0, 0, 0⟩, ⟨[], [], []⟩, ⟨[], [], [], []⟩⟩])) else ((((way_Take l k twice).2.2 == 5) && (((way_Take l k twice).1.length : Int) == 0)) && false))
      else (bif (!twice) then (bif ((way_Take l k twice).2.2 == 0) then ((((way_Take l k twice).2.2 == 0) && (orangeryref_SameMail [(way_Take l k twice).2.1] ((l.drop k.toNat).take ((k + 1).toNat - k.toNat)))) && (orangeryref_SameMail (way_Take l k twice).1 (l.take k.toNat ++ l.drop (k + 1).toNat))) else ((((way_Take l k twice).2.2 == 0) && false) && false))
        else (bif ((way_Take l k twice).2.2 == 0) then ((((way_Take l k twice).2.2 == 0) && (orangeryref_SameMail [(way_Take l k twice).2.1] ((l.drop k.toNat).take ((k + 1).toNat - k.toNat)))) && (orangeryref_SameMail (way_Take l k twice).1 l)) else ((((way_Take l k twice).2.2 == 0) && false) && false)))) = true := by
      cases hk : (decide (k < 0) || decide (k ≥ (l.length : Int))) with
      | true =>
        have ht : way_Take l k twice = ([], ⟨0, 0, 0, 0, 0, 0, 0, ⟨0, 0, 0, 0, 0, 0, 0⟩, ⟨[], [], []⟩, ⟨[], [], [], []⟩⟩, 5) := by
          unfold way_Take; rw [h1, hk]; rfl
        rw [ht, hS]; rfl
      | false =>
        simp only [Bool.or_eq_false_iff, decide_eq_false_iff_not] at hk
        have ht := way_Take_eq (t := twice) hz0 (by omega : 0 ≤ k) (by omega)
        rw [ht, cut_one (by omega : 0 ≤ k) (by omega), show (k + 1).toNat = k.toNat + 1 by omega]
        cases twice <;> simp [hS]
    have hfz : ((0 : Int) != 0) = false := rfl
    cases h2 : (way_check m != 0) with
    | true =>
      have hne : way_check m ≠ 0 := bne_iff_ne.1 h2
      have hz2 : (way_check m == 0) = false := beq_eq_false_iff_ne.2 hne
      simp only [cond_true, cond_false, bne_self_eq_false, hz2, h2, Bool.false_or, Bool.false_and, Bool.true_and, List.length_nil, h1]
      have hd : decide (((0 : Nat) : Int) > 0) = false := rfl
      simp only [hd, Bool.or_false, cond_false, tail]
      cases decide ((l.length : Int) < 30) <;> rfl
    | false =>
      have hz2 : (way_check m == 0) = true := by rw [eq_of_bne_false h2]; rfl
      rw [eq_of_bne_false h2]
      simp only [bne_self_eq_false, cond_false, beq_self_eq_true, Bool.true_and, Bool.false_and, Bool.false_or, h1]
      cases decide ((l.length : Int) < 30) with
      | true => simp only [cond_true, bne_self_eq_false, hS, Bool.not_true, Bool.or_false, Bool.false_or, cond_false, tail]
      | false => simp only [cond_false, bne_self_eq_false, hS, Bool.not_true, Bool.or_false, Bool.false_or, tail]
end Go.Proofs.Ytchdacbjiomplaa
