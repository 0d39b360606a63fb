/- Part of this claim. No condition. -/
import Derived.Test.YtchdacbjiomplaaW53
import Derived.Test.YtchdacbjiomplaaLWaySame
set_option linter.unusedVariables false
set_option linter.unusedSimpArgs false
namespace Go.Proofs.Ytchdacbjiomplaa
open Go Go.Proofs.Ytchdacbjiomplaa.Fw Go.Proofs
/-! ### Mail on its way -/
theorem posted_true : orangerylaw_posted = true := by decide +kernel
theorem eqf_Mail (eq : Mail → Mail → Bool) (he : ∀ a b, eq a b = true ↔ a = b) (s : List Mail) : ∀ (r : List Mail) (n : Nat), r.length + n ≤ s.length → (slices_EqualFunc_Mail_L0 s eq r n = true ↔ r = (s.drop n).take r.length)
  | [], n, _ => by simp [slices_EqualFunc_Mail_L0]
  | p :: r, n, h => by
    simp only [List.length_cons] at h
    rw [slices_EqualFunc_Mail_L0, drop_gt (show n < s.length by omega), List.length_cons, List.take_succ_cons]
    cases h1 : eq p (gt s n) with
    | false =>
      simp only [Bool.not_false, cond_true, Bool.false_eq_true, List.cons.injEq, false_iff, not_and]
      intro e; rw [(he _ _).2 e] at h1; cases h1
    | true =>
      simp only [Bool.not_true, cond_false, List.cons.injEq, (he _ _).1 h1, true_and]
      exact eqf_Mail eq he s r (n + 1) (by omega)
theorem eqfunc_Mail (eq : Mail → Mail → Bool) (he : ∀ a b, eq a b = true ↔ a = b) (a b : List Mail) : slices_EqualFunc_Mail a b eq = true ↔ a = b := by
  unfold slices_EqualFunc_Mail
  cases h1 : ((a.length : Int) != (b.length : Int)) with
  | true =>
    simp only [cond_true, Bool.false_eq_true, false_iff]
    intro e; subst e; simp at h1
  | false =>
    have h1 : a.length = b.length := by have := eq_of_bne_false h1; omega
    rw [cond_false, eqf_Mail eq he b a 0 (by omega), List.drop_zero, h1, List.take_length]
theorem way_Same_iff (a b : List Mail) : way_Same a b = true ↔ a = b := eqfunc_Mail way_same way_same_iff a b
theorem way_Check_app : ∀ (l : List Mail) (m : Mail), way_Check_L0 (l ++ [m]) = bif way_Check_L0 l != 0 then way_Check_L0 l else way_check m
  | [], m => by
    simp only [List.nil_append, way_Check_L0]
    cases h : (way_check m != 0) with
    | true => rfl
    | false => exact (eq_of_bne_false h).symm
  | p :: l, m => by
    simp only [List.cons_append, way_Check_L0]
    cases h : (way_check p != 0) with
    | true => simp only [cond_true, h]
    | false => simp only [cond_false]; exact way_Check_app l m
theorem way_Check_ok {l : List Mail} (h : way_Check l = 0) : l.length ≤ 30 ∧ way_Check_L0 l = 0 := by
  unfold way_Check at h
  cases h1 : decide ((l.length : Int) > 30) with
  | true => rw [h1] at h; cases h
  | false => rw [h1] at h; have := of_decide_eq_false h1; exact ⟨by omega, h⟩
theorem way_Check_of {l : List Mail} (h1 : l.length ≤ 30) (h2 : way_Check_L0 l = 0) : way_Check l = 0 := by
  unfold way_Check
  have : decide ((l.length : Int) > 30) = false := decide_eq_false (by omega)
  rw [this]; exact h2
theorem way_Check_one (m : Mail) : way_Check [m] = way_check m := by
  show way_Check_L0 [m] = _
  rw [way_Check_L0, way_Check_L0]
  cases h : (way_check m != 0) with
  | true => rfl
  | false => exact (eq_of_bne_false h).symm
theorem way_Send_eq (l : List Mail) (m : Mail) : way_Send l m = bif way_Check l != 0 then ([], way_Check l) else bif way_check m != 0 then ([], way_check m) else bif decide ((l.length : Int) < 30) then (l ++ [m], 0) else (l, 0) := by
  unfold way_Send way_Send_U0_0 way_Send_U0_1 way_Send_U0_2
  rw [way_Check_one]
theorem way_Take_eq {l : List Mail} {k : Int} {t : Bool} (h1 : way_Check l = 0) (h2 : 0 ≤ k) (h3 : k < (l.length : Int)) : way_Take l k t = (bif t then l else l.take k.toNat ++ l.drop (k.toNat + 1), gt l k.toNat, 0) := by
  unfold way_Take
  have e1 : (way_Check l != 0) = false := by rw [h1]; rfl
  have e2 : (decide (k < 0) || decide (k ≥ (l.length : Int))) = false := by simp only [Bool.or_eq_false_iff, decide_eq_false_iff_not]; omega
  have e3 : (k + 1).toNat = k.toNat + 1 := by omega
  have e4 : gt ((l.drop k.toNat).take (k.toNat + 1 - k.toNat)) 0 = gt l k.toNat := by
    rw [drop_gt (show k.toNat < l.length by omega), show k.toNat + 1 - k.toNat = 1 by omega]; rfl
  rw [e1, e2, e3, e4]
  cases t <;> rfl
theorem cut_one {l : List Mail} {k : Int} (h2 : 0 ≤ k) (h3 : k < (l.length : Int)) : (l.drop k.toNat).take ((k + 1).toNat - k.toNat) = [gt l k.toNat] := by
  rw [drop_gt (show k.toNat < l.length by omega), show (k + 1).toNat - k.toNat = 1 by omega]; rfl
theorem WayBack_true (l : List Mail) (m : Mail) (k : Int) : orangerylaw_WayBack l m k = true := by
  unfold orangerylaw_WayBack
  rw [posted_true, way_Send_eq]
  cases h1 : (way_Check l != 0) with
  | true => simp only [Bool.not_true, Bool.false_or, cond_true, h1]
  | false =>
  cases h2 : (way_check m != 0) with
  | true => simp only [Bool.not_true, Bool.false_or, cond_true, cond_false, h2]
  | false =>
  have hl := way_Check_ok (eq_of_bne_false h1)
  cases h3 : decide ((l.length : Int) < 30) with
  | false =>
    have h3 := of_decide_eq_false h3
    have h4 : ((l.length : Int) == 30) = true := by rw [beq_iff_eq]; omega
    simp only [Bool.not_true, Bool.false_or, cond_true, cond_false, bne_self_eq_false, h4]
    exact (way_Same_iff l l).2 rfl
  | true =>
    have h3 := of_decide_eq_true h3
    have h4 : ((l.length : Int) == 30) = false := by rw [beq_eq_false_iff_ne]; omega
    have hca : way_Check (l ++ [m]) = 0 := way_Check_of (by simp; omega) (by
      rw [way_Check_app, hl.2]; exact eq_of_bne_false h2)
    have ht := way_Take_eq (l := l ++ [m]) (k := (l.length : Int)) (t := false) hca (by omega) (by simp; omega)
    have e1 : (l ++ [m]).take (l.length : Int).toNat ++ (l ++ [m]).drop ((l.length : Int).toNat + 1) = l := by simp
    have e2 : gt (l ++ [m]) (l.length : Int).toNat = m := by simp [gt]
    rw [e1, e2] at ht
    have hat := at_in (k := k) (n := ((l ++ [m]).length : Int)) (by simp)
    have hu := way_Take_eq (l := l ++ [m]) (k := orangerylaw_at k ((l ++ [m]).length : Int)) (t := true) hca hat.1 hat.2
    have hc := cut_one hat.1 hat.2
    simp only [Bool.not_true, Bool.false_or, cond_true, cond_false, bne_self_eq_false, h4, ht, hu, hc, (way_Same_iff _ _).2 rfl, Bool.and_self, beq_self_eq_true]
end Go.Proofs.Ytchdacbjiomplaa
