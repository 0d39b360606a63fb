/- Part of this claim. No condition. -/
import Derived.Test.YtgkggkgdceapgaaGreatDoorB9
import Derived.Test.YtgkggkgdceapgaaGreatDoorB4
set_option linter.unusedVariables false
set_option linter.unusedSimpArgs false
namespace Go.Proofs.YtgkggkgdceapgaaGreatDoor
open Go Go.Proofs.YtgkggkgdceapgaaGreatDoor.Fw Go.Proofs
theorem oo {α : Type} [Inhabited α] {l : List α} {i : Nat} (h : i < l.length) (a : α) (j : Nat) : gt (l.set i a) j = if j = i then a else gt l j := by
  by_cases hj : j = i
  · subst hj; simp [gt, List.getD_eq_getElem?_getD, h]
  · rw [if_neg hj]; simp [gt, List.getD_eq_getElem?_getD, List.getElem?_set_ne (Ne.symm hj)]
theorem rU {h : Hub} {r : Rec} (h0 : (aO h r).2 = 0) :
    ((r.kind = 1 ∧ (gt h.peers r.o.who.toNat).life = r.o.life ∧ (gt h.peers r.o.who.toNat).seq + 1 = r.o.seq ∧ (bk h.h r.o).2 = 0 ∧ (aO h r).1 = ⟨(bk h.h r.o).1, h.version + 1, h.peers.set r.o.who.toNat ⟨(gt h.peers r.o.who.toNat).life, r.o.seq, (gt h.peers r.o.who.toNat).roots⟩⟩) ∨
     (r.kind = 2 ∧ r.life = (gt h.peers r.who.toNat).life + 1 ∧ (aO h r).1 = ⟨h.h, h.version + 1, h.peers.set r.who.toNat ⟨r.life, 0, []⟩⟩) ∨
     (r.kind = 3 ∧ (aO h r).1 = ⟨h.h, h.version + 1, h.peers.set r.who.toNat ⟨(gt h.peers r.who.toNat).life, (gt h.peers r.who.toNat).seq, r.roots⟩⟩)) := by
  have hn := ma h0
  have hw := nt hn
  unfold aO at h0 ⊢
  have e1 : (aQ r != 0) = false := by rw [hn]; rfl
  rw [e1, cond_false] at h0
  rw [e1, cond_false]
  cases h2 : (h.version == 60) with
  | true => rw [h2, cond_true] at h0; cases h0
  | false =>
  rw [h2, cond_false] at h0
  rw [cond_false]
  cases h3 : (r.kind == 1) with
  | true =>
    left
    rw [h3, cond_true] at h0
    rw [cond_true]
    cases h4 : ((cO ⟨h.h, h.version + 1, h.peers⟩ r.o).1 != 0) with
    | true => rw [h4, cond_true] at h0; simp only at h0; rw [h0] at h4; cases h4
    | false =>
      rw [cond_false]
      have h5 := ag h4
      unfold cO at h5 ⊢
      cases h6 : (((gt h.peers r.o.who.toNat).life != r.o.life) || ((gt h.peers r.o.who.toNat).seq + 1 != r.o.seq)) with
      | true => rw [h6, cond_true] at h5; cases h5
      | false =>
        rw [h6, cond_false] at h5
        rw [cond_false]
        cases h7 : ((bk h.h r.o).2 == 0) with
        | false => rw [h7, cond_false] at h5; simp only at h5; rw [h5] at h7; cases h7
        | true =>
          simp only [Bool.or_eq_false_iff, bne_eq_false_iff_eq] at h6
          exact ⟨eq_of_beq h3, h6.1, h6.2, eq_of_beq h7, rfl⟩
  | false =>
  right
  rw [h3, cond_false] at h0
  rw [cond_false]
  cases h4 : (r.kind == 2) with
  | true =>
    left
    rw [h4, cond_true] at h0
    rw [cond_true]
    cases h5 : (r.life != (gt h.peers r.who.toNat).life + 1) with
    | true => rw [h5, cond_true] at h0; cases h0
    | false => exact ⟨eq_of_beq h4, ag h5, rfl⟩
  | false =>
  right
  rw [h4, cond_false] at h0
  rw [cond_false]
  have h3 := beq_eq_false_iff_ne.1 h3
  have h4 := beq_eq_false_iff_ne.1 h4
  have hk : r.kind = 3 := by omega
  have h5 : (r.kind == 3) = true := by rw [hk]; rfl
  rw [h5, cond_true] at h0
  rw [h5, cond_true]
  cases h6 : ((gt h.peers r.who.toNat).life == 0) with
  | true => rw [h6, cond_true] at h0; cases h0
  | false => exact ⟨hk, rfl⟩
end Go.Proofs.YtgkggkgdceapgaaGreatDoor
