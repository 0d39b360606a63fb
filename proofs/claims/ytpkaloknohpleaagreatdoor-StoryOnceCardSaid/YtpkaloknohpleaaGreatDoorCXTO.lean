/- Part of this claim. No condition. -/
import Derived.Test.YtpkaloknohpleaaGreatDoorC13
import Derived.Test.YtpkaloknohpleaaGreatDoorC9
import Derived.Test.YtpkaloknohpleaaGreatDoorC4
set_option linter.unusedVariables false
set_option linter.unusedSimpArgs false
namespace Go.Proofs.YtpkaloknohpleaaGreatDoor
open Go Go.Proofs.YtpkaloknohpleaaGreatDoor.Fw Go.Proofs
def opsOf (l : List Rec) : List Op := (l.filter (fun r => r.kind == 1)).map Rec.o
theorem fh (l : List Rec) (r : Rec) : opsOf (l ++ [r]) = opsOf l ++ (bif r.kind == 1 then [r.o] else []) := by
 unfold opsOf
 rw [List.filter_append, List.map_append]
 cases h : (r.kind == 1) <;> simp [h]
theorem ji : ∀ (l : List Rec) (out : List Op), cy l out = (out ++ opsOf l, 0)
 | [], out => by simp [cy, opsOf]
 | r :: l, out => by
  rw [cy]
  have e : opsOf (r :: l) = (bif r.kind == 1 then [r.o] else []) ++ opsOf l := by
   unfold opsOf; cases h : (r.kind == 1) <;> simp [h]
  cases h : (r.kind == 1) with
  | true => rw [cond_true, ji l, e, h]; simp
  | false => rw [cond_false, ji l, e, h]; simp
theorem lF {w : Wld} {l : List Rec} (h : IsW w l) : aw w = (opsOf l, 0) := by
 unfold aw
 rw [(d8 w).2 ⟨l, h⟩, h.recd, bne_self_eq_false, cond_false, ji]; simp
abbrev peer (l : List Rec) (k : Nat) : Peer := gt (aq l).1.peers k
theorem jS {w : Wld} {l : List Rec} (h : IsW w l) (hu : w.up = true) (k : Nat) : peer l k = gt w.h.peers k := by
 show gt (aq l).1.peers k = _; rw [(h.up hu).2]
theorem pv {w : Wld} {l : List Rec} (h : IsW w l) (hu : w.up = true) {r : Rec} (h0 : (aJ w.h r).2 = 0) : (aJ (aq l).1 r).2 = 0 ∧ l.length < 60 ∧ ∀ k, peer (l ++ [r]) k = gt (aJ w.h r).1.peers k := by
 have h2 := nh h0
 have h3 := h.hub.2 hu
 have h4 := h.sixty
 have h5 : l.length < 60 := by omega
 refine ⟨by rw [(h.up hu).2]; exact h0, h5, fun k => ?_⟩
 show gt (aq (l ++ [r])).1.peers k = _
 rw [iP (h.up hu).2 h0 h5]
theorem jz {α : Type} [Inhabited α] {l : List α} {i : Nat} (h : i < l.length) (a : α) (j : Nat) : gt (l.set i a) j = if j = i then a else gt l j := by
  by_cases hj : j = i
  · subst hj; simp [gt, List.getD_eq_getElem?_getD, h]
  · rw [if_neg hj]; simp [gt, List.getD_eq_getElem?_getD, List.getElem?_set_ne (Ne.symm hj)]
theorem lS {h : Hub} {r : Rec} (h0 : (aJ h r).2 = 0) :
    ((r.kind = 1 ∧ (gt h.peers r.o.who.toNat).life = r.o.life ∧ (gt h.peers r.o.who.toNat).seq + 1 = r.o.seq ∧ (bi h.h r.o).2 = 0 ∧ (aJ h r).1 = ⟨(bi h.h r.o).1, h.version + 1, h.peers.set r.o.who.toNat ⟨(gt h.peers r.o.who.toNat).life, r.o.seq, (gt h.peers r.o.who.toNat).roots⟩⟩) ∨
     (r.kind = 2 ∧ r.life = (gt h.peers r.who.toNat).life + 1 ∧ (aJ h r).1 = ⟨h.h, h.version + 1, h.peers.set r.who.toNat ⟨r.life, 0, []⟩⟩) ∨
     (r.kind = 3 ∧ (aJ h r).1 = ⟨h.h, h.version + 1, h.peers.set r.who.toNat ⟨(gt h.peers r.who.toNat).life, (gt h.peers r.who.toNat).seq, r.roots⟩⟩)) := by
  have hn := k6 h0
  have hw := ng hn
  unfold aJ at h0 ⊢
  have e1 : (aM r != 0) = false := by rw [hn]; rfl
  rw [e1, cond_false] at h0
  rw [e1, cond_false]
  cases h2 : (h.version == 60) with
  | true => rw [h2, cond_true] at h0; cases h0
  | false =>
  rw [h2, cond_false] at h0
  rw [cond_false]
  cases h3 : (r.kind == 1) with
  | true =>
    left
    rw [h3, cond_true] at h0
    rw [cond_true]
    cases h4 : ((cv ⟨h.h, h.version + 1, h.peers⟩ r.o).1 != 0) with
    | true => rw [h4, cond_true] at h0; simp only at h0; rw [h0] at h4; cases h4
    | false =>
      rw [cond_false]
      have h5 := ae h4
      unfold cv at h5 ⊢
      cases h6 : (((gt h.peers r.o.who.toNat).life != r.o.life) || ((gt h.peers r.o.who.toNat).seq + 1 != r.o.seq)) with
      | true => rw [h6, cond_true] at h5; cases h5
      | false =>
        rw [h6, cond_false] at h5
        rw [cond_false]
        cases h7 : ((bi h.h r.o).2 == 0) with
        | false => rw [h7, cond_false] at h5; simp only at h5; rw [h5] at h7; cases h7
        | true =>
          simp only [Bool.or_eq_false_iff, bne_eq_false_iff_eq] at h6
          exact ⟨eq_of_beq h3, h6.1, h6.2, eq_of_beq h7, rfl⟩
  | false =>
  right
  rw [h3, cond_false] at h0
  rw [cond_false]
  cases h4 : (r.kind == 2) with
  | true =>
    left
    rw [h4, cond_true] at h0
    rw [cond_true]
    cases h5 : (r.life != (gt h.peers r.who.toNat).life + 1) with
    | true => rw [h5, cond_true] at h0; cases h0
    | false => exact ⟨eq_of_beq h4, ae h5, rfl⟩
  | false =>
  right
  rw [h4, cond_false] at h0
  rw [cond_false]
  have h3 := beq_eq_false_iff_ne.1 h3
  have h4 := beq_eq_false_iff_ne.1 h4
  have hk : r.kind = 3 := by omega
  have h5 : (r.kind == 3) = true := by rw [hk]; rfl
  rw [h5, cond_true] at h0
  rw [h5, cond_true]
  cases h6 : ((gt h.peers r.who.toNat).life == 0) with
  | true => rw [h6, cond_true] at h0; cases h0
  | false => exact ⟨hk, rfl⟩
theorem vQ {r : Rec} (hn : aM r = 0) (hk : r.kind = 1) : chkO r.o = 0 := by
  unfold aM at hn
  have e : (r.kind == 1) = true := by rw [hk]; rfl
  have e2 : (decide (r.kind < 1) || decide (r.kind > 3)) = false := by rw [hk]; rfl
  rw [e2, e, cond_false, cond_true] at hn
  cases h6 : (((r.who != 0) || (r.life != 0)) || decide ((r.roots.length : Int) > 0)) with
  | true => rw [h6, cond_true] at hn; cases hn
  | false => rw [h6, cond_false, ek] at hn; exact hn
end Go.Proofs.YtpkaloknohpleaaGreatDoor
