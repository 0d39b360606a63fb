/- Part of this claim. No condition. -/
import Derived.Test.YtchdacbjiomplaaLHub
import Derived.Test.YtchdacbjiomplaaLSeen
set_option linter.unusedVariables false
set_option linter.unusedSimpArgs false
namespace Go.Proofs.Ytchdacbjiomplaa
open Go Go.Proofs.Ytchdacbjiomplaa.Fw Go.Proofs
/-! ### What the hub shows -/
abbrev op0 : Op := ⟨0, 0, 0, 0, 0, 0, 0⟩
theorem note_life {k : Nat} (hk : k < 3) : note_Check ⟨2, (k : Int), 1, [], op0⟩ = 0 := by
  have e1 : decide ((k : Int) < 0) = false := by simp
  have e2 : decide ((k : Int) ≥ 3) = false := by simp; omega
  unfold note_Check
  simp only [e1, e2]
  rfl
theorem note_roots {k : Nat} (hk : k < 3) {roots : List Int} (hr : view_Roots roots = 0) : note_Check ⟨3, (k : Int), 0, roots, op0⟩ = 0 := by
  have e1 : decide ((k : Int) < 0) = false := by simp
  have e2 : decide ((k : Int) ≥ 3) = false := by simp; omega
  unfold note_Check
  simp only [e1, e2]
  exact hr
theorem Next_of {h : Hub} (hh : IsHub h) (r : Rec) : hub_Next h r = hub_next h r := by
  unfold hub_Next
  rw [(hub_Check_iff h).2 hh]; rfl
theorem next_life {h : Hub} (hh : IsHub h) (hv : h.version < 60) {k : Nat} (hk : k < 3) (hl : (gt h.peers k).life = 0) : hub_Next h ⟨2, (k : Int), 1, [], op0⟩ = (⟨h.h, h.version + 1, h.peers.set k ⟨1, 0, []⟩⟩, 0) := by
  rw [Next_of hh]
  unfold hub_next
  have e1 : (h.version == 60) = false := beq_eq_false_iff_ne.2 (by omega)
  rw [note_life hk, e1]
  simp only [Int.toNat_natCast, hl]
  rfl
theorem next_roots {h : Hub} (hh : IsHub h) (hv : h.version < 60) {k : Nat} (hk : k < 3) {roots : List Int} (hr : view_Roots roots = 0) (hl : (gt h.peers k).life ≠ 0) : hub_Next h ⟨3, (k : Int), 0, roots, op0⟩ = (⟨h.h, h.version + 1, h.peers.set k ⟨(gt h.peers k).life, (gt h.peers k).seq, roots⟩⟩, 0) := by
  rw [Next_of hh]
  unfold hub_next
  have e1 : (h.version == 60) = false := beq_eq_false_iff_ne.2 (by omega)
  have e2 : ((gt h.peers k).life == 0) = false := beq_eq_false_iff_ne.2 hl
  rw [note_roots hk hr, e1]
  simp only [Int.toNat_natCast, e2]
  rfl
end Go.Proofs.Ytchdacbjiomplaa
