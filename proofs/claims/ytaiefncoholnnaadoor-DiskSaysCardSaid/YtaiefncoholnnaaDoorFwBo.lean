/- Part of this claim. No condition. -/
import Derived.Test.YtaiefncoholnnaaDoorFw
import Derived.Test.YtaiefncoholnnaaDoorFx
set_option linter.unusedVariables false
set_option linter.unusedSimpArgs false
namespace Go.Proofs.YtaiefncoholnnaaDoor.Fw
open Go Go.RowKit Go.ChangeShapes Go.WideShapes Go.Deep

/-! ### A slice of bytes that comes in -/
section
variable {P : Program} {H : Type} {enc : TypeId × Value → H} {w : World}
theorem byte_of_int {n : Int} (h : (Lit.int .u8 n).wf = true) : ∃ b : UInt8, yV b = .int .u8 n := by
  have hn : 0 ≤ n ∧ n < 256 := by
    simp [Lit.wf] at h
    have h1 : IntKind.u8.min = 0 := rfl
    have h2 : IntKind.u8.max = 255 := rfl
    omega
  refine ⟨UInt8.ofNat n.toNat, ?_⟩
  have : ((UInt8.ofNat n.toNat).toNat : Int) = n := by simp [UInt8.toNat_ofNat']; omega
  simp only [yV, this]

theorem open_bytes {t e : TypeId} {fuel : Nat} {cs : List Value} {x : DataW H × List MemPlace} (ht : P.underlying t = some (.slice e)) (he : P.underlying e = some (.int .u8)) (hc : P.cellsOf e = 1) (hby : P.bytesOf e = 1)
    (h : DataW.trod enc P w 0 (fun _ => true) true fuel t cs = some x) (hsz : (x.1.weights P t).all (· ≤ reachBytes) = true) :
    ∃ (X : SlV) (l : List UInt8), cs = [X.val l.length] ∧ RdL EByte X l (fun _ => False) w := by
  rcases open_slice ht h with ⟨rfl, _⟩ | ⟨a, len, cap, m, n, D, Pl, rfl, _, hlc, hcm, hm, hx, hi⟩
  · exact ⟨⟨none, 0⟩, [], rfl, RdL.nil EByte none 0 (by omega) _ _⟩
  · simp only [if_true] at hm
    have hrow : ∀ i, i < len → ∃ a0 : UInt8, ∀ (j : Nat) (v : Value), (EByte.enc a0)[j]? = some v → w.cell? (a.add (i * 1 + j)) = some v := by
      intro i hil
      obtain ⟨cs', hcs, htr⟩ := hi i (by omega)
      obtain ⟨n0, rfl, _, hwf⟩ := DataW.trod_int he htr
      obtain ⟨b, hb⟩ := byte_of_int hwf
      obtain ⟨_, hl, hat⟩ := World.cells?_some hcs
      refine ⟨b, fun j v hv => ?_⟩
      obtain ⟨hlt, _⟩ := List.getElem?_eq_some_iff.1 hv
      have hv' : ([yV b] : List Value)[j]? = some v := hv
      have hlt' : j < 1 := hlt
      have := hat j (by rw [hc]; exact hlt')
      rw [hc, addr_add_add] at this
      rw [this, ← hv', hb]
    obtain ⟨l, hl, hp⟩ := choose_list hrow
    have hbound : l.length * 1 ≤ 140737488355328 := by
      subst hx
      rw [List.all_eq_true] at hsz
      have := hsz ((len + (m - len)) * 1) (by simp [DataW.weights, ht, hby])
      have h3 : reachBytes ≤ 140737488355328 := by decide
      simp at this
      omega
    refine ⟨⟨some a, cap⟩, l, by rw [hl]; rfl, ⟨by rw [hl]; exact hlc, by simpa [maxLen] using hcm, hbound, fun hpl => ⟨a, rfl, ?_, fun h => h, fun i hi j v hv => hp i hi j v hv⟩⟩⟩
    have h0 := hp 0 hpl
    have := h0 0 _ (List.getElem?_eq_getElem (show 0 < (EByte.enc l[0]).length from Nat.one_pos))
    have hcell := this
    unfold World.cell? at hcell
    rw [addr_block] at hcell
    cases hh : w.heap[a.block]? with
    | none => simp [hh] at hcell
    | some ob => exact heap_lt hh

theorem opens_bytes {t e : TypeId} (ht : P.underlying t = some (.slice e)) (he : P.underlying e = some (.int .u8)) (hc : P.cellsOf e = 1) (hby : P.bytesOf e = 1) :
    Opens P t (fun (l : List UInt8) (X : SlV) => [X.val l.length]) (fun l X => [RdL EByte X l]) := .mk fun enc w fuel cs x hx hs => by
  obtain ⟨X, l, h1, h2⟩ := open_bytes ht he hc hby hx hs
  exact ⟨l, X, h1, fun F hF => by rw [List.mem_singleton] at hF; subst hF; exact h2⟩
end
end Go.Proofs.YtaiefncoholnnaaDoor.Fw
