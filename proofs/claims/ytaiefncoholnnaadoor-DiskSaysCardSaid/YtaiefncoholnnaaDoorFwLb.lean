/- Part of this claim. No condition. -/
import Derived.Test.YtaiefncoholnnaaDoorLStr
import Derived.Lib.LaidTab
import Derived.Lib.ItoaMem
set_option linter.unusedVariables false
set_option linter.unusedSimpArgs false
namespace Go.Proofs.YtaiefncoholnnaaDoor.Fw
open Go Go.RowKit

/-! ### What the library's functions want of the package-level variables -/
structure LibW (P : Program) (w : World) : Prop where
  len : ∃ g m, P.globalNamed "internal/bytealg.MaxLen" = some g ∧ w.cell? ⟨g, 0, none⟩ = some (.int .i64 m)
  tab : Lib.TabIs P w "internal/strconv.uint64pow10" .u64 Lib.pow10Tab
  syn : ∃ tp p, w.var? P "strconv.ErrSyntax" = some #[.iface tp p]
  rng : ∃ tp p, w.var? P "strconv.ErrRange" = some #[.iface tp p]

def libNames : List String := ["internal/bytealg.MaxLen", "internal/strconv.uint64pow10", "strconv.ErrSyntax", "strconv.ErrRange"]
def LibP (P : Program) : Pred := fun M w => (∀ n ∈ libNames, ∀ g, P.globalNamed n = some g → g < w.heap.size ∧ ¬ M g) ∧ LibW P w

theorem var_eq {P : Program} {w w' : World} {n : String} (h : ∀ g, P.globalNamed n = some g → w'.heap[g]? = w.heap[g]?) : w'.var? P n = w.var? P n := by
  unfold World.var?
  cases hg : P.globalNamed n with
  | none => rfl
  | some g => simp only [Option.bind_some, h g hg]

instance (P : Program) : Stab (LibP P) where
  st M M' w w' h hx hM := by
    obtain ⟨h1, h2⟩ := h
    have hh : ∀ n ∈ libNames, ∀ g, P.globalNamed n = some g → w'.heap[g]? = w.heap[g]? := fun n hn g hg => hx.2 g (h1 n hn g hg).1 (h1 n hn g hg).2
    have hv := fun n hn => var_eq (P := P) (w := w) (w' := w') (n := n) (hh n hn)
    refine ⟨fun n hn g hg => ⟨Nat.lt_of_lt_of_le (h1 n hn g hg).1 hx.1, fun hm => (h1 n hn g hg).2 (hM g (h1 n hn g hg).1 hm)⟩, ?_, ?_, ?_, ?_⟩
    · obtain ⟨g, m, hg, hc⟩ := h2.len
      exact ⟨g, m, hg, (World.cell?_of_block (hh _ (by simp [libNames]) g hg)).trans hc⟩
    · unfold Lib.TabIs; rw [hv _ (by simp [libNames])]; exact h2.tab
    · rw [hv _ (by simp [libNames])]; exact h2.syn
    · rw [hv _ (by simp [libNames])]; exact h2.rng

/-- At the law's own call: what the row lists, and the shape of the world. -/
theorem lib_top {P : Program} {w : World} (h : LibW P w) : LibP P (fun _ => False) w := by
  refine ⟨fun n hn g hg => ⟨?_, fun h => h⟩, h⟩
  have hv : ∀ {cs}, w.var? P n = some cs → g < w.heap.size := fun {cs} h => by
    unfold World.var? at h
    rw [hg] at h
    rcases Nat.lt_or_ge g w.heap.size with h' | h'
    · exact h'
    · simp [Array.getElem?_eq_none h'] at h
  simp only [libNames, List.mem_cons, List.not_mem_nil, or_false] at hn
  rcases hn with rfl | rfl | rfl | rfl
  · obtain ⟨g', m, hg', hc⟩ := h.len
    rw [hg'] at hg
    cases hg
    rcases Nat.lt_or_ge g w.heap.size with h' | h'
    · exact h'
    · simp [World.cell?, Array.getElem?_eq_none h'] at hc
  · exact hv h.tab
  · obtain ⟨_, _, h1⟩ := h.syn; exact hv h1
  · obtain ⟨_, _, h1⟩ := h.rng; exact hv h1

theorem does_lib {P : Program} {f : FuncId} {args : List Value} {pre : List Pred} {X : Type} {val : X → Value} {post : X → List Pred} (hst : ∀ x, StabL (post x))
    (h : ∀ (M : Nat → Prop) (w : World), (∀ b, M b → b < w.heap.size) → AllF pre M w → Calls P f args.toArray w (fun e w' => ∃ x, e = .returned (val x) ∧ Below w.heap.size w w' ∧ AllF (post x) M w')) :
    Does P f args pre val post where
  st := hst
  ok C hB hw := by
    refine (h (Mset C ⟨0, [], [], [], pre⟩) C.w0 (fun b hb => Mset_lt hw hb) (fun F hF => (hw.fa F hF).2)).mono fun e w' ⟨x, he, hb, hp⟩ => ⟨x, he, ?_⟩
    have hg := hw.grow hb
    exact ⟨hg.be, hg.bl, hg.ow, hg.nd, fun F hF => ⟨(hst x).st F hF, hp F hF⟩⟩

theorem below_drewN {w : World} (n : Nat) : Below w.heap.size w (w.drewN n) := ⟨rfl, rfl, rfl, Nat.le_refl _, fun _ _ => rfl⟩
theorem below_bytes (w : World) (e : TypeId) (s : ByteArray) : Below w.heap.size w (Lib.bytesWorld w e s) := by
  refine ⟨?_, ?_, ?_, by rw [Lib.bytesWorld_size]; omega, fun k hk => Lib.bytesWorld_at_old w e _ k hk⟩ <;> rfl
theorem below_alloc (w : World) (o : Obj) : Below w.heap.size w (w.alloc o) := ⟨rfl, rfl, rfl, by simp, fun k hk => heap_alloc_old w o k hk⟩

/-- A new row of texts reads as these. -/
theorem rd_newrow {M : Nat → Prop} {w : World} (hM : ∀ b, M b → b < w.heap.size) (l : List Str) (t : TypeId) (hl : l.length * 16 ≤ 140737488355328) :
    RdL EStr ⟨some ⟨w.heap.size, 0, none⟩, l.length⟩ l M (w.alloc (.cells (l.map sV).toArray t)) := by
  refine ⟨Nat.le_refl _, by show l.length ≤ _; omega, hl, fun _ => ⟨_, rfl, by simp, fun hm => Nat.lt_irrefl _ (hM _ hm), fun i hi j v hv => ?_⟩⟩
  have hj : j = 0 := by
    obtain ⟨hlt, _⟩ := List.getElem?_eq_some_iff.1 hv
    simp [EStr] at hlt
    exact hlt
  subst hj
  simp only [EStr, List.getElem?_cons_zero, Option.some.injEq] at hv
  subst hv
  rw [add_none]
  have h0 := heap_alloc_new w (.cells (l.map sV).toArray t)
  simp only [EStr, World.cell?, h0]
  simp [hi]
end Go.Proofs.YtaiefncoholnnaaDoor.Fw
