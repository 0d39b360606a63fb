/- Part of this claim. No condition. -/
import Derived.Test.YtchdacbjiomplaaWA
import Derived.Test.YtchdacbjiomplaaFx
set_option linter.unusedVariables false
set_option linter.unusedSimpArgs false
set_option maxHeartbeats 2000000
namespace Go.Proofs.Ytchdacbjiomplaa
open Go Go.Proofs.Ytchdacbjiomplaa.Fw Go.Proofs
attribute [local irreducible] RdL RdN VarP RW CW
def lenB (n : Nat) : UInt8 := ([0, 1, 2, 2, 3, 3, 3, 3, 4, 4, 4, 4, 4, 4, 4, 4] : List UInt8).getD n 0
def bits_Len (n : Int) : Int := ((lenB n.toNat).toNat : Int)
theorem und_u8 : Try.prog.underlying 5 = some (.int .u8) := by kernel_rfl
theorem wrap8 {n : Int} (hn : 0 ≤ n ∧ n < 16) : IntKind.u8.wrap n = n := by
  simp only [IntKind.wrap, IntKind.bits]; simp; omega
theorem cases16 {P : Int → Prop} (h : ∀ k : Fin 16, P (k.val : Int)) {n : Int} (hn : 0 ≤ n ∧ n < 16) : P n := by
  have := h ⟨n.toNat, by omega⟩
  rwa [show ((n.toNat : Nat) : Int) = n by omega] at this
theorem lenB_wrap {n : Int} (hn : 0 ≤ n ∧ n < 16) : 0 + IntKind.i64.wrap ((lenB n.toNat).toNat : Int) = bits_Len n :=
  cases16 (P := fun n => 0 + IntKind.i64.wrap ((lenB n.toNat).toNat : Int) = bits_Len n) (by decide +kernel) hn
theorem bits_Len_in {n : Int} (hn : 0 ≤ n ∧ n < 16) : 0 ≤ bits_Len n ∧ bits_Len n ≤ 4 ∧ (1 ≤ n → 1 ≤ bits_Len n) :=
  cases16 (P := fun n => 0 ≤ bits_Len n ∧ bits_Len n ≤ 4 ∧ (1 ≤ n → 1 ≤ bits_Len n)) (by decide +kernel) hn
theorem wrap_lenB {n : Int} (hn : 0 ≤ n ∧ n < 16) : 0 ≤ IntKind.i64.wrap ((lenB n.toNat).toNat : Int) ∧ IntKind.i64.wrap ((lenB n.toNat).toNat : Int) ≤ 4 :=
  cases16 (P := fun n => 0 ≤ IntKind.i64.wrap ((lenB n.toNat).toNat : Int) ∧ IntKind.i64.wrap ((lenB n.toNat).toNat : Int) ≤ 4) (by decide +kernel) hn
theorem bits_Len64_spec (n : Int) (hn : 0 ≤ n ∧ n < 16) : Does Try.prog 200 [.int .u64 n] [] (fun (_ : Unit) => .int .i64 (bits_Len n)) (fun (_ : Unit) => []) := by
  refine does_of tab_ok Try.func200 rfl Try.ntmps200 Try.results200 rfl inferInstance (fun _ => inferInstance) fun C => ?_
  refine Tx ?_
  refine Cd (b := decide (n ≥ 4294967296)) (fun hc1 => absurd (of_decide_eq_true hc1) (by omega)) fun hc1 => ?_
  refine Tx ?_
  refine Cd (b := decide (n ≥ 65536)) (fun hc1 => absurd (of_decide_eq_true hc1) (by omega)) fun hc1 => ?_
  refine Tx ?_
  refine Cd (b := decide (n ≥ 256)) (fun hc1 => absurd (of_decide_eq_true hc1) (by omega)) fun hc1 => ?_
  refine Tx ?_
  refine rw_q rfl rfl rfl (q_convK und_220 und_u8 rfl rfl (fun _ => rfl)) ?_
  rw [wrap8 hn]
  refine rw_q rfl rfl rfl (q_ixS (lenB n.toNat) rfl rfl (fun _ => rfl) rfl (fun _ => rfl) rfl (fun _ => ⟨hn.1, ?_⟩)) ?_
  · revert hn
    intro hn
    obtain ⟨k, hk⟩ : ∃ k : Fin 16, n = (k.val : Int) := ⟨⟨n.toNat, by omega⟩, by simp; omega⟩
    subst hk
    revert k
    decide +kernel
  refine rw_q rfl rfl rfl (q_convK und_u8 und_3 rfl rfl (fun _ => rfl)) ?_
  refine rw_q rfl rfl rfl (q_add rfl rfl (fun _ => rfl) rfl (fun _ => rfl) (fun _ => by have := wrap_lenB hn; omega)) ?_
  refine Tx ?_
  rw [← lenB_wrap hn]
  refine cw_ret ?_; exact Re () (Vt Vn)
theorem bits_Len_spec (n : Int) (hn : 0 ≤ n ∧ n < 16) : Does Try.prog 171 [.int .u64 n] [] (fun (_ : Unit) => .int .i64 (bits_Len n)) (fun (_ : Unit) => []) := by
  refine does_of tab_ok Try.func171 rfl Try.ntmps171 Try.results171 rfl inferInstance (fun _ => inferInstance) fun C => ?_
  refine Tx ?_
  refine Cd (b := false) (fun hc1 => Bool.noConfusion hc1) fun hc1 => ?_
  refine Tx ?_
  refine Cl (bits_Len64_spec n hn) fun _ => ?_
  refine Tx ?_
  refine cw_ret ?_; exact Re () (Vt Vn)
end Go.Proofs.Ytchdacbjiomplaa
