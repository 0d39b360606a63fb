/- Part of this claim. No condition. -/
import Derived.Test.YtchdacbjiomplaaW73
set_option linter.unusedVariables false
set_option linter.unusedSimpArgs false
set_option maxHeartbeats 2000000
namespace Go.Proofs.Ytchdacbjiomplaa
open Go Go.Proofs.Ytchdacbjiomplaa.Fw Go.Proofs
attribute [local irreducible] RW CW
def slices_SortFunc_Place (x1 : List Place) (cmp1 : Place → Place → Int) : List Place :=
  (slices_pdqsortCmpFunc_Place x1 0 (x1.length : Int) (bits_Len (x1.length : Int)) cmp1)
theorem slices_SortFunc_Place_spec (y1 : SlV) (y1b : Option Nat) (x1 : List Place) (f1 : Nat) (caps1 : List Value) (pre1 : List Pred) [StabL pre1] (cmp1 : Place → Place → Int) (hfb1 : tab.fnb f1 = true) (hfn1 : ∀ (a0_ : Place) (a1_ : Place), Does Try.prog f1 ([.agg ⟨[.int .i64 a0_.node, .int .i64 a0_.parent, .int .i64 a0_.name]⟩, .agg ⟨[.int .i64 a1_.node, .int .i64 a1_.parent, .int .i64 a1_.name]⟩] ++ caps1) pre1 (fun (_ : Unit) => .int .i64 (cmp1 a0_ a1_)) (fun (_ : Unit) => [])) (hx : x1.length ≤ 15) (hg : Good cmp1 x1) : DoesG Try.prog 103 [y1.val x1.length, .func (.func f1) #[] ⟨caps1⟩] (pre1) ⟨[], [ownL EPlace 35 y1 y1b x1]⟩ (fun (_ : Unit) => .tuple #[]) (fun (_ : Unit) => []) (fun (_ : Unit) => ⟨[], [ownL EPlace 35 y1 y1b (slices_SortFunc_Place x1 cmp1)]⟩) := by
  refine does_ofG tab_ok Try.func103 rfl Try.ntmps103 Try.results103 rfl inferInstance (fun _ => inferInstance) fun C => ?_
  refine cw_lenO EPlace (e := 35) (X := y1) (b := y1b) (l := x1) Mm fun hl63y1 hleny1 => ?_
  simp only [show EPlace.by_ = 24 from rfl] at hleny1
  refine Tx ?_
  refine rw_q rfl rfl rfl (q_convU und_3 und_194 rfl rfl (fun _ => rfl) (fun _ => by omega)) ?_
  refine rw_call (bits_Len_spec (x1.length : Int) (by omega)) .sq (guard_none rfl) rfl rfl rfl Kr rfl rfl Sf ?_
  intro _
  refine Rp rfl rfl rfl rfl ?_
  refine rw_callG (slices_pdqsortCmpFunc_Place_spec y1 y1b x1 0 (x1.length : Int) (bits_Len (x1.length : Int)) _ _ _ cmp1 (by assumption) hfn1 (by have := bits_Len_in (n := (x1.length : Int)) (by omega); omega) hg (fun _ _ _ h => absurd h (by omega))) .sq (.inl ⟨_, rfl⟩) (guard_none rfl) rfl rfl rfl Kr rfl rfl Sf (.nil _) (by first | exact .cons (.here _ _) (.nil _) | exact .cons (.there _ (.here _ _)) (.nil _) | exact .cons (.there _ (.there _ (.here _ _))) (.nil _) | exact .cons (.there _ (.there _ (.there _ (.here _ _)))) (.nil _)) ?_
  intro _
  refine rw_nil ?_
  have hr1 : (slices_SortFunc_Place x1 cmp1) = (slices_pdqsortCmpFunc_Place x1 0 (x1.length : Int) (bits_Len (x1.length : Int)) cmp1) := by simp only [slices_SortFunc_Place, Bool.true_and, Bool.and_true, cond_true, cond_false]
  rw [hr1]
  exact ⟨(), _, .nil, rfl, Sf, .nil _, Sp⟩
end Go.Proofs.Ytchdacbjiomplaa
