/- Part of this claim. No condition. -/
import Derived.Test.YtchdacbjiomplaaW70
import Derived.Test.YtchdacbjiomplaaW71
import Derived.Test.YtchdacbjiomplaaW72
import Derived.Test.YtchdacbjiomplaaW20
set_option linter.unusedVariables false
set_option linter.unusedSimpArgs false
set_option maxHeartbeats 2000000
namespace Go.Proofs.Ytchdacbjiomplaa
open Go Go.Proofs.Ytchdacbjiomplaa.Fw Go.Proofs
attribute [local irreducible] RW CW
def slices_pdq12_Place (data1 : List Place) (a1 : Int) (b1 : Int) (limit1 : Int) (cmp1 : Place → Place → Int) : List Place :=
  (bif decide ((b1 - a1) ≤ 12) then (slices_insertionSortCmpFunc_Place data1 a1 b1 cmp1) else [])
theorem slices_pdq12_Place_spec (y1 : SlV) (y1b : Option Nat) (data1 : List Place) (a1 : Int) (b1 : Int) (limit1 : Int) (f1 : Nat) (caps1 : List Value) (pre1 : List Pred) [StabL pre1] (cmp1 : Place → Place → Int) (hfb1 : tab.fnb f1 = true) (hfn1 : ∀ (a0_ : Place) (a1_ : Place), Does Try.prog f1 ([.agg ⟨[.int .i64 a0_.node, .int .i64 a0_.parent, .int .i64 a0_.name]⟩, .agg ⟨[.int .i64 a1_.node, .int .i64 a1_.parent, .int .i64 a1_.name]⟩] ++ caps1) pre1 (fun (_ : Unit) => .int .i64 (cmp1 a0_ a1_)) (fun (_ : Unit) => [])) (hab : 0 ≤ a1 ∧ a1 ≤ b1 ∧ b1 ≤ (data1.length : Int) ∧ b1 - a1 ≤ 12) : DoesG Try.prog 170 [y1.val data1.length, .int .i64 a1, .int .i64 b1, .int .i64 limit1, .func (.func f1) #[] ⟨caps1⟩] (pre1) ⟨[], [ownL EPlace 35 y1 y1b data1]⟩ (fun (_ : Unit) => .tuple #[]) (fun (_ : Unit) => []) (fun (_ : Unit) => ⟨[], [ownL EPlace 35 y1 y1b (slices_pdq12_Place data1 a1 b1 limit1 cmp1)]⟩) := by
  refine does_ofG tab_ok Try.func170 rfl Try.ntmps170 Try.results170 rfl inferInstance (fun _ => inferInstance) fun C => ?_
  refine cw_lenO EPlace (e := 35) (X := y1) (b := y1b) (l := data1) Mm fun hl63y1 hleny1 => ?_
  simp only [show EPlace.by_ = 24 from rfl] at hleny1
  refine Tx ?_
  (repeat refine cw_seq ?_); refine cw_once ?_
  refine Tx ?_
  refine rw_q rfl rfl rfl (q_sub rfl rfl (fun _ => rfl) rfl (fun _ => rfl) (fun _ => by omega)) ?_
  refine Tx ?_
  refine Cd (b := decide ((b1 - a1) ≤ 12)) (fun hc1 => ?_) fun hc1 => ?_
  · have hc1p := of_decide_eq_true hc1
    refine Tx ?_
    refine rw_callG (slices_insertionSortCmpFunc_Place_spec y1 y1b data1 a1 b1 _ _ _ cmp1 (by assumption) hfn1 (by omega)) .sq (.inl ⟨_, rfl⟩) (guard_none rfl) rfl rfl rfl Kr rfl rfl Sf (.nil _) (by first | exact .cons (.here _ _) (.nil _) | exact .cons (.there _ (.here _ _)) (.nil _) | exact .cons (.there _ (.there _ (.here _ _))) (.nil _) | exact .cons (.there _ (.there _ (.there _ (.here _ _)))) (.nil _)) ?_
    intro _
    refine Tx ?_
    have hr1 : (slices_pdq12_Place data1 a1 b1 limit1 cmp1) = (slices_insertionSortCmpFunc_Place data1 a1 b1 cmp1) := by simp only [slices_pdq12_Place, hc1, Bool.true_and, Bool.and_true, cond_true, cond_false]
    refine cw_ret ?_
    rw [hr1]
    exact ⟨(), _, .nil, rfl, Sf, .nil _, Sp⟩
  · have hc1p := of_decide_eq_false hc1
    exact absurd (of_decide_eq_false hc1) (by omega)

structure Good (cmp : Place → Place → Int) (d : List Place) : Prop where
  ord : ∀ p ∈ d, ∀ q ∈ d, (cmp p q < 0 ↔ p.node < q.node)
  nd : (d.map Place.node).Nodup
def Below (cmp : Place → Place → Int) (d : List Place) (a b : Int) : Prop := ∀ i : Int, a ≤ i → i < b → 0 < a → cmp (gt d (a - 1).toNat) (gt d i.toNat) < 0
structure PdqStep (cmp : Place → Place → Int) (d : List Place) (a b l : Int) : Prop where
  pv : a ≤ (slices_choosePivotCmpFunc_Place d a b cmp).1 ∧ (slices_choosePivotCmpFunc_Place d a b cmp).1 < b
  hint : (slices_choosePivotCmpFunc_Place d a b cmp).2 ≠ 2
  low : 0 < a → cmp (gt d (a - 1).toNat) (gt d (slices_choosePivotCmpFunc_Place d a b cmp).1.toNat) < 0
  mid : a + 1 ≤ (slices_partitionCmpFunc_Place d a b (slices_choosePivotCmpFunc_Place d a b cmp).1 cmp).1 ∧ (slices_partitionCmpFunc_Place d a b (slices_choosePivotCmpFunc_Place d a b cmp).1 cmp).1 + 2 ≤ b
  len : (slices_partitionCmpFunc_Place d a b (slices_choosePivotCmpFunc_Place d a b cmp).1 cmp).2.2.length = d.length
  gl : (slices_partitionCmpFunc_Place d a b (slices_choosePivotCmpFunc_Place d a b cmp).1 cmp).1 - a ≤ 12 → Good cmp (slices_pdq12_Place (slices_partitionCmpFunc_Place d a b (slices_choosePivotCmpFunc_Place d a b cmp).1 cmp).2.2 a (slices_partitionCmpFunc_Place d a b (slices_choosePivotCmpFunc_Place d a b cmp).1 cmp).1 l cmp)
  bl : (slices_partitionCmpFunc_Place d a b (slices_choosePivotCmpFunc_Place d a b cmp).1 cmp).1 - a ≤ 12 → Below cmp (slices_pdq12_Place (slices_partitionCmpFunc_Place d a b (slices_choosePivotCmpFunc_Place d a b cmp).1 cmp).2.2 a (slices_partitionCmpFunc_Place d a b (slices_choosePivotCmpFunc_Place d a b cmp).1 cmp).1 l cmp) ((slices_partitionCmpFunc_Place d a b (slices_choosePivotCmpFunc_Place d a b cmp).1 cmp).1 + 1) b
  gr : b - ((slices_partitionCmpFunc_Place d a b (slices_choosePivotCmpFunc_Place d a b cmp).1 cmp).1 + 1) ≤ 12 → Good cmp (slices_pdq12_Place (slices_partitionCmpFunc_Place d a b (slices_choosePivotCmpFunc_Place d a b cmp).1 cmp).2.2 ((slices_partitionCmpFunc_Place d a b (slices_choosePivotCmpFunc_Place d a b cmp).1 cmp).1 + 1) b l cmp)
  br : b - ((slices_partitionCmpFunc_Place d a b (slices_choosePivotCmpFunc_Place d a b cmp).1 cmp).1 + 1) ≤ 12 → Below cmp (slices_pdq12_Place (slices_partitionCmpFunc_Place d a b (slices_choosePivotCmpFunc_Place d a b cmp).1 cmp).2.2 ((slices_partitionCmpFunc_Place d a b (slices_choosePivotCmpFunc_Place d a b cmp).1 cmp).1 + 1) b l cmp) a (slices_partitionCmpFunc_Place d a b (slices_choosePivotCmpFunc_Place d a b cmp).1 cmp).1
  ll : (slices_partitionCmpFunc_Place d a b (slices_choosePivotCmpFunc_Place d a b cmp).1 cmp).1 - a ≤ 12 → (slices_pdq12_Place (slices_partitionCmpFunc_Place d a b (slices_choosePivotCmpFunc_Place d a b cmp).1 cmp).2.2 a (slices_partitionCmpFunc_Place d a b (slices_choosePivotCmpFunc_Place d a b cmp).1 cmp).1 l cmp).length = d.length
  lr : b - ((slices_partitionCmpFunc_Place d a b (slices_choosePivotCmpFunc_Place d a b cmp).1 cmp).1 + 1) ≤ 12 → (slices_pdq12_Place (slices_partitionCmpFunc_Place d a b (slices_choosePivotCmpFunc_Place d a b cmp).1 cmp).2.2 ((slices_partitionCmpFunc_Place d a b (slices_choosePivotCmpFunc_Place d a b cmp).1 cmp).1 + 1) b l cmp).length = d.length
theorem pdq12_eq (d : List Place) (a b l : Int) (cmp : Place → Place → Int) (h : b - a ≤ 12) : slices_pdq12_Place d a b l cmp = slices_insertionSortCmpFunc_Place d a b cmp := by
  unfold slices_pdq12_Place
  rw [decide_eq_true h]
  rfl
end Go.Proofs.Ytchdacbjiomplaa
