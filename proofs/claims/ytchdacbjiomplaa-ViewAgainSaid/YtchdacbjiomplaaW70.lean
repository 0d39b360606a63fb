/- Part of this claim. No condition. -/
import Derived.Test.YtchdacbjiomplaaWBits
set_option linter.unusedVariables false
set_option linter.unusedSimpArgs false
set_option maxHeartbeats 2000000
namespace Go.Proofs.Ytchdacbjiomplaa
open Go Go.Proofs.Ytchdacbjiomplaa.Fw Go.Proofs
attribute [local irreducible] RdL RdN VarP RW CW
def slices_order2CmpFunc_Place (data1 : List Place) (a1 : Int) (b1 : Int) (swaps1 : Int) (cmp1 : Place → Place → Int) : Int × Int × Int :=
  (bif decide ((cmp1 (gt data1 b1.toNat) (gt data1 a1.toNat)) < 0) then (b1, a1, (swaps1 + 1)) else (a1, b1, swaps1))
theorem slices_order2CmpFunc_Place_spec (y1 : SlV) (data1 : List Place) (a1 : Int) (b1 : Int) (c1 : Nat) (swaps1 : Int) (f1 : Nat) (caps1 : List Value) (pre1 : List Pred) [StabL pre1] (cmp1 : Place → Place → Int) (hfb1 : tab.fnb f1 = true) (hfn1 : ∀ (a0_ : Place) (a1_ : Place), Does Try.prog f1 ([.agg ⟨[.int .i64 a0_.node, .int .i64 a0_.parent, .int .i64 a0_.name]⟩, .agg ⟨[.int .i64 a1_.node, .int .i64 a1_.parent, .int .i64 a1_.name]⟩] ++ caps1) pre1 (fun (_ : Unit) => .int .i64 (cmp1 a0_ a1_)) (fun (_ : Unit) => [])) (ha : 0 ≤ a1 ∧ a1 < (data1.length : Int)) (hb : 0 ≤ b1 ∧ b1 < (data1.length : Int)) (hs : 0 ≤ swaps1 ∧ swaps1 ≤ 1000) : DoesG Try.prog 218 [y1.val data1.length, .int .i64 a1, .int .i64 b1, .pointer (some ⟨c1, 0, none⟩), .func (.func f1) #[] ⟨caps1⟩] (RdL EPlace y1 data1 :: pre1) ⟨[⟨c1, 3, [.int .i64 swaps1]⟩], []⟩ (fun (_ : Unit) => .tuple #[.int .i64 ((slices_order2CmpFunc_Place data1 a1 b1 swaps1 cmp1).1), .int .i64 ((slices_order2CmpFunc_Place data1 a1 b1 swaps1 cmp1).2.1)]) (fun (_ : Unit) => []) (fun (_ : Unit) => ⟨[⟨c1, 3, [.int .i64 ((slices_order2CmpFunc_Place data1 a1 b1 swaps1 cmp1).2.2)]⟩], []⟩) := by
  refine does_ofG tab_ok Try.func218 rfl Try.ntmps218 Try.results218 rfl inferInstance (fun _ => inferInstance) fun C => ?_
  refine cw_pure (φ := data1.length * 24 ≤ 140737488355328) [RdL EPlace y1 data1] Sf (fun M w h => (allF1 h).len) fun hlen1 => ?_
  refine Tx ?_
  (repeat refine cw_seq ?_); refine cw_regionA (fun _ => some []) ?_
  refine Rb 0 [1,2,3,4,5,6,7,8] [9,10] rfl Qp ?_
  refine Rb 1 [2,5,6,7,8] [3,4,9,10] rfl Qp ?_
  refine Rb 2 [5,6,7,8] [3,4,9,10] rfl Qp ?_
  refine Rb 3 [5,6,7,8] [4,9,10] rfl (q_idx EPlace b1.toNat rfl rfl (fun _ => rfl) rfl (fun _ => rfl) rfl rfl rfl Mm rfl (fun _ => by omega) (fun _ => by first | assumption | omega)) ?_
  refine Rb 4 [5,6,7,8] [9,10] rfl (q_leA EPlace rfl rfl (fun _ => rfl) rfl rfl Mm (fun _ => by first | assumption | omega)) ?_
  refine Rb 5 [6] [7,8,9,10] rfl Qp ?_
  refine Rb 6 [] [7,8,9,10] rfl Qp ?_
  refine Rb 7 [] [8,9,10] rfl (q_idx EPlace a1.toNat rfl rfl (fun _ => rfl) rfl (fun _ => rfl) rfl rfl rfl Mm rfl (fun _ => by omega) (fun _ => by first | assumption | omega)) ?_
  refine Rb 8 [] [9,10] rfl (q_leA EPlace rfl rfl (fun _ => rfl) rfl rfl Mm (fun _ => by first | assumption | omega)) ?_
  refine ra_one 9 Kr ?_
  refine rw_callv (hfn1 (gt data1 b1.toNat) (gt data1 a1.toNat)) (.an rfl rfl) (guard_none rfl) rfl rfl rfl rfl rfl (by assumption) rfl rfl rfl Sf ?_
  intro _
  refine Ra 10 [] rfl Qp ?_
  refine ra_nil Kr ?_
  (repeat refine cw_seq ?_)
  refine Cd (b := decide ((cmp1 (gt data1 b1.toNat) (gt data1 a1.toNat)) < 0)) (fun hc1 => ?_) fun hc1 => ?_
  · have hc1p := of_decide_eq_true hc1
    refine Tx ?_
    refine rw_q rfl rfl rfl (q_add rfl rfl (fun _ => rfl) rfl (fun _ => rfl) (fun _ => by omega)) ?_
    refine Tx ?_
    have hr1 : (slices_order2CmpFunc_Place data1 a1 b1 swaps1 cmp1) = (b1, a1, (swaps1 + 1)) := by simp only [slices_order2CmpFunc_Place, hc1, cond_true, cond_false]
    refine cw_ret ?_
    rw [hr1]
    exact ⟨(), _, (.cons (.tmp rfl) (.cons (.tmp rfl) .nil)), rfl, Sf, Sp, Sp⟩
  · have hc1p := of_decide_eq_false hc1
    refine Tx ?_
    have hr2 : (slices_order2CmpFunc_Place data1 a1 b1 swaps1 cmp1) = (a1, b1, swaps1) := by simp only [slices_order2CmpFunc_Place, hc1, cond_true, cond_false]
    refine cw_ret ?_
    rw [hr2]
    exact ⟨(), _, (.cons (.tmp rfl) (.cons (.tmp rfl) .nil)), rfl, Sf, Sp, Sp⟩

theorem order2_in (d : List Place) (a b s : Int) (cmp : Place → Place → Int) {n : Int} (ha : 0 ≤ a ∧ a < n) (hb : 0 ≤ b ∧ b < n) : 0 ≤ (slices_order2CmpFunc_Place d a b s cmp).1 ∧ (slices_order2CmpFunc_Place d a b s cmp).1 < n ∧ 0 ≤ (slices_order2CmpFunc_Place d a b s cmp).2.1 ∧ (slices_order2CmpFunc_Place d a b s cmp).2.1 < n ∧ s ≤ (slices_order2CmpFunc_Place d a b s cmp).2.2 ∧ (slices_order2CmpFunc_Place d a b s cmp).2.2 ≤ s + 1 := by
  unfold slices_order2CmpFunc_Place
  cases decide (cmp (gt d b.toNat) (gt d a.toNat) < 0) with
  | true => simp only [cond_true]; omega
  | false => simp only [cond_false]; omega

def slices_medianCmpFunc_Place (data1 : List Place) (a1 : Int) (b1 : Int) (c1 : Int) (swaps1 : Int) (cmp1 : Place → Place → Int) : Int × Int :=
  ((slices_order2CmpFunc_Place data1 ((slices_order2CmpFunc_Place data1 a1 b1 swaps1 cmp1).1) ((slices_order2CmpFunc_Place data1 ((slices_order2CmpFunc_Place data1 a1 b1 swaps1 cmp1).2.1) c1 ((slices_order2CmpFunc_Place data1 a1 b1 swaps1 cmp1).2.2) cmp1).1) ((slices_order2CmpFunc_Place data1 ((slices_order2CmpFunc_Place data1 a1 b1 swaps1 cmp1).2.1) c1 ((slices_order2CmpFunc_Place data1 a1 b1 swaps1 cmp1).2.2) cmp1).2.2) cmp1).2.1, (slices_order2CmpFunc_Place data1 ((slices_order2CmpFunc_Place data1 a1 b1 swaps1 cmp1).1) ((slices_order2CmpFunc_Place data1 ((slices_order2CmpFunc_Place data1 a1 b1 swaps1 cmp1).2.1) c1 ((slices_order2CmpFunc_Place data1 a1 b1 swaps1 cmp1).2.2) cmp1).1) ((slices_order2CmpFunc_Place data1 ((slices_order2CmpFunc_Place data1 a1 b1 swaps1 cmp1).2.1) c1 ((slices_order2CmpFunc_Place data1 a1 b1 swaps1 cmp1).2.2) cmp1).2.2) cmp1).2.2)
theorem slices_medianCmpFunc_Place_spec (y1 : SlV) (data1 : List Place) (a1 : Int) (b1 : Int) (c1 : Int) (c2 : Nat) (swaps1 : Int) (f1 : Nat) (caps1 : List Value) (pre1 : List Pred) [StabL pre1] (cmp1 : Place → Place → Int) (hfb1 : tab.fnb f1 = true) (hfn1 : ∀ (a0_ : Place) (a1_ : Place), Does Try.prog f1 ([.agg ⟨[.int .i64 a0_.node, .int .i64 a0_.parent, .int .i64 a0_.name]⟩, .agg ⟨[.int .i64 a1_.node, .int .i64 a1_.parent, .int .i64 a1_.name]⟩] ++ caps1) pre1 (fun (_ : Unit) => .int .i64 (cmp1 a0_ a1_)) (fun (_ : Unit) => [])) (ha : 0 ≤ a1 ∧ a1 < (data1.length : Int)) (hb : 0 ≤ b1 ∧ b1 < (data1.length : Int)) (hc : 0 ≤ c1 ∧ c1 < (data1.length : Int)) (hs : 0 ≤ swaps1 ∧ swaps1 ≤ 100) : DoesG Try.prog 214 [y1.val data1.length, .int .i64 a1, .int .i64 b1, .int .i64 c1, .pointer (some ⟨c2, 0, none⟩), .func (.func f1) #[] ⟨caps1⟩] (RdL EPlace y1 data1 :: pre1) ⟨[⟨c2, 3, [.int .i64 swaps1]⟩], []⟩ (fun (_ : Unit) => .int .i64 ((slices_medianCmpFunc_Place data1 a1 b1 c1 swaps1 cmp1).1)) (fun (_ : Unit) => []) (fun (_ : Unit) => ⟨[⟨c2, 3, [.int .i64 ((slices_medianCmpFunc_Place data1 a1 b1 c1 swaps1 cmp1).2)]⟩], []⟩) := by
  refine does_ofG tab_ok Try.func214 rfl Try.ntmps214 Try.results214 rfl inferInstance (fun _ => inferInstance) fun C => ?_
  refine cw_pure (φ := data1.length * 24 ≤ 140737488355328) [RdL EPlace y1 data1] Sf (fun M w h => (allF1 h).len) fun hlen1 => ?_
  refine Tx ?_
  refine rw_callG (slices_order2CmpFunc_Place_spec y1 data1 a1 b1 c2 swaps1 _ _ _ cmp1 (by assumption) hfn1 (by first | assumption | omega) (by first | assumption | omega) (by first | assumption | omega)) .sq (.inl ⟨_, rfl⟩) (guard_none rfl) rfl rfl rfl Kr rfl rfl Sf (by first | exact .cons (.here _ _) (.nil _) | exact .cons (.there _ (.here _ _)) (.nil _) | exact .cons (.there _ (.there _ (.here _ _))) (.nil _) | exact .cons (.there _ (.there _ (.there _ (.here _ _)))) (.nil _)) (.nil _) ?_
  intro _
  have h1 := order2_in data1 a1 b1 swaps1 cmp1 ha hb
  refine Tx ?_
  refine rw_callG (slices_order2CmpFunc_Place_spec y1 data1 ((slices_order2CmpFunc_Place data1 a1 b1 swaps1 cmp1).2.1) c1 c2 ((slices_order2CmpFunc_Place data1 a1 b1 swaps1 cmp1).2.2) _ _ _ cmp1 (by assumption) hfn1 (by first | assumption | omega) (by first | assumption | omega) (by first | assumption | omega)) .sq (.inl ⟨_, rfl⟩) (guard_none rfl) rfl rfl rfl Kr rfl rfl Sf (by first | exact .cons (.here _ _) (.nil _) | exact .cons (.there _ (.here _ _)) (.nil _) | exact .cons (.there _ (.there _ (.here _ _))) (.nil _) | exact .cons (.there _ (.there _ (.there _ (.here _ _)))) (.nil _)) (.nil _) ?_
  intro _
  have h2 := order2_in data1 (slices_order2CmpFunc_Place data1 a1 b1 swaps1 cmp1).2.1 c1 (slices_order2CmpFunc_Place data1 a1 b1 swaps1 cmp1).2.2 cmp1 (n := (data1.length : Int)) (by omega) hc
  refine Tx ?_
  refine rw_callG (slices_order2CmpFunc_Place_spec y1 data1 ((slices_order2CmpFunc_Place data1 a1 b1 swaps1 cmp1).1) ((slices_order2CmpFunc_Place data1 ((slices_order2CmpFunc_Place data1 a1 b1 swaps1 cmp1).2.1) c1 ((slices_order2CmpFunc_Place data1 a1 b1 swaps1 cmp1).2.2) cmp1).1) c2 ((slices_order2CmpFunc_Place data1 ((slices_order2CmpFunc_Place data1 a1 b1 swaps1 cmp1).2.1) c1 ((slices_order2CmpFunc_Place data1 a1 b1 swaps1 cmp1).2.2) cmp1).2.2) _ _ _ cmp1 (by assumption) hfn1 (by first | assumption | omega) (by first | assumption | omega) (by first | assumption | omega)) .sq (.inl ⟨_, rfl⟩) (guard_none rfl) rfl rfl rfl Kr rfl rfl Sf (by first | exact .cons (.here _ _) (.nil _) | exact .cons (.there _ (.here _ _)) (.nil _) | exact .cons (.there _ (.there _ (.here _ _))) (.nil _) | exact .cons (.there _ (.there _ (.there _ (.here _ _)))) (.nil _)) (.nil _) ?_
  intro _
  have h3 := order2_in data1 (slices_order2CmpFunc_Place data1 a1 b1 swaps1 cmp1).1 (slices_order2CmpFunc_Place data1 (slices_order2CmpFunc_Place data1 a1 b1 swaps1 cmp1).2.1 c1 (slices_order2CmpFunc_Place data1 a1 b1 swaps1 cmp1).2.2 cmp1).1 (slices_order2CmpFunc_Place data1 (slices_order2CmpFunc_Place data1 a1 b1 swaps1 cmp1).2.1 c1 (slices_order2CmpFunc_Place data1 a1 b1 swaps1 cmp1).2.2 cmp1).2.2 cmp1 (n := (data1.length : Int)) (by omega) (by omega)
  refine Tx ?_
  have hr1 : (slices_medianCmpFunc_Place data1 a1 b1 c1 swaps1 cmp1) = ((slices_order2CmpFunc_Place data1 ((slices_order2CmpFunc_Place data1 a1 b1 swaps1 cmp1).1) ((slices_order2CmpFunc_Place data1 ((slices_order2CmpFunc_Place data1 a1 b1 swaps1 cmp1).2.1) c1 ((slices_order2CmpFunc_Place data1 a1 b1 swaps1 cmp1).2.2) cmp1).1) ((slices_order2CmpFunc_Place data1 ((slices_order2CmpFunc_Place data1 a1 b1 swaps1 cmp1).2.1) c1 ((slices_order2CmpFunc_Place data1 a1 b1 swaps1 cmp1).2.2) cmp1).2.2) cmp1).2.1, (slices_order2CmpFunc_Place data1 ((slices_order2CmpFunc_Place data1 a1 b1 swaps1 cmp1).1) ((slices_order2CmpFunc_Place data1 ((slices_order2CmpFunc_Place data1 a1 b1 swaps1 cmp1).2.1) c1 ((slices_order2CmpFunc_Place data1 a1 b1 swaps1 cmp1).2.2) cmp1).1) ((slices_order2CmpFunc_Place data1 ((slices_order2CmpFunc_Place data1 a1 b1 swaps1 cmp1).2.1) c1 ((slices_order2CmpFunc_Place data1 a1 b1 swaps1 cmp1).2.2) cmp1).2.2) cmp1).2.2) := by simp only [slices_medianCmpFunc_Place, cond_true, cond_false]
  refine cw_ret ?_
  rw [hr1]
  exact ⟨(), _, (.cons (.tmp rfl) .nil), rfl, Sf, Sp, Sp⟩

theorem median_in (d : List Place) (a b c s : Int) (cmp : Place → Place → Int) {n : Int} (ha : 0 ≤ a ∧ a < n) (hb : 0 ≤ b ∧ b < n) (hc : 0 ≤ c ∧ c < n) : 0 ≤ (slices_medianCmpFunc_Place d a b c s cmp).1 ∧ (slices_medianCmpFunc_Place d a b c s cmp).1 < n ∧ s ≤ (slices_medianCmpFunc_Place d a b c s cmp).2 ∧ (slices_medianCmpFunc_Place d a b c s cmp).2 ≤ s + 3 := by
  unfold slices_medianCmpFunc_Place
  have h1 := order2_in d a b s cmp ha hb
  have h2 := order2_in d (slices_order2CmpFunc_Place d a b s cmp).2.1 c (slices_order2CmpFunc_Place d a b s cmp).2.2 cmp (n := n) (by omega) hc
  have h3 := order2_in d (slices_order2CmpFunc_Place d a b s cmp).1 (slices_order2CmpFunc_Place d (slices_order2CmpFunc_Place d a b s cmp).2.1 c (slices_order2CmpFunc_Place d a b s cmp).2.2 cmp).1 (slices_order2CmpFunc_Place d (slices_order2CmpFunc_Place d a b s cmp).2.1 c (slices_order2CmpFunc_Place d a b s cmp).2.2 cmp).2.2 cmp (n := n) (by omega) (by omega)
  simp only
  omega

def slices_choosePivotCmpFunc_Place (data1 : List Place) (a1 : Int) (b1 : Int) (cmp1 : Place → Place → Int) : Int × Int :=
  (bif decide ((b1 - a1) ≥ 8) then (bif decide ((b1 - a1) ≥ 50) then (0, 0) else (bif (((slices_medianCmpFunc_Place data1 (a1 + (((b1 - a1) / 4) * 1)) (a1 + (((b1 - a1) / 4) * 2)) (a1 + (((b1 - a1) / 4) * 3)) 0 cmp1).2) == 0) then ((slices_medianCmpFunc_Place data1 (a1 + (((b1 - a1) / 4) * 1)) (a1 + (((b1 - a1) / 4) * 2)) (a1 + (((b1 - a1) / 4) * 3)) 0 cmp1).1, 1) else (bif (((slices_medianCmpFunc_Place data1 (a1 + (((b1 - a1) / 4) * 1)) (a1 + (((b1 - a1) / 4) * 2)) (a1 + (((b1 - a1) / 4) * 3)) 0 cmp1).2) == 12) then ((slices_medianCmpFunc_Place data1 (a1 + (((b1 - a1) / 4) * 1)) (a1 + (((b1 - a1) / 4) * 2)) (a1 + (((b1 - a1) / 4) * 3)) 0 cmp1).1, 2) else ((slices_medianCmpFunc_Place data1 (a1 + (((b1 - a1) / 4) * 1)) (a1 + (((b1 - a1) / 4) * 2)) (a1 + (((b1 - a1) / 4) * 3)) 0 cmp1).1, 0)))) else (0, 0))
theorem slices_choosePivotCmpFunc_Place_spec (y1 : SlV) (data1 : List Place) (a1 : Int) (b1 : Int) (f1 : Nat) (caps1 : List Value) (pre1 : List Pred) [StabL pre1] (cmp1 : Place → Place → Int) (hfb1 : tab.fnb f1 = true) (hfn1 : ∀ (a0_ : Place) (a1_ : Place), Does Try.prog f1 ([.agg ⟨[.int .i64 a0_.node, .int .i64 a0_.parent, .int .i64 a0_.name]⟩, .agg ⟨[.int .i64 a1_.node, .int .i64 a1_.parent, .int .i64 a1_.name]⟩] ++ caps1) pre1 (fun (_ : Unit) => .int .i64 (cmp1 a0_ a1_)) (fun (_ : Unit) => [])) (hab : 0 ≤ a1 ∧ a1 + 8 ≤ b1 ∧ b1 ≤ (data1.length : Int) ∧ b1 - a1 < 50) : Does Try.prog 194 [y1.val data1.length, .int .i64 a1, .int .i64 b1, .func (.func f1) #[] ⟨caps1⟩] (RdL EPlace y1 data1 :: pre1) (fun (_ : Unit) => .tuple #[.int .i64 ((slices_choosePivotCmpFunc_Place data1 a1 b1 cmp1).1), .int .i64 ((slices_choosePivotCmpFunc_Place data1 a1 b1 cmp1).2)]) (fun (_ : Unit) => []) := by
  refine does_of tab_ok Try.func194 rfl Try.ntmps194 Try.results194 rfl inferInstance (fun _ => inferInstance) fun C => ?_
  refine cw_pure (φ := data1.length * 24 ≤ 140737488355328) [RdL EPlace y1 data1] Sf (fun M w h => (allF1 h).len) fun hlen1 => ?_
  refine Tx ?_
  refine rw_q rfl rfl rfl (q_sub rfl rfl (fun _ => rfl) rfl (fun _ => rfl) (fun _ => by omega)) ?_
  refine Tx ?_
  refine Al fun g1 => ?_
  refine Tx ?_
  refine rw_q rfl rfl rfl (q_quo rfl rfl (fun _ => rfl) rfl (fun _ => rfl) (fun _ => by omega)) ?_
  refine rw_q rfl rfl rfl (q_mul rfl rfl (fun _ => rfl) rfl (fun _ => rfl) (fun _ => by omega)) ?_
  refine rw_q rfl rfl rfl (q_add rfl rfl (fun _ => rfl) rfl (fun _ => rfl) (fun _ => by omega)) ?_
  refine Tx ?_
  refine rw_q rfl rfl rfl (q_quo rfl rfl (fun _ => rfl) rfl (fun _ => rfl) (fun _ => by omega)) ?_
  refine rw_q rfl rfl rfl (q_mul rfl rfl (fun _ => rfl) rfl (fun _ => rfl) (fun _ => by omega)) ?_
  refine rw_q rfl rfl rfl (q_add rfl rfl (fun _ => rfl) rfl (fun _ => rfl) (fun _ => by omega)) ?_
  refine Tx ?_
  refine rw_q rfl rfl rfl (q_quo rfl rfl (fun _ => rfl) rfl (fun _ => rfl) (fun _ => by omega)) ?_
  refine rw_q rfl rfl rfl (q_mul rfl rfl (fun _ => rfl) rfl (fun _ => rfl) (fun _ => by omega)) ?_
  refine rw_q rfl rfl rfl (q_add rfl rfl (fun _ => rfl) rfl (fun _ => rfl) (fun _ => by omega)) ?_
  refine Tx ?_
  refine Cd (b := decide ((b1 - a1) ≥ 8)) (fun hc1 => ?_) fun hc1 => ?_
  · have hc1p := of_decide_eq_true hc1
    refine Tx ?_
    refine Cd (b := decide ((b1 - a1) ≥ 50)) (fun hc2 => ?_) fun hc2 => ?_
    · have hc2p := of_decide_eq_true hc2
      exact absurd (of_decide_eq_true hc2) (by omega)
    · have hc2p := of_decide_eq_false hc2
      refine Tx ?_
      refine rw_callG (slices_medianCmpFunc_Place_spec y1 data1 (a1 + (((b1 - a1) / 4) * 1)) (a1 + (((b1 - a1) / 4) * 2)) (a1 + (((b1 - a1) / 4) * 3)) g1 0 _ _ _ cmp1 (by assumption) hfn1 (by first | assumption | omega) (by first | assumption | omega) (by first | assumption | omega) (by first | assumption | omega)) .sq (.inl ⟨_, rfl⟩) (guard_none rfl) rfl rfl rfl Kr rfl rfl Sf (by first | exact .cons (.here _ _) (.nil _) | exact .cons (.there _ (.here _ _)) (.nil _) | exact .cons (.there _ (.there _ (.here _ _))) (.nil _) | exact .cons (.there _ (.there _ (.there _ (.here _ _)))) (.nil _)) (.nil _) ?_
      intro _
      refine Tx ?_
      refine Cd (b := (((slices_medianCmpFunc_Place data1 (a1 + (((b1 - a1) / 4) * 1)) (a1 + (((b1 - a1) / 4) * 2)) (a1 + (((b1 - a1) / 4) * 3)) 0 cmp1).2) == 0)) (fun hc3 => ?_) fun hc3 => ?_
      · have hc3p := eq_of_beq hc3
        refine Tx ?_
        have hr1 : (slices_choosePivotCmpFunc_Place data1 a1 b1 cmp1) = ((slices_medianCmpFunc_Place data1 (a1 + (((b1 - a1) / 4) * 1)) (a1 + (((b1 - a1) / 4) * 2)) (a1 + (((b1 - a1) / 4) * 3)) 0 cmp1).1, 1) := by simp only [slices_choosePivotCmpFunc_Place, hc1, hc2, hc3, cond_true, cond_false]
        refine cw_ret ?_
        rw [hr1]
        exact ⟨(), _, (.cons (.tmp rfl) (.cons (.tmp rfl) .nil)), rfl, Sf, .nil _, .nil _⟩
      · have hc3p := ne_of_beq_false hc3
        refine Tx ?_
        refine Cd (b := (((slices_medianCmpFunc_Place data1 (a1 + (((b1 - a1) / 4) * 1)) (a1 + (((b1 - a1) / 4) * 2)) (a1 + (((b1 - a1) / 4) * 3)) 0 cmp1).2) == 12)) (fun hc4 => ?_) fun hc4 => ?_
        · have hc4p := eq_of_beq hc4
          refine Tx ?_
          have hr2 : (slices_choosePivotCmpFunc_Place data1 a1 b1 cmp1) = ((slices_medianCmpFunc_Place data1 (a1 + (((b1 - a1) / 4) * 1)) (a1 + (((b1 - a1) / 4) * 2)) (a1 + (((b1 - a1) / 4) * 3)) 0 cmp1).1, 2) := by simp only [slices_choosePivotCmpFunc_Place, hc1, hc2, hc3, hc4, cond_true, cond_false]
          refine cw_ret ?_
          rw [hr2]
          exact ⟨(), _, (.cons (.tmp rfl) (.cons (.tmp rfl) .nil)), rfl, Sf, .nil _, .nil _⟩
        · have hc4p := ne_of_beq_false hc4
          refine Tx ?_
          have hr3 : (slices_choosePivotCmpFunc_Place data1 a1 b1 cmp1) = ((slices_medianCmpFunc_Place data1 (a1 + (((b1 - a1) / 4) * 1)) (a1 + (((b1 - a1) / 4) * 2)) (a1 + (((b1 - a1) / 4) * 3)) 0 cmp1).1, 0) := by simp only [slices_choosePivotCmpFunc_Place, hc1, hc2, hc3, hc4, cond_true, cond_false]
          refine cw_ret ?_
          rw [hr3]
          exact ⟨(), _, (.cons (.tmp rfl) (.cons (.tmp rfl) .nil)), rfl, Sf, .nil _, .nil _⟩
  · have hc1p := of_decide_eq_false hc1
    exact absurd (of_decide_eq_false hc1) (by omega)
end Go.Proofs.Ytchdacbjiomplaa
