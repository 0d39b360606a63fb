/- Part of this claim. No condition. -/
import Derived.Test.YtchdacbjiomplaaLPdq
set_option linter.unusedVariables false
set_option linter.unusedSimpArgs false
set_option maxHeartbeats 2000000
namespace Go.Proofs.Ytchdacbjiomplaa
open Go Go.Proofs.Ytchdacbjiomplaa.Fw Go.Proofs
attribute [local irreducible] RdL RdN VarP RW CW
def slices_pdqsortCmpFunc_Place_L0 (limit1 : Int) (cmp1 : Place → Place → Int) : Nat → (List Place) → Int → Int → Bool → Bool → (List Place)
  | 0, data2, a2, b2, wasBalanced1, wasPartitioned1 => []
  | f_k0 + 1, data2, a2, b2, wasBalanced1, wasPartitioned1 => (bif decide ((b2 - a2) ≤ 12) then (slices_insertionSortCmpFunc_Place data2 a2 b2 cmp1) else (bif (limit1 == 0) then [] else (bif (!wasBalanced1) then [] else (bif (((slices_choosePivotCmpFunc_Place data2 a2 b2 cmp1).2) == 2) then [] else (bif ((wasBalanced1 && wasPartitioned1) && (((slices_choosePivotCmpFunc_Place data2 a2 b2 cmp1).2) == 1)) then (bif (slices_partialInsertionSortCmpFunc_Place data2 a2 b2 cmp1) then data2 else (bif decide (a2 > 0) then (bif (decide (a2 > 0) && (!(decide ((cmp1 (gt data2 ((a2 - 1).toNat)) (gt data2 (((slices_choosePivotCmpFunc_Place data2 a2 b2 cmp1).1).toNat))) < 0)))) then [] else (bif decide ((((slices_partitionCmpFunc_Place data2 a2 b2 ((slices_choosePivotCmpFunc_Place data2 a2 b2 cmp1).1) cmp1).1) - a2) < (b2 - ((slices_partitionCmpFunc_Place data2 a2 b2 ((slices_choosePivotCmpFunc_Place data2 a2 b2 cmp1).1) cmp1).1))) then (slices_pdqsortCmpFunc_Place_L0 limit1 cmp1 f_k0 (slices_pdq12_Place ((slices_partitionCmpFunc_Place data2 a2 b2 ((slices_choosePivotCmpFunc_Place data2 a2 b2 cmp1).1) cmp1).2.2) a2 ((slices_partitionCmpFunc_Place data2 a2 b2 ((slices_choosePivotCmpFunc_Place data2 a2 b2 cmp1).1) cmp1).1) limit1 cmp1) (((slices_partitionCmpFunc_Place data2 a2 b2 ((slices_choosePivotCmpFunc_Place data2 a2 b2 cmp1).1) cmp1).1) + 1) b2 (decide ((((slices_partitionCmpFunc_Place data2 a2 b2 ((slices_choosePivotCmpFunc_Place data2 a2 b2 cmp1).1) cmp1).1) - a2) ≥ ((b2 - a2) / 8))) ((slices_partitionCmpFunc_Place data2 a2 b2 ((slices_choosePivotCmpFunc_Place data2 a2 b2 cmp1).1) cmp1).2.1)) else (slices_pdqsortCmpFunc_Place_L0 limit1 cmp1 f_k0 (slices_pdq12_Place ((slices_partitionCmpFunc_Place data2 a2 b2 ((slices_choosePivotCmpFunc_Place data2 a2 b2 cmp1).1) cmp1).2.2) (((slices_partitionCmpFunc_Place data2 a2 b2 ((slices_choosePivotCmpFunc_Place data2 a2 b2 cmp1).1) cmp1).1) + 1) b2 limit1 cmp1) a2 ((slices_partitionCmpFunc_Place data2 a2 b2 ((slices_choosePivotCmpFunc_Place data2 a2 b2 cmp1).1) cmp1).1) (decide ((b2 - ((slices_partitionCmpFunc_Place data2 a2 b2 ((slices_choosePivotCmpFunc_Place data2 a2 b2 cmp1).1) cmp1).1)) ≥ ((b2 - a2) / 8))) ((slices_partitionCmpFunc_Place data2 a2 b2 ((slices_choosePivotCmpFunc_Place data2 a2 b2 cmp1).1) cmp1).2.1)))) else (bif decide ((((slices_partitionCmpFunc_Place data2 a2 b2 ((slices_choosePivotCmpFunc_Place data2 a2 b2 cmp1).1) cmp1).1) - a2) < (b2 - ((slices_partitionCmpFunc_Place data2 a2 b2 ((slices_choosePivotCmpFunc_Place data2 a2 b2 cmp1).1) cmp1).1))) then (slices_pdqsortCmpFunc_Place_L0 limit1 cmp1 f_k0 (slices_pdq12_Place ((slices_partitionCmpFunc_Place data2 a2 b2 ((slices_choosePivotCmpFunc_Place data2 a2 b2 cmp1).1) cmp1).2.2) a2 ((slices_partitionCmpFunc_Place data2 a2 b2 ((slices_choosePivotCmpFunc_Place data2 a2 b2 cmp1).1) cmp1).1) limit1 cmp1) (((slices_partitionCmpFunc_Place data2 a2 b2 ((slices_choosePivotCmpFunc_Place data2 a2 b2 cmp1).1) cmp1).1) + 1) b2 (decide ((((slices_partitionCmpFunc_Place data2 a2 b2 ((slices_choosePivotCmpFunc_Place data2 a2 b2 cmp1).1) cmp1).1) - a2) ≥ ((b2 - a2) / 8))) ((slices_partitionCmpFunc_Place data2 a2 b2 ((slices_choosePivotCmpFunc_Place data2 a2 b2 cmp1).1) cmp1).2.1)) else (slices_pdqsortCmpFunc_Place_L0 limit1 cmp1 f_k0 (slices_pdq12_Place ((slices_partitionCmpFunc_Place data2 a2 b2 ((slices_choosePivotCmpFunc_Place data2 a2 b2 cmp1).1) cmp1).2.2) (((slices_partitionCmpFunc_Place data2 a2 b2 ((slices_choosePivotCmpFunc_Place data2 a2 b2 cmp1).1) cmp1).1) + 1) b2 limit1 cmp1) a2 ((slices_partitionCmpFunc_Place data2 a2 b2 ((slices_choosePivotCmpFunc_Place data2 a2 b2 cmp1).1) cmp1).1) (decide ((b2 - ((slices_partitionCmpFunc_Place data2 a2 b2 ((slices_choosePivotCmpFunc_Place data2 a2 b2 cmp1).1) cmp1).1)) ≥ ((b2 - a2) / 8))) ((slices_partitionCmpFunc_Place data2 a2 b2 ((slices_choosePivotCmpFunc_Place data2 a2 b2 cmp1).1) cmp1).2.1))))) else (bif decide (a2 > 0) then (bif (decide (a2 > 0) && (!(decide ((cmp1 (gt data2 ((a2 - 1).toNat)) (gt data2 (((slices_choosePivotCmpFunc_Place data2 a2 b2 cmp1).1).toNat))) < 0)))) then [] else (bif decide ((((slices_partitionCmpFunc_Place data2 a2 b2 ((slices_choosePivotCmpFunc_Place data2 a2 b2 cmp1).1) cmp1).1) - a2) < (b2 - ((slices_partitionCmpFunc_Place data2 a2 b2 ((slices_choosePivotCmpFunc_Place data2 a2 b2 cmp1).1) cmp1).1))) then (slices_pdqsortCmpFunc_Place_L0 limit1 cmp1 f_k0 (slices_pdq12_Place ((slices_partitionCmpFunc_Place data2 a2 b2 ((slices_choosePivotCmpFunc_Place data2 a2 b2 cmp1).1) cmp1).2.2) a2 ((slices_partitionCmpFunc_Place data2 a2 b2 ((slices_choosePivotCmpFunc_Place data2 a2 b2 cmp1).1) cmp1).1) limit1 cmp1) (((slices_partitionCmpFunc_Place data2 a2 b2 ((slices_choosePivotCmpFunc_Place data2 a2 b2 cmp1).1) cmp1).1) + 1) b2 (decide ((((slices_partitionCmpFunc_Place data2 a2 b2 ((slices_choosePivotCmpFunc_Place data2 a2 b2 cmp1).1) cmp1).1) - a2) ≥ ((b2 - a2) / 8))) ((slices_partitionCmpFunc_Place data2 a2 b2 ((slices_choosePivotCmpFunc_Place data2 a2 b2 cmp1).1) cmp1).2.1)) else (slices_pdqsortCmpFunc_Place_L0 limit1 cmp1 f_k0 (slices_pdq12_Place ((slices_partitionCmpFunc_Place data2 a2 b2 ((slices_choosePivotCmpFunc_Place data2 a2 b2 cmp1).1) cmp1).2.2) (((slices_partitionCmpFunc_Place data2 a2 b2 ((slices_choosePivotCmpFunc_Place data2 a2 b2 cmp1).1) cmp1).1) + 1) b2 limit1 cmp1) a2 ((slices_partitionCmpFunc_Place data2 a2 b2 ((slices_choosePivotCmpFunc_Place data2 a2 b2 cmp1).1) cmp1).1) (decide ((b2 - ((slices_partitionCmpFunc_Place data2 a2 b2 ((slices_choosePivotCmpFunc_Place data2 a2 b2 cmp1).1) cmp1).1)) ≥ ((b2 - a2) / 8))) ((slices_partitionCmpFunc_Place data2 a2 b2 ((slices_choosePivotCmpFunc_Place data2 a2 b2 cmp1).1) cmp1).2.1)))) else (bif decide ((((slices_partitionCmpFunc_Place data2 a2 b2 ((slices_choosePivotCmpFunc_Place data2 a2 b2 cmp1).1) cmp1).1) - a2) < (b2 - ((slices_partitionCmpFunc_Place data2 a2 b2 ((slices_choosePivotCmpFunc_Place data2 a2 b2 cmp1).1) cmp1).1))) then (slices_pdqsortCmpFunc_Place_L0 limit1 cmp1 f_k0 (slices_pdq12_Place ((slices_partitionCmpFunc_Place data2 a2 b2 ((slices_choosePivotCmpFunc_Place data2 a2 b2 cmp1).1) cmp1).2.2) a2 ((slices_partitionCmpFunc_Place data2 a2 b2 ((slices_choosePivotCmpFunc_Place data2 a2 b2 cmp1).1) cmp1).1) limit1 cmp1) (((slices_partitionCmpFunc_Place data2 a2 b2 ((slices_choosePivotCmpFunc_Place data2 a2 b2 cmp1).1) cmp1).1) + 1) b2 (decide ((((slices_partitionCmpFunc_Place data2 a2 b2 ((slices_choosePivotCmpFunc_Place data2 a2 b2 cmp1).1) cmp1).1) - a2) ≥ ((b2 - a2) / 8))) ((slices_partitionCmpFunc_Place data2 a2 b2 ((slices_choosePivotCmpFunc_Place data2 a2 b2 cmp1).1) cmp1).2.1)) else (slices_pdqsortCmpFunc_Place_L0 limit1 cmp1 f_k0 (slices_pdq12_Place ((slices_partitionCmpFunc_Place data2 a2 b2 ((slices_choosePivotCmpFunc_Place data2 a2 b2 cmp1).1) cmp1).2.2) (((slices_partitionCmpFunc_Place data2 a2 b2 ((slices_choosePivotCmpFunc_Place data2 a2 b2 cmp1).1) cmp1).1) + 1) b2 limit1 cmp1) a2 ((slices_partitionCmpFunc_Place data2 a2 b2 ((slices_choosePivotCmpFunc_Place data2 a2 b2 cmp1).1) cmp1).1) (decide ((b2 - ((slices_partitionCmpFunc_Place data2 a2 b2 ((slices_choosePivotCmpFunc_Place data2 a2 b2 cmp1).1) cmp1).1)) ≥ ((b2 - a2) / 8))) ((slices_partitionCmpFunc_Place data2 a2 b2 ((slices_choosePivotCmpFunc_Place data2 a2 b2 cmp1).1) cmp1).2.1)))))))))
def slices_pdqsortCmpFunc_Place (data1 : List Place) (a1 : Int) (b1 : Int) (limit1 : Int) (cmp1 : Place → Place → Int) : List Place :=
  (slices_pdqsortCmpFunc_Place_L0 limit1 cmp1 ((b1 - a1).toNat + 1) data1 a1 b1 true true)
theorem slices_pdqsortCmpFunc_Place_spec (y1 : SlV) (y1b : Option Nat) (data1 : List Place) (a1 : Int) (b1 : Int) (limit1 : Int) (f1 : Nat) (caps1 : List Value) (pre1 : List Pred) [StabL pre1] (cmp1 : Place → Place → Int) (hfb1 : tab.fnb f1 = true) (hfn1 : ∀ (a0_ : Place) (a1_ : Place), Does Try.prog f1 ([.agg ⟨[.int .i64 a0_.node, .int .i64 a0_.parent, .int .i64 a0_.name]⟩, .agg ⟨[.int .i64 a1_.node, .int .i64 a1_.parent, .int .i64 a1_.name]⟩] ++ caps1) pre1 (fun (_ : Unit) => .int .i64 (cmp1 a0_ a1_)) (fun (_ : Unit) => [])) (hab : 0 ≤ a1 ∧ a1 ≤ b1 ∧ b1 ≤ (data1.length : Int) ∧ b1 - a1 ≤ 15 ∧ (12 < b1 - a1 → 1 ≤ limit1)) (hg : Good cmp1 data1) (hbl : Below cmp1 data1 a1 b1) : DoesG Try.prog 170 [y1.val data1.length, .int .i64 a1, .int .i64 b1, .int .i64 limit1, .func (.func f1) #[] ⟨caps1⟩] (pre1) ⟨[], [ownL EPlace 35 y1 y1b data1]⟩ (fun (_ : Unit) => .tuple #[]) (fun (_ : Unit) => []) (fun (_ : Unit) => ⟨[], [ownL EPlace 35 y1 y1b (slices_pdqsortCmpFunc_Place data1 a1 b1 limit1 cmp1)]⟩) := by
  refine does_ofG tab_ok Try.func170 rfl Try.ntmps170 Try.results170 rfl inferInstance (fun _ => inferInstance) fun C => ?_
  refine cw_lenO EPlace (e := 35) (X := y1) (b := y1b) (l := data1) Mm fun hl63y1 hleny1 => ?_
  simp only [show EPlace.by_ = 24 from rfl] at hleny1
  (repeat refine cw_seq ?_); refine cw_region ?_
  refine Rp rfl rfl rfl rfl ?_
  refine rw_nil ?_
  (repeat refine cw_seq ?_); refine cw_region ?_
  refine Rp rfl rfl rfl rfl ?_
  refine rw_nil ?_
  (repeat refine cw_seq ?_); refine cw_block ?_
  (repeat refine cw_seq ?_); refine Lp [3,4] [] (fun (i_ : List Place × Int × Int × Bool × Bool × Nat) => match i_ with | ⟨data2, a2, b2, wasBalanced1, wasPartitioned1, fz1⟩ => (⟨[(0, .v (y1.val data2.length)), (1, .v (.int .i64 a2)), (2, .v (.int .i64 b2)), (10, .v (.bool wasBalanced1)), (11, .v (.bool wasPartitioned1))], [], [ownL EPlace 35 y1 y1b data2], [], (0 ≤ a2 ∧ a2 ≤ b2 ∧ b2 ≤ (data1.length : Int) ∧ b2 - a2 ≤ b1 - a1 ∧ data2.length = data1.length) ∧ (Good cmp1 data2) ∧ (Below cmp1 data2 a2 b2) ∧ (wasBalanced1 = true) ∧ ((b2 - a2).toNat < fz1) ∧ (slices_pdqsortCmpFunc_Place_L0 limit1 cmp1 (fz1) data2 a2 b2 wasBalanced1 wasPartitioned1) = (slices_pdqsortCmpFunc_Place data1 a1 b1 limit1 cmp1), fz1⟩ : Ls)) ⟨data1, a1, b1, true, true, (b1 - a1).toNat + 1⟩ (Sc (Sc Sn)) (.nil) ⟨(by first | exact Nat.le_refl _ | exact Nat.zero_le _ | omega), hg, hbl, rfl, (by first | exact Nat.le_refl _ | exact Nat.zero_le _ | omega), (by simp only [slices_pdqsortCmpFunc_Place, Bool.true_and, Bool.and_true, Bool.true_and, Bool.and_true, Bool.false_or, Bool.or_false, Bool.false_and, Bool.and_false, Bool.true_or, Bool.or_true, Bool.not_true, Bool.not_false, cond_true, cond_false] : (slices_pdqsortCmpFunc_Place data1 a1 b1 limit1 cmp1) = (slices_pdqsortCmpFunc_Place_L0 limit1 cmp1 ((b1 - a1).toNat + 1) data1 a1 b1 true true)).symm⟩ Le5 ?_
  rintro ⟨data2, a2, b2, wasBalanced1, wasPartitioned1, fz1⟩ ⟨hi, hgd, hbw, hwb, hzfz1, hf1⟩
  simp only [List.cons_append, List.nil_append]
  have hlt0_ : fz1 = (fz1 - 1) + 1 := by omega
  (repeat refine cw_seq ?_); refine cw_block ?_
  (repeat refine cw_seq ?_); refine cw_region ?_
  refine Rp rfl rfl rfl rfl ?_
  refine Rp rfl rfl rfl rfl ?_
  refine rw_q rfl rfl rfl (q_sub rfl rfl (fun _ => rfl) rfl (fun _ => rfl) (fun _ => by omega)) ?_
  refine Rp rfl rfl rfl rfl ?_
  refine rw_nil ?_
  (repeat refine cw_seq ?_); refine cw_region ?_
  refine Rp rfl rfl rfl rfl ?_
  refine Rp rfl rfl rfl rfl ?_
  refine rw_nil ?_
  (repeat refine cw_seq ?_); refine cw_cond (b := decide ((b2 - a2) ≤ 12)) rfl rfl (fun hc1 => ?_) (fun hc1 => ?_)
  · skip
    have hc1p := of_decide_eq_true hc1
    (repeat refine cw_seq ?_); refine cw_region ?_
    refine Rp rfl rfl rfl rfl ?_
    refine Rp rfl rfl rfl rfl ?_
    refine Rp rfl rfl rfl rfl ?_
    refine Rp rfl rfl rfl rfl ?_
    refine rw_callG (slices_insertionSortCmpFunc_Place_spec y1 y1b data2 a2 b2 _ _ _ cmp1 (by assumption) hfn1 (by omega)) .sq (.inl ⟨_, rfl⟩) (guard_none rfl) rfl rfl rfl Kr rfl rfl Sf (.nil _) (by first | exact .cons (.here _ _) (.nil _) | exact .cons (.there _ (.here _ _)) (.nil _) | exact .cons (.there _ (.there _ (.here _ _))) (.nil _) | exact .cons (.there _ (.there _ (.there _ (.here _ _)))) (.nil _)) ?_
    intro _
    refine rw_nil ?_
    (repeat refine cw_seq ?_)
    have hr1 : (slices_pdqsortCmpFunc_Place data1 a1 b1 limit1 cmp1) = (slices_insertionSortCmpFunc_Place data2 a2 b2 cmp1) := by rw [← hf1]; (conv => lhs; rw [hlt0_]); simp only [slices_pdqsortCmpFunc_Place_L0, hc1, Bool.true_and, Bool.and_true, Bool.true_and, Bool.and_true, Bool.false_or, Bool.or_false, Bool.false_and, Bool.and_false, Bool.true_or, Bool.or_true, Bool.not_true, Bool.not_false, cond_true, cond_false]
    refine cw_ret ?_
    rw [hr1]
    exact ⟨(), _, .nil, rfl, Sf, .nil _, Sp⟩
  · skip
    have hc1p := of_decide_eq_false hc1
    have hst := pdq_step cmp1 data2 a2 b2 limit1 hgd hbw (by omega)
    have hmid := hst.mid
    have hpv := hst.pv
    have hln := hst.len
    (repeat refine cw_seq ?_); refine cw_skip ?_
    (repeat refine cw_seq ?_); refine cw_region ?_
    refine Rp rfl rfl rfl rfl ?_
    refine Rp rfl rfl rfl rfl ?_
    refine rw_nil ?_
    (repeat refine cw_seq ?_); refine cw_cond (b := (limit1 == 0)) rfl rfl (fun hc2 => ?_) (fun hc2 => ?_)
    · skip
      have hc2p := eq_of_beq hc2
      exact absurd (eq_of_beq hc2) (by omega)
    · skip
      have hc2p := ne_of_beq_false hc2
      (repeat refine cw_seq ?_); refine cw_skip ?_
      (repeat refine cw_seq ?_); refine cw_region ?_
      refine Rp rfl rfl rfl rfl ?_
      refine Rp rfl rfl rfl rfl ?_
      refine rw_nil ?_
      (repeat refine cw_seq ?_); refine cw_cond (b := (!wasBalanced1)) rfl rfl (fun hc3 => ?_) (fun hc3 => ?_)
      · skip
        exact absurd hc3 (by simp only [hwb]; decide)
      · skip
        (repeat refine cw_seq ?_); refine cw_skip ?_
        (repeat refine cw_seq ?_); refine cw_region ?_
        refine Rp rfl rfl rfl rfl ?_
        refine Rp rfl rfl rfl rfl ?_
        refine Rp rfl rfl rfl rfl ?_
        refine Rp rfl rfl rfl rfl ?_
        refine rw_callR (slices_choosePivotCmpFunc_Place_spec y1 data2 a2 b2 _ _ _ cmp1 (by assumption) hfn1 (by omega)) .sq (guard_none rfl) rfl rfl rfl Kr rfl rfl (.own Mm (PreR.sub Sf)) ?_
        intro _
        refine Rp rfl rfl rfl rfl ?_
        refine Rp rfl rfl rfl rfl ?_
        refine Rp rfl rfl rfl rfl ?_
        refine Rp rfl rfl rfl rfl ?_
        refine Rp rfl rfl rfl rfl ?_
        refine rw_nil ?_
        (repeat refine cw_seq ?_); refine cw_region ?_
        refine Rp rfl rfl rfl rfl ?_
        refine Rp rfl rfl rfl rfl ?_
        refine rw_nil ?_
        (repeat refine cw_seq ?_); refine cw_cond (b := (((slices_choosePivotCmpFunc_Place data2 a2 b2 cmp1).2) == 2)) rfl rfl (fun hc4 => ?_) (fun hc4 => ?_)
        · skip
          have hc4p := eq_of_beq hc4
          exact absurd (eq_of_beq hc4) hst.hint
        · skip
          have hc4p := ne_of_beq_false hc4
          (repeat refine cw_seq ?_); refine cw_skip ?_
          (repeat refine cw_seq ?_); refine cw_region ?_
          refine Rp rfl rfl rfl rfl ?_
          refine Rp rfl rfl rfl rfl ?_
          refine rw_qg (guard_vt rfl rfl rfl) rfl rfl (q_pev rfl Bt) ?_
          refine rw_q rfl rfl rfl (q_pev rfl Bt) ?_
          refine Rp rfl rfl rfl rfl ?_
          refine rw_qg (guard_vt rfl rfl rfl) rfl rfl (q_pev rfl Bt) ?_
          refine rw_qg (guard_vt rfl rfl rfl) rfl rfl (q_pev rfl Bt) ?_
          refine rw_q rfl rfl rfl (q_pev rfl Bt) ?_
          refine rw_nil ?_
          (repeat refine cw_seq ?_); refine cw_cond (b := ((wasBalanced1 && wasPartitioned1) && (((slices_choosePivotCmpFunc_Place data2 a2 b2 cmp1).2) == 1))) rfl rfl (fun hc5 => ?_) (fun hc5 => ?_)
          · skip
            (repeat refine cw_seq ?_); refine cw_region ?_
            refine Rp rfl rfl rfl rfl ?_
            refine Rp rfl rfl rfl rfl ?_
            refine Rp rfl rfl rfl rfl ?_
            refine Rp rfl rfl rfl rfl ?_
            refine rw_callR (slices_partialInsertionSortCmpFunc_Place_spec y1 data2 a2 b2 _ _ _ cmp1 (by assumption) hfn1 (by omega)) .sq (guard_none rfl) rfl rfl rfl Kr rfl rfl (.own Mm (PreR.sub Sf)) ?_
            intro _
            refine rw_nil ?_
            (repeat refine cw_seq ?_); refine cw_cond (b := (slices_partialInsertionSortCmpFunc_Place data2 a2 b2 cmp1)) rfl rfl (fun hc6 => ?_) (fun hc6 => ?_)
            · skip
              (repeat refine cw_seq ?_)
              have hr2 : (slices_pdqsortCmpFunc_Place data1 a1 b1 limit1 cmp1) = data2 := by rw [← hf1]; (conv => lhs; rw [hlt0_]); simp only [slices_pdqsortCmpFunc_Place_L0, hc1, hc2, hc3, hc4, hc5, hc6, Bool.true_and, Bool.and_true, Bool.true_and, Bool.and_true, Bool.false_or, Bool.or_false, Bool.false_and, Bool.and_false, Bool.true_or, Bool.or_true, Bool.not_true, Bool.not_false, cond_true, cond_false]
              refine cw_ret ?_
              rw [hr2]
              exact ⟨(), _, .nil, rfl, Sf, .nil _, Sp⟩
            · skip
              (repeat refine cw_seq ?_); refine cw_skip ?_
              (repeat refine cw_seq ?_); refine cw_regionA (fun _ => some []) ?_
              refine ra_q (.ab (i := 0) (js := []) [1, 2, 3, 4, 5, 6, 7, 8, 9, 10, 11, 12, 13, 14, 15, 16] rfl Kr Kr Kr Kr Kr) (SplitB.all _) (by simp) rfl rfl rfl (q_pev rfl (fun _ => rfl)) ?_
              refine ra_q (.ab (i := 1) (js := []) [2, 3, 4, 5, 6, 7, 8, 9, 10, 11, 12, 13, 14, 15, 16] rfl Kr Kr Kr Kr Kr) (SplitB.all _) (by simp) rfl rfl rfl (q_pev rfl (fun _ => rfl)) ?_
              refine ra_q (.an (i := 2) (js := []) rfl Kr Kr Kr Kr) (SplitB.all _) (by simp) rfl rfl rfl (q_pev rfl (fun _ => rfl)) ?_
              refine ra_qg (.ab (i := 3) (js := [4, 5, 6, 7, 8, 9, 10, 11, 12]) [13, 14, 15, 16] rfl Kr Kr Kr Kr Kr) (SplitB.all _) (by simp) (guard_vt rfl rfl rfl) rfl rfl (q_pev rfl Bt) ?_
              refine ra_qg (.ab (i := 4) (js := [5, 6, 9, 10, 11, 12]) [7, 8, 13, 14, 15, 16] rfl Kr Kr Kr Kr Kr) (SplitB.all _) (by simp) (guard_vt rfl rfl rfl) rfl rfl (q_pev rfl Bt) ?_
              refine ra_qg (.ab (i := 5) (js := [9, 10, 11, 12]) [6, 7, 8, 13, 14, 15, 16] rfl Kr Kr Kr Kr Kr) (SplitB.all _) (by simp) (guard_vt rfl rfl rfl) rfl rfl (q_pev rfl Bt) ?_
              refine ra_qg (.ab (i := 6) (js := [9, 10, 11, 12]) [7, 8, 13, 14, 15, 16] rfl Kr Kr Kr Kr Kr) (SplitB.all _) (by simp) (guard_vt rfl rfl rfl) rfl rfl (q_sub rfl rfl Bt rfl Bt (by intro h; first | omega | (simp at h; omega))) ?_
              refine rw_qgO EPlace (e := 35) (X := y1) (b := y1b) (l := data2) Mm (.ab (i := 7) (js := [9, 10, 11, 12]) [8, 13, 14, 15, 16] rfl Kr Kr Kr Kr Kr) (guard_vt rfl rfl rfl) rfl rfl (q_idx EPlace ((a2 - 1).toNat) rfl rfl Bt rfl Bt rfl rfl rfl (.head _) rfl (by intro h; first | omega | rfl | (simp at h; omega)) (by first | (intro _; first | assumption | omega | (simp only [List.length_set]; omega)) | (intro h; simp at h; omega) | (intro h; simp at h; simp only [List.length_set]; omega))) ?_
              refine rw_qgO EPlace (e := 35) (X := y1) (b := y1b) (l := data2) Mm (.ab (i := 8) (js := [9, 10, 11, 12]) [13, 14, 15, 16] rfl Kr Kr Kr Kr Kr) (guard_vt rfl rfl rfl) rfl rfl (q_leA EPlace rfl rfl Bt rfl rfl (.head _) (by first | (intro _; first | assumption | omega | (simp only [List.length_set]; omega)) | (intro h; simp at h; omega) | (intro h; simp at h; simp only [List.length_set]; omega))) ?_
              refine ra_qg (.ab (i := 9) (js := [10]) [11, 12, 13, 14, 15, 16] rfl Kr Kr Kr Kr Kr) (SplitB.all _) (by simp) (guard_vt rfl rfl rfl) rfl rfl (q_pev rfl Bt) ?_
              refine ra_qg (.ab (i := 10) (js := []) [11, 12, 13, 14, 15, 16] rfl Kr Kr Kr Kr Kr) (SplitB.all _) (by simp) (guard_vt rfl rfl rfl) rfl rfl (q_pev rfl Bt) ?_
              refine rw_qgO EPlace (e := 35) (X := y1) (b := y1b) (l := data2) Mm (.ab (i := 11) (js := []) [12, 13, 14, 15, 16] rfl Kr Kr Kr Kr Kr) (guard_vt rfl rfl rfl) rfl rfl (q_idx EPlace (((slices_choosePivotCmpFunc_Place data2 a2 b2 cmp1).1).toNat) rfl rfl Bt rfl Bt rfl rfl rfl (.head _) rfl (by intro h; first | omega | rfl | (simp at h; omega)) (by first | (intro _; first | assumption | omega | (simp only [List.length_set]; omega)) | (intro h; simp at h; omega) | (intro h; simp at h; simp only [List.length_set]; omega))) ?_
              refine rw_qgO EPlace (e := 35) (X := y1) (b := y1b) (l := data2) Mm (.ab (i := 12) (js := []) [13, 14, 15, 16] rfl Kr Kr Kr Kr Kr) (guard_vt rfl rfl rfl) rfl rfl (q_leA EPlace rfl rfl Bt rfl rfl (.head _) (by first | (intro _; first | assumption | omega | (simp only [List.length_set]; omega)) | (intro h; simp at h; omega) | (intro h; simp at h; simp only [List.length_set]; omega))) ?_
              refine ra_one 13 Kr ?_
              refine rw_split (.an rfl rfl) (guard_vt rfl rfl rfl) (fun hg1 => ?_) (fun hg1 => ?_)
              · skip
                have hg1p := of_decide_eq_true hg1
                refine rw_callv (hfn1 (gt data2 ((a2 - 1).toNat)) (gt data2 (((slices_choosePivotCmpFunc_Place data2 a2 b2 cmp1).1).toNat))) (.an rfl rfl) (guard_is (guard_vt rfl rfl rfl) hg1) rfl rfl rfl rfl (by first | rfl | assumption | (simp only [hc1, hc2, hc3, hc4, hc5, hc6, hg1, Bool.and_true, Bool.true_and, Bool.and_self, Bool.not_false, Bool.not_true]; done) | simp_all) (by assumption) rfl (by first | rfl | assumption | (simp only [hc1, hc2, hc3, hc4, hc5, hc6, hg1, Bool.and_true, Bool.true_and, Bool.and_self, Bool.not_false, Bool.not_true]; done) | simp_all) rfl Sf ?_
                intro _
                refine ra_qg (.ab (i := 14) (js := []) [15, 16] rfl Kr Kr Kr Kr Kr) (SplitB.all _) (by simp) (guard_vt rfl rfl rfl) rfl rfl (q_pev rfl Bt) ?_
                refine ra_qg (.an (i := 15) (js := []) rfl Kr Kr Kr Kr) (SplitB.all _) (by simp) (guard_vt rfl rfl rfl) rfl rfl (q_pev rfl Bt) ?_
                refine ra_q (.an (i := 16) (js := []) rfl Kr Kr Kr Kr) (SplitB.all _) (by simp) rfl rfl rfl (q_pev rfl Bt) ?_
                refine ra_nil Kr ?_
                (repeat refine cw_seq ?_); refine cw_cond (b := (decide (a2 > 0) && (!(decide ((cmp1 (gt data2 ((a2 - 1).toNat)) (gt data2 (((slices_choosePivotCmpFunc_Place data2 a2 b2 cmp1).1).toNat))) < 0))))) rfl rfl (fun hc7 => ?_) (fun hc7 => ?_)
                · skip
                  try simp only [hg1, Bool.true_and, Bool.and_true] at hc7
                  try simp only [hg1, Bool.true_and, Bool.and_true, Bool.false_or, Bool.or_false, Bool.false_and, Bool.and_false, Bool.true_or, Bool.or_true, Bool.not_true, Bool.not_false] at hc7
                  rw [decide_eq_true (hst.low (by omega))] at hc7; exact absurd hc7 (by decide)
                · skip
                  try simp only [hg1, Bool.true_and, Bool.and_true] at hc7
                  try simp only [hg1, Bool.true_and, Bool.and_true, Bool.false_or, Bool.or_false, Bool.false_and, Bool.and_false, Bool.true_or, Bool.or_true, Bool.not_true, Bool.not_false] at hc7
                  (repeat refine cw_seq ?_); refine cw_skip ?_
                  (repeat refine cw_seq ?_); refine cw_region ?_
                  refine Rp rfl rfl rfl rfl ?_
                  refine Rp rfl rfl rfl rfl ?_
                  refine Rp rfl rfl rfl rfl ?_
                  refine Rp rfl rfl rfl rfl ?_
                  refine Rp rfl rfl rfl rfl ?_
                  refine rw_callG (slices_partitionCmpFunc_Place_spec y1 y1b data2 a2 b2 ((slices_choosePivotCmpFunc_Place data2 a2 b2 cmp1).1) _ _ _ cmp1 (by assumption) hfn1 (by have := hst.pv; omega)) .sq (.inl ⟨_, rfl⟩) (guard_none rfl) rfl rfl rfl Kr rfl rfl Sf (.nil _) (by first | exact .cons (.here _ _) (.nil _) | exact .cons (.there _ (.here _ _)) (.nil _) | exact .cons (.there _ (.there _ (.here _ _))) (.nil _) | exact .cons (.there _ (.there _ (.there _ (.here _ _)))) (.nil _)) ?_
                  intro _
                  have hv1l : data2.length = ((slices_partitionCmpFunc_Place data2 a2 b2 ((slices_choosePivotCmpFunc_Place data2 a2 b2 cmp1).1) cmp1).2.2).length := hst.len.symm
                  have hv1 : y1.val data2.length = y1.val ((slices_partitionCmpFunc_Place data2 a2 b2 ((slices_choosePivotCmpFunc_Place data2 a2 b2 cmp1).1) cmp1).2.2).length := congrArg (SlV.val y1) hv1l
                  try rw [hv1]
                  refine Rp rfl rfl rfl rfl ?_
                  refine Rp rfl rfl rfl rfl ?_
                  refine Rp rfl rfl rfl rfl ?_
                  refine Rp rfl rfl rfl rfl ?_
                  refine Rp rfl rfl rfl rfl ?_
                  refine rw_nil ?_
                  (repeat refine cw_seq ?_); refine cw_region ?_
                  refine Rp rfl rfl rfl rfl ?_
                  refine Rp rfl rfl rfl rfl ?_
                  refine rw_nil ?_
                  (repeat refine cw_seq ?_); refine cw_region ?_
                  refine Rp rfl rfl rfl rfl ?_
                  refine Rp rfl rfl rfl rfl ?_
                  refine rw_q rfl rfl rfl (q_sub rfl rfl (fun _ => rfl) rfl (fun _ => rfl) (fun _ => by omega)) ?_
                  refine Rp rfl rfl rfl rfl ?_
                  refine Rp rfl rfl rfl rfl ?_
                  refine rw_q rfl rfl rfl (q_sub rfl rfl (fun _ => rfl) rfl (fun _ => rfl) (fun _ => by omega)) ?_
                  refine Rp rfl rfl rfl rfl ?_
                  refine Rp rfl rfl rfl rfl ?_
                  refine rw_nil ?_
                  (repeat refine cw_seq ?_); refine cw_region ?_
                  refine Rp rfl rfl rfl rfl ?_
                  refine rw_q rfl rfl rfl (q_quo rfl rfl (fun _ => rfl) rfl (fun _ => rfl) (fun _ => by omega)) ?_
                  refine Rp rfl rfl rfl rfl ?_
                  refine rw_nil ?_
                  (repeat refine cw_seq ?_); refine cw_region ?_
                  refine Rp rfl rfl rfl rfl ?_
                  refine Rp rfl rfl rfl rfl ?_
                  refine Rp rfl rfl rfl rfl ?_
                  refine rw_nil ?_
                  (repeat refine cw_seq ?_); refine cw_cond (b := decide ((((slices_partitionCmpFunc_Place data2 a2 b2 ((slices_choosePivotCmpFunc_Place data2 a2 b2 cmp1).1) cmp1).1) - a2) < (b2 - ((slices_partitionCmpFunc_Place data2 a2 b2 ((slices_choosePivotCmpFunc_Place data2 a2 b2 cmp1).1) cmp1).1)))) rfl rfl (fun hc8 => ?_) (fun hc8 => ?_)
                  · skip
                    try simp only [hg1, Bool.true_and, Bool.and_true] at hc8
                    try simp only [hg1, Bool.true_and, Bool.and_true, Bool.false_or, Bool.or_false, Bool.false_and, Bool.and_false, Bool.true_or, Bool.or_true, Bool.not_true, Bool.not_false] at hc8
                    have hc8p := of_decide_eq_true hc8
                    (repeat refine cw_seq ?_); refine cw_region ?_
                    refine Rp rfl rfl rfl rfl ?_
                    refine Rp rfl rfl rfl rfl ?_
                    refine Rp rfl rfl rfl rfl ?_
                    refine Rp rfl rfl rfl rfl ?_
                    refine rw_nil ?_
                    (repeat refine cw_seq ?_); refine cw_region ?_
                    refine Rp rfl rfl rfl rfl ?_
                    refine Rp rfl rfl rfl rfl ?_
                    refine Rp rfl rfl rfl rfl ?_
                    refine Rp rfl rfl rfl rfl ?_
                    refine Rp rfl rfl rfl rfl ?_
                    refine rw_callG (slices_pdq12_Place_spec y1 y1b ((slices_partitionCmpFunc_Place data2 a2 b2 ((slices_choosePivotCmpFunc_Place data2 a2 b2 cmp1).1) cmp1).2.2) a2 ((slices_partitionCmpFunc_Place data2 a2 b2 ((slices_choosePivotCmpFunc_Place data2 a2 b2 cmp1).1) cmp1).1) limit1 _ _ _ cmp1 (by assumption) hfn1 (by have := hst.mid; have := hst.len; omega)) .sq (.inl ⟨_, rfl⟩) (guard_none rfl) rfl rfl rfl Kr rfl rfl Sf (.nil _) (by first | exact .cons (.here _ _) (.nil _) | exact .cons (.there _ (.here _ _)) (.nil _) | exact .cons (.there _ (.there _ (.here _ _))) (.nil _) | exact .cons (.there _ (.there _ (.there _ (.here _ _)))) (.nil _)) ?_
                    intro _
                    have hv2l : ((slices_partitionCmpFunc_Place data2 a2 b2 ((slices_choosePivotCmpFunc_Place data2 a2 b2 cmp1).1) cmp1).2.2).length = (slices_pdq12_Place ((slices_partitionCmpFunc_Place data2 a2 b2 ((slices_choosePivotCmpFunc_Place data2 a2 b2 cmp1).1) cmp1).2.2) a2 ((slices_partitionCmpFunc_Place data2 a2 b2 ((slices_choosePivotCmpFunc_Place data2 a2 b2 cmp1).1) cmp1).1) limit1 cmp1).length := (by first | exact hst.len.trans (hst.ll (by omega)).symm | exact hst.len.trans (hst.lr (by omega)).symm)
                    have hv2 : y1.val ((slices_partitionCmpFunc_Place data2 a2 b2 ((slices_choosePivotCmpFunc_Place data2 a2 b2 cmp1).1) cmp1).2.2).length = y1.val (slices_pdq12_Place ((slices_partitionCmpFunc_Place data2 a2 b2 ((slices_choosePivotCmpFunc_Place data2 a2 b2 cmp1).1) cmp1).2.2) a2 ((slices_partitionCmpFunc_Place data2 a2 b2 ((slices_choosePivotCmpFunc_Place data2 a2 b2 cmp1).1) cmp1).1) limit1 cmp1).length := congrArg (SlV.val y1) hv2l
                    try rw [hv2]
                    refine rw_nil ?_
                    (repeat refine cw_seq ?_); refine cw_region ?_
                    refine Rp rfl rfl rfl rfl ?_
                    refine rw_q rfl rfl rfl (q_add rfl rfl (fun _ => rfl) rfl (fun _ => rfl) (fun _ => by omega)) ?_
                    refine Rp rfl rfl rfl rfl ?_
                    refine rw_nil ?_
                    refine ⟨⟨(slices_pdq12_Place ((slices_partitionCmpFunc_Place data2 a2 b2 ((slices_choosePivotCmpFunc_Place data2 a2 b2 cmp1).1) cmp1).2.2) a2 ((slices_partitionCmpFunc_Place data2 a2 b2 ((slices_choosePivotCmpFunc_Place data2 a2 b2 cmp1).1) cmp1).1) limit1 cmp1), (((slices_partitionCmpFunc_Place data2 a2 b2 ((slices_choosePivotCmpFunc_Place data2 a2 b2 cmp1).1) cmp1).1) + 1), b2, decide ((((slices_partitionCmpFunc_Place data2 a2 b2 ((slices_choosePivotCmpFunc_Place data2 a2 b2 cmp1).1) cmp1).1) - a2) ≥ ((b2 - a2) / 8)), (slices_partitionCmpFunc_Place data2 a2 b2 ((slices_choosePivotCmpFunc_Place data2 a2 b2 cmp1).1) cmp1).2.1, (fz1 - 1)⟩, ⟨(by have hm_ := hst.mid; refine ⟨?_, ?_, ?_, ?_, ?_⟩ <;> (try simp only []) <;> first | omega | exact (hst.ll (by omega)).trans (by omega) | exact (hst.lr (by omega)).trans (by omega)), (by first | exact hst.gl (by omega) | exact hst.gr (by omega)), (by first | exact hst.bl (by omega) | exact hst.br (by omega)), (decide_eq_true (by have := hst.mid; omega)), (by (try simp only []); first | omega | (simp only [List.length_append, List.length_cons, List.length_nil]; omega)), (by rw [← hf1]; (conv => lhs; rw [hlt0_]); simp only [slices_pdqsortCmpFunc_Place_L0, hc1, hc2, hc3, hc4, hc5, hc6, hg1, hc7, hc8, Bool.true_and, Bool.and_true, Bool.true_and, Bool.and_true, Bool.false_or, Bool.or_false, Bool.false_and, Bool.and_false, Bool.true_or, Bool.or_true, Bool.not_true, Bool.not_false, cond_true, cond_false] : (slices_pdqsortCmpFunc_Place data1 a1 b1 limit1 cmp1) = (slices_pdqsortCmpFunc_Place_L0 limit1 cmp1 (fz1 - 1) (slices_pdq12_Place ((slices_partitionCmpFunc_Place data2 a2 b2 ((slices_choosePivotCmpFunc_Place data2 a2 b2 cmp1).1) cmp1).2.2) a2 ((slices_partitionCmpFunc_Place data2 a2 b2 ((slices_choosePivotCmpFunc_Place data2 a2 b2 cmp1).1) cmp1).1) limit1 cmp1) (((slices_partitionCmpFunc_Place data2 a2 b2 ((slices_choosePivotCmpFunc_Place data2 a2 b2 cmp1).1) cmp1).1) + 1) b2 (decide ((((slices_partitionCmpFunc_Place data2 a2 b2 ((slices_choosePivotCmpFunc_Place data2 a2 b2 cmp1).1) cmp1).1) - a2) ≥ ((b2 - a2) / 8))) ((slices_partitionCmpFunc_Place data2 a2 b2 ((slices_choosePivotCmpFunc_Place data2 a2 b2 cmp1).1) cmp1).2.1))).symm⟩, (by simp only []; omega), Le5⟩
                  · skip
                    try simp only [hg1, Bool.true_and, Bool.and_true] at hc8
                    try simp only [hg1, Bool.true_and, Bool.and_true, Bool.false_or, Bool.or_false, Bool.false_and, Bool.and_false, Bool.true_or, Bool.or_true, Bool.not_true, Bool.not_false] at hc8
                    have hc8p := of_decide_eq_false hc8
                    (repeat refine cw_seq ?_); refine cw_region ?_
                    refine Rp rfl rfl rfl rfl ?_
                    refine Rp rfl rfl rfl rfl ?_
                    refine Rp rfl rfl rfl rfl ?_
                    refine Rp rfl rfl rfl rfl ?_
                    refine rw_nil ?_
                    (repeat refine cw_seq ?_); refine cw_region ?_
                    refine Rp rfl rfl rfl rfl ?_
                    refine Rp rfl rfl rfl rfl ?_
                    refine rw_q rfl rfl rfl (q_add rfl rfl (fun _ => rfl) rfl (fun _ => rfl) (fun _ => by omega)) ?_
                    refine Rp rfl rfl rfl rfl ?_
                    refine Rp rfl rfl rfl rfl ?_
                    refine Rp rfl rfl rfl rfl ?_
                    refine rw_callG (slices_pdq12_Place_spec y1 y1b ((slices_partitionCmpFunc_Place data2 a2 b2 ((slices_choosePivotCmpFunc_Place data2 a2 b2 cmp1).1) cmp1).2.2) (((slices_partitionCmpFunc_Place data2 a2 b2 ((slices_choosePivotCmpFunc_Place data2 a2 b2 cmp1).1) cmp1).1) + 1) b2 limit1 _ _ _ cmp1 (by assumption) hfn1 (by have := hst.mid; have := hst.len; omega)) .sq (.inl ⟨_, rfl⟩) (guard_none rfl) rfl rfl rfl Kr rfl rfl Sf (.nil _) (by first | exact .cons (.here _ _) (.nil _) | exact .cons (.there _ (.here _ _)) (.nil _) | exact .cons (.there _ (.there _ (.here _ _))) (.nil _) | exact .cons (.there _ (.there _ (.there _ (.here _ _)))) (.nil _)) ?_
                    intro _
                    have hv3l : ((slices_partitionCmpFunc_Place data2 a2 b2 ((slices_choosePivotCmpFunc_Place data2 a2 b2 cmp1).1) cmp1).2.2).length = (slices_pdq12_Place ((slices_partitionCmpFunc_Place data2 a2 b2 ((slices_choosePivotCmpFunc_Place data2 a2 b2 cmp1).1) cmp1).2.2) (((slices_partitionCmpFunc_Place data2 a2 b2 ((slices_choosePivotCmpFunc_Place data2 a2 b2 cmp1).1) cmp1).1) + 1) b2 limit1 cmp1).length := (by first | exact hst.len.trans (hst.ll (by omega)).symm | exact hst.len.trans (hst.lr (by omega)).symm)
                    have hv3 : y1.val ((slices_partitionCmpFunc_Place data2 a2 b2 ((slices_choosePivotCmpFunc_Place data2 a2 b2 cmp1).1) cmp1).2.2).length = y1.val (slices_pdq12_Place ((slices_partitionCmpFunc_Place data2 a2 b2 ((slices_choosePivotCmpFunc_Place data2 a2 b2 cmp1).1) cmp1).2.2) (((slices_partitionCmpFunc_Place data2 a2 b2 ((slices_choosePivotCmpFunc_Place data2 a2 b2 cmp1).1) cmp1).1) + 1) b2 limit1 cmp1).length := congrArg (SlV.val y1) hv3l
                    try rw [hv3]
                    refine rw_nil ?_
                    (repeat refine cw_seq ?_); refine cw_region ?_
                    refine Rp rfl rfl rfl rfl ?_
                    refine Rp rfl rfl rfl rfl ?_
                    refine rw_nil ?_
                    refine ⟨⟨(slices_pdq12_Place ((slices_partitionCmpFunc_Place data2 a2 b2 ((slices_choosePivotCmpFunc_Place data2 a2 b2 cmp1).1) cmp1).2.2) (((slices_partitionCmpFunc_Place data2 a2 b2 ((slices_choosePivotCmpFunc_Place data2 a2 b2 cmp1).1) cmp1).1) + 1) b2 limit1 cmp1), a2, (slices_partitionCmpFunc_Place data2 a2 b2 ((slices_choosePivotCmpFunc_Place data2 a2 b2 cmp1).1) cmp1).1, decide ((b2 - ((slices_partitionCmpFunc_Place data2 a2 b2 ((slices_choosePivotCmpFunc_Place data2 a2 b2 cmp1).1) cmp1).1)) ≥ ((b2 - a2) / 8)), (slices_partitionCmpFunc_Place data2 a2 b2 ((slices_choosePivotCmpFunc_Place data2 a2 b2 cmp1).1) cmp1).2.1, (fz1 - 1)⟩, ⟨(by have hm_ := hst.mid; refine ⟨?_, ?_, ?_, ?_, ?_⟩ <;> (try simp only []) <;> first | omega | exact (hst.ll (by omega)).trans (by omega) | exact (hst.lr (by omega)).trans (by omega)), (by first | exact hst.gl (by omega) | exact hst.gr (by omega)), (by first | exact hst.bl (by omega) | exact hst.br (by omega)), (decide_eq_true (by have := hst.mid; omega)), (by (try simp only []); first | omega | (simp only [List.length_append, List.length_cons, List.length_nil]; omega)), (by rw [← hf1]; (conv => lhs; rw [hlt0_]); simp only [slices_pdqsortCmpFunc_Place_L0, hc1, hc2, hc3, hc4, hc5, hc6, hg1, hc7, hc8, Bool.true_and, Bool.and_true, Bool.true_and, Bool.and_true, Bool.false_or, Bool.or_false, Bool.false_and, Bool.and_false, Bool.true_or, Bool.or_true, Bool.not_true, Bool.not_false, cond_true, cond_false] : (slices_pdqsortCmpFunc_Place data1 a1 b1 limit1 cmp1) = (slices_pdqsortCmpFunc_Place_L0 limit1 cmp1 (fz1 - 1) (slices_pdq12_Place ((slices_partitionCmpFunc_Place data2 a2 b2 ((slices_choosePivotCmpFunc_Place data2 a2 b2 cmp1).1) cmp1).2.2) (((slices_partitionCmpFunc_Place data2 a2 b2 ((slices_choosePivotCmpFunc_Place data2 a2 b2 cmp1).1) cmp1).1) + 1) b2 limit1 cmp1) a2 ((slices_partitionCmpFunc_Place data2 a2 b2 ((slices_choosePivotCmpFunc_Place data2 a2 b2 cmp1).1) cmp1).1) (decide ((b2 - ((slices_partitionCmpFunc_Place data2 a2 b2 ((slices_choosePivotCmpFunc_Place data2 a2 b2 cmp1).1) cmp1).1)) ≥ ((b2 - a2) / 8))) ((slices_partitionCmpFunc_Place data2 a2 b2 ((slices_choosePivotCmpFunc_Place data2 a2 b2 cmp1).1) cmp1).2.1))).symm⟩, (by simp only []; omega), Le5⟩
              · skip
                have hg1p := of_decide_eq_false hg1
                refine rw_dead (.an rfl rfl) (guard_vt rfl rfl rfl) hg1 rfl rfl ?_
                refine ra_qg (.ab (i := 14) (js := []) [15, 16] rfl Kr Kr Kr Kr Kr) (SplitB.all _) (by simp) (guard_vt rfl rfl rfl) rfl rfl (q_dead (v := .bool false) hg1) ?_
                refine ra_qg (.an (i := 15) (js := []) rfl Kr Kr Kr Kr) (SplitB.all _) (by simp) (guard_vt rfl rfl rfl) rfl rfl (q_dead (v := .bool false) hg1) ?_
                refine ra_q (.an (i := 16) (js := []) rfl Kr Kr Kr Kr) (SplitB.all _) (by simp) rfl rfl rfl (q_pev rfl Bt) ?_
                refine ra_nil Kr ?_
                (repeat refine cw_seq ?_); refine cw_cond (b := (decide (a2 > 0) && false)) rfl rfl (fun hc9 => ?_) (fun hc9 => ?_)
                · skip
                  exact Bool.noConfusion (hc9.symm.trans ((by simp only [hg1, Bool.and_false, Bool.false_and, Bool.or_true, Bool.true_or, Bool.or_false, Bool.false_or, Bool.and_true, Bool.true_and, Bool.not_true, Bool.not_false]) : (decide (a2 > 0) && false) = false))
                · skip
                  (repeat refine cw_seq ?_); refine cw_skip ?_
                  (repeat refine cw_seq ?_); refine cw_region ?_
                  refine Rp rfl rfl rfl rfl ?_
                  refine Rp rfl rfl rfl rfl ?_
                  refine Rp rfl rfl rfl rfl ?_
                  refine Rp rfl rfl rfl rfl ?_
                  refine Rp rfl rfl rfl rfl ?_
                  refine rw_callG (slices_partitionCmpFunc_Place_spec y1 y1b data2 a2 b2 ((slices_choosePivotCmpFunc_Place data2 a2 b2 cmp1).1) _ _ _ cmp1 (by assumption) hfn1 (by have := hst.pv; omega)) .sq (.inl ⟨_, rfl⟩) (guard_none rfl) rfl rfl rfl Kr rfl rfl Sf (.nil _) (by first | exact .cons (.here _ _) (.nil _) | exact .cons (.there _ (.here _ _)) (.nil _) | exact .cons (.there _ (.there _ (.here _ _))) (.nil _) | exact .cons (.there _ (.there _ (.there _ (.here _ _)))) (.nil _)) ?_
                  intro _
                  have hv4l : data2.length = ((slices_partitionCmpFunc_Place data2 a2 b2 ((slices_choosePivotCmpFunc_Place data2 a2 b2 cmp1).1) cmp1).2.2).length := hst.len.symm
                  have hv4 : y1.val data2.length = y1.val ((slices_partitionCmpFunc_Place data2 a2 b2 ((slices_choosePivotCmpFunc_Place data2 a2 b2 cmp1).1) cmp1).2.2).length := congrArg (SlV.val y1) hv4l
                  try rw [hv4]
                  refine Rp rfl rfl rfl rfl ?_
                  refine Rp rfl rfl rfl rfl ?_
                  refine Rp rfl rfl rfl rfl ?_
                  refine Rp rfl rfl rfl rfl ?_
                  refine Rp rfl rfl rfl rfl ?_
                  refine rw_nil ?_
                  (repeat refine cw_seq ?_); refine cw_region ?_
                  refine Rp rfl rfl rfl rfl ?_
                  refine Rp rfl rfl rfl rfl ?_
                  refine rw_nil ?_
                  (repeat refine cw_seq ?_); refine cw_region ?_
                  refine Rp rfl rfl rfl rfl ?_
                  refine Rp rfl rfl rfl rfl ?_
                  refine rw_q rfl rfl rfl (q_sub rfl rfl (fun _ => rfl) rfl (fun _ => rfl) (fun _ => by omega)) ?_
                  refine Rp rfl rfl rfl rfl ?_
                  refine Rp rfl rfl rfl rfl ?_
                  refine rw_q rfl rfl rfl (q_sub rfl rfl (fun _ => rfl) rfl (fun _ => rfl) (fun _ => by omega)) ?_
                  refine Rp rfl rfl rfl rfl ?_
                  refine Rp rfl rfl rfl rfl ?_
                  refine rw_nil ?_
                  (repeat refine cw_seq ?_); refine cw_region ?_
                  refine Rp rfl rfl rfl rfl ?_
                  refine rw_q rfl rfl rfl (q_quo rfl rfl (fun _ => rfl) rfl (fun _ => rfl) (fun _ => by omega)) ?_
                  refine Rp rfl rfl rfl rfl ?_
                  refine rw_nil ?_
                  (repeat refine cw_seq ?_); refine cw_region ?_
                  refine Rp rfl rfl rfl rfl ?_
                  refine Rp rfl rfl rfl rfl ?_
                  refine Rp rfl rfl rfl rfl ?_
                  refine rw_nil ?_
                  (repeat refine cw_seq ?_); refine cw_cond (b := decide ((((slices_partitionCmpFunc_Place data2 a2 b2 ((slices_choosePivotCmpFunc_Place data2 a2 b2 cmp1).1) cmp1).1) - a2) < (b2 - ((slices_partitionCmpFunc_Place data2 a2 b2 ((slices_choosePivotCmpFunc_Place data2 a2 b2 cmp1).1) cmp1).1)))) rfl rfl (fun hc10 => ?_) (fun hc10 => ?_)
                  · skip
                    try simp only [hg1, Bool.true_and, Bool.and_true] at hc10
                    try simp only [hg1, Bool.true_and, Bool.and_true, Bool.false_or, Bool.or_false, Bool.false_and, Bool.and_false, Bool.true_or, Bool.or_true, Bool.not_true, Bool.not_false] at hc10
                    have hc10p := of_decide_eq_true hc10
                    (repeat refine cw_seq ?_); refine cw_region ?_
                    refine Rp rfl rfl rfl rfl ?_
                    refine Rp rfl rfl rfl rfl ?_
                    refine Rp rfl rfl rfl rfl ?_
                    refine Rp rfl rfl rfl rfl ?_
                    refine rw_nil ?_
                    (repeat refine cw_seq ?_); refine cw_region ?_
                    refine Rp rfl rfl rfl rfl ?_
                    refine Rp rfl rfl rfl rfl ?_
                    refine Rp rfl rfl rfl rfl ?_
                    refine Rp rfl rfl rfl rfl ?_
                    refine Rp rfl rfl rfl rfl ?_
                    refine rw_callG (slices_pdq12_Place_spec y1 y1b ((slices_partitionCmpFunc_Place data2 a2 b2 ((slices_choosePivotCmpFunc_Place data2 a2 b2 cmp1).1) cmp1).2.2) a2 ((slices_partitionCmpFunc_Place data2 a2 b2 ((slices_choosePivotCmpFunc_Place data2 a2 b2 cmp1).1) cmp1).1) limit1 _ _ _ cmp1 (by assumption) hfn1 (by have := hst.mid; have := hst.len; omega)) .sq (.inl ⟨_, rfl⟩) (guard_none rfl) rfl rfl rfl Kr rfl rfl Sf (.nil _) (by first | exact .cons (.here _ _) (.nil _) | exact .cons (.there _ (.here _ _)) (.nil _) | exact .cons (.there _ (.there _ (.here _ _))) (.nil _) | exact .cons (.there _ (.there _ (.there _ (.here _ _)))) (.nil _)) ?_
                    intro _
                    have hv5l : ((slices_partitionCmpFunc_Place data2 a2 b2 ((slices_choosePivotCmpFunc_Place data2 a2 b2 cmp1).1) cmp1).2.2).length = (slices_pdq12_Place ((slices_partitionCmpFunc_Place data2 a2 b2 ((slices_choosePivotCmpFunc_Place data2 a2 b2 cmp1).1) cmp1).2.2) a2 ((slices_partitionCmpFunc_Place data2 a2 b2 ((slices_choosePivotCmpFunc_Place data2 a2 b2 cmp1).1) cmp1).1) limit1 cmp1).length := (by first | exact hst.len.trans (hst.ll (by omega)).symm | exact hst.len.trans (hst.lr (by omega)).symm)
                    have hv5 : y1.val ((slices_partitionCmpFunc_Place data2 a2 b2 ((slices_choosePivotCmpFunc_Place data2 a2 b2 cmp1).1) cmp1).2.2).length = y1.val (slices_pdq12_Place ((slices_partitionCmpFunc_Place data2 a2 b2 ((slices_choosePivotCmpFunc_Place data2 a2 b2 cmp1).1) cmp1).2.2) a2 ((slices_partitionCmpFunc_Place data2 a2 b2 ((slices_choosePivotCmpFunc_Place data2 a2 b2 cmp1).1) cmp1).1) limit1 cmp1).length := congrArg (SlV.val y1) hv5l
                    try rw [hv5]
                    refine rw_nil ?_
                    (repeat refine cw_seq ?_); refine cw_region ?_
                    refine Rp rfl rfl rfl rfl ?_
                    refine rw_q rfl rfl rfl (q_add rfl rfl (fun _ => rfl) rfl (fun _ => rfl) (fun _ => by omega)) ?_
                    refine Rp rfl rfl rfl rfl ?_
                    refine rw_nil ?_
                    refine ⟨⟨(slices_pdq12_Place ((slices_partitionCmpFunc_Place data2 a2 b2 ((slices_choosePivotCmpFunc_Place data2 a2 b2 cmp1).1) cmp1).2.2) a2 ((slices_partitionCmpFunc_Place data2 a2 b2 ((slices_choosePivotCmpFunc_Place data2 a2 b2 cmp1).1) cmp1).1) limit1 cmp1), (((slices_partitionCmpFunc_Place data2 a2 b2 ((slices_choosePivotCmpFunc_Place data2 a2 b2 cmp1).1) cmp1).1) + 1), b2, decide ((((slices_partitionCmpFunc_Place data2 a2 b2 ((slices_choosePivotCmpFunc_Place data2 a2 b2 cmp1).1) cmp1).1) - a2) ≥ ((b2 - a2) / 8)), (slices_partitionCmpFunc_Place data2 a2 b2 ((slices_choosePivotCmpFunc_Place data2 a2 b2 cmp1).1) cmp1).2.1, (fz1 - 1)⟩, ⟨(by have hm_ := hst.mid; refine ⟨?_, ?_, ?_, ?_, ?_⟩ <;> (try simp only []) <;> first | omega | exact (hst.ll (by omega)).trans (by omega) | exact (hst.lr (by omega)).trans (by omega)), (by first | exact hst.gl (by omega) | exact hst.gr (by omega)), (by first | exact hst.bl (by omega) | exact hst.br (by omega)), (decide_eq_true (by have := hst.mid; omega)), (by (try simp only []); first | omega | (simp only [List.length_append, List.length_cons, List.length_nil]; omega)), (by rw [← hf1]; (conv => lhs; rw [hlt0_]); simp only [slices_pdqsortCmpFunc_Place_L0, hc1, hc2, hc3, hc4, hc5, hc6, hg1, hc10, Bool.true_and, Bool.and_true, Bool.true_and, Bool.and_true, Bool.false_or, Bool.or_false, Bool.false_and, Bool.and_false, Bool.true_or, Bool.or_true, Bool.not_true, Bool.not_false, cond_true, cond_false] : (slices_pdqsortCmpFunc_Place data1 a1 b1 limit1 cmp1) = (slices_pdqsortCmpFunc_Place_L0 limit1 cmp1 (fz1 - 1) (slices_pdq12_Place ((slices_partitionCmpFunc_Place data2 a2 b2 ((slices_choosePivotCmpFunc_Place data2 a2 b2 cmp1).1) cmp1).2.2) a2 ((slices_partitionCmpFunc_Place data2 a2 b2 ((slices_choosePivotCmpFunc_Place data2 a2 b2 cmp1).1) cmp1).1) limit1 cmp1) (((slices_partitionCmpFunc_Place data2 a2 b2 ((slices_choosePivotCmpFunc_Place data2 a2 b2 cmp1).1) cmp1).1) + 1) b2 (decide ((((slices_partitionCmpFunc_Place data2 a2 b2 ((slices_choosePivotCmpFunc_Place data2 a2 b2 cmp1).1) cmp1).1) - a2) ≥ ((b2 - a2) / 8))) ((slices_partitionCmpFunc_Place data2 a2 b2 ((slices_choosePivotCmpFunc_Place data2 a2 b2 cmp1).1) cmp1).2.1))).symm⟩, (by simp only []; omega), Le5⟩
                  · skip
                    try simp only [hg1, Bool.true_and, Bool.and_true] at hc10
                    try simp only [hg1, Bool.true_and, Bool.and_true, Bool.false_or, Bool.or_false, Bool.false_and, Bool.and_false, Bool.true_or, Bool.or_true, Bool.not_true, Bool.not_false] at hc10
                    have hc10p := of_decide_eq_false hc10
                    (repeat refine cw_seq ?_); refine cw_region ?_
                    refine Rp rfl rfl rfl rfl ?_
                    refine Rp rfl rfl rfl rfl ?_
                    refine Rp rfl rfl rfl rfl ?_
                    refine Rp rfl rfl rfl rfl ?_
                    refine rw_nil ?_
                    (repeat refine cw_seq ?_); refine cw_region ?_
                    refine Rp rfl rfl rfl rfl ?_
                    refine Rp rfl rfl rfl rfl ?_
                    refine rw_q rfl rfl rfl (q_add rfl rfl (fun _ => rfl) rfl (fun _ => rfl) (fun _ => by omega)) ?_
                    refine Rp rfl rfl rfl rfl ?_
                    refine Rp rfl rfl rfl rfl ?_
                    refine Rp rfl rfl rfl rfl ?_
                    refine rw_callG (slices_pdq12_Place_spec y1 y1b ((slices_partitionCmpFunc_Place data2 a2 b2 ((slices_choosePivotCmpFunc_Place data2 a2 b2 cmp1).1) cmp1).2.2) (((slices_partitionCmpFunc_Place data2 a2 b2 ((slices_choosePivotCmpFunc_Place data2 a2 b2 cmp1).1) cmp1).1) + 1) b2 limit1 _ _ _ cmp1 (by assumption) hfn1 (by have := hst.mid; have := hst.len; omega)) .sq (.inl ⟨_, rfl⟩) (guard_none rfl) rfl rfl rfl Kr rfl rfl Sf (.nil _) (by first | exact .cons (.here _ _) (.nil _) | exact .cons (.there _ (.here _ _)) (.nil _) | exact .cons (.there _ (.there _ (.here _ _))) (.nil _) | exact .cons (.there _ (.there _ (.there _ (.here _ _)))) (.nil _)) ?_
                    intro _
                    have hv6l : ((slices_partitionCmpFunc_Place data2 a2 b2 ((slices_choosePivotCmpFunc_Place data2 a2 b2 cmp1).1) cmp1).2.2).length = (slices_pdq12_Place ((slices_partitionCmpFunc_Place data2 a2 b2 ((slices_choosePivotCmpFunc_Place data2 a2 b2 cmp1).1) cmp1).2.2) (((slices_partitionCmpFunc_Place data2 a2 b2 ((slices_choosePivotCmpFunc_Place data2 a2 b2 cmp1).1) cmp1).1) + 1) b2 limit1 cmp1).length := (by first | exact hst.len.trans (hst.ll (by omega)).symm | exact hst.len.trans (hst.lr (by omega)).symm)
                    have hv6 : y1.val ((slices_partitionCmpFunc_Place data2 a2 b2 ((slices_choosePivotCmpFunc_Place data2 a2 b2 cmp1).1) cmp1).2.2).length = y1.val (slices_pdq12_Place ((slices_partitionCmpFunc_Place data2 a2 b2 ((slices_choosePivotCmpFunc_Place data2 a2 b2 cmp1).1) cmp1).2.2) (((slices_partitionCmpFunc_Place data2 a2 b2 ((slices_choosePivotCmpFunc_Place data2 a2 b2 cmp1).1) cmp1).1) + 1) b2 limit1 cmp1).length := congrArg (SlV.val y1) hv6l
                    try rw [hv6]
                    refine rw_nil ?_
                    (repeat refine cw_seq ?_); refine cw_region ?_
                    refine Rp rfl rfl rfl rfl ?_
                    refine Rp rfl rfl rfl rfl ?_
                    refine rw_nil ?_
                    refine ⟨⟨(slices_pdq12_Place ((slices_partitionCmpFunc_Place data2 a2 b2 ((slices_choosePivotCmpFunc_Place data2 a2 b2 cmp1).1) cmp1).2.2) (((slices_partitionCmpFunc_Place data2 a2 b2 ((slices_choosePivotCmpFunc_Place data2 a2 b2 cmp1).1) cmp1).1) + 1) b2 limit1 cmp1), a2, (slices_partitionCmpFunc_Place data2 a2 b2 ((slices_choosePivotCmpFunc_Place data2 a2 b2 cmp1).1) cmp1).1, decide ((b2 - ((slices_partitionCmpFunc_Place data2 a2 b2 ((slices_choosePivotCmpFunc_Place data2 a2 b2 cmp1).1) cmp1).1)) ≥ ((b2 - a2) / 8)), (slices_partitionCmpFunc_Place data2 a2 b2 ((slices_choosePivotCmpFunc_Place data2 a2 b2 cmp1).1) cmp1).2.1, (fz1 - 1)⟩, ⟨(by have hm_ := hst.mid; refine ⟨?_, ?_, ?_, ?_, ?_⟩ <;> (try simp only []) <;> first | omega | exact (hst.ll (by omega)).trans (by omega) | exact (hst.lr (by omega)).trans (by omega)), (by first | exact hst.gl (by omega) | exact hst.gr (by omega)), (by first | exact hst.bl (by omega) | exact hst.br (by omega)), (decide_eq_true (by have := hst.mid; omega)), (by (try simp only []); first | omega | (simp only [List.length_append, List.length_cons, List.length_nil]; omega)), (by rw [← hf1]; (conv => lhs; rw [hlt0_]); simp only [slices_pdqsortCmpFunc_Place_L0, hc1, hc2, hc3, hc4, hc5, hc6, hg1, hc10, Bool.true_and, Bool.and_true, Bool.true_and, Bool.and_true, Bool.false_or, Bool.or_false, Bool.false_and, Bool.and_false, Bool.true_or, Bool.or_true, Bool.not_true, Bool.not_false, cond_true, cond_false] : (slices_pdqsortCmpFunc_Place data1 a1 b1 limit1 cmp1) = (slices_pdqsortCmpFunc_Place_L0 limit1 cmp1 (fz1 - 1) (slices_pdq12_Place ((slices_partitionCmpFunc_Place data2 a2 b2 ((slices_choosePivotCmpFunc_Place data2 a2 b2 cmp1).1) cmp1).2.2) (((slices_partitionCmpFunc_Place data2 a2 b2 ((slices_choosePivotCmpFunc_Place data2 a2 b2 cmp1).1) cmp1).1) + 1) b2 limit1 cmp1) a2 ((slices_partitionCmpFunc_Place data2 a2 b2 ((slices_choosePivotCmpFunc_Place data2 a2 b2 cmp1).1) cmp1).1) (decide ((b2 - ((slices_partitionCmpFunc_Place data2 a2 b2 ((slices_choosePivotCmpFunc_Place data2 a2 b2 cmp1).1) cmp1).1)) ≥ ((b2 - a2) / 8))) ((slices_partitionCmpFunc_Place data2 a2 b2 ((slices_choosePivotCmpFunc_Place data2 a2 b2 cmp1).1) cmp1).2.1))).symm⟩, (by simp only []; omega), Le5⟩
          · skip
            (repeat refine cw_seq ?_); refine cw_skip ?_
            (repeat refine cw_seq ?_); refine cw_regionA (fun _ => some []) ?_
            refine ra_q (.ab (i := 0) (js := []) [1, 2, 3, 4, 5, 6, 7, 8, 9, 10, 11, 12, 13, 14, 15, 16] rfl Kr Kr Kr Kr Kr) (SplitB.all _) (by simp) rfl rfl rfl (q_pev rfl (fun _ => rfl)) ?_
            refine ra_q (.ab (i := 1) (js := []) [2, 3, 4, 5, 6, 7, 8, 9, 10, 11, 12, 13, 14, 15, 16] rfl Kr Kr Kr Kr Kr) (SplitB.all _) (by simp) rfl rfl rfl (q_pev rfl (fun _ => rfl)) ?_
            refine ra_q (.an (i := 2) (js := []) rfl Kr Kr Kr Kr) (SplitB.all _) (by simp) rfl rfl rfl (q_pev rfl (fun _ => rfl)) ?_
            refine ra_qg (.ab (i := 3) (js := [4, 5, 6, 7, 8, 9, 10, 11, 12]) [13, 14, 15, 16] rfl Kr Kr Kr Kr Kr) (SplitB.all _) (by simp) (guard_vt rfl rfl rfl) rfl rfl (q_pev rfl Bt) ?_
            refine ra_qg (.ab (i := 4) (js := [5, 6, 9, 10, 11, 12]) [7, 8, 13, 14, 15, 16] rfl Kr Kr Kr Kr Kr) (SplitB.all _) (by simp) (guard_vt rfl rfl rfl) rfl rfl (q_pev rfl Bt) ?_
            refine ra_qg (.ab (i := 5) (js := [9, 10, 11, 12]) [6, 7, 8, 13, 14, 15, 16] rfl Kr Kr Kr Kr Kr) (SplitB.all _) (by simp) (guard_vt rfl rfl rfl) rfl rfl (q_pev rfl Bt) ?_
            refine ra_qg (.ab (i := 6) (js := [9, 10, 11, 12]) [7, 8, 13, 14, 15, 16] rfl Kr Kr Kr Kr Kr) (SplitB.all _) (by simp) (guard_vt rfl rfl rfl) rfl rfl (q_sub rfl rfl Bt rfl Bt (by intro h; first | omega | (simp at h; omega))) ?_
            refine rw_qgO EPlace (e := 35) (X := y1) (b := y1b) (l := data2) Mm (.ab (i := 7) (js := [9, 10, 11, 12]) [8, 13, 14, 15, 16] rfl Kr Kr Kr Kr Kr) (guard_vt rfl rfl rfl) rfl rfl (q_idx EPlace ((a2 - 1).toNat) rfl rfl Bt rfl Bt rfl rfl rfl (.head _) rfl (by intro h; first | omega | rfl | (simp at h; omega)) (by first | (intro _; first | assumption | omega | (simp only [List.length_set]; omega)) | (intro h; simp at h; omega) | (intro h; simp at h; simp only [List.length_set]; omega))) ?_
            refine rw_qgO EPlace (e := 35) (X := y1) (b := y1b) (l := data2) Mm (.ab (i := 8) (js := [9, 10, 11, 12]) [13, 14, 15, 16] rfl Kr Kr Kr Kr Kr) (guard_vt rfl rfl rfl) rfl rfl (q_leA EPlace rfl rfl Bt rfl rfl (.head _) (by first | (intro _; first | assumption | omega | (simp only [List.length_set]; omega)) | (intro h; simp at h; omega) | (intro h; simp at h; simp only [List.length_set]; omega))) ?_
            refine ra_qg (.ab (i := 9) (js := [10]) [11, 12, 13, 14, 15, 16] rfl Kr Kr Kr Kr Kr) (SplitB.all _) (by simp) (guard_vt rfl rfl rfl) rfl rfl (q_pev rfl Bt) ?_
            refine ra_qg (.ab (i := 10) (js := []) [11, 12, 13, 14, 15, 16] rfl Kr Kr Kr Kr Kr) (SplitB.all _) (by simp) (guard_vt rfl rfl rfl) rfl rfl (q_pev rfl Bt) ?_
            refine rw_qgO EPlace (e := 35) (X := y1) (b := y1b) (l := data2) Mm (.ab (i := 11) (js := []) [12, 13, 14, 15, 16] rfl Kr Kr Kr Kr Kr) (guard_vt rfl rfl rfl) rfl rfl (q_idx EPlace (((slices_choosePivotCmpFunc_Place data2 a2 b2 cmp1).1).toNat) rfl rfl Bt rfl Bt rfl rfl rfl (.head _) rfl (by intro h; first | omega | rfl | (simp at h; omega)) (by first | (intro _; first | assumption | omega | (simp only [List.length_set]; omega)) | (intro h; simp at h; omega) | (intro h; simp at h; simp only [List.length_set]; omega))) ?_
            refine rw_qgO EPlace (e := 35) (X := y1) (b := y1b) (l := data2) Mm (.ab (i := 12) (js := []) [13, 14, 15, 16] rfl Kr Kr Kr Kr Kr) (guard_vt rfl rfl rfl) rfl rfl (q_leA EPlace rfl rfl Bt rfl rfl (.head _) (by first | (intro _; first | assumption | omega | (simp only [List.length_set]; omega)) | (intro h; simp at h; omega) | (intro h; simp at h; simp only [List.length_set]; omega))) ?_
            refine ra_one 13 Kr ?_
            refine rw_split (.an rfl rfl) (guard_vt rfl rfl rfl) (fun hg2 => ?_) (fun hg2 => ?_)
            · skip
              have hg2p := of_decide_eq_true hg2
              refine rw_callv (hfn1 (gt data2 ((a2 - 1).toNat)) (gt data2 (((slices_choosePivotCmpFunc_Place data2 a2 b2 cmp1).1).toNat))) (.an rfl rfl) (guard_is (guard_vt rfl rfl rfl) hg2) rfl rfl rfl rfl (by first | rfl | assumption | (simp only [hc1, hc2, hc3, hc4, hc5, hg2, Bool.and_true, Bool.true_and, Bool.and_self, Bool.not_false, Bool.not_true]; done) | simp_all) (by assumption) rfl (by first | rfl | assumption | (simp only [hc1, hc2, hc3, hc4, hc5, hg2, Bool.and_true, Bool.true_and, Bool.and_self, Bool.not_false, Bool.not_true]; done) | simp_all) rfl Sf ?_
              intro _
              refine ra_qg (.ab (i := 14) (js := []) [15, 16] rfl Kr Kr Kr Kr Kr) (SplitB.all _) (by simp) (guard_vt rfl rfl rfl) rfl rfl (q_pev rfl Bt) ?_
              refine ra_qg (.an (i := 15) (js := []) rfl Kr Kr Kr Kr) (SplitB.all _) (by simp) (guard_vt rfl rfl rfl) rfl rfl (q_pev rfl Bt) ?_
              refine ra_q (.an (i := 16) (js := []) rfl Kr Kr Kr Kr) (SplitB.all _) (by simp) rfl rfl rfl (q_pev rfl Bt) ?_
              refine ra_nil Kr ?_
              (repeat refine cw_seq ?_); refine cw_cond (b := (decide (a2 > 0) && (!(decide ((cmp1 (gt data2 ((a2 - 1).toNat)) (gt data2 (((slices_choosePivotCmpFunc_Place data2 a2 b2 cmp1).1).toNat))) < 0))))) rfl rfl (fun hc11 => ?_) (fun hc11 => ?_)
              · skip
                try simp only [hg2, Bool.true_and, Bool.and_true] at hc11
                try simp only [hg2, Bool.true_and, Bool.and_true, Bool.false_or, Bool.or_false, Bool.false_and, Bool.and_false, Bool.true_or, Bool.or_true, Bool.not_true, Bool.not_false] at hc11
                rw [decide_eq_true (hst.low (by omega))] at hc11; exact absurd hc11 (by decide)
              · skip
                try simp only [hg2, Bool.true_and, Bool.and_true] at hc11
                try simp only [hg2, Bool.true_and, Bool.and_true, Bool.false_or, Bool.or_false, Bool.false_and, Bool.and_false, Bool.true_or, Bool.or_true, Bool.not_true, Bool.not_false] at hc11
                (repeat refine cw_seq ?_); refine cw_skip ?_
                (repeat refine cw_seq ?_); refine cw_region ?_
                refine Rp rfl rfl rfl rfl ?_
                refine Rp rfl rfl rfl rfl ?_
                refine Rp rfl rfl rfl rfl ?_
                refine Rp rfl rfl rfl rfl ?_
                refine Rp rfl rfl rfl rfl ?_
                refine rw_callG (slices_partitionCmpFunc_Place_spec y1 y1b data2 a2 b2 ((slices_choosePivotCmpFunc_Place data2 a2 b2 cmp1).1) _ _ _ cmp1 (by assumption) hfn1 (by have := hst.pv; omega)) .sq (.inl ⟨_, rfl⟩) (guard_none rfl) rfl rfl rfl Kr rfl rfl Sf (.nil _) (by first | exact .cons (.here _ _) (.nil _) | exact .cons (.there _ (.here _ _)) (.nil _) | exact .cons (.there _ (.there _ (.here _ _))) (.nil _) | exact .cons (.there _ (.there _ (.there _ (.here _ _)))) (.nil _)) ?_
                intro _
                have hv7l : data2.length = ((slices_partitionCmpFunc_Place data2 a2 b2 ((slices_choosePivotCmpFunc_Place data2 a2 b2 cmp1).1) cmp1).2.2).length := hst.len.symm
                have hv7 : y1.val data2.length = y1.val ((slices_partitionCmpFunc_Place data2 a2 b2 ((slices_choosePivotCmpFunc_Place data2 a2 b2 cmp1).1) cmp1).2.2).length := congrArg (SlV.val y1) hv7l
                try rw [hv7]
                refine Rp rfl rfl rfl rfl ?_
                refine Rp rfl rfl rfl rfl ?_
                refine Rp rfl rfl rfl rfl ?_
                refine Rp rfl rfl rfl rfl ?_
                refine Rp rfl rfl rfl rfl ?_
                refine rw_nil ?_
                (repeat refine cw_seq ?_); refine cw_region ?_
                refine Rp rfl rfl rfl rfl ?_
                refine Rp rfl rfl rfl rfl ?_
                refine rw_nil ?_
                (repeat refine cw_seq ?_); refine cw_region ?_
                refine Rp rfl rfl rfl rfl ?_
                refine Rp rfl rfl rfl rfl ?_
                refine rw_q rfl rfl rfl (q_sub rfl rfl (fun _ => rfl) rfl (fun _ => rfl) (fun _ => by omega)) ?_
                refine Rp rfl rfl rfl rfl ?_
                refine Rp rfl rfl rfl rfl ?_
                refine rw_q rfl rfl rfl (q_sub rfl rfl (fun _ => rfl) rfl (fun _ => rfl) (fun _ => by omega)) ?_
                refine Rp rfl rfl rfl rfl ?_
                refine Rp rfl rfl rfl rfl ?_
                refine rw_nil ?_
                (repeat refine cw_seq ?_); refine cw_region ?_
                refine Rp rfl rfl rfl rfl ?_
                refine rw_q rfl rfl rfl (q_quo rfl rfl (fun _ => rfl) rfl (fun _ => rfl) (fun _ => by omega)) ?_
                refine Rp rfl rfl rfl rfl ?_
                refine rw_nil ?_
                (repeat refine cw_seq ?_); refine cw_region ?_
                refine Rp rfl rfl rfl rfl ?_
                refine Rp rfl rfl rfl rfl ?_
                refine Rp rfl rfl rfl rfl ?_
                refine rw_nil ?_
                (repeat refine cw_seq ?_); refine cw_cond (b := decide ((((slices_partitionCmpFunc_Place data2 a2 b2 ((slices_choosePivotCmpFunc_Place data2 a2 b2 cmp1).1) cmp1).1) - a2) < (b2 - ((slices_partitionCmpFunc_Place data2 a2 b2 ((slices_choosePivotCmpFunc_Place data2 a2 b2 cmp1).1) cmp1).1)))) rfl rfl (fun hc12 => ?_) (fun hc12 => ?_)
                · skip
                  try simp only [hg2, Bool.true_and, Bool.and_true] at hc12
                  try simp only [hg2, Bool.true_and, Bool.and_true, Bool.false_or, Bool.or_false, Bool.false_and, Bool.and_false, Bool.true_or, Bool.or_true, Bool.not_true, Bool.not_false] at hc12
                  have hc12p := of_decide_eq_true hc12
                  (repeat refine cw_seq ?_); refine cw_region ?_
                  refine Rp rfl rfl rfl rfl ?_
                  refine Rp rfl rfl rfl rfl ?_
                  refine Rp rfl rfl rfl rfl ?_
                  refine Rp rfl rfl rfl rfl ?_
                  refine rw_nil ?_
                  (repeat refine cw_seq ?_); refine cw_region ?_
                  refine Rp rfl rfl rfl rfl ?_
                  refine Rp rfl rfl rfl rfl ?_
                  refine Rp rfl rfl rfl rfl ?_
                  refine Rp rfl rfl rfl rfl ?_
                  refine Rp rfl rfl rfl rfl ?_
                  refine rw_callG (slices_pdq12_Place_spec y1 y1b ((slices_partitionCmpFunc_Place data2 a2 b2 ((slices_choosePivotCmpFunc_Place data2 a2 b2 cmp1).1) cmp1).2.2) a2 ((slices_partitionCmpFunc_Place data2 a2 b2 ((slices_choosePivotCmpFunc_Place data2 a2 b2 cmp1).1) cmp1).1) limit1 _ _ _ cmp1 (by assumption) hfn1 (by have := hst.mid; have := hst.len; omega)) .sq (.inl ⟨_, rfl⟩) (guard_none rfl) rfl rfl rfl Kr rfl rfl Sf (.nil _) (by first | exact .cons (.here _ _) (.nil _) | exact .cons (.there _ (.here _ _)) (.nil _) | exact .cons (.there _ (.there _ (.here _ _))) (.nil _) | exact .cons (.there _ (.there _ (.there _ (.here _ _)))) (.nil _)) ?_
                  intro _
                  have hv8l : ((slices_partitionCmpFunc_Place data2 a2 b2 ((slices_choosePivotCmpFunc_Place data2 a2 b2 cmp1).1) cmp1).2.2).length = (slices_pdq12_Place ((slices_partitionCmpFunc_Place data2 a2 b2 ((slices_choosePivotCmpFunc_Place data2 a2 b2 cmp1).1) cmp1).2.2) a2 ((slices_partitionCmpFunc_Place data2 a2 b2 ((slices_choosePivotCmpFunc_Place data2 a2 b2 cmp1).1) cmp1).1) limit1 cmp1).length := (by first | exact hst.len.trans (hst.ll (by omega)).symm | exact hst.len.trans (hst.lr (by omega)).symm)
                  have hv8 : y1.val ((slices_partitionCmpFunc_Place data2 a2 b2 ((slices_choosePivotCmpFunc_Place data2 a2 b2 cmp1).1) cmp1).2.2).length = y1.val (slices_pdq12_Place ((slices_partitionCmpFunc_Place data2 a2 b2 ((slices_choosePivotCmpFunc_Place data2 a2 b2 cmp1).1) cmp1).2.2) a2 ((slices_partitionCmpFunc_Place data2 a2 b2 ((slices_choosePivotCmpFunc_Place data2 a2 b2 cmp1).1) cmp1).1) limit1 cmp1).length := congrArg (SlV.val y1) hv8l
                  try rw [hv8]
                  refine rw_nil ?_
                  (repeat refine cw_seq ?_); refine cw_region ?_
                  refine Rp rfl rfl rfl rfl ?_
                  refine rw_q rfl rfl rfl (q_add rfl rfl (fun _ => rfl) rfl (fun _ => rfl) (fun _ => by omega)) ?_
                  refine Rp rfl rfl rfl rfl ?_
                  refine rw_nil ?_
                  refine ⟨⟨(slices_pdq12_Place ((slices_partitionCmpFunc_Place data2 a2 b2 ((slices_choosePivotCmpFunc_Place data2 a2 b2 cmp1).1) cmp1).2.2) a2 ((slices_partitionCmpFunc_Place data2 a2 b2 ((slices_choosePivotCmpFunc_Place data2 a2 b2 cmp1).1) cmp1).1) limit1 cmp1), (((slices_partitionCmpFunc_Place data2 a2 b2 ((slices_choosePivotCmpFunc_Place data2 a2 b2 cmp1).1) cmp1).1) + 1), b2, decide ((((slices_partitionCmpFunc_Place data2 a2 b2 ((slices_choosePivotCmpFunc_Place data2 a2 b2 cmp1).1) cmp1).1) - a2) ≥ ((b2 - a2) / 8)), (slices_partitionCmpFunc_Place data2 a2 b2 ((slices_choosePivotCmpFunc_Place data2 a2 b2 cmp1).1) cmp1).2.1, (fz1 - 1)⟩, ⟨(by have hm_ := hst.mid; refine ⟨?_, ?_, ?_, ?_, ?_⟩ <;> (try simp only []) <;> first | omega | exact (hst.ll (by omega)).trans (by omega) | exact (hst.lr (by omega)).trans (by omega)), (by first | exact hst.gl (by omega) | exact hst.gr (by omega)), (by first | exact hst.bl (by omega) | exact hst.br (by omega)), (decide_eq_true (by have := hst.mid; omega)), (by (try simp only []); first | omega | (simp only [List.length_append, List.length_cons, List.length_nil]; omega)), (by rw [← hf1]; (conv => lhs; rw [hlt0_]); simp only [slices_pdqsortCmpFunc_Place_L0, hc1, hc2, hc3, hc4, hc5, hg2, hc11, hc12, Bool.true_and, Bool.and_true, Bool.true_and, Bool.and_true, Bool.false_or, Bool.or_false, Bool.false_and, Bool.and_false, Bool.true_or, Bool.or_true, Bool.not_true, Bool.not_false, cond_true, cond_false] : (slices_pdqsortCmpFunc_Place data1 a1 b1 limit1 cmp1) = (slices_pdqsortCmpFunc_Place_L0 limit1 cmp1 (fz1 - 1) (slices_pdq12_Place ((slices_partitionCmpFunc_Place data2 a2 b2 ((slices_choosePivotCmpFunc_Place data2 a2 b2 cmp1).1) cmp1).2.2) a2 ((slices_partitionCmpFunc_Place data2 a2 b2 ((slices_choosePivotCmpFunc_Place data2 a2 b2 cmp1).1) cmp1).1) limit1 cmp1) (((slices_partitionCmpFunc_Place data2 a2 b2 ((slices_choosePivotCmpFunc_Place data2 a2 b2 cmp1).1) cmp1).1) + 1) b2 (decide ((((slices_partitionCmpFunc_Place data2 a2 b2 ((slices_choosePivotCmpFunc_Place data2 a2 b2 cmp1).1) cmp1).1) - a2) ≥ ((b2 - a2) / 8))) ((slices_partitionCmpFunc_Place data2 a2 b2 ((slices_choosePivotCmpFunc_Place data2 a2 b2 cmp1).1) cmp1).2.1))).symm⟩, (by simp only []; omega), Le5⟩
                · skip
                  try simp only [hg2, Bool.true_and, Bool.and_true] at hc12
                  try simp only [hg2, Bool.true_and, Bool.and_true, Bool.false_or, Bool.or_false, Bool.false_and, Bool.and_false, Bool.true_or, Bool.or_true, Bool.not_true, Bool.not_false] at hc12
                  have hc12p := of_decide_eq_false hc12
                  (repeat refine cw_seq ?_); refine cw_region ?_
                  refine Rp rfl rfl rfl rfl ?_
                  refine Rp rfl rfl rfl rfl ?_
                  refine Rp rfl rfl rfl rfl ?_
                  refine Rp rfl rfl rfl rfl ?_
                  refine rw_nil ?_
                  (repeat refine cw_seq ?_); refine cw_region ?_
                  refine Rp rfl rfl rfl rfl ?_
                  refine Rp rfl rfl rfl rfl ?_
                  refine rw_q rfl rfl rfl (q_add rfl rfl (fun _ => rfl) rfl (fun _ => rfl) (fun _ => by omega)) ?_
                  refine Rp rfl rfl rfl rfl ?_
                  refine Rp rfl rfl rfl rfl ?_
                  refine Rp rfl rfl rfl rfl ?_
                  refine rw_callG (slices_pdq12_Place_spec y1 y1b ((slices_partitionCmpFunc_Place data2 a2 b2 ((slices_choosePivotCmpFunc_Place data2 a2 b2 cmp1).1) cmp1).2.2) (((slices_partitionCmpFunc_Place data2 a2 b2 ((slices_choosePivotCmpFunc_Place data2 a2 b2 cmp1).1) cmp1).1) + 1) b2 limit1 _ _ _ cmp1 (by assumption) hfn1 (by have := hst.mid; have := hst.len; omega)) .sq (.inl ⟨_, rfl⟩) (guard_none rfl) rfl rfl rfl Kr rfl rfl Sf (.nil _) (by first | exact .cons (.here _ _) (.nil _) | exact .cons (.there _ (.here _ _)) (.nil _) | exact .cons (.there _ (.there _ (.here _ _))) (.nil _) | exact .cons (.there _ (.there _ (.there _ (.here _ _)))) (.nil _)) ?_
                  intro _
                  have hv9l : ((slices_partitionCmpFunc_Place data2 a2 b2 ((slices_choosePivotCmpFunc_Place data2 a2 b2 cmp1).1) cmp1).2.2).length = (slices_pdq12_Place ((slices_partitionCmpFunc_Place data2 a2 b2 ((slices_choosePivotCmpFunc_Place data2 a2 b2 cmp1).1) cmp1).2.2) (((slices_partitionCmpFunc_Place data2 a2 b2 ((slices_choosePivotCmpFunc_Place data2 a2 b2 cmp1).1) cmp1).1) + 1) b2 limit1 cmp1).length := (by first | exact hst.len.trans (hst.ll (by omega)).symm | exact hst.len.trans (hst.lr (by omega)).symm)
                  have hv9 : y1.val ((slices_partitionCmpFunc_Place data2 a2 b2 ((slices_choosePivotCmpFunc_Place data2 a2 b2 cmp1).1) cmp1).2.2).length = y1.val (slices_pdq12_Place ((slices_partitionCmpFunc_Place data2 a2 b2 ((slices_choosePivotCmpFunc_Place data2 a2 b2 cmp1).1) cmp1).2.2) (((slices_partitionCmpFunc_Place data2 a2 b2 ((slices_choosePivotCmpFunc_Place data2 a2 b2 cmp1).1) cmp1).1) + 1) b2 limit1 cmp1).length := congrArg (SlV.val y1) hv9l
                  try rw [hv9]
                  refine rw_nil ?_
                  (repeat refine cw_seq ?_); refine cw_region ?_
                  refine Rp rfl rfl rfl rfl ?_
                  refine Rp rfl rfl rfl rfl ?_
                  refine rw_nil ?_
                  refine ⟨⟨(slices_pdq12_Place ((slices_partitionCmpFunc_Place data2 a2 b2 ((slices_choosePivotCmpFunc_Place data2 a2 b2 cmp1).1) cmp1).2.2) (((slices_partitionCmpFunc_Place data2 a2 b2 ((slices_choosePivotCmpFunc_Place data2 a2 b2 cmp1).1) cmp1).1) + 1) b2 limit1 cmp1), a2, (slices_partitionCmpFunc_Place data2 a2 b2 ((slices_choosePivotCmpFunc_Place data2 a2 b2 cmp1).1) cmp1).1, decide ((b2 - ((slices_partitionCmpFunc_Place data2 a2 b2 ((slices_choosePivotCmpFunc_Place data2 a2 b2 cmp1).1) cmp1).1)) ≥ ((b2 - a2) / 8)), (slices_partitionCmpFunc_Place data2 a2 b2 ((slices_choosePivotCmpFunc_Place data2 a2 b2 cmp1).1) cmp1).2.1, (fz1 - 1)⟩, ⟨(by have hm_ := hst.mid; refine ⟨?_, ?_, ?_, ?_, ?_⟩ <;> (try simp only []) <;> first | omega | exact (hst.ll (by omega)).trans (by omega) | exact (hst.lr (by omega)).trans (by omega)), (by first | exact hst.gl (by omega) | exact hst.gr (by omega)), (by first | exact hst.bl (by omega) | exact hst.br (by omega)), (decide_eq_true (by have := hst.mid; omega)), (by (try simp only []); first | omega | (simp only [List.length_append, List.length_cons, List.length_nil]; omega)), (by rw [← hf1]; (conv => lhs; rw [hlt0_]); simp only [slices_pdqsortCmpFunc_Place_L0, hc1, hc2, hc3, hc4, hc5, hg2, hc11, hc12, Bool.true_and, Bool.and_true, Bool.true_and, Bool.and_true, Bool.false_or, Bool.or_false, Bool.false_and, Bool.and_false, Bool.true_or, Bool.or_true, Bool.not_true, Bool.not_false, cond_true, cond_false] : (slices_pdqsortCmpFunc_Place data1 a1 b1 limit1 cmp1) = (slices_pdqsortCmpFunc_Place_L0 limit1 cmp1 (fz1 - 1) (slices_pdq12_Place ((slices_partitionCmpFunc_Place data2 a2 b2 ((slices_choosePivotCmpFunc_Place data2 a2 b2 cmp1).1) cmp1).2.2) (((slices_partitionCmpFunc_Place data2 a2 b2 ((slices_choosePivotCmpFunc_Place data2 a2 b2 cmp1).1) cmp1).1) + 1) b2 limit1 cmp1) a2 ((slices_partitionCmpFunc_Place data2 a2 b2 ((slices_choosePivotCmpFunc_Place data2 a2 b2 cmp1).1) cmp1).1) (decide ((b2 - ((slices_partitionCmpFunc_Place data2 a2 b2 ((slices_choosePivotCmpFunc_Place data2 a2 b2 cmp1).1) cmp1).1)) ≥ ((b2 - a2) / 8))) ((slices_partitionCmpFunc_Place data2 a2 b2 ((slices_choosePivotCmpFunc_Place data2 a2 b2 cmp1).1) cmp1).2.1))).symm⟩, (by simp only []; omega), Le5⟩
            · skip
              have hg2p := of_decide_eq_false hg2
              refine rw_dead (.an rfl rfl) (guard_vt rfl rfl rfl) hg2 rfl rfl ?_
              refine ra_qg (.ab (i := 14) (js := []) [15, 16] rfl Kr Kr Kr Kr Kr) (SplitB.all _) (by simp) (guard_vt rfl rfl rfl) rfl rfl (q_dead (v := .bool false) hg2) ?_
              refine ra_qg (.an (i := 15) (js := []) rfl Kr Kr Kr Kr) (SplitB.all _) (by simp) (guard_vt rfl rfl rfl) rfl rfl (q_dead (v := .bool false) hg2) ?_
              refine ra_q (.an (i := 16) (js := []) rfl Kr Kr Kr Kr) (SplitB.all _) (by simp) rfl rfl rfl (q_pev rfl Bt) ?_
              refine ra_nil Kr ?_
              (repeat refine cw_seq ?_); refine cw_cond (b := (decide (a2 > 0) && false)) rfl rfl (fun hc13 => ?_) (fun hc13 => ?_)
              · skip
                exact Bool.noConfusion (hc13.symm.trans ((by simp only [hg2, Bool.and_false, Bool.false_and, Bool.or_true, Bool.true_or, Bool.or_false, Bool.false_or, Bool.and_true, Bool.true_and, Bool.not_true, Bool.not_false]) : (decide (a2 > 0) && false) = false))
              · skip
                (repeat refine cw_seq ?_); refine cw_skip ?_
                (repeat refine cw_seq ?_); refine cw_region ?_
                refine Rp rfl rfl rfl rfl ?_
                refine Rp rfl rfl rfl rfl ?_
                refine Rp rfl rfl rfl rfl ?_
                refine Rp rfl rfl rfl rfl ?_
                refine Rp rfl rfl rfl rfl ?_
                refine rw_callG (slices_partitionCmpFunc_Place_spec y1 y1b data2 a2 b2 ((slices_choosePivotCmpFunc_Place data2 a2 b2 cmp1).1) _ _ _ cmp1 (by assumption) hfn1 (by have := hst.pv; omega)) .sq (.inl ⟨_, rfl⟩) (guard_none rfl) rfl rfl rfl Kr rfl rfl Sf (.nil _) (by first | exact .cons (.here _ _) (.nil _) | exact .cons (.there _ (.here _ _)) (.nil _) | exact .cons (.there _ (.there _ (.here _ _))) (.nil _) | exact .cons (.there _ (.there _ (.there _ (.here _ _)))) (.nil _)) ?_
                intro _
                have hv10l : data2.length = ((slices_partitionCmpFunc_Place data2 a2 b2 ((slices_choosePivotCmpFunc_Place data2 a2 b2 cmp1).1) cmp1).2.2).length := hst.len.symm
                have hv10 : y1.val data2.length = y1.val ((slices_partitionCmpFunc_Place data2 a2 b2 ((slices_choosePivotCmpFunc_Place data2 a2 b2 cmp1).1) cmp1).2.2).length := congrArg (SlV.val y1) hv10l
                try rw [hv10]
                refine Rp rfl rfl rfl rfl ?_
                refine Rp rfl rfl rfl rfl ?_
                refine Rp rfl rfl rfl rfl ?_
                refine Rp rfl rfl rfl rfl ?_
                refine Rp rfl rfl rfl rfl ?_
                refine rw_nil ?_
                (repeat refine cw_seq ?_); refine cw_region ?_
                refine Rp rfl rfl rfl rfl ?_
                refine Rp rfl rfl rfl rfl ?_
                refine rw_nil ?_
                (repeat refine cw_seq ?_); refine cw_region ?_
                refine Rp rfl rfl rfl rfl ?_
                refine Rp rfl rfl rfl rfl ?_
                refine rw_q rfl rfl rfl (q_sub rfl rfl (fun _ => rfl) rfl (fun _ => rfl) (fun _ => by omega)) ?_
                refine Rp rfl rfl rfl rfl ?_
                refine Rp rfl rfl rfl rfl ?_
                refine rw_q rfl rfl rfl (q_sub rfl rfl (fun _ => rfl) rfl (fun _ => rfl) (fun _ => by omega)) ?_
                refine Rp rfl rfl rfl rfl ?_
                refine Rp rfl rfl rfl rfl ?_
                refine rw_nil ?_
                (repeat refine cw_seq ?_); refine cw_region ?_
                refine Rp rfl rfl rfl rfl ?_
                refine rw_q rfl rfl rfl (q_quo rfl rfl (fun _ => rfl) rfl (fun _ => rfl) (fun _ => by omega)) ?_
                refine Rp rfl rfl rfl rfl ?_
                refine rw_nil ?_
                (repeat refine cw_seq ?_); refine cw_region ?_
                refine Rp rfl rfl rfl rfl ?_
                refine Rp rfl rfl rfl rfl ?_
                refine Rp rfl rfl rfl rfl ?_
                refine rw_nil ?_
                (repeat refine cw_seq ?_); refine cw_cond (b := decide ((((slices_partitionCmpFunc_Place data2 a2 b2 ((slices_choosePivotCmpFunc_Place data2 a2 b2 cmp1).1) cmp1).1) - a2) < (b2 - ((slices_partitionCmpFunc_Place data2 a2 b2 ((slices_choosePivotCmpFunc_Place data2 a2 b2 cmp1).1) cmp1).1)))) rfl rfl (fun hc14 => ?_) (fun hc14 => ?_)
                · skip
                  try simp only [hg2, Bool.true_and, Bool.and_true] at hc14
                  try simp only [hg2, Bool.true_and, Bool.and_true, Bool.false_or, Bool.or_false, Bool.false_and, Bool.and_false, Bool.true_or, Bool.or_true, Bool.not_true, Bool.not_false] at hc14
                  have hc14p := of_decide_eq_true hc14
                  (repeat refine cw_seq ?_); refine cw_region ?_
                  refine Rp rfl rfl rfl rfl ?_
                  refine Rp rfl rfl rfl rfl ?_
                  refine Rp rfl rfl rfl rfl ?_
                  refine Rp rfl rfl rfl rfl ?_
                  refine rw_nil ?_
                  (repeat refine cw_seq ?_); refine cw_region ?_
                  refine Rp rfl rfl rfl rfl ?_
                  refine Rp rfl rfl rfl rfl ?_
                  refine Rp rfl rfl rfl rfl ?_
                  refine Rp rfl rfl rfl rfl ?_
                  refine Rp rfl rfl rfl rfl ?_
                  refine rw_callG (slices_pdq12_Place_spec y1 y1b ((slices_partitionCmpFunc_Place data2 a2 b2 ((slices_choosePivotCmpFunc_Place data2 a2 b2 cmp1).1) cmp1).2.2) a2 ((slices_partitionCmpFunc_Place data2 a2 b2 ((slices_choosePivotCmpFunc_Place data2 a2 b2 cmp1).1) cmp1).1) limit1 _ _ _ cmp1 (by assumption) hfn1 (by have := hst.mid; have := hst.len; omega)) .sq (.inl ⟨_, rfl⟩) (guard_none rfl) rfl rfl rfl Kr rfl rfl Sf (.nil _) (by first | exact .cons (.here _ _) (.nil _) | exact .cons (.there _ (.here _ _)) (.nil _) | exact .cons (.there _ (.there _ (.here _ _))) (.nil _) | exact .cons (.there _ (.there _ (.there _ (.here _ _)))) (.nil _)) ?_
                  intro _
                  have hv11l : ((slices_partitionCmpFunc_Place data2 a2 b2 ((slices_choosePivotCmpFunc_Place data2 a2 b2 cmp1).1) cmp1).2.2).length = (slices_pdq12_Place ((slices_partitionCmpFunc_Place data2 a2 b2 ((slices_choosePivotCmpFunc_Place data2 a2 b2 cmp1).1) cmp1).2.2) a2 ((slices_partitionCmpFunc_Place data2 a2 b2 ((slices_choosePivotCmpFunc_Place data2 a2 b2 cmp1).1) cmp1).1) limit1 cmp1).length := (by first | exact hst.len.trans (hst.ll (by omega)).symm | exact hst.len.trans (hst.lr (by omega)).symm)
                  have hv11 : y1.val ((slices_partitionCmpFunc_Place data2 a2 b2 ((slices_choosePivotCmpFunc_Place data2 a2 b2 cmp1).1) cmp1).2.2).length = y1.val (slices_pdq12_Place ((slices_partitionCmpFunc_Place data2 a2 b2 ((slices_choosePivotCmpFunc_Place data2 a2 b2 cmp1).1) cmp1).2.2) a2 ((slices_partitionCmpFunc_Place data2 a2 b2 ((slices_choosePivotCmpFunc_Place data2 a2 b2 cmp1).1) cmp1).1) limit1 cmp1).length := congrArg (SlV.val y1) hv11l
                  try rw [hv11]
                  refine rw_nil ?_
                  (repeat refine cw_seq ?_); refine cw_region ?_
                  refine Rp rfl rfl rfl rfl ?_
                  refine rw_q rfl rfl rfl (q_add rfl rfl (fun _ => rfl) rfl (fun _ => rfl) (fun _ => by omega)) ?_
                  refine Rp rfl rfl rfl rfl ?_
                  refine rw_nil ?_
                  refine ⟨⟨(slices_pdq12_Place ((slices_partitionCmpFunc_Place data2 a2 b2 ((slices_choosePivotCmpFunc_Place data2 a2 b2 cmp1).1) cmp1).2.2) a2 ((slices_partitionCmpFunc_Place data2 a2 b2 ((slices_choosePivotCmpFunc_Place data2 a2 b2 cmp1).1) cmp1).1) limit1 cmp1), (((slices_partitionCmpFunc_Place data2 a2 b2 ((slices_choosePivotCmpFunc_Place data2 a2 b2 cmp1).1) cmp1).1) + 1), b2, decide ((((slices_partitionCmpFunc_Place data2 a2 b2 ((slices_choosePivotCmpFunc_Place data2 a2 b2 cmp1).1) cmp1).1) - a2) ≥ ((b2 - a2) / 8)), (slices_partitionCmpFunc_Place data2 a2 b2 ((slices_choosePivotCmpFunc_Place data2 a2 b2 cmp1).1) cmp1).2.1, (fz1 - 1)⟩, ⟨(by have hm_ := hst.mid; refine ⟨?_, ?_, ?_, ?_, ?_⟩ <;> (try simp only []) <;> first | omega | exact (hst.ll (by omega)).trans (by omega) | exact (hst.lr (by omega)).trans (by omega)), (by first | exact hst.gl (by omega) | exact hst.gr (by omega)), (by first | exact hst.bl (by omega) | exact hst.br (by omega)), (decide_eq_true (by have := hst.mid; omega)), (by (try simp only []); first | omega | (simp only [List.length_append, List.length_cons, List.length_nil]; omega)), (by rw [← hf1]; (conv => lhs; rw [hlt0_]); simp only [slices_pdqsortCmpFunc_Place_L0, hc1, hc2, hc3, hc4, hc5, hg2, hc14, Bool.true_and, Bool.and_true, Bool.true_and, Bool.and_true, Bool.false_or, Bool.or_false, Bool.false_and, Bool.and_false, Bool.true_or, Bool.or_true, Bool.not_true, Bool.not_false, cond_true, cond_false] : (slices_pdqsortCmpFunc_Place data1 a1 b1 limit1 cmp1) = (slices_pdqsortCmpFunc_Place_L0 limit1 cmp1 (fz1 - 1) (slices_pdq12_Place ((slices_partitionCmpFunc_Place data2 a2 b2 ((slices_choosePivotCmpFunc_Place data2 a2 b2 cmp1).1) cmp1).2.2) a2 ((slices_partitionCmpFunc_Place data2 a2 b2 ((slices_choosePivotCmpFunc_Place data2 a2 b2 cmp1).1) cmp1).1) limit1 cmp1) (((slices_partitionCmpFunc_Place data2 a2 b2 ((slices_choosePivotCmpFunc_Place data2 a2 b2 cmp1).1) cmp1).1) + 1) b2 (decide ((((slices_partitionCmpFunc_Place data2 a2 b2 ((slices_choosePivotCmpFunc_Place data2 a2 b2 cmp1).1) cmp1).1) - a2) ≥ ((b2 - a2) / 8))) ((slices_partitionCmpFunc_Place data2 a2 b2 ((slices_choosePivotCmpFunc_Place data2 a2 b2 cmp1).1) cmp1).2.1))).symm⟩, (by simp only []; omega), Le5⟩
                · skip
                  try simp only [hg2, Bool.true_and, Bool.and_true] at hc14
                  try simp only [hg2, Bool.true_and, Bool.and_true, Bool.false_or, Bool.or_false, Bool.false_and, Bool.and_false, Bool.true_or, Bool.or_true, Bool.not_true, Bool.not_false] at hc14
                  have hc14p := of_decide_eq_false hc14
                  (repeat refine cw_seq ?_); refine cw_region ?_
                  refine Rp rfl rfl rfl rfl ?_
                  refine Rp rfl rfl rfl rfl ?_
                  refine Rp rfl rfl rfl rfl ?_
                  refine Rp rfl rfl rfl rfl ?_
                  refine rw_nil ?_
                  (repeat refine cw_seq ?_); refine cw_region ?_
                  refine Rp rfl rfl rfl rfl ?_
                  refine Rp rfl rfl rfl rfl ?_
                  refine rw_q rfl rfl rfl (q_add rfl rfl (fun _ => rfl) rfl (fun _ => rfl) (fun _ => by omega)) ?_
                  refine Rp rfl rfl rfl rfl ?_
                  refine Rp rfl rfl rfl rfl ?_
                  refine Rp rfl rfl rfl rfl ?_
                  refine rw_callG (slices_pdq12_Place_spec y1 y1b ((slices_partitionCmpFunc_Place data2 a2 b2 ((slices_choosePivotCmpFunc_Place data2 a2 b2 cmp1).1) cmp1).2.2) (((slices_partitionCmpFunc_Place data2 a2 b2 ((slices_choosePivotCmpFunc_Place data2 a2 b2 cmp1).1) cmp1).1) + 1) b2 limit1 _ _ _ cmp1 (by assumption) hfn1 (by have := hst.mid; have := hst.len; omega)) .sq (.inl ⟨_, rfl⟩) (guard_none rfl) rfl rfl rfl Kr rfl rfl Sf (.nil _) (by first | exact .cons (.here _ _) (.nil _) | exact .cons (.there _ (.here _ _)) (.nil _) | exact .cons (.there _ (.there _ (.here _ _))) (.nil _) | exact .cons (.there _ (.there _ (.there _ (.here _ _)))) (.nil _)) ?_
                  intro _
                  have hv12l : ((slices_partitionCmpFunc_Place data2 a2 b2 ((slices_choosePivotCmpFunc_Place data2 a2 b2 cmp1).1) cmp1).2.2).length = (slices_pdq12_Place ((slices_partitionCmpFunc_Place data2 a2 b2 ((slices_choosePivotCmpFunc_Place data2 a2 b2 cmp1).1) cmp1).2.2) (((slices_partitionCmpFunc_Place data2 a2 b2 ((slices_choosePivotCmpFunc_Place data2 a2 b2 cmp1).1) cmp1).1) + 1) b2 limit1 cmp1).length := (by first | exact hst.len.trans (hst.ll (by omega)).symm | exact hst.len.trans (hst.lr (by omega)).symm)
                  have hv12 : y1.val ((slices_partitionCmpFunc_Place data2 a2 b2 ((slices_choosePivotCmpFunc_Place data2 a2 b2 cmp1).1) cmp1).2.2).length = y1.val (slices_pdq12_Place ((slices_partitionCmpFunc_Place data2 a2 b2 ((slices_choosePivotCmpFunc_Place data2 a2 b2 cmp1).1) cmp1).2.2) (((slices_partitionCmpFunc_Place data2 a2 b2 ((slices_choosePivotCmpFunc_Place data2 a2 b2 cmp1).1) cmp1).1) + 1) b2 limit1 cmp1).length := congrArg (SlV.val y1) hv12l
                  try rw [hv12]
                  refine rw_nil ?_
                  (repeat refine cw_seq ?_); refine cw_region ?_
                  refine Rp rfl rfl rfl rfl ?_
                  refine Rp rfl rfl rfl rfl ?_
                  refine rw_nil ?_
                  refine ⟨⟨(slices_pdq12_Place ((slices_partitionCmpFunc_Place data2 a2 b2 ((slices_choosePivotCmpFunc_Place data2 a2 b2 cmp1).1) cmp1).2.2) (((slices_partitionCmpFunc_Place data2 a2 b2 ((slices_choosePivotCmpFunc_Place data2 a2 b2 cmp1).1) cmp1).1) + 1) b2 limit1 cmp1), a2, (slices_partitionCmpFunc_Place data2 a2 b2 ((slices_choosePivotCmpFunc_Place data2 a2 b2 cmp1).1) cmp1).1, decide ((b2 - ((slices_partitionCmpFunc_Place data2 a2 b2 ((slices_choosePivotCmpFunc_Place data2 a2 b2 cmp1).1) cmp1).1)) ≥ ((b2 - a2) / 8)), (slices_partitionCmpFunc_Place data2 a2 b2 ((slices_choosePivotCmpFunc_Place data2 a2 b2 cmp1).1) cmp1).2.1, (fz1 - 1)⟩, ⟨(by have hm_ := hst.mid; refine ⟨?_, ?_, ?_, ?_, ?_⟩ <;> (try simp only []) <;> first | omega | exact (hst.ll (by omega)).trans (by omega) | exact (hst.lr (by omega)).trans (by omega)), (by first | exact hst.gl (by omega) | exact hst.gr (by omega)), (by first | exact hst.bl (by omega) | exact hst.br (by omega)), (decide_eq_true (by have := hst.mid; omega)), (by (try simp only []); first | omega | (simp only [List.length_append, List.length_cons, List.length_nil]; omega)), (by rw [← hf1]; (conv => lhs; rw [hlt0_]); simp only [slices_pdqsortCmpFunc_Place_L0, hc1, hc2, hc3, hc4, hc5, hg2, hc14, Bool.true_and, Bool.and_true, Bool.true_and, Bool.and_true, Bool.false_or, Bool.or_false, Bool.false_and, Bool.and_false, Bool.true_or, Bool.or_true, Bool.not_true, Bool.not_false, cond_true, cond_false] : (slices_pdqsortCmpFunc_Place data1 a1 b1 limit1 cmp1) = (slices_pdqsortCmpFunc_Place_L0 limit1 cmp1 (fz1 - 1) (slices_pdq12_Place ((slices_partitionCmpFunc_Place data2 a2 b2 ((slices_choosePivotCmpFunc_Place data2 a2 b2 cmp1).1) cmp1).2.2) (((slices_partitionCmpFunc_Place data2 a2 b2 ((slices_choosePivotCmpFunc_Place data2 a2 b2 cmp1).1) cmp1).1) + 1) b2 limit1 cmp1) a2 ((slices_partitionCmpFunc_Place data2 a2 b2 ((slices_choosePivotCmpFunc_Place data2 a2 b2 cmp1).1) cmp1).1) (decide ((b2 - ((slices_partitionCmpFunc_Place data2 a2 b2 ((slices_choosePivotCmpFunc_Place data2 a2 b2 cmp1).1) cmp1).1)) ≥ ((b2 - a2) / 8))) ((slices_partitionCmpFunc_Place data2 a2 b2 ((slices_choosePivotCmpFunc_Place data2 a2 b2 cmp1).1) cmp1).2.1))).symm⟩, (by simp only []; omega), Le5⟩
end Go.Proofs.Ytchdacbjiomplaa
