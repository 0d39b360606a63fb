/- Part of this claim. No condition. -/
import Derived.Test.YtchdacbjiomplaaW15
import Derived.Test.YtchdacbjiomplaaW16
set_option linter.unusedVariables false
set_option linter.unusedSimpArgs false
namespace Go.Proofs.Ytchdacbjiomplaa
open Go Go.Proofs.Ytchdacbjiomplaa.Fw Go.Proofs
attribute [local irreducible] RdL RdN VarP
def orangeryref_half_L1 (gone1 : List Int) : List Place → Int → Int
  | [], last2 => 0
  | pn2 :: rn2, last2 => (bif ((orangeryref_CheckPlace pn2) != 0) then (orangeryref_CheckPlace pn2) else (bif (decide ((pn2.node) ≤ last2) || (decide ((pn2.node) ∈ gone1))) then 6 else (orangeryref_half_L1 gone1 rn2 (pn2.node))))
def orangeryref_half_L0 (gone1 : List Int) (here1 : List Place) : List Int → Int → Int
  | [], last1 => (orangeryref_half_L1 gone1 here1 0)
  | pn1 :: rn1, last1 => (bif (!(orangeryref_in pn1 1 15)) then 5 else (bif decide (pn1 ≤ last1) then 6 else (orangeryref_half_L0 gone1 here1 rn1 pn1)))
def orangeryref_half (gone1 : List Int) (here1 : List Place) : Int :=
  (bif (decide ((gone1.length : Int) > 16) || decide ((here1.length : Int) > 16)) then 2 else (orangeryref_half_L0 gone1 here1 gone1 0))
theorem orangeryref_half_spec (y1 : SlV) (gone1 : List Int) (y2 : SlV) (here1 : List Place) : Does Try.prog 149 [y1.val gone1.length, y2.val here1.length] [RdL EInt y1 gone1, RdL EPlace y2 here1] (fun (_ : Unit) => .int .i64 (orangeryref_half gone1 here1)) (fun (_ : Unit) => []) := by
  refine does_of tab_ok Try.func149 rfl Try.ntmps149 Try.results149 rfl inferInstance (fun _ => inferInstance) fun C => ?_
  refine cw_pure (φ := gone1.length * 8 ≤ 140737488355328) [RdL EInt y1 gone1] Sm (fun M w h => (allF1 h).len) fun hlen1 => ?_
  refine cw_pure (φ := here1.length * 24 ≤ 140737488355328) [RdL EPlace y2 here1] Sm (fun M w h => (allF1 h).len) fun hlen2 => ?_
  (repeat refine cw_seq ?_); refine cw_region ?_
  refine Rp rfl rfl rfl rfl ?_
  refine rw_nil ?_
  (repeat refine cw_seq ?_); refine cw_region ?_
  refine Rp rfl rfl rfl rfl ?_
  refine Rp rfl rfl rfl rfl ?_
  refine Rp rfl rfl rfl rfl ?_
  refine Rp rfl rfl rfl rfl ?_
  refine rw_qg (guard_vf rfl rfl rfl) rfl rfl (q_pev rfl Bt) ?_
  refine rw_qg (guard_vf rfl rfl rfl) rfl rfl (q_pev rfl Bt) ?_
  refine rw_qg (guard_vf rfl rfl rfl) rfl rfl (q_pev rfl Bt) ?_
  refine rw_q rfl rfl rfl (q_pev rfl Bt) ?_
  refine rw_nil ?_
  (repeat refine cw_seq ?_); refine cw_cond (b := (decide ((gone1.length : Int) > 16) || decide ((here1.length : Int) > 16))) rfl rfl (fun hc1 => ?_) (fun hc1 => ?_)
  · skip
    (repeat refine cw_seq ?_); refine cw_region ?_
    refine Rp rfl rfl rfl rfl ?_
    refine rw_nil ?_
    (repeat refine cw_seq ?_)
    have hr1 : (orangeryref_half gone1 here1) = 2 := by simp only [orangeryref_half, hc1, cond_true, cond_false]
    refine cw_ret ?_
    rw [hr1]
    exact ⟨(), _, (.cons (.tmp rfl) .nil), rfl, Sm, .nil _, .nil _⟩
  · skip
    (repeat refine cw_seq ?_); refine cw_skip ?_
    (repeat refine cw_seq ?_); refine cw_region ?_
    refine Rp rfl rfl rfl rfl ?_
    refine rw_nil ?_
    (repeat refine cw_seq ?_); refine cw_region ?_
    refine Rp rfl rfl rfl rfl ?_
    refine Rp rfl rfl rfl rfl ?_
    refine Rp rfl rfl rfl rfl ?_
    refine rw_nil ?_
    (repeat refine cw_seq ?_); refine cw_block ?_
    (repeat refine cw_seq ?_); refine cw_loopS [0, 1, 4, 19, 20] [] (fun (i_ : Int × Nat) => match i_ with | ⟨last1, n1⟩ => [(5, .v (.int .i64 last1)), (21, .v (.int .i64 (n1 : Int)))]) (fun (i_ : Int × Nat) => match i_ with | ⟨last1, n1⟩ => []) (fun (i_ : Int × Nat) => match i_ with | ⟨last1, n1⟩ => []) (fun (i_ : Int × Nat) => match i_ with | ⟨last1, n1⟩ => []) (fun (i_ : Int × Nat) => match i_ with | ⟨last1, n1⟩ => (n1 ≤ gone1.length) ∧ (orangeryref_half_L0 gone1 here1 (gone1.drop n1) last1) = (orangeryref_half gone1 here1)) (fun (i_ : Int × Nat) => match i_ with | ⟨last1, n1⟩ => gone1.length - n1) ⟨0, 0⟩ (.cons rfl (.cons rfl (.cons rfl (.cons rfl (.cons rfl (.nil _)))))) (.nil) ⟨Nat.zero_le _, (by simp only [orangeryref_half, hc1, cond_true, cond_false] : (orangeryref_half gone1 here1) = (orangeryref_half_L0 gone1 here1 gone1 0)).symm⟩ Le4 ?_
    rintro ⟨last1, n1⟩ ⟨hkn1, hf1⟩
    simp only [List.cons_append, List.nil_append]
    (repeat refine cw_seq ?_); refine cw_region ?_
    refine Rp rfl rfl rfl rfl ?_
    refine rw_nil ?_
    (repeat refine cw_seq ?_); refine cw_cond (b := decide ((n1 : Int) < (gone1.length : Int))) rfl rfl (fun hc2 => ?_) (fun hc2 => ?_)
    · skip
      have hlt0 : n1 < gone1.length := Int.ofNat_lt.1 (of_decide_eq_true hc2)
      (repeat refine cw_seq ?_); refine cw_skip ?_
      (repeat refine cw_seq ?_); refine cw_block ?_
      (repeat refine cw_seq ?_); refine cw_region ?_
      refine rw_q rfl rfl rfl (q_idx EInt n1 rfl rfl (fun _ => rfl) rfl (fun _ => rfl) rfl rfl rfl Mm rfl (fun _ => rfl) (fun _ => by first | assumption | omega)) ?_
      refine rw_q rfl rfl rfl (q_le1 EInt rfl rfl (fun _ => rfl) rfl rfl Mm (fun _ => by first | assumption | omega) rfl) ?_
      refine Rp rfl rfl rfl rfl ?_
      refine rw_nil ?_
      (repeat refine cw_seq ?_); refine cw_region ?_
      refine Rp rfl rfl rfl rfl ?_
      refine rw_call (orangeryref_in_spec (gt gone1 n1) 1 15) .sq (guard_none rfl) rfl rfl rfl Kr rfl rfl Sm ?_
      intro _
      refine Rp rfl rfl rfl rfl ?_
      refine rw_nil ?_
      (repeat refine cw_seq ?_); refine cw_cond (b := (!(orangeryref_in (gt gone1 n1) 1 15))) rfl rfl (fun hc3 => ?_) (fun hc3 => ?_)
      · skip
        (repeat refine cw_seq ?_); refine cw_region ?_
        refine Rp rfl rfl rfl rfl ?_
        refine rw_nil ?_
        (repeat refine cw_seq ?_)
        have hr2 : (orangeryref_half gone1 here1) = 5 := by rw [← hf1, drop_gt hlt0]; simp only [orangeryref_half_L0, hc3, cond_true, cond_false]
        refine cw_ret ?_
        rw [hr2]
        exact ⟨(), _, (.cons (.tmp rfl) .nil), rfl, Sm, .nil _, .nil _⟩
      · skip
        (repeat refine cw_seq ?_); refine cw_skip ?_
        (repeat refine cw_seq ?_); refine cw_region ?_
        refine Rp rfl rfl rfl rfl ?_
        refine Rp rfl rfl rfl rfl ?_
        refine Rp rfl rfl rfl rfl ?_
        refine rw_nil ?_
        (repeat refine cw_seq ?_); refine cw_cond (b := decide ((gt gone1 n1) ≤ last1)) rfl rfl (fun hc4 => ?_) (fun hc4 => ?_)
        · skip
          have hc4p := of_decide_eq_true hc4
          (repeat refine cw_seq ?_); refine cw_region ?_
          refine Rp rfl rfl rfl rfl ?_
          refine rw_nil ?_
          (repeat refine cw_seq ?_)
          have hr3 : (orangeryref_half gone1 here1) = 6 := by rw [← hf1, drop_gt hlt0]; simp only [orangeryref_half_L0, hc3, hc4, cond_true, cond_false]
          refine cw_ret ?_
          rw [hr3]
          exact ⟨(), _, (.cons (.tmp rfl) .nil), rfl, Sm, .nil _, .nil _⟩
        · skip
          have hc4p := of_decide_eq_false hc4
          (repeat refine cw_seq ?_); refine cw_skip ?_
          (repeat refine cw_seq ?_); refine cw_region ?_
          refine Rp rfl rfl rfl rfl ?_
          refine Rp rfl rfl rfl rfl ?_
          refine rw_nil ?_
          (repeat refine cw_seq ?_); refine cw_region ?_
          refine rw_q rfl rfl rfl (q_add rfl rfl (fun _ => rfl) rfl (fun _ => rfl) (fun _ => by omega)) ?_
          refine Rp rfl rfl rfl rfl ?_
          refine rw_nil ?_
          refine ⟨⟨(gt gone1 n1), (n1 + 1)⟩, ⟨hlt0, (by rw [← hf1, drop_gt hlt0]; simp only [orangeryref_half_L0, hc3, hc4, cond_true, cond_false] : (orangeryref_half gone1 here1) = (orangeryref_half_L0 gone1 here1 (gone1.drop (n1 + 1)) (gt gone1 n1))).symm⟩, (by simp only []; omega), Le4⟩
    · skip
      have hge0 : gone1.length ≤ n1 := by have := of_decide_eq_false hc2; omega
      (repeat refine cw_seq ?_); refine cw_exit ?_
      (repeat refine cw_seq ?_); refine cw_region ?_
      refine Rp rfl rfl rfl rfl ?_
      refine rw_nil ?_
      (repeat refine cw_seq ?_); refine cw_region ?_
      refine Rp rfl rfl rfl rfl ?_
      refine Rp rfl rfl rfl rfl ?_
      refine Rp rfl rfl rfl rfl ?_
      refine rw_nil ?_
      (repeat refine cw_seq ?_); refine cw_block ?_
      (repeat refine cw_seq ?_); refine cw_loopS [0, 4, 33, 34] [] (fun (i_ : Int × Nat) => match i_ with | ⟨last2, n2⟩ => [(5, .v (.int .i64 last2)), (35, .v (.int .i64 (n2 : Int)))]) (fun (i_ : Int × Nat) => match i_ with | ⟨last2, n2⟩ => []) (fun (i_ : Int × Nat) => match i_ with | ⟨last2, n2⟩ => []) (fun (i_ : Int × Nat) => match i_ with | ⟨last2, n2⟩ => []) (fun (i_ : Int × Nat) => match i_ with | ⟨last2, n2⟩ => (n2 ≤ here1.length) ∧ (orangeryref_half_L1 gone1 (here1.drop n2) last2) = (orangeryref_half gone1 here1)) (fun (i_ : Int × Nat) => match i_ with | ⟨last2, n2⟩ => here1.length - n2) ⟨0, 0⟩ (.cons rfl (.cons rfl (.cons rfl (.cons rfl (.nil _))))) (.nil) ⟨Nat.zero_le _, (by rw [← hf1, List.drop_of_length_le hge0]; simp only [orangeryref_half_L0, cond_true, cond_false] : (orangeryref_half gone1 here1) = (orangeryref_half_L1 gone1 here1 0)).symm⟩ Le4 ?_
      rintro ⟨last2, n2⟩ ⟨hkn2, hf2⟩
      simp only [List.cons_append, List.nil_append]
      (repeat refine cw_seq ?_); refine cw_region ?_
      refine Rp rfl rfl rfl rfl ?_
      refine rw_nil ?_
      (repeat refine cw_seq ?_); refine cw_cond (b := decide ((n2 : Int) < (here1.length : Int))) rfl rfl (fun hc5 => ?_) (fun hc5 => ?_)
      · skip
        have hlt1 : n2 < here1.length := Int.ofNat_lt.1 (of_decide_eq_true hc5)
        (repeat refine cw_seq ?_); refine cw_skip ?_
        (repeat refine cw_seq ?_); refine cw_block ?_
        (repeat refine cw_seq ?_); refine cw_region ?_
        refine rw_q rfl rfl rfl (q_idx EPlace n2 rfl rfl (fun _ => rfl) rfl (fun _ => rfl) rfl rfl rfl Mm rfl (fun _ => rfl) (fun _ => by first | assumption | omega)) ?_
        refine rw_q rfl rfl rfl (q_leA EPlace rfl rfl (fun _ => rfl) rfl rfl Mm (fun _ => by first | assumption | omega)) ?_
        refine rw_alloc .sq (guard_none rfl) rfl rfl rfl rfl fun g1 => ?_
        refine rw_stA .sq (.inl ⟨_, rfl⟩) (guard_none rfl) rfl rfl rfl rfl rfl rfl rfl rfl rfl Ub rfl ?_
        refine rw_nil ?_
        (repeat refine cw_seq ?_); refine cw_region ?_
        refine rw_q rfl rfl rfl (q_ldA rfl rfl (fun _ => rfl) rfl Mm rfl) ?_
        refine rw_call (orangeryref_CheckPlace_spec (gt here1 n2)) .sq (guard_none rfl) rfl rfl rfl Kr rfl rfl Sm ?_
        intro _
        refine Rp rfl rfl rfl rfl ?_
        refine rw_nil ?_
        (repeat refine cw_seq ?_); refine cw_region ?_
        refine Rp rfl rfl rfl rfl ?_
        refine Rp rfl rfl rfl rfl ?_
        refine rw_nil ?_
        (repeat refine cw_seq ?_); refine cw_cond (b := ((orangeryref_CheckPlace (gt here1 n2)) != 0)) rfl rfl (fun hc6 => ?_) (fun hc6 => ?_)
        · skip
          have hc6p := bne_iff_ne.1 hc6
          (repeat refine cw_seq ?_); refine cw_region ?_
          refine Rp rfl rfl rfl rfl ?_
          refine Rp rfl rfl rfl rfl ?_
          refine rw_nil ?_
          (repeat refine cw_seq ?_)
          have hr4 : (orangeryref_half gone1 here1) = (orangeryref_CheckPlace (gt here1 n2)) := by rw [← hf2, drop_gt hlt1]; simp only [orangeryref_half_L1, hc6, cond_true, cond_false]
          refine cw_ret ?_
          rw [hr4]
          exact ⟨(), _, (.cons (.tmp rfl) .nil), rfl, Sm, .nil _, .nil _⟩
        · skip
          have hc6p := eq_of_bne_false hc6
          (repeat refine cw_seq ?_); refine cw_skip ?_
          (repeat refine cw_seq ?_); refine cw_region ?_
          refine Rp rfl rfl rfl rfl ?_
          refine rw_q rfl rfl rfl (q_ld1 rfl rfl (fun _ => rfl) rfl Mm rfl) ?_
          refine Rp rfl rfl rfl rfl ?_
          refine Rp rfl rfl rfl rfl ?_
          refine Rp rfl rfl rfl rfl ?_
          refine rw_qg (guard_vf rfl rfl rfl) rfl rfl (q_pev rfl Bt) ?_
          refine rw_qg (guard_vf rfl rfl rfl) rfl rfl (q_pev rfl Bt) ?_
          refine rw_qg (guard_vf rfl rfl rfl) rfl rfl (q_ld1 rfl rfl Bt rfl Mm rfl) ?_
          refine rw_callg (fun hG_ => slices_Contains_int_spec' y1 gone1 ((gt here1 n2).node)) (fun _ => rfl) .sq (guard_vf rfl rfl rfl) rfl rfl rfl Kr rfl Bt Sm ?_
          refine rw_q rfl rfl rfl (q_pev rfl Bt) ?_
          refine rw_nil ?_
          (repeat refine cw_seq ?_); refine cw_cond (b := (decide (((gt here1 n2).node) ≤ last2) || (decide (((gt here1 n2).node) ∈ gone1)))) rfl rfl (fun hc7 => ?_) (fun hc7 => ?_)
          · skip
            (repeat refine cw_seq ?_); refine cw_region ?_
            refine Rp rfl rfl rfl rfl ?_
            refine rw_nil ?_
            (repeat refine cw_seq ?_)
            have hr5 : (orangeryref_half gone1 here1) = 6 := by rw [← hf2, drop_gt hlt1]; simp only [orangeryref_half_L1, hc6, hc7, cond_true, cond_false]
            refine cw_ret ?_
            rw [hr5]
            exact ⟨(), _, (.cons (.tmp rfl) .nil), rfl, Sm, .nil _, .nil _⟩
          · skip
            (repeat refine cw_seq ?_); refine cw_skip ?_
            (repeat refine cw_seq ?_); refine cw_region ?_
            refine Rp rfl rfl rfl rfl ?_
            refine rw_q rfl rfl rfl (q_ld1 rfl rfl (fun _ => rfl) rfl Mm rfl) ?_
            refine Rp rfl rfl rfl rfl ?_
            refine rw_nil ?_
            (repeat refine cw_seq ?_); refine cw_region ?_
            refine rw_q rfl rfl rfl (q_add rfl rfl (fun _ => rfl) rfl (fun _ => rfl) (fun _ => by omega)) ?_
            refine Rp rfl rfl rfl rfl ?_
            refine rw_nil ?_
            refine ⟨⟨(gt here1 n2).node, (n2 + 1)⟩, ⟨hlt1, (by rw [← hf2, drop_gt hlt1]; simp only [orangeryref_half_L1, hc6, hc7, cond_true, cond_false] : (orangeryref_half gone1 here1) = (orangeryref_half_L1 gone1 (here1.drop (n2 + 1)) ((gt here1 n2).node))).symm⟩, (by simp only []; omega), Le4⟩
      · skip
        have hge1 : here1.length ≤ n2 := by have := of_decide_eq_false hc5; omega
        (repeat refine cw_seq ?_); refine cw_exit ?_
        (repeat refine cw_seq ?_); refine cw_region ?_
        refine Rp rfl rfl rfl rfl ?_
        refine rw_nil ?_
        (repeat refine cw_seq ?_)
        have hr6 : (orangeryref_half gone1 here1) = 0 := by rw [← hf2, List.drop_of_length_le hge1]; simp only [orangeryref_half_L1, cond_true, cond_false]
        refine cw_ret ?_
        rw [hr6]
        exact ⟨(), _, (.cons (.tmp rfl) .nil), rfl, Sm, .nil _, .nil _⟩

def orangeryref_CheckDelta (d1 : Delta) : Int :=
  (bif ((orangeryref_half d1.gone d1.here) != 0) then (orangeryref_half d1.gone d1.here) else (orangeryref_half d1.wayGone d1.wayHere))
theorem orangeryref_CheckDelta_spec (y1 : SlV) (y2 : SlV) (y3 : SlV) (y4 : SlV) (d1 : Delta) : Does Try.prog 63 [.agg ⟨[y1.val d1.gone.length, y2.val d1.here.length, y3.val d1.wayGone.length, y4.val d1.wayHere.length]⟩] [RdL EInt y1 d1.gone, RdL EPlace y2 d1.here, RdL EInt y3 d1.wayGone, RdL EPlace y4 d1.wayHere] (fun (_ : Unit) => .int .i64 (orangeryref_CheckDelta d1)) (fun (_ : Unit) => []) := by
  refine does_of tab_ok Try.func63 rfl Try.ntmps63 Try.results63 rfl inferInstance (fun _ => inferInstance) fun C => ?_
  refine cw_pure (φ := d1.gone.length * 8 ≤ 140737488355328) [RdL EInt y1 d1.gone] Sm (fun M w h => (allF1 h).len) fun hlen1 => ?_
  refine cw_pure (φ := d1.here.length * 24 ≤ 140737488355328) [RdL EPlace y2 d1.here] Sm (fun M w h => (allF1 h).len) fun hlen2 => ?_
  refine cw_pure (φ := d1.wayGone.length * 8 ≤ 140737488355328) [RdL EInt y3 d1.wayGone] Sm (fun M w h => (allF1 h).len) fun hlen3 => ?_
  refine cw_pure (φ := d1.wayHere.length * 24 ≤ 140737488355328) [RdL EPlace y4 d1.wayHere] Sm (fun M w h => (allF1 h).len) fun hlen4 => ?_
  (repeat refine cw_seq ?_); refine cw_region ?_
  refine rw_box_agg .sq (guard_none rfl) rfl rfl rfl rfl rfl fun g1 => ?_
  refine Rp rfl rfl rfl rfl ?_
  refine rw_nil ?_
  (repeat refine cw_seq ?_); refine cw_region ?_
  refine Rp rfl rfl rfl rfl ?_
  refine rw_q rfl rfl rfl (q_ld1 rfl rfl (fun _ => rfl) rfl Mm rfl) ?_
  refine Rp rfl rfl rfl rfl ?_
  refine rw_q rfl rfl rfl (q_ld1 rfl rfl (fun _ => rfl) rfl Mm rfl) ?_
  refine rw_call (orangeryref_half_spec y1 d1.gone y2 d1.here) .sq (guard_none rfl) rfl rfl rfl Kr rfl rfl Sm ?_
  intro _
  refine Rp rfl rfl rfl rfl ?_
  refine rw_nil ?_
  (repeat refine cw_seq ?_); refine cw_region ?_
  refine Rp rfl rfl rfl rfl ?_
  refine Rp rfl rfl rfl rfl ?_
  refine rw_nil ?_
  (repeat refine cw_seq ?_); refine cw_cond (b := ((orangeryref_half d1.gone d1.here) != 0)) rfl rfl (fun hc1 => ?_) (fun hc1 => ?_)
  · skip
    have hc1p := bne_iff_ne.1 hc1
    (repeat refine cw_seq ?_); refine cw_region ?_
    refine Rp rfl rfl rfl rfl ?_
    refine Rp rfl rfl rfl rfl ?_
    refine rw_nil ?_
    (repeat refine cw_seq ?_)
    have hr1 : (orangeryref_CheckDelta d1) = (orangeryref_half d1.gone d1.here) := by simp only [orangeryref_CheckDelta, hc1, cond_true, cond_false]
    refine cw_ret ?_
    rw [hr1]
    exact ⟨(), _, (.cons (.tmp rfl) .nil), rfl, Sm, .nil _, .nil _⟩
  · skip
    have hc1p := eq_of_bne_false hc1
    (repeat refine cw_seq ?_); refine cw_skip ?_
    (repeat refine cw_seq ?_); refine cw_region ?_
    refine Rp rfl rfl rfl rfl ?_
    refine rw_q rfl rfl rfl (q_ld1 rfl rfl (fun _ => rfl) rfl Mm rfl) ?_
    refine Rp rfl rfl rfl rfl ?_
    refine rw_q rfl rfl rfl (q_ld1 rfl rfl (fun _ => rfl) rfl Mm rfl) ?_
    refine rw_call (orangeryref_half_spec y3 d1.wayGone y4 d1.wayHere) .sq (guard_none rfl) rfl rfl rfl Kr rfl rfl Sm ?_
    intro _
    refine Rp rfl rfl rfl rfl ?_
    refine rw_nil ?_
    (repeat refine cw_seq ?_)
    have hr2 : (orangeryref_CheckDelta d1) = (orangeryref_half d1.wayGone d1.wayHere) := by simp only [orangeryref_CheckDelta, hc1, cond_true, cond_false]
    refine cw_ret ?_
    rw [hr2]
    exact ⟨(), _, (.cons (.tmp rfl) .nil), rfl, Sm, .nil _, .nil _⟩

def orangeryref_SameDelta (a1 : Delta) (b1 : Delta) : Bool :=
  ((((decide (a1.gone = b1.gone)) && (decide (a1.here = b1.here))) && (decide (a1.wayGone = b1.wayGone))) && (decide (a1.wayHere = b1.wayHere)))
theorem orangeryref_SameDelta_spec (y1 : SlV) (y2 : SlV) (y3 : SlV) (y4 : SlV) (a1 : Delta) (y5 : SlV) (y6 : SlV) (y7 : SlV) (y8 : SlV) (b1 : Delta) : Does Try.prog 65 [.agg ⟨[y1.val a1.gone.length, y2.val a1.here.length, y3.val a1.wayGone.length, y4.val a1.wayHere.length]⟩, .agg ⟨[y5.val b1.gone.length, y6.val b1.here.length, y7.val b1.wayGone.length, y8.val b1.wayHere.length]⟩] [RdL EInt y1 a1.gone, RdL EPlace y2 a1.here, RdL EInt y3 a1.wayGone, RdL EPlace y4 a1.wayHere, RdL EInt y5 b1.gone, RdL EPlace y6 b1.here, RdL EInt y7 b1.wayGone, RdL EPlace y8 b1.wayHere] (fun (_ : Unit) => .bool (orangeryref_SameDelta a1 b1)) (fun (_ : Unit) => []) := by
  refine does_of tab_ok Try.func65 rfl Try.ntmps65 Try.results65 rfl inferInstance (fun _ => inferInstance) fun C => ?_
  refine cw_pure (φ := a1.gone.length * 8 ≤ 140737488355328) [RdL EInt y1 a1.gone] Sm (fun M w h => (allF1 h).len) fun hlen1 => ?_
  refine cw_pure (φ := a1.here.length * 24 ≤ 140737488355328) [RdL EPlace y2 a1.here] Sm (fun M w h => (allF1 h).len) fun hlen2 => ?_
  refine cw_pure (φ := a1.wayGone.length * 8 ≤ 140737488355328) [RdL EInt y3 a1.wayGone] Sm (fun M w h => (allF1 h).len) fun hlen3 => ?_
  refine cw_pure (φ := a1.wayHere.length * 24 ≤ 140737488355328) [RdL EPlace y4 a1.wayHere] Sm (fun M w h => (allF1 h).len) fun hlen4 => ?_
  refine cw_pure (φ := b1.gone.length * 8 ≤ 140737488355328) [RdL EInt y5 b1.gone] Sm (fun M w h => (allF1 h).len) fun hlen5 => ?_
  refine cw_pure (φ := b1.here.length * 24 ≤ 140737488355328) [RdL EPlace y6 b1.here] Sm (fun M w h => (allF1 h).len) fun hlen6 => ?_
  refine cw_pure (φ := b1.wayGone.length * 8 ≤ 140737488355328) [RdL EInt y7 b1.wayGone] Sm (fun M w h => (allF1 h).len) fun hlen7 => ?_
  refine cw_pure (φ := b1.wayHere.length * 24 ≤ 140737488355328) [RdL EPlace y8 b1.wayHere] Sm (fun M w h => (allF1 h).len) fun hlen8 => ?_
  (repeat refine cw_seq ?_); refine cw_region ?_
  refine rw_box_agg .sq (guard_none rfl) rfl rfl rfl rfl rfl fun g1 => ?_
  refine rw_box_agg .sq (guard_none rfl) rfl rfl rfl rfl rfl fun g2 => ?_
  refine Rp rfl rfl rfl rfl ?_
  refine rw_nil ?_
  (repeat refine cw_seq ?_); refine cw_region ?_
  refine Rp rfl rfl rfl rfl ?_
  refine rw_q rfl rfl rfl (q_ld1 rfl rfl (fun _ => rfl) rfl Mm rfl) ?_
  refine Rp rfl rfl rfl rfl ?_
  refine rw_q rfl rfl rfl (q_ld1 rfl rfl (fun _ => rfl) rfl Mm rfl) ?_
  refine rw_call ((fun y1 a y2 b => slices_Equal_Int_spec' y1 y2 a b) y1 a1.gone y5 b1.gone) .sq (guard_none rfl) rfl rfl rfl Kr rfl rfl Sm ?_
  intro _
  refine Rp rfl rfl rfl rfl ?_
  refine rw_qg (guard_vt rfl rfl rfl) rfl rfl (q_pev rfl Bt) ?_
  refine rw_qg (guard_vt rfl rfl rfl) rfl rfl (q_ld1 rfl rfl Bt rfl Mm rfl) ?_
  refine rw_qg (guard_vt rfl rfl rfl) rfl rfl (q_pev rfl Bt) ?_
  refine rw_qg (guard_vt rfl rfl rfl) rfl rfl (q_ld1 rfl rfl Bt rfl Mm rfl) ?_
  refine rw_callg (fun hG_ => (fun y1 a y2 b => slices_Equal_Place_spec' y1 y2 a b) y2 a1.here y6 b1.here) (fun _ => rfl) .sq (guard_vt rfl rfl rfl) rfl rfl rfl Kr rfl Bt Sm ?_
  refine rw_q rfl rfl rfl (q_pev rfl Bt) ?_
  refine Rp rfl rfl rfl rfl ?_
  refine rw_qg (guard_vt rfl rfl rfl) rfl rfl (q_pev rfl Bt) ?_
  refine rw_qg (guard_vt rfl rfl rfl) rfl rfl (q_ld1 rfl rfl Bt rfl Mm rfl) ?_
  refine rw_qg (guard_vt rfl rfl rfl) rfl rfl (q_pev rfl Bt) ?_
  refine rw_qg (guard_vt rfl rfl rfl) rfl rfl (q_ld1 rfl rfl Bt rfl Mm rfl) ?_
  refine rw_callg (fun hG_ => (fun y1 a y2 b => slices_Equal_Int_spec' y1 y2 a b) y3 a1.wayGone y7 b1.wayGone) (fun _ => rfl) .sq (guard_vt rfl rfl rfl) rfl rfl rfl Kr rfl Bt Sm ?_
  refine rw_q rfl rfl rfl (q_pev rfl Bt) ?_
  refine Rp rfl rfl rfl rfl ?_
  refine rw_qg (guard_vt rfl rfl rfl) rfl rfl (q_pev rfl Bt) ?_
  refine rw_qg (guard_vt rfl rfl rfl) rfl rfl (q_ld1 rfl rfl Bt rfl Mm rfl) ?_
  refine rw_qg (guard_vt rfl rfl rfl) rfl rfl (q_pev rfl Bt) ?_
  refine rw_qg (guard_vt rfl rfl rfl) rfl rfl (q_ld1 rfl rfl Bt rfl Mm rfl) ?_
  refine rw_callg (fun hG_ => (fun y1 a y2 b => slices_Equal_Place_spec' y1 y2 a b) y4 a1.wayHere y8 b1.wayHere) (fun _ => rfl) .sq (guard_vt rfl rfl rfl) rfl rfl rfl Kr rfl Bt Sm ?_
  refine rw_q rfl rfl rfl (q_pev rfl Bt) ?_
  refine Rp rfl rfl rfl rfl ?_
  refine rw_nil ?_
  (repeat refine cw_seq ?_)
  have hr1 : (orangeryref_SameDelta a1 b1) = ((((decide (a1.gone = b1.gone)) && (decide (a1.here = b1.here))) && (decide (a1.wayGone = b1.wayGone))) && (decide (a1.wayHere = b1.wayHere))) := by simp only [orangeryref_SameDelta, cond_true, cond_false]
  refine cw_ret ?_
  rw [hr1]
  exact ⟨(), _, (.cons (.tmp rfl) .nil), rfl, Sm, .nil _, .nil _⟩
end Go.Proofs.Ytchdacbjiomplaa
