/- Part of this claim. No condition. -/
import Derived.Test.YtchdacbjiomplaaW22b
set_option linter.unusedVariables false
set_option linter.unusedSimpArgs false
namespace Go.Proofs.Ytchdacbjiomplaa
open Go Go.Proofs.Ytchdacbjiomplaa.Fw Go.Proofs
attribute [local irreducible] RdL RdN VarP
theorem IS_Op_L1_len (a : Int) (cmp : Op → Op → Int) : ∀ (f : Nat) (data : List Op) (j : Int), (j - a).toNat < f → (slices_insertionSortCmpFunc_Op_L1 a cmp f data j).length = data.length
  | 0, _, _, h => by omega
  | f + 1, data, j, h => by
    rw [slices_insertionSortCmpFunc_Op_L1]
    cases hc : decide (j > a) with
    | false => rfl
    | true =>
      have hc := of_decide_eq_true hc
      simp only [cond_true, Bool.true_and]
      cases decide (cmp (gt data j.toNat) (gt data (j - 1).toNat) < 0) with
      | false => rfl
      | true => simp only [cond_true]; rw [IS_Op_L1_len a cmp f _ _ (by omega)]; simp
theorem IS_Op_L0_len (a b : Int) (cmp : Op → Op → Int) : ∀ (f : Nat) (data : List Op) (i : Int), (b - i).toNat < f → (slices_insertionSortCmpFunc_Op_L0 a b cmp f data i).length = data.length
  | 0, _, _, h => by omega
  | f + 1, data, i, h => by
    rw [slices_insertionSortCmpFunc_Op_L0]
    cases hc : decide (i < b) with
    | false => rfl
    | true =>
      have hc := of_decide_eq_true hc
      simp only [cond_true]
      rw [IS_Op_L0_len a b cmp f _ _ (by omega), IS_Op_L1_len a cmp _ _ _ (by omega)]
theorem IS_Op_len (data : List Op) (a b : Int) (cmp : Op → Op → Int) : (slices_insertionSortCmpFunc_Op data a b cmp).length = data.length := IS_Op_L0_len a b cmp _ data _ (by omega)

def slices_stableCmpFunc_Op_L1 (n1 : Int) (cmp1 : Op → Op → Int) : Nat → (List Op) → Int → Int → Int → (List Op)
  | 0, data3, blockSize1, a2, b2 => []
  | f_k1 + 1, data3, blockSize1, a2, b2 => (bif decide (blockSize1 < n1) then (bif decide ((2 * blockSize1) ≤ n1) then [] else (bif decide ((0 + blockSize1) < n1) then (slices_stableCmpFunc_Op_L1 n1 cmp1 f_k1 (slices_symMergeCmpFunc_Op 100 data3 0 (0 + blockSize1) n1 cmp1) (blockSize1 * 2) 0 (2 * blockSize1)) else (slices_stableCmpFunc_Op_L1 n1 cmp1 f_k1 data3 (blockSize1 * 2) 0 (2 * blockSize1)))) else data3)
def slices_stableCmpFunc_Op_L0 (n1 : Int) (cmp1 : Op → Op → Int) : Nat → (List Op) → Int → Int → (List Op)
  | 0, data2, a1, b1 => []
  | f_k0 + 1, data2, a1, b1 => (bif decide (b1 ≤ n1) then (slices_stableCmpFunc_Op_L0 n1 cmp1 f_k0 (slices_insertionSortCmpFunc_Op data2 a1 b1 cmp1) b1 (b1 + 20)) else (slices_stableCmpFunc_Op_L1 n1 cmp1 (41) (slices_insertionSortCmpFunc_Op data2 a1 n1 cmp1) 20 a1 b1))
def slices_stableCmpFunc_Op (data1 : List Op) (n1 : Int) (cmp1 : Op → Op → Int) : List Op :=
  (slices_stableCmpFunc_Op_L0 n1 cmp1 (n1.toNat + 21) data1 0 20)
theorem slices_stableCmpFunc_Op_spec (y1 : SlV) (y1b : Option Nat) (data1 : List Op) (n1 : Int) (f1 : Nat) (caps1 : List Value) (pre1 : List Pred) [StabL pre1] (cmp1 : Op → Op → Int) (hfb1 : tab.fnb f1 = true) (hfn1 : ∀ (a0_ : Op) (a1_ : Op), Does Try.prog f1 ([.agg ⟨[.int .i64 a0_.time, .int .i64 a0_.who, .int .i64 a0_.node, .int .i64 a0_.parent, .int .i64 a0_.name, .int .i64 a0_.life, .int .i64 a0_.seq]⟩, .agg ⟨[.int .i64 a1_.time, .int .i64 a1_.who, .int .i64 a1_.node, .int .i64 a1_.parent, .int .i64 a1_.name, .int .i64 a1_.life, .int .i64 a1_.seq]⟩] ++ caps1) pre1 (fun (_ : Unit) => .int .i64 (cmp1 a0_ a1_)) (fun (_ : Unit) => [])) (hn : 0 ≤ n1 ∧ n1 ≤ 30 ∧ n1 ≤ (data1.length : Int)) : DoesG Try.prog 186 [y1.val data1.length, .int .i64 n1, .func (.func f1) #[] ⟨caps1⟩] (pre1) ⟨[], [ownL EOp 33 y1 y1b data1]⟩ (fun (_ : Unit) => .tuple #[]) (fun (_ : Unit) => []) (fun (_ : Unit) => ⟨[], [ownL EOp 33 y1 y1b (slices_stableCmpFunc_Op data1 n1 cmp1)]⟩) := by
  refine does_ofG tab_ok Try.func186 rfl Try.ntmps186 Try.results186 rfl inferInstance (fun _ => inferInstance) fun C => ?_
  refine cw_lenO EOp (e := 33) (X := y1) (b := y1b) (l := data1) Mm fun hl63y1 hleny1 => ?_
  simp only [show EOp.by_ = 56 from rfl] at hleny1
  (repeat refine cw_seq ?_); refine cw_region ?_
  refine Rp rfl rfl rfl rfl ?_
  refine rw_nil ?_
  (repeat refine cw_seq ?_); refine cw_region ?_
  refine Rp rfl rfl rfl rfl ?_
  refine Rp rfl rfl rfl rfl ?_
  refine Rp rfl rfl rfl rfl ?_
  refine rw_nil ?_
  (repeat refine cw_seq ?_); refine cw_block ?_
  (repeat refine cw_seq ?_); refine cw_loopS [1, 2, 6] [] (fun (i_ : List Op × Int × Int × Nat) => match i_ with | ⟨data2, a1, b1, fz1⟩ => [(0, .v (y1.val data2.length)), (7, .v (.int .i64 a1)), (8, .v (.int .i64 b1))]) (fun (i_ : List Op × Int × Int × Nat) => match i_ with | ⟨data2, a1, b1, fz1⟩ => []) (fun (i_ : List Op × Int × Int × Nat) => match i_ with | ⟨data2, a1, b1, fz1⟩ => [ownL EOp 33 y1 y1b data2]) (fun (i_ : List Op × Int × Int × Nat) => match i_ with | ⟨data2, a1, b1, fz1⟩ => []) (fun (i_ : List Op × Int × Int × Nat) => match i_ with | ⟨data2, a1, b1, fz1⟩ => (0 ≤ a1 ∧ b1 = a1 + 20 ∧ a1 ≤ n1 ∧ data2.length = data1.length) ∧ ((n1 + 20 - b1).toNat < fz1) ∧ (slices_stableCmpFunc_Op_L0 n1 cmp1 (fz1) data2 a1 b1) = (slices_stableCmpFunc_Op data1 n1 cmp1)) (fun (i_ : List Op × Int × Int × Nat) => match i_ with | ⟨data2, a1, b1, fz1⟩ => fz1) ⟨data1, 0, 20, n1.toNat + 21⟩ (.cons rfl (.cons rfl (.cons rfl (.nil _)))) (.nil) ⟨(by first | exact Nat.le_refl _ | exact Nat.zero_le _ | omega), (by first | exact Nat.le_refl _ | exact Nat.zero_le _ | omega), (by simp only [slices_stableCmpFunc_Op, Bool.true_and, Bool.and_true, cond_true, cond_false] : (slices_stableCmpFunc_Op data1 n1 cmp1) = (slices_stableCmpFunc_Op_L0 n1 cmp1 (n1.toNat + 21) data1 0 20)).symm⟩ Le5 ?_
  rintro ⟨data2, a1, b1, fz1⟩ ⟨hi0, hzfz1, hf1⟩
  simp only [List.cons_append, List.nil_append]
  have hlt0_ : fz1 = (fz1 - 1) + 1 := by omega
  (repeat refine cw_seq ?_); refine cw_region ?_
  refine Rp rfl rfl rfl rfl ?_
  refine Rp rfl rfl rfl rfl ?_
  refine Rp rfl rfl rfl rfl ?_
  refine rw_nil ?_
  (repeat refine cw_seq ?_); refine cw_cond (b := decide (b1 ≤ n1)) rfl rfl (fun hc1 => ?_) (fun hc1 => ?_)
  · skip
    have hc1p := of_decide_eq_true hc1
    (repeat refine cw_seq ?_); refine cw_skip ?_
    (repeat refine cw_seq ?_); refine cw_block ?_
    (repeat refine cw_seq ?_); refine cw_region ?_
    refine Rp rfl rfl rfl rfl ?_
    refine Rp rfl rfl rfl rfl ?_
    refine Rp rfl rfl rfl rfl ?_
    refine Rp rfl rfl rfl rfl ?_
    refine rw_callG (slices_insertionSortCmpFunc_Op_spec y1 y1b data2 a1 b1 _ _ _ cmp1 (by assumption) hfn1 (by omega)) .sq (.inl ⟨_, rfl⟩) (guard_none rfl) rfl rfl rfl Kr rfl rfl Sf (.nil _) (by first | exact .cons (.here _ _) (.nil _) | exact .cons (.there _ (.here _ _)) (.nil _) | exact .cons (.there _ (.there _ (.here _ _))) (.nil _) | exact .cons (.there _ (.there _ (.there _ (.here _ _)))) (.nil _)) ?_
    intro _
    have hv1l : data2.length = (slices_insertionSortCmpFunc_Op data2 a1 b1 cmp1).length := (IS_Op_len data2 a1 b1 cmp1).symm
    have hv1 : y1.val data2.length = y1.val (slices_insertionSortCmpFunc_Op data2 a1 b1 cmp1).length := congrArg (SlV.val y1) hv1l
    try rw [hv1]
    refine rw_nil ?_
    (repeat refine cw_seq ?_); refine cw_region ?_
    refine Rp rfl rfl rfl rfl ?_
    refine Rp rfl rfl rfl rfl ?_
    refine rw_nil ?_
    (repeat refine cw_seq ?_); refine cw_region ?_
    refine Rp rfl rfl rfl rfl ?_
    refine Rp rfl rfl rfl rfl ?_
    refine rw_q rfl rfl rfl (q_add rfl rfl (fun _ => rfl) rfl (fun _ => rfl) (fun _ => by omega)) ?_
    refine Rp rfl rfl rfl rfl ?_
    refine rw_nil ?_
    refine ⟨⟨(slices_insertionSortCmpFunc_Op data2 a1 b1 cmp1), b1, (b1 + 20), (fz1 - 1)⟩, ⟨(by simp only [true_and]; omega), (by (try simp only []); first | omega | (simp only [List.length_append, List.length_cons, List.length_nil]; omega)), (by rw [← hf1]; (conv => lhs; rw [hlt0_]); simp only [slices_stableCmpFunc_Op_L0, hc1, Bool.true_and, Bool.and_true, cond_true, cond_false] : (slices_stableCmpFunc_Op data1 n1 cmp1) = (slices_stableCmpFunc_Op_L0 n1 cmp1 (fz1 - 1) (slices_insertionSortCmpFunc_Op data2 a1 b1 cmp1) b1 (b1 + 20))).symm⟩, (by simp only []; omega), Le5⟩
  · skip
    have hc1p := of_decide_eq_false hc1
    (repeat refine cw_seq ?_); refine cw_exit ?_
    (repeat refine cw_seq ?_); refine cw_region ?_
    refine Rp rfl rfl rfl rfl ?_
    refine Rp rfl rfl rfl rfl ?_
    refine Rp rfl rfl rfl rfl ?_
    refine Rp rfl rfl rfl rfl ?_
    refine rw_callG (slices_insertionSortCmpFunc_Op_spec y1 y1b data2 a1 n1 _ _ _ cmp1 (by assumption) hfn1 (by omega)) .sq (.inl ⟨_, rfl⟩) (guard_none rfl) rfl rfl rfl Kr rfl rfl Sf (.nil _) (by first | exact .cons (.here _ _) (.nil _) | exact .cons (.there _ (.here _ _)) (.nil _) | exact .cons (.there _ (.there _ (.here _ _))) (.nil _) | exact .cons (.there _ (.there _ (.there _ (.here _ _)))) (.nil _)) ?_
    intro _
    have hv2l : data2.length = (slices_insertionSortCmpFunc_Op data2 a1 n1 cmp1).length := (IS_Op_len data2 a1 n1 cmp1).symm
    have hv2 : y1.val data2.length = y1.val (slices_insertionSortCmpFunc_Op data2 a1 n1 cmp1).length := congrArg (SlV.val y1) hv2l
    try rw [hv2]
    refine rw_nil ?_
    (repeat refine cw_seq ?_); refine cw_block ?_
    (repeat refine cw_seq ?_); refine cw_loopS [1, 2] [] (fun (i_ : List Op × Int × Int × Int × Nat) => match i_ with | ⟨data3, blockSize1, a2, b2, fz2⟩ => [(0, .v (y1.val data3.length)), (6, .v (.int .i64 blockSize1)), (7, .v (.int .i64 a2)), (8, .v (.int .i64 b2))]) (fun (i_ : List Op × Int × Int × Int × Nat) => match i_ with | ⟨data3, blockSize1, a2, b2, fz2⟩ => []) (fun (i_ : List Op × Int × Int × Int × Nat) => match i_ with | ⟨data3, blockSize1, a2, b2, fz2⟩ => [ownL EOp 33 y1 y1b data3]) (fun (i_ : List Op × Int × Int × Int × Nat) => match i_ with | ⟨data3, blockSize1, a2, b2, fz2⟩ => []) (fun (i_ : List Op × Int × Int × Int × Nat) => match i_ with | ⟨data3, blockSize1, a2, b2, fz2⟩ => (20 ≤ blockSize1 ∧ blockSize1 ≤ 60 ∧ data3.length = data1.length) ∧ ((60 - blockSize1).toNat < fz2) ∧ (slices_stableCmpFunc_Op_L1 n1 cmp1 (fz2) data3 blockSize1 a2 b2) = (slices_stableCmpFunc_Op data1 n1 cmp1)) (fun (i_ : List Op × Int × Int × Int × Nat) => match i_ with | ⟨data3, blockSize1, a2, b2, fz2⟩ => fz2) ⟨(slices_insertionSortCmpFunc_Op data2 a1 n1 cmp1), 20, a1, b1, 41⟩ (.cons rfl (.cons rfl (.nil _))) (.nil) ⟨(by first | exact Nat.le_refl _ | exact Nat.zero_le _ | omega), (by first | exact Nat.le_refl _ | exact Nat.zero_le _ | omega), (by rw [← hf1]; (conv => lhs; rw [hlt0_]); simp only [slices_stableCmpFunc_Op_L0, hc1, Bool.true_and, Bool.and_true, cond_true, cond_false] : (slices_stableCmpFunc_Op data1 n1 cmp1) = (slices_stableCmpFunc_Op_L1 n1 cmp1 (41) (slices_insertionSortCmpFunc_Op data2 a1 n1 cmp1) 20 a1 b1)).symm⟩ Le5 ?_
    rintro ⟨data3, blockSize1, a2, b2, fz2⟩ ⟨hi1, hzfz2, hf2⟩
    simp only [List.cons_append, List.nil_append]
    have hlt1_ : fz2 = (fz2 - 1) + 1 := by omega
    (repeat refine cw_seq ?_); refine cw_region ?_
    refine Rp rfl rfl rfl rfl ?_
    refine Rp rfl rfl rfl rfl ?_
    refine Rp rfl rfl rfl rfl ?_
    refine rw_nil ?_
    (repeat refine cw_seq ?_); refine cw_cond (b := decide (blockSize1 < n1)) rfl rfl (fun hc2 => ?_) (fun hc2 => ?_)
    · skip
      have hc2p := of_decide_eq_true hc2
      (repeat refine cw_seq ?_); refine cw_skip ?_
      (repeat refine cw_seq ?_); refine cw_block ?_
      (repeat refine cw_seq ?_); refine cw_region ?_
      refine Rp rfl rfl rfl rfl ?_
      refine rw_q rfl rfl rfl (q_mul rfl rfl (fun _ => rfl) rfl (fun _ => rfl) (fun _ => by omega)) ?_
      refine Rp rfl rfl rfl rfl ?_
      refine Rp rfl rfl rfl rfl ?_
      refine rw_nil ?_
      (repeat refine cw_seq ?_); refine cw_block ?_
      (repeat refine cw_seq ?_); refine cw_once ?_
      (repeat refine cw_seq ?_); refine cw_region ?_
      refine Rp rfl rfl rfl rfl ?_
      refine Rp rfl rfl rfl rfl ?_
      refine Rp rfl rfl rfl rfl ?_
      refine rw_nil ?_
      (repeat refine cw_seq ?_); refine cw_cond (b := decide ((2 * blockSize1) ≤ n1)) rfl rfl (fun hc3 => ?_) (fun hc3 => ?_)
      · skip
        have hc3p := of_decide_eq_true hc3
        exact absurd (of_decide_eq_true hc3) (by omega)
      · skip
        have hc3p := of_decide_eq_false hc3
        (repeat refine cw_seq ?_); refine cw_exit ?_
        (repeat refine cw_seq ?_); refine cw_region ?_
        refine Rp rfl rfl rfl rfl ?_
        refine Rp rfl rfl rfl rfl ?_
        refine rw_q rfl rfl rfl (q_add rfl rfl (fun _ => rfl) rfl (fun _ => rfl) (fun _ => by omega)) ?_
        refine Rp rfl rfl rfl rfl ?_
        refine rw_nil ?_
        (repeat refine cw_seq ?_); refine cw_region ?_
        refine Rp rfl rfl rfl rfl ?_
        refine Rp rfl rfl rfl rfl ?_
        refine Rp rfl rfl rfl rfl ?_
        refine rw_nil ?_
        (repeat refine cw_seq ?_); refine cw_cond (b := decide ((0 + blockSize1) < n1)) rfl rfl (fun hc4 => ?_) (fun hc4 => ?_)
        · skip
          have hc4p := of_decide_eq_true hc4
          (repeat refine cw_seq ?_); refine cw_region ?_
          refine Rp rfl rfl rfl rfl ?_
          refine Rp rfl rfl rfl rfl ?_
          refine Rp rfl rfl rfl rfl ?_
          refine Rp rfl rfl rfl rfl ?_
          refine Rp rfl rfl rfl rfl ?_
          refine rw_callG (slices_symMergeCmpFunc_Op_spec 100 y1 y1b data3 0 (0 + blockSize1) n1 _ _ _ cmp1 (by assumption) hfn1 (by omega) (by omega)) .sq (.inl ⟨_, rfl⟩) (guard_none rfl) rfl rfl rfl Kr rfl rfl Sf (.nil _) (by first | exact .cons (.here _ _) (.nil _) | exact .cons (.there _ (.here _ _)) (.nil _) | exact .cons (.there _ (.there _ (.here _ _))) (.nil _) | exact .cons (.there _ (.there _ (.there _ (.here _ _)))) (.nil _)) ?_
          intro _
          have hv3l : data3.length = (slices_symMergeCmpFunc_Op 100 data3 0 (0 + blockSize1) n1 cmp1).length := (SM_Op_len 100 data3 0 (0 + blockSize1) n1 cmp1 (by omega) (by omega)).symm
          have hv3 : y1.val data3.length = y1.val (slices_symMergeCmpFunc_Op 100 data3 0 (0 + blockSize1) n1 cmp1).length := congrArg (SlV.val y1) hv3l
          try rw [hv3]
          refine rw_nil ?_
          (repeat refine cw_seq ?_); refine cw_region ?_
          refine Rp rfl rfl rfl rfl ?_
          refine rw_q rfl rfl rfl (q_mul rfl rfl (fun _ => rfl) rfl (fun _ => rfl) (fun _ => by omega)) ?_
          refine Rp rfl rfl rfl rfl ?_
          refine rw_nil ?_
          refine ⟨⟨(slices_symMergeCmpFunc_Op 100 data3 0 (0 + blockSize1) n1 cmp1), (blockSize1 * 2), 0, (2 * blockSize1), (fz2 - 1)⟩, ⟨(by (try simp only []); omega), (by (try simp only []); first | omega | (simp only [List.length_append, List.length_cons, List.length_nil]; omega)), (by rw [← hf2]; (conv => lhs; rw [hlt1_]); simp only [slices_stableCmpFunc_Op_L1, hc2, hc3, hc4, Bool.true_and, Bool.and_true, cond_true, cond_false] : (slices_stableCmpFunc_Op data1 n1 cmp1) = (slices_stableCmpFunc_Op_L1 n1 cmp1 (fz2 - 1) (slices_symMergeCmpFunc_Op 100 data3 0 (0 + blockSize1) n1 cmp1) (blockSize1 * 2) 0 (2 * blockSize1))).symm⟩, (by simp only []; omega), Le5⟩
        · skip
          have hc4p := of_decide_eq_false hc4
          (repeat refine cw_seq ?_); refine cw_skip ?_
          (repeat refine cw_seq ?_); refine cw_region ?_
          refine Rp rfl rfl rfl rfl ?_
          refine rw_q rfl rfl rfl (q_mul rfl rfl (fun _ => rfl) rfl (fun _ => rfl) (fun _ => by omega)) ?_
          refine Rp rfl rfl rfl rfl ?_
          refine rw_nil ?_
          refine ⟨⟨data3, (blockSize1 * 2), 0, (2 * blockSize1), (fz2 - 1)⟩, ⟨(by (try simp only []); omega), (by (try simp only []); first | omega | (simp only [List.length_append, List.length_cons, List.length_nil]; omega)), (by rw [← hf2]; (conv => lhs; rw [hlt1_]); simp only [slices_stableCmpFunc_Op_L1, hc2, hc3, hc4, Bool.true_and, Bool.and_true, cond_true, cond_false] : (slices_stableCmpFunc_Op data1 n1 cmp1) = (slices_stableCmpFunc_Op_L1 n1 cmp1 (fz2 - 1) data3 (blockSize1 * 2) 0 (2 * blockSize1))).symm⟩, (by simp only []; omega), Le5⟩
    · skip
      have hc2p := of_decide_eq_false hc2
      (repeat refine cw_seq ?_); refine cw_exit ?_
      have hr1 : (slices_stableCmpFunc_Op data1 n1 cmp1) = data3 := by rw [← hf2]; (conv => lhs; rw [hlt1_]); simp only [slices_stableCmpFunc_Op_L1, hc2, Bool.true_and, Bool.and_true, cond_true, cond_false]
      rw [hr1]
      exact ⟨(), _, .nil, rfl, Sf, .nil _, Sp⟩

def slices_SortStableFunc_Op (x1 : List Op) (cmp1 : Op → Op → Int) : List Op :=
  (slices_stableCmpFunc_Op x1 (x1.length : Int) cmp1)
theorem slices_SortStableFunc_Op_spec (y1 : SlV) (y1b : Option Nat) (x1 : List Op) (f1 : Nat) (caps1 : List Value) (pre1 : List Pred) [StabL pre1] (cmp1 : Op → Op → Int) (hfb1 : tab.fnb f1 = true) (hfn1 : ∀ (a0_ : Op) (a1_ : Op), Does Try.prog f1 ([.agg ⟨[.int .i64 a0_.time, .int .i64 a0_.who, .int .i64 a0_.node, .int .i64 a0_.parent, .int .i64 a0_.name, .int .i64 a0_.life, .int .i64 a0_.seq]⟩, .agg ⟨[.int .i64 a1_.time, .int .i64 a1_.who, .int .i64 a1_.node, .int .i64 a1_.parent, .int .i64 a1_.name, .int .i64 a1_.life, .int .i64 a1_.seq]⟩] ++ caps1) pre1 (fun (_ : Unit) => .int .i64 (cmp1 a0_ a1_)) (fun (_ : Unit) => [])) (hx : x1.length ≤ 30) : DoesG Try.prog 156 [y1.val x1.length, .func (.func f1) #[] ⟨caps1⟩] (pre1) ⟨[], [ownL EOp 33 y1 y1b x1]⟩ (fun (_ : Unit) => .tuple #[]) (fun (_ : Unit) => []) (fun (_ : Unit) => ⟨[], [ownL EOp 33 y1 y1b (slices_SortStableFunc_Op x1 cmp1)]⟩) := by
  refine does_ofG tab_ok Try.func156 rfl Try.ntmps156 Try.results156 rfl inferInstance (fun _ => inferInstance) fun C => ?_
  refine cw_lenO EOp (e := 33) (X := y1) (b := y1b) (l := x1) Mm fun hl63y1 hleny1 => ?_
  simp only [show EOp.by_ = 56 from rfl] at hleny1
  (repeat refine cw_seq ?_); refine cw_region ?_
  refine Rp rfl rfl rfl rfl ?_
  refine Rp rfl rfl rfl rfl ?_
  refine Rp rfl rfl rfl rfl ?_
  refine Rp rfl rfl rfl rfl ?_
  refine rw_callG (slices_stableCmpFunc_Op_spec y1 y1b x1 (x1.length : Int) _ _ _ cmp1 (by assumption) hfn1 (by first | assumption | omega)) .sq (.inl ⟨_, rfl⟩) (guard_none rfl) rfl rfl rfl Kr rfl rfl Sf (.nil _) (by first | exact .cons (.here _ _) (.nil _) | exact .cons (.there _ (.here _ _)) (.nil _) | exact .cons (.there _ (.there _ (.here _ _))) (.nil _) | exact .cons (.there _ (.there _ (.there _ (.here _ _)))) (.nil _)) ?_
  intro _
  refine rw_nil ?_
  have hr1 : (slices_SortStableFunc_Op x1 cmp1) = (slices_stableCmpFunc_Op x1 (x1.length : Int) cmp1) := by simp only [slices_SortStableFunc_Op, Bool.true_and, Bool.and_true, cond_true, cond_false]
  rw [hr1]
  exact ⟨(), _, .nil, rfl, Sf, .nil _, Sp⟩

theorem ST_Op_L1 (cmp : Op → Op → Int) (lt : Op → Op → Bool) (hlt : ∀ a b, decide (cmp a b < 0) = lt a b) (htr : ∀ a b c, lt c b = false → lt b a = false → lt c a = false) (has : ∀ a b, lt a b = true → lt b a = false) (U V : List Op) (hU : U.length = 20) (hV : U.length + V.length ≤ 30) (sU : Sorted lt U) (sV : Sorted lt V) (a b : Int) :
    ∃ W, slices_stableCmpFunc_Op_L1 ((U.length + V.length : Nat) : Int) cmp 41 (U ++ V) 20 a b = W ∧ W.Perm (U ++ V) ∧ Sorted lt W := by
  cases V with
  | nil =>
    refine ⟨U, ?_, by simp, sU⟩
    rw [slices_stableCmpFunc_Op_L1]
    have : decide ((20 : Int) < ((U.length + ([] : List Op).length : Nat) : Int)) = false := by simp; omega
    rw [this]; simp
  | cons v V =>
    simp only [List.length_cons] at hV
    obtain ⟨W, h1, h2, h3⟩ := SM_Op cmp lt hlt htr has 100 [] U (v :: V) [] 0 (0 + 20) ((U.length + (v :: V).length : Nat) : Int) (by omega) (by simp) rfl (by simp; omega) (by simp) (by simp; omega) sU sV
    refine ⟨W, ?_, h2, h3⟩
    simp only [List.nil_append, List.append_nil] at h1
    rw [slices_stableCmpFunc_Op_L1]
    have c1 : decide ((20 : Int) < ((U.length + (v :: V).length : Nat) : Int)) = true := by simp; omega
    have c2 : decide ((2 * 20 : Int) ≤ ((U.length + (v :: V).length : Nat) : Int)) = false := by simp; omega
    have c3 : decide ((0 + 20 : Int) < ((U.length + (v :: V).length : Nat) : Int)) = true := by simp; omega
    rw [c1, c2, c3, cond_true, cond_false, cond_true, h1, slices_stableCmpFunc_Op_L1]
    have c4 : decide ((20 * 2 : Int) < ((U.length + (v :: V).length : Nat) : Int)) = false := by simp; omega
    rw [c4]; rfl
theorem ST_Op (cmp : Op → Op → Int) (lt : Op → Op → Bool) (hlt : ∀ a b, decide (cmp a b < 0) = lt a b) (htr : ∀ a b c, lt c b = false → lt b a = false → lt c a = false) (has : ∀ a b, lt a b = true → lt b a = false) (l : List Op) (hl : l.length ≤ 30) :
    (slices_SortStableFunc_Op l cmp).Perm l ∧ Sorted lt (slices_SortStableFunc_Op l cmp) := by
  have hfun : (fun a b => decide (cmp a b < 0)) = lt := by funext a b; exact hlt a b
  unfold slices_SortStableFunc_Op slices_stableCmpFunc_Op
  have key : ∀ M : List Op, (isort lt [] M).Perm M ∧ Sorted lt (isort lt [] M) := fun M => ⟨by simpa using isort_perm lt M [], isort_sorted htr has M [] (by simp [Sorted])⟩
  rw [show ((l.length : Int)).toNat + 21 = (l.length + 20) + 1 by simp, slices_stableCmpFunc_Op_L0]
  by_cases h : 20 ≤ l.length
  · have c1 : decide ((20 : Int) ≤ (l.length : Int)) = true := by simp; omega
    have e1 : slices_insertionSortCmpFunc_Op l 0 20 cmp = isort lt [] (l.take 20) ++ l.drop 20 := by
      have := IS_Op cmp [] (l.take 20) (l.drop 20) 0 20 rfl (by simp; omega)
      rw [List.nil_append, List.nil_append, List.take_append_drop, hfun] at this
      exact this
    rw [c1, cond_true, e1, slices_stableCmpFunc_Op_L0]
    have c2 : decide ((20 + 20 : Int) ≤ (l.length : Int)) = false := by simp; omega
    have e2 : slices_insertionSortCmpFunc_Op (isort lt [] (l.take 20) ++ l.drop 20) 20 (l.length : Int) cmp = isort lt [] (l.take 20) ++ isort lt [] (l.drop 20) := by
      have := IS_Op cmp (isort lt [] (l.take 20)) (l.drop 20) [] 20 (l.length : Int) (by rw [isort_len]; simp; omega) (by rw [isort_len]; simp; omega)
      rw [List.append_nil, List.append_nil, hfun] at this
      exact this
    rw [c2, cond_false, e2]
    have hlen : ((isort lt [] (l.take 20)).length + (isort lt [] (l.drop 20)).length : Nat) = l.length := by rw [isort_len, isort_len]; simp; omega
    obtain ⟨W, h1, h2, h3⟩ := ST_Op_L1 cmp lt hlt htr has (isort lt [] (l.take 20)) (isort lt [] (l.drop 20)) (by rw [isort_len]; simp; omega) (by rw [hlen]; exact hl) (key _).2 (key _).2 20 (20 + 20)
    rw [hlen] at h1
    rw [h1]
    refine ⟨h2.trans ?_, h3⟩
    have := (key (l.take 20)).1.append (key (l.drop 20)).1
    rw [List.take_append_drop] at this
    exact this
  · have c1 : decide ((20 : Int) ≤ (l.length : Int)) = false := by simp; omega
    have e1 : slices_insertionSortCmpFunc_Op l 0 (l.length : Int) cmp = isort lt [] l := by
      have := IS_Op cmp [] l [] 0 (l.length : Int) rfl (by simp)
      simp only [List.nil_append, List.append_nil, hfun] at this
      exact this
    rw [c1, cond_false, e1, slices_stableCmpFunc_Op_L1]
    have c2 : decide ((20 : Int) < (l.length : Int)) = false := by simp; omega
    rw [c2]
    exact key l

theorem ST_Op_len (l : List Op) (cmp : Op → Op → Int) (hl : l.length ≤ 30) : (slices_SortStableFunc_Op l cmp).length = l.length := by
  have key : ∀ (d : List Op) (a b : Int), d.length = l.length → (slices_stableCmpFunc_Op_L1 (l.length : Int) cmp 41 d 20 a b).length = l.length := fun d a b hd => by
    rw [slices_stableCmpFunc_Op_L1]
    cases hc : decide ((20 : Int) < (l.length : Int)) with
    | false => exact hd
    | true =>
      have hc := of_decide_eq_true hc
      have c2 : decide ((2 * 20 : Int) ≤ (l.length : Int)) = false := by simp; omega
      have c3 : decide ((0 + 20 : Int) < (l.length : Int)) = true := by simp; omega
      have c4 : decide ((20 * 2 : Int) < (l.length : Int)) = false := by simp; omega
      rw [c2, c3, cond_true, cond_false, cond_true, slices_stableCmpFunc_Op_L1, c4, cond_false, SM_Op_len 100 _ _ _ _ _ (by omega) (by omega)]
      exact hd
  unfold slices_SortStableFunc_Op slices_stableCmpFunc_Op
  rw [show ((l.length : Int)).toNat + 21 = (l.length + 20) + 1 by simp, slices_stableCmpFunc_Op_L0]
  cases hc : decide ((20 : Int) ≤ (l.length : Int)) with
  | false => rw [cond_false]; exact key _ _ _ (IS_Op_len _ _ _ _)
  | true =>
    have hc := of_decide_eq_true hc
    have c2 : decide ((20 + 20 : Int) ≤ (l.length : Int)) = false := by simp; omega
    rw [cond_true, slices_stableCmpFunc_Op_L0, c2, cond_false]
    exact key _ _ _ (by rw [IS_Op_len, IS_Op_len])

def slices_ReverseK_Op_L0 (k1 : Nat) : Nat → (List Op) → Int → Int → (List Op)
  | 0, s2, i1, j1 => default
  | f_k0 + 1, s2, i1, j1 => (bif decide (i1 < j1) then (slices_ReverseK_Op_L0 k1 f_k0 ((s2.set (k1 + i1.toNat) (gt s2 (k1 + j1.toNat))).set (k1 + j1.toNat) (gt s2 (k1 + i1.toNat))) (i1 + 1) (j1 - 1)) else s2)
def slices_ReverseK_Op (s1 : List Op) (k1 : Nat) : List Op :=
  (slices_ReverseK_Op_L0 k1 (s1.length + 2) s1 0 (((s1.drop k1).length : Int) - 1))
theorem slices_ReverseK_Op_spec (y1 : SlV) (y1b : Option Nat) (s1 : List Op) (k1 : Nat) (hk : k1 ≤ s1.length) : DoesG Try.prog 87 [(⟨slA y1.a y1.c k1 EOp.esz, y1.c - k1⟩ : SlV).val (s1.drop k1).length] [] ⟨[], [ownL EOp 33 y1 y1b s1]⟩ (fun (_ : Unit) => .tuple #[]) (fun (_ : Unit) => []) (fun (_ : Unit) => ⟨[], [ownL EOp 33 y1 y1b (slices_ReverseK_Op s1 k1)]⟩) := by
  refine does_ofG tab_ok Try.func87 rfl Try.ntmps87 Try.results87 rfl inferInstance (fun _ => inferInstance) fun C => ?_
  refine cw_lenO EOp (e := 33) (X := y1) (b := y1b) (l := s1) Mm fun hl63y1 hleny1 => ?_
  simp only [show EOp.by_ = 56 from rfl] at hleny1
  have hkd : (s1.drop k1).length = s1.length - k1 := List.length_drop
  (repeat refine cw_seq ?_); refine cw_region ?_
  refine Rp rfl rfl rfl rfl ?_
  refine Rp rfl rfl rfl rfl ?_
  refine rw_q rfl rfl rfl (q_sub rfl rfl (fun _ => rfl) rfl (fun _ => rfl) (fun _ => by omega)) ?_
  refine Rp rfl rfl rfl rfl ?_
  refine Rp rfl rfl rfl rfl ?_
  refine rw_nil ?_
  (repeat refine cw_seq ?_); refine cw_block ?_
  (repeat refine cw_seq ?_); refine cw_loopS [] [] (fun (i_ : List Op × Int × Int × Nat) => match i_ with | ⟨s2, i1, j1, fz1⟩ => [(0, .v ((⟨slA y1.a y1.c k1 EOp.esz, y1.c - k1⟩ : SlV).val (s2.drop k1).length)), (2, .v (.int .i64 i1)), (3, .v (.int .i64 j1))]) (fun (i_ : List Op × Int × Int × Nat) => match i_ with | ⟨s2, i1, j1, fz1⟩ => []) (fun (i_ : List Op × Int × Int × Nat) => match i_ with | ⟨s2, i1, j1, fz1⟩ => [ownL EOp 33 y1 y1b s2]) (fun (i_ : List Op × Int × Int × Nat) => match i_ with | ⟨s2, i1, j1, fz1⟩ => []) (fun (i_ : List Op × Int × Int × Nat) => match i_ with | ⟨s2, i1, j1, fz1⟩ => (0 ≤ i1 ∧ i1 + j1 = ((s1.drop k1).length : Int) - 1 ∧ s2.length = s1.length) ∧ ((j1 - i1 + 1).toNat < fz1) ∧ (slices_ReverseK_Op_L0 k1 (fz1) s2 i1 j1) = (slices_ReverseK_Op s1 k1)) (fun (i_ : List Op × Int × Int × Nat) => match i_ with | ⟨s2, i1, j1, fz1⟩ => fz1) ⟨s1, 0, (((s1.drop k1).length : Int) - 1), s1.length + 2⟩ (.nil _) (.nil) ⟨⟨by simp, by simp, rfl⟩, (by first | exact Nat.le_refl _ | exact Nat.zero_le _ | omega), (by simp only [slices_ReverseK_Op, Bool.true_and, Bool.and_true, cond_true, cond_false] : (slices_ReverseK_Op s1 k1) = (slices_ReverseK_Op_L0 k1 (s1.length + 2) s1 0 (((s1.drop k1).length : Int) - 1))).symm⟩ Le4 ?_
  rintro ⟨s2, i1, j1, fz1⟩ ⟨hi, hzfz1, hf1⟩
  simp only [List.cons_append, List.nil_append]
  have hlt0_ : fz1 = (fz1 - 1) + 1 := by omega
  (repeat refine cw_seq ?_); refine cw_region ?_
  refine Rp rfl rfl rfl rfl ?_
  refine Rp rfl rfl rfl rfl ?_
  refine Rp rfl rfl rfl rfl ?_
  refine rw_nil ?_
  (repeat refine cw_seq ?_); refine cw_cond (b := decide (i1 < j1)) rfl rfl (fun hc1 => ?_) (fun hc1 => ?_)
  · skip
    have hc1p := of_decide_eq_true hc1
    (repeat refine cw_seq ?_); refine cw_skip ?_
    (repeat refine cw_seq ?_); refine cw_block ?_
    (repeat refine cw_seq ?_); refine cw_regionA (fun j => match j with | 13 => some y1b.toList | 15 => some y1b.toList | _ => some []) ?_
    refine ra_q (.an (i := 0) (js := [1, 2, 3, 4, 5, 6, 7, 8, 9, 10, 11]) rfl Kr Kr Kr Kr) (SplitB.all _) (by simp) rfl rfl rfl (q_pev rfl (fun _ => rfl)) ?_
    refine ra_q (.an (i := 1) (js := [2, 3, 4, 5, 6, 7, 8, 9, 10, 11]) rfl Kr Kr Kr Kr) (SplitB.all _) (by simp) rfl rfl rfl (q_pev rfl (fun _ => rfl)) ?_
    refine ra_q (.an (i := 2) (js := [3, 4, 5, 6, 7, 8, 9, 10, 11, 12, 13]) rfl Kr Kr Kr Kr) (SplitB.all _) (by intro g hg; simp only [List.mem_append, List.mem_singleton, List.not_mem_nil, or_false, false_or, Option.mem_toList, Option.mem_def, List.append_nil] at hg; first | exact .inr ⟨ownL EOp 33 y1 y1b s2, Mm, hg⟩) rfl rfl rfl (q_pev rfl (fun _ => rfl)) ?_
    refine ra_q (.an (i := 3) (js := [4, 5, 6, 7, 8, 9, 10, 11, 12, 13]) rfl Kr Kr Kr Kr) (SplitB.all _) (by intro g hg; simp only [List.mem_append, List.mem_singleton, List.not_mem_nil, or_false, false_or, Option.mem_toList, Option.mem_def, List.append_nil] at hg; first | exact .inr ⟨ownL EOp 33 y1 y1b s2, Mm, hg⟩) rfl rfl rfl (q_pev rfl (fun _ => rfl)) ?_
    refine ra_q (.ab (i := 4) (js := [5, 8, 9, 10, 11]) [6, 7, 12, 13, 14, 15] rfl Kr Kr Kr Kr Kr) (SplitB.all _) (by simp) rfl rfl rfl (q_pev rfl (fun _ => rfl)) ?_
    refine ra_q (.ab (i := 5) (js := [8, 9, 10, 11]) [6, 7, 12, 13, 14, 15] rfl Kr Kr Kr Kr Kr) (SplitB.all _) (by simp) rfl rfl rfl (q_pev rfl (fun _ => rfl)) ?_
    refine rw_qO EOp (e := 33) (X := y1) (b := y1b) (l := s2) Mm (.an (i := 6) (js := [8, 9, 10, 11]) rfl Kr Kr Kr Kr) rfl rfl rfl (q_idxK EOp (l := s2) (X := y1) (k := k1) j1.toNat rfl rfl (fun _ => rfl) rfl (fun _ => rfl) rfl rfl rfl (.head _) (fun _ => by omega) (fun _ => by first | assumption | omega | (simp only [List.length_set]; omega))) ?_
    refine rw_qO EOp (e := 33) (X := y1) (b := y1b) (l := s2) Mm (.an (i := 7) (js := [8, 9, 10, 11]) rfl Kr Kr Kr Kr) rfl rfl rfl (q_leA EOp rfl rfl (fun _ => rfl) rfl rfl (.head _) (fun _ => by first | assumption | omega | (simp only [List.length_set]; omega))) ?_
    refine ra_q (.ab (i := 8) (js := [9]) [10, 11, 12, 13, 14, 15] rfl Kr Kr Kr Kr Kr) (SplitB.all _) (by simp) rfl rfl rfl (q_pev rfl (fun _ => rfl)) ?_
    refine ra_q (.ab (i := 9) (js := []) [10, 11, 12, 13, 14, 15] rfl Kr Kr Kr Kr Kr) (SplitB.all _) (by simp) rfl rfl rfl (q_pev rfl (fun _ => rfl)) ?_
    refine rw_qO EOp (e := 33) (X := y1) (b := y1b) (l := s2) Mm (.ab (i := 10) (js := []) [11, 12, 13, 14, 15] rfl Kr Kr Kr Kr Kr) rfl rfl rfl (q_idxK EOp (l := s2) (X := y1) (k := k1) i1.toNat rfl rfl (fun _ => rfl) rfl (fun _ => rfl) rfl rfl rfl (.head _) (fun _ => by omega) (fun _ => by first | assumption | omega | (simp only [List.length_set]; omega))) ?_
    refine rw_qO EOp (e := 33) (X := y1) (b := y1b) (l := s2) Mm (.an (i := 11) (js := []) rfl Kr Kr Kr Kr) rfl rfl rfl (q_leA EOp rfl rfl (fun _ => rfl) rfl rfl (.head _) (fun _ => by first | assumption | omega | (simp only [List.length_set]; omega))) ?_
    refine rw_qO EOp (e := 33) (X := y1) (b := y1b) (l := s2) Mm (.an (i := 12) (js := []) rfl Kr Kr Kr Kr) rfl rfl rfl (q_idxK EOp (l := s2) (X := y1) (k := k1) i1.toNat rfl rfl (fun _ => rfl) rfl (fun _ => rfl) rfl rfl rfl (.head _) (fun _ => by omega) (fun _ => by first | assumption | omega | (simp only [List.length_set]; omega))) ?_
    refine ra_one 13 Kr ?_
    refine rw_stO EOp s2 (k1 + i1.toNat) 0 (gt s2 (k1 + j1.toNat)) (e := 33) (X := y1) (b := y1b) (.an rfl rfl) (.inr (fun g h => by simp [h])) (guard_none rfl) rfl rfl rfl rfl rfl rfl rfl rfl rfl rfl rfl (by first | assumption | omega | (simp only [List.length_set]; omega)) rfl Uo ?_
    have hv1 : y1.val s2.length = y1.val (s2.set (k1 + i1.toNat) (gt s2 (k1 + j1.toNat))).length := congrArg (SlV.val y1) List.length_set.symm
    try rw [hv1]
    have hv2 : (⟨slA y1.a y1.c k1 EOp.esz, y1.c - k1⟩ : SlV).val (s2.drop k1).length = (⟨slA y1.a y1.c k1 EOp.esz, y1.c - k1⟩ : SlV).val ((s2.set (k1 + i1.toNat) (gt s2 (k1 + j1.toNat))).drop k1).length := by congr 1; simp only [List.length_drop, List.length_set] <;> omega
    try rw [hv2]
    refine rw_qO EOp (e := 33) (X := y1) (b := y1b) (l := (s2.set (k1 + i1.toNat) (gt s2 (k1 + j1.toNat)))) Mm (.an (i := 14) (js := []) rfl Kr Kr Kr Kr) rfl rfl rfl (q_idxK EOp (l := (s2.set (k1 + i1.toNat) (gt s2 (k1 + j1.toNat)))) (X := y1) (k := k1) j1.toNat rfl rfl (fun _ => rfl) rfl (fun _ => rfl) rfl rfl rfl (.head _) (fun _ => by omega) (fun _ => by first | assumption | omega | (simp only [List.length_set]; omega))) ?_
    refine ra_one 15 Kr ?_
    refine rw_stO EOp (s2.set (k1 + i1.toNat) (gt s2 (k1 + j1.toNat))) (k1 + j1.toNat) 0 (gt s2 (k1 + i1.toNat)) (e := 33) (X := y1) (b := y1b) (.an rfl rfl) (.inr (fun g h => by simp [h])) (guard_none rfl) rfl rfl rfl rfl rfl rfl rfl rfl rfl rfl rfl (by first | assumption | omega | (simp only [List.length_set]; omega)) rfl Uo ?_
    have hv3 : y1.val (s2.set (k1 + i1.toNat) (gt s2 (k1 + j1.toNat))).length = y1.val ((s2.set (k1 + i1.toNat) (gt s2 (k1 + j1.toNat))).set (k1 + j1.toNat) (gt s2 (k1 + i1.toNat))).length := congrArg (SlV.val y1) List.length_set.symm
    try rw [hv3]
    have hv4 : (⟨slA y1.a y1.c k1 EOp.esz, y1.c - k1⟩ : SlV).val ((s2.set (k1 + i1.toNat) (gt s2 (k1 + j1.toNat))).drop k1).length = (⟨slA y1.a y1.c k1 EOp.esz, y1.c - k1⟩ : SlV).val (((s2.set (k1 + i1.toNat) (gt s2 (k1 + j1.toNat))).set (k1 + j1.toNat) (gt s2 (k1 + i1.toNat))).drop k1).length := by congr 1; simp only [List.length_drop, List.length_set] <;> omega
    try rw [hv4]
    refine ra_nil Kr ?_
    (repeat refine cw_seq ?_); refine cw_region ?_
    refine Rp rfl rfl rfl rfl ?_
    refine rw_q rfl rfl rfl (q_add rfl rfl (fun _ => rfl) rfl (fun _ => rfl) (fun _ => by omega)) ?_
    refine Rp rfl rfl rfl rfl ?_
    refine rw_q rfl rfl rfl (q_sub rfl rfl (fun _ => rfl) rfl (fun _ => rfl) (fun _ => by omega)) ?_
    refine Rp rfl rfl rfl rfl ?_
    refine Rp rfl rfl rfl rfl ?_
    refine rw_nil ?_
    refine ⟨⟨((s2.set (k1 + i1.toNat) (gt s2 (k1 + j1.toNat))).set (k1 + j1.toNat) (gt s2 (k1 + i1.toNat))), (i1 + 1), (j1 - 1), (fz1 - 1)⟩, ⟨(by simp only [List.length_set]; omega), (by (try simp only []); first | omega | (simp only [List.length_append, List.length_cons, List.length_nil]; omega)), (by rw [← hf1]; (conv => lhs; rw [hlt0_]); simp only [slices_ReverseK_Op_L0, hc1, Bool.true_and, Bool.and_true, cond_true, cond_false] : (slices_ReverseK_Op s1 k1) = (slices_ReverseK_Op_L0 k1 (fz1 - 1) ((s2.set (k1 + i1.toNat) (gt s2 (k1 + j1.toNat))).set (k1 + j1.toNat) (gt s2 (k1 + i1.toNat))) (i1 + 1) (j1 - 1))).symm⟩, (by simp only []; omega), Le4⟩
  · skip
    have hc1p := of_decide_eq_false hc1
    (repeat refine cw_seq ?_); refine cw_exit ?_
    have hr1 : (slices_ReverseK_Op s1 k1) = s2 := by rw [← hf1]; (conv => lhs; rw [hlt0_]); simp only [slices_ReverseK_Op_L0, hc1, Bool.true_and, Bool.and_true, cond_true, cond_false]
    rw [hr1]
    exact ⟨(), _, .nil, rfl, Sm, .nil _, Sp⟩

theorem RK_Op_L0_len (k : Nat) : ∀ (f : Nat) (s : List Op) (i j : Int), (j - i + 1).toNat < f → (slices_ReverseK_Op_L0 k f s i j).length = s.length
  | 0, _, _, _, h => by omega
  | f + 1, s, i, j, h => by
    rw [slices_ReverseK_Op_L0]
    cases hc : decide (i < j) with
    | false => rfl
    | true =>
      have hc := of_decide_eq_true hc
      simp only [cond_true]
      rw [RK_Op_L0_len k f _ _ _ (by omega)]; simp
theorem RK_Op_len (s : List Op) (k : Nat) (h : k ≤ s.length) : (slices_ReverseK_Op s k).length = s.length := RK_Op_L0_len k _ s _ _ (by simp; omega)
/-- what is turned about: the ends change places -/
theorem RK_Op_L0 (k : Nat) : ∀ (n : Nat) (A M B : List Op) (f : Nat), M.length = n → A.length = B.length → k ≤ (A.length + k) → ∀ P : List Op, P.length = k → n + 1 < f →
    slices_ReverseK_Op_L0 k f (P ++ (A ++ (M ++ B))) (A.length : Int) ((A.length + M.length : Nat) - 1 : Int) = P ++ (A ++ (M.reverse ++ B)) := by
  intro n
  induction n using Nat.strongRecOn with
  | _ n ih =>
    intro A M B f hM hAB _ P hP hf
    obtain ⟨f, rfl⟩ : ∃ g, f = g + 1 := ⟨f - 1, by omega⟩
    rw [slices_ReverseK_Op_L0]
    match M, hM with
    | [], hM =>
      have : decide ((A.length : Int) < ((A.length + ([] : List Op).length : Nat) - 1 : Int)) = false := by simp; omega
      rw [this]; rfl
    | [x], hM =>
      have : decide ((A.length : Int) < ((A.length + [x].length : Nat) - 1 : Int)) = false := by simp
      rw [this]; rfl
    | x :: y :: M', hM =>
      obtain ⟨L, z, hL⟩ : ∃ L z, y :: M' = L ++ [z] := ⟨(y :: M').dropLast, (y :: M').getLast (by simp), (List.dropLast_concat_getLast (by simp)).symm⟩
      rw [hL] at hM ⊢
      simp only [List.length_cons, List.length_append, List.length_nil] at hM
      have hc : decide ((A.length : Int) < ((A.length + (x :: (L ++ [z])).length : Nat) - 1 : Int)) = true := by simp; omega
      have e0 : k + ((A.length : Int)).toNat = (P ++ A).length := by simp; omega
      have e1 : k + (((A.length + (x :: (L ++ [z])).length : Nat) - 1 : Int)).toNat = (P ++ (A ++ (x :: L))).length := by simp; omega
      have e2 : k + (((A.length + (x :: (L ++ [z])).length : Nat) - 1 : Int)).toNat = (P ++ (A ++ (z :: L))).length := by simp; omega
      have d0 : P ++ (A ++ (x :: (L ++ [z]) ++ B)) = (P ++ A) ++ x :: (L ++ ([z] ++ B)) := by simp
      have d1 : P ++ (A ++ (x :: (L ++ [z]) ++ B)) = (P ++ (A ++ (x :: L))) ++ z :: B := by simp
      have g0 : gt (P ++ (A ++ (x :: (L ++ [z]) ++ B))) (k + ((A.length : Int)).toNat) = x := by rw [d0]; exact gt_mid _ _ _ _ e0
      have g1 : gt (P ++ (A ++ (x :: (L ++ [z]) ++ B))) (k + (((A.length + (x :: (L ++ [z])).length : Nat) - 1 : Int)).toNat) = z := by rw [d1]; exact gt_mid _ _ _ _ e1
      have s0 : (P ++ (A ++ (x :: (L ++ [z]) ++ B))).set (k + ((A.length : Int)).toNat) z = (P ++ A) ++ z :: (L ++ ([z] ++ B)) := by rw [d0]; exact set_mid _ _ _ _ _ e0
      rw [hc, cond_true, g0, g1, s0, show (P ++ A) ++ z :: (L ++ ([z] ++ B)) = (P ++ (A ++ (z :: L))) ++ z :: B by simp, set_mid _ _ _ _ _ e2]
      have h := ih L.length (by omega) (A ++ [z]) L (x :: B) f rfl (by simp [hAB]) (by omega) P hP (by omega)
      rw [show (((A ++ [z]).length : Nat) : Int) = (A.length : Int) + 1 by simp, show ((((A ++ [z]).length + L.length : Nat) : Int) - 1) = (((A.length + (x :: (L ++ [z])).length : Nat) - 1 : Int)) - 1 by simp; omega] at h
      rw [show (P ++ (A ++ (z :: L))) ++ x :: B = P ++ (A ++ [z] ++ (L ++ x :: B)) by simp, h]
      simp
theorem RK_Op (s : List Op) (k : Nat) (h : k ≤ s.length) : slices_ReverseK_Op s k = s.take k ++ (s.drop k).reverse := by
  unfold slices_ReverseK_Op
  have := RK_Op_L0 k (s.drop k).length [] (s.drop k) [] (s.length + 2) rfl rfl (by omega) (s.take k) (by simp; omega) (by simp; omega)
  simp only [List.nil_append, List.append_nil, List.take_append_drop, List.length_nil, Nat.zero_add] at this
  exact this
end Go.Proofs.Ytchdacbjiomplaa
