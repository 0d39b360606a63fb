/- Part of this claim. No condition. -/
import Derived.Test.YtchdacbjiomplaaWR
import Derived.Test.YtchdacbjiomplaaW16
set_option linter.unusedVariables false
set_option linter.unusedSimpArgs false
set_option maxHeartbeats 2000000
namespace Go.Proofs.Ytchdacbjiomplaa
open Go Go.Proofs.Ytchdacbjiomplaa.Fw Go.Proofs
attribute [local irreducible] RdL RdN VarP RW CW
def orangeryref_half_L1 (gone1 : List Int) : List Place → Int → Int
  | [], last2 => 0
  | pn2 :: rn2, last2 => (bif ((orangeryref_CheckPlace pn2) != 0) then (orangeryref_CheckPlace pn2) else (bif (decide ((pn2.node) ≤ last2) || (decide ((pn2.node) ∈ gone1))) then 6 else (orangeryref_half_L1 gone1 rn2 (pn2.node))))
def orangeryref_half_L0 (gone1 : List Int) (here1 : List Place) : List Int → Int → Int
  | [], last1 => (orangeryref_half_L1 gone1 here1 0)
  | pn1 :: rn1, last1 => (bif (!(orangeryref_in pn1 1 15)) then 5 else (bif decide (pn1 ≤ last1) then 6 else (orangeryref_half_L0 gone1 here1 rn1 pn1)))
def orangeryref_half (gone1 : List Int) (here1 : List Place) : Int :=
  (bif (decide ((gone1.length : Int) > 16) || decide ((here1.length : Int) > 16)) then 2 else (orangeryref_half_L0 gone1 here1 gone1 0))
theorem orangeryref_half_spec (y1 : SlV) (gone1 : List Int) (y2 : SlV) (here1 : List Place) : Does Try.prog 149 [y1.val gone1.length, y2.val here1.length] [RdL EInt y1 gone1, RdL EPlace y2 here1] (fun (_ : Unit) => .int .i64 (orangeryref_half gone1 here1)) (fun (_ : Unit) => []) := by
  refine does_of tab_ok Try.func149 rfl Try.ntmps149 Try.results149 rfl inferInstance (fun _ => inferInstance) fun C => ?_
  refine Pc EInt y1 gone1 8 fun hlen1 => ?_
  refine Pc EPlace y2 here1 24 fun hlen2 => ?_
  refine Tx ?_
  refine Cd (b := (decide ((gone1.length : Int) > 16) || decide ((here1.length : Int) > 16))) (fun hc1 => ?_) fun hc1 => ?_
  · refine Tx ?_
    have hr1 : (orangeryref_half gone1 here1) = 2 := by simp only [orangeryref_half, hc1, cond_true, cond_false]
    refine cw_ret ?_; rw [hr1]; exact Re () (Vt Vn)
  · refine Tx ?_
    (repeat refine cw_seq ?_); refine Lp [0,1,4,19,20] [] (fun (i_ : Int × Nat) => match i_ with | ⟨last1, n1⟩ => (⟨[(5, .v (.int .i64 last1)), (21, .v (.int .i64 (n1 : Int)))], [], [], [], (n1 ≤ gone1.length) ∧ (orangeryref_half_L0 gone1 here1 (gone1.drop n1) last1) = (orangeryref_half gone1 here1), gone1.length - n1⟩ : Ls)) ⟨0, 0⟩ (Sc (Sc (Sc (Sc (Sc Sn))))) (.nil) ⟨Nat.zero_le _, (by simp only [orangeryref_half, hc1, cond_true, cond_false] : (orangeryref_half gone1 here1) = (orangeryref_half_L0 gone1 here1 gone1 0)).symm⟩ Le4 ?_
    rintro ⟨last1, n1⟩ ⟨hkn1, hf1⟩
    simp only [List.cons_append, List.nil_append]
    refine Tx ?_
    refine Cd (b := decide ((n1 : Int) < (gone1.length : Int))) (fun hc2 => ?_) fun hc2 => ?_
    · have hlt0 : n1 < gone1.length := Int.ofNat_lt.1 (of_decide_eq_true hc2)
      refine Tx ?_
      refine rw_q rfl rfl rfl (q_idx EInt n1 rfl rfl (fun _ => rfl) rfl (fun _ => rfl) rfl rfl rfl Mm rfl (fun _ => rfl) (fun _ => by first | assumption | omega)) ?_
      refine rw_q rfl rfl rfl (q_le1 EInt rfl rfl (fun _ => rfl) rfl rfl Mm (fun _ => by first | assumption | omega) rfl) ?_
      refine Tx ?_
      refine Cl (orangeryref_in_spec (gt gone1 n1) 1 15) fun _ => ?_
      refine Tx ?_
      refine Cd (b := (!(orangeryref_in (gt gone1 n1) 1 15))) (fun hc3 => ?_) fun hc3 => ?_
      · refine Tx ?_
        have hr2 : (orangeryref_half gone1 here1) = 5 := by rw [← hf1, drop_gt hlt0]; simp only [orangeryref_half_L0, hc3, cond_true, cond_false]
        refine cw_ret ?_; rw [hr2]; exact Re () (Vt Vn)
      · refine Tx ?_
        refine Cd (b := decide ((gt gone1 n1) ≤ last1)) (fun hc4 => ?_) fun hc4 => ?_
        · have hc4p := of_decide_eq_true hc4
          refine Tx ?_
          have hr3 : (orangeryref_half gone1 here1) = 6 := by rw [← hf1, drop_gt hlt0]; simp only [orangeryref_half_L0, hc3, hc4, cond_true, cond_false]
          refine cw_ret ?_; rw [hr3]; exact Re () (Vt Vn)
        · have hc4p := of_decide_eq_false hc4
          refine Tx ?_
          refine rw_q rfl rfl rfl (q_add rfl rfl (fun _ => rfl) rfl (fun _ => rfl) (fun _ => by omega)) ?_
          refine Tx ?_
          refine ⟨⟨(gt gone1 n1), (n1 + 1)⟩, ⟨hlt0, (by rw [← hf1, drop_gt hlt0]; simp only [orangeryref_half_L0, hc3, hc4, cond_true, cond_false] : (orangeryref_half gone1 here1) = (orangeryref_half_L0 gone1 here1 (gone1.drop (n1 + 1)) (gt gone1 n1))).symm⟩, (by simp only []; omega), Le4⟩
    · have hge0 : gone1.length ≤ n1 := by have := of_decide_eq_false hc2; omega
      refine Tx ?_
      (repeat refine cw_seq ?_); refine Lp [0,4,33,34] [] (fun (i_ : Int × Nat) => match i_ with | ⟨last2, n2⟩ => (⟨[(5, .v (.int .i64 last2)), (35, .v (.int .i64 (n2 : Int)))], [], [], [], (n2 ≤ here1.length) ∧ (orangeryref_half_L1 gone1 (here1.drop n2) last2) = (orangeryref_half gone1 here1), here1.length - n2⟩ : Ls)) ⟨0, 0⟩ (Sc (Sc (Sc (Sc Sn)))) (.nil) ⟨Nat.zero_le _, (by rw [← hf1, List.drop_of_length_le hge0]; simp only [orangeryref_half_L0, cond_true, cond_false] : (orangeryref_half gone1 here1) = (orangeryref_half_L1 gone1 here1 0)).symm⟩ Le4 ?_
      rintro ⟨last2, n2⟩ ⟨hkn2, hf2⟩
      simp only [List.cons_append, List.nil_append]
      refine Tx ?_
      refine Cd (b := decide ((n2 : Int) < (here1.length : Int))) (fun hc5 => ?_) fun hc5 => ?_
      · have hlt1 : n2 < here1.length := Int.ofNat_lt.1 (of_decide_eq_true hc5)
        refine Tx ?_
        refine rw_q rfl rfl rfl (q_idx EPlace n2 rfl rfl (fun _ => rfl) rfl (fun _ => rfl) rfl rfl rfl Mm rfl (fun _ => rfl) (fun _ => by first | assumption | omega)) ?_
        refine rw_q rfl rfl rfl (q_leA EPlace rfl rfl (fun _ => rfl) rfl rfl Mm (fun _ => by first | assumption | omega)) ?_
        refine Al fun g1 => ?_
        refine Tx ?_
        refine Cl (orangeryref_CheckPlace_spec (gt here1 n2)) fun _ => ?_
        refine Tx ?_
        refine Cd (b := ((orangeryref_CheckPlace (gt here1 n2)) != 0)) (fun hc6 => ?_) fun hc6 => ?_
        · have hc6p := bne_iff_ne.1 hc6
          refine Tx ?_
          have hr4 : (orangeryref_half gone1 here1) = (orangeryref_CheckPlace (gt here1 n2)) := by rw [← hf2, drop_gt hlt1]; simp only [orangeryref_half_L1, hc6, cond_true, cond_false]
          refine cw_ret ?_; rw [hr4]; exact Re () (Vt Vn)
        · have hc6p := eq_of_bne_false hc6
          refine Tx ?_
          refine rw_callg (fun hG_ => slices_Contains_int_spec' y1 gone1 ((gt here1 n2).node)) (fun _ => rfl) .sq (guard_vf rfl rfl rfl) rfl rfl rfl Kr rfl Bt Sm ?_
          refine Tx ?_
          refine Cd (b := (decide (((gt here1 n2).node) ≤ last2) || (decide (((gt here1 n2).node) ∈ gone1)))) (fun hc7 => ?_) fun hc7 => ?_
          · refine Tx ?_
            have hr5 : (orangeryref_half gone1 here1) = 6 := by rw [← hf2, drop_gt hlt1]; simp only [orangeryref_half_L1, hc6, hc7, cond_true, cond_false]
            refine cw_ret ?_; rw [hr5]; exact Re () (Vt Vn)
          · refine Tx ?_
            refine rw_q rfl rfl rfl (q_add rfl rfl (fun _ => rfl) rfl (fun _ => rfl) (fun _ => by omega)) ?_
            refine Tx ?_
            refine ⟨⟨(gt here1 n2).node, (n2 + 1)⟩, ⟨hlt1, (by rw [← hf2, drop_gt hlt1]; simp only [orangeryref_half_L1, hc6, hc7, cond_true, cond_false] : (orangeryref_half gone1 here1) = (orangeryref_half_L1 gone1 (here1.drop (n2 + 1)) ((gt here1 n2).node))).symm⟩, (by simp only []; omega), Le4⟩
      · have hge1 : here1.length ≤ n2 := by have := of_decide_eq_false hc5; omega
        refine Tx ?_
        have hr6 : (orangeryref_half gone1 here1) = 0 := by rw [← hf2, List.drop_of_length_le hge1]; simp only [orangeryref_half_L1, cond_true, cond_false]
        refine cw_ret ?_; rw [hr6]; exact Re () (Vt Vn)

def orangeryref_CheckDelta (d1 : Delta) : Int :=
  (bif ((orangeryref_half d1.gone d1.here) != 0) then (orangeryref_half d1.gone d1.here) else (orangeryref_half d1.wayGone d1.wayHere))
theorem orangeryref_CheckDelta_spec (y1 : SlV) (y2 : SlV) (y3 : SlV) (y4 : SlV) (d1 : Delta) : Does Try.prog 63 [.agg ⟨[y1.val d1.gone.length, y2.val d1.here.length, y3.val d1.wayGone.length, y4.val d1.wayHere.length]⟩] [RdL EInt y1 d1.gone, RdL EPlace y2 d1.here, RdL EInt y3 d1.wayGone, RdL EPlace y4 d1.wayHere] (fun (_ : Unit) => .int .i64 (orangeryref_CheckDelta d1)) (fun (_ : Unit) => []) := by
  refine does_of tab_ok Try.func63 rfl Try.ntmps63 Try.results63 rfl inferInstance (fun _ => inferInstance) fun C => ?_
  refine Pc EInt y1 d1.gone 8 fun hlen1 => ?_
  refine Pc EPlace y2 d1.here 24 fun hlen2 => ?_
  refine Pc EInt y3 d1.wayGone 8 fun hlen3 => ?_
  refine Pc EPlace y4 d1.wayHere 24 fun hlen4 => ?_
  refine Tx ?_
  refine Bx fun g1 => ?_
  refine Tx ?_
  refine Cl (orangeryref_half_spec y1 d1.gone y2 d1.here) fun _ => ?_
  refine Tx ?_
  refine Cd (b := ((orangeryref_half d1.gone d1.here) != 0)) (fun hc1 => ?_) fun hc1 => ?_
  · have hc1p := bne_iff_ne.1 hc1
    refine Tx ?_
    have hr1 : (orangeryref_CheckDelta d1) = (orangeryref_half d1.gone d1.here) := by simp only [orangeryref_CheckDelta, hc1, cond_true, cond_false]
    refine cw_ret ?_; rw [hr1]; exact Re () (Vt Vn)
  · have hc1p := eq_of_bne_false hc1
    refine Tx ?_
    refine Cl (orangeryref_half_spec y3 d1.wayGone y4 d1.wayHere) fun _ => ?_
    refine Tx ?_
    have hr2 : (orangeryref_CheckDelta d1) = (orangeryref_half d1.wayGone d1.wayHere) := by simp only [orangeryref_CheckDelta, hc1, cond_true, cond_false]
    refine cw_ret ?_; rw [hr2]; exact Re () (Vt Vn)

def orangeryref_SameDelta (a1 : Delta) (b1 : Delta) : Bool :=
  ((((decide (a1.gone = b1.gone)) && (decide (a1.here = b1.here))) && (decide (a1.wayGone = b1.wayGone))) && (decide (a1.wayHere = b1.wayHere)))
theorem orangeryref_SameDelta_spec (y1 : SlV) (y2 : SlV) (y3 : SlV) (y4 : SlV) (a1 : Delta) (y5 : SlV) (y6 : SlV) (y7 : SlV) (y8 : SlV) (b1 : Delta) : Does Try.prog 65 [.agg ⟨[y1.val a1.gone.length, y2.val a1.here.length, y3.val a1.wayGone.length, y4.val a1.wayHere.length]⟩, .agg ⟨[y5.val b1.gone.length, y6.val b1.here.length, y7.val b1.wayGone.length, y8.val b1.wayHere.length]⟩] [RdL EInt y1 a1.gone, RdL EPlace y2 a1.here, RdL EInt y3 a1.wayGone, RdL EPlace y4 a1.wayHere, RdL EInt y5 b1.gone, RdL EPlace y6 b1.here, RdL EInt y7 b1.wayGone, RdL EPlace y8 b1.wayHere] (fun (_ : Unit) => .bool (orangeryref_SameDelta a1 b1)) (fun (_ : Unit) => []) := by
  refine does_of tab_ok Try.func65 rfl Try.ntmps65 Try.results65 rfl inferInstance (fun _ => inferInstance) fun C => ?_
  refine Pc EInt y1 a1.gone 8 fun hlen1 => ?_
  refine Pc EPlace y2 a1.here 24 fun hlen2 => ?_
  refine Pc EInt y3 a1.wayGone 8 fun hlen3 => ?_
  refine Pc EPlace y4 a1.wayHere 24 fun hlen4 => ?_
  refine Pc EInt y5 b1.gone 8 fun hlen5 => ?_
  refine Pc EPlace y6 b1.here 24 fun hlen6 => ?_
  refine Pc EInt y7 b1.wayGone 8 fun hlen7 => ?_
  refine Pc EPlace y8 b1.wayHere 24 fun hlen8 => ?_
  refine Tx ?_
  refine Bx fun g1 => ?_
  refine Bx fun g2 => ?_
  refine Tx ?_
  refine Cl ((fun y1 a y2 b => slices_Equal_Int_spec' y1 y2 a b) y1 a1.gone y5 b1.gone) fun _ => ?_
  refine Tx ?_
  refine rw_callg (fun hG_ => (fun y1 a y2 b => slices_Equal_Place_spec' y1 y2 a b) y2 a1.here y6 b1.here) (fun _ => rfl) .sq (guard_vt rfl rfl rfl) rfl rfl rfl Kr rfl Bt Sm ?_
  refine Tx ?_
  refine rw_callg (fun hG_ => (fun y1 a y2 b => slices_Equal_Int_spec' y1 y2 a b) y3 a1.wayGone y7 b1.wayGone) (fun _ => rfl) .sq (guard_vt rfl rfl rfl) rfl rfl rfl Kr rfl Bt Sm ?_
  refine Tx ?_
  refine rw_callg (fun hG_ => (fun y1 a y2 b => slices_Equal_Place_spec' y1 y2 a b) y4 a1.wayHere y8 b1.wayHere) (fun _ => rfl) .sq (guard_vt rfl rfl rfl) rfl rfl rfl Kr rfl Bt Sm ?_
  refine Tx ?_
  have hr1 : (orangeryref_SameDelta a1 b1) = ((((decide (a1.gone = b1.gone)) && (decide (a1.here = b1.here))) && (decide (a1.wayGone = b1.wayGone))) && (decide (a1.wayHere = b1.wayHere))) := by simp only [orangeryref_SameDelta, cond_true, cond_false]
  refine cw_ret ?_; rw [hr1]; exact Re () (Vt Vn)
end Go.Proofs.Ytchdacbjiomplaa
