/- Part of this claim. No condition. -/
import Derived.Test.YtgkggkgdceapgaaGreatDoorB7
import Derived.Test.YtgkggkgdceapgaaGreatDoorB4
import Derived.Test.YtgkggkgdceapgaaGreatDoorB3
import Derived.Lib.SplitLaws
import Derived.Lib.ItoaMem
import Derived.Lib.AtoiAllCases
import Derived.Lib.ParseIntBTie
import Derived.Lib.LaidTab
set_option linter.unusedVariables false
set_option linter.unusedSimpArgs false
set_option maxHeartbeats 2000000
namespace Go.Proofs.YtgkggkgdceapgaaGreatDoor
open Go Go.Proofs.YtgkggkgdceapgaaGreatDoor.Fw Go.Proofs
attribute [local irreducible] RdL RdN VarP RW CW
theorem ng (a : Int) (cmp : Op → Op → Int) : ∀ (f : Nat) (data : List Op) (j : Int), (j - a).toNat < f → (ax a cmp f data j).length = data.length
 | 0, _, _, h => by omega
 | f + 1, data, j, h => by
  rw [ax]
  cases hc : decide (j > a) with
  | false => rfl
  | true =>
   have hc := of_decide_eq_true hc
   simp only [cond_true, Bool.true_and]
   cases decide (cmp (gt data j.toNat) (gt data (j - 1).toNat) < 0) with
   | false => rfl
   | true => simp only [cond_true]; rw [ng a cmp f _ _ (by omega)]; simp
theorem nh (a b : Int) (cmp : Op → Op → Int) : ∀ (f : Nat) (data : List Op) (i : Int), (b - i).toNat < f → (aU a b cmp f data i).length = data.length
 | 0, _, _, h => by omega
 | f + 1, data, i, h => by
  rw [aU]
  cases hc : decide (i < b) with
  | false => rfl
  | true =>
   have hc := of_decide_eq_true hc
   simp only [cond_true]
   rw [nh a b cmp f _ _ (by omega), ng a cmp _ _ _ (by omega)]
theorem lm (data : List Op) (a b : Int) (cmp : Op → Op → Int) : (az data a b cmp).length = data.length := nh a b cmp _ data _ (by omega)
def aR (n1 : Int) (cmp1 : Op → Op → Int) : Nat → (List Op) → Int → Int → Int → (List Op)
 | 0, data3, blockSize1, a2, b2 => []
 | f_k1 + 1, data3, blockSize1, a2, b2 => (bif decide (blockSize1 < n1) then (bif decide ((2 * blockSize1) ≤ n1) then [] else (bif decide ((0 + blockSize1) < n1) then (aR n1 cmp1 f_k1 (aj 100 data3 0 (0 + blockSize1) n1 cmp1) (blockSize1 * 2) 0 (2 * blockSize1)) else (aR n1 cmp1 f_k1 data3 (blockSize1 * 2) 0 (2 * blockSize1)))) else data3)
def bK (n1 : Int) (cmp1 : Op → Op → Int) : Nat → (List Op) → Int → Int → (List Op)
 | 0, data2, a1, b1 => []
 | f_k0 + 1, data2, a1, b1 => (bif decide (b1 ≤ n1) then (bK n1 cmp1 f_k0 (az data2 a1 b1 cmp1) b1 (b1 + 20)) else (aR n1 cmp1 (41) (az data2 a1 n1 cmp1) 20 a1 b1))
def bC (data1 : List Op) (n1 : Int) (cmp1 : Op → Op → Int) : List Op :=
 (bK n1 cmp1 (n1.toNat + 21) data1 0 20)
theorem iz (y1 : SlV) (y1b : Option Nat) (data1 : List Op) (n1 : Int) (f1 : Nat) (caps1 : List Value) (pre1 : List Pred) [StabL pre1] (cmp1 : Op → Op → Int) (hfb1 : tab.fnb f1 = true) (hfn1 : ∀ (a0_ : Op) (a1_ : Op), Does Tryz.prog f1 ([.agg ⟨[.int .i64 a0_.time, .int .i64 a0_.who, .int .i64 a0_.node, .int .i64 a0_.parent, .int .i64 a0_.name, .int .i64 a0_.life, .int .i64 a0_.seq]⟩, .agg ⟨[.int .i64 a1_.time, .int .i64 a1_.who, .int .i64 a1_.node, .int .i64 a1_.parent, .int .i64 a1_.name, .int .i64 a1_.life, .int .i64 a1_.seq]⟩] ++ caps1) pre1 (fun (_ : Unit) => .int .i64 (cmp1 a0_ a1_)) (fun _ => [])) (hn : 0 ≤ n1 ∧ n1 ≤ 30 ∧ n1 ≤ (data1.length : Int)) : DoesG Tryz.prog 175 [y1.val data1.length, .int .i64 n1, .func (.func f1) #[] ⟨caps1⟩] pre1 ⟨[], [ownL EOp 65 y1 y1b data1]⟩ (fun (_ : Unit) => .tuple #[]) (fun _ => []) (fun _ => ⟨[], [ownL EOp 65 y1 y1b (bC data1 n1 cmp1)]⟩) := by
 refine cF aV Tryz.func175 rfl Tryz.ntmps175 Tryz.results175 rfl inferInstance (fun _ => inferInstance) fun C => ?_
 refine jc EOp (e := 65) (X := y1) (b := y1b) (l := data1) Mm fun hl63y1 hleny1 => ?_
 simp only [show EOp.by_ = 56 from rfl] at hleny1
 refine Tx ?_
 (repeat refine ar ?_); refine Lp [1,2,6] [] (fun (i_ : List Op × Int × Int × Nat) => match i_ with | ⟨data2, a1, b1, fz1⟩ => (⟨[(0, .v (y1.val data2.length)), (7, .v (.int .i64 a1)), (8, .v (.int .i64 b1))], [], [ownL EOp 65 y1 y1b data2], [], (0 ≤ a1 ∧ b1 = a1 + 20 ∧ a1 ≤ n1 ∧ data2.length = data1.length) ∧ ((n1 + 20 - b1).toNat < fz1) ∧ (bK n1 cmp1 fz1 data2 a1 b1) = (bC data1 n1 cmp1), fz1⟩ : Ls)) ⟨data1, 0, 20, n1.toNat + 21⟩ (Sc (Sc (Sc Sn))) (.nil) ⟨(by first | exact Nat.le_refl _ | exact Nat.zero_le _ | omega), (by first | exact Nat.le_refl _ | exact Nat.zero_le _ | omega), (by simp only [bC, Bool.true_and, Bool.and_true, Cf] : (bC data1 n1 cmp1) = (bK n1 cmp1 (n1.toNat + 21) data1 0 20)).symm⟩ Le5 ?_
 rintro ⟨data2, a1, b1, fz1⟩ ⟨hi0, hzfz1, hf1⟩
 simp only [List.cons_append, List.nil_append]
 have hlt0_ : (fz1 - 1) + 1 = fz1 := by omega
 refine Tx ?_
 refine Cd (b := decide (b1 ≤ n1)) (fun hc1 => ?_) fun hc1 => ?_
 ·have hc1p := of_decide_eq_true hc1
  refine Tx ?_
  refine aX (eR y1 y1b data2 a1 b1 _ _ _ cmp1 (by assumption) hfn1 (by omega)) .sq (.inl ⟨_, rfl⟩) (ae rfl) rfl rfl rfl Kr rfl rfl Sf (.nil _) Tk ?_
  intro _
  have hv1l : data2.length = (az data2 a1 b1 cmp1).length := (lm data2 a1 b1 cmp1).symm
  have hv1 : y1.val data2.length = y1.val (az data2 a1 b1 cmp1).length := congrArg (SlV.val y1) hv1l
  try rw [hv1]
  refine Tx ?_
  refine rw_q rfl rfl rfl (q_add rfl rfl Zf rfl Zf Zo) ?_
  refine Tx ?_
  refine ⟨⟨(az data2 a1 b1 cmp1), b1, (b1 + 20), (fz1 - 1)⟩, ⟨(by simp only [true_and]; omega), (by (try simp only []); first | omega | (simp only [List.length_append, List.length_cons, List.length_nil]; omega)), (by rw [← hf1]; (conv => lhs; rw [← hlt0_]); simp only [bK, hc1, Bool.true_and, Bool.and_true, Cf] : (bC data1 n1 cmp1) = (bK n1 cmp1 (fz1 - 1) (az data2 a1 b1 cmp1) b1 (b1 + 20))).symm⟩, (by simp only []; omega), Le5⟩
 ·have hc1p := of_decide_eq_false hc1
  refine Tx ?_
  refine aX (eR y1 y1b data2 a1 n1 _ _ _ cmp1 (by assumption) hfn1 (by omega)) .sq (.inl ⟨_, rfl⟩) (ae rfl) rfl rfl rfl Kr rfl rfl Sf (.nil _) Tk ?_
  intro _
  have hv2l : data2.length = (az data2 a1 n1 cmp1).length := (lm data2 a1 n1 cmp1).symm
  have hv2 : y1.val data2.length = y1.val (az data2 a1 n1 cmp1).length := congrArg (SlV.val y1) hv2l
  try rw [hv2]
  refine Tx ?_
  (repeat refine ar ?_); refine Lp [1,2] [] (fun (i_ : List Op × Int × Int × Int × Nat) => match i_ with | ⟨data3, blockSize1, a2, b2, fz2⟩ => (⟨[(0, .v (y1.val data3.length)), (6, .v (.int .i64 blockSize1)), (7, .v (.int .i64 a2)), (8, .v (.int .i64 b2))], [], [ownL EOp 65 y1 y1b data3], [], (20 ≤ blockSize1 ∧ blockSize1 ≤ 60 ∧ data3.length = data1.length) ∧ ((60 - blockSize1).toNat < fz2) ∧ (aR n1 cmp1 fz2 data3 blockSize1 a2 b2) = (bC data1 n1 cmp1), fz2⟩ : Ls)) ⟨(az data2 a1 n1 cmp1), 20, a1, b1, 41⟩ (Sc (Sc Sn)) (.nil) ⟨(by first | exact Nat.le_refl _ | exact Nat.zero_le _ | omega), (by first | exact Nat.le_refl _ | exact Nat.zero_le _ | omega), (by rw [← hf1]; (conv => lhs; rw [← hlt0_]); simp only [bK, hc1, Bool.true_and, Bool.and_true, Cf] : (bC data1 n1 cmp1) = (aR n1 cmp1 (41) (az data2 a1 n1 cmp1) 20 a1 b1)).symm⟩ Le5 ?_
  rintro ⟨data3, blockSize1, a2, b2, fz2⟩ ⟨hi1, hzfz2, hf2⟩
  simp only [List.cons_append, List.nil_append]
  have hlt1_ : (fz2 - 1) + 1 = fz2 := by omega
  refine Tx ?_
  refine Cd (b := decide (blockSize1 < n1)) (fun hc2 => ?_) fun hc2 => ?_
  ·have hc2p := of_decide_eq_true hc2
   refine Tx ?_
   refine rw_q rfl rfl rfl (q_mul rfl rfl Zf rfl Zf Zo) ?_
   refine Tx ?_
   (repeat refine ar ?_); refine xf ?_
   refine Tx ?_
   refine Cd (b := decide ((2 * blockSize1) ≤ n1)) (fun hc3 => ?_) fun hc3 => ?_
   ·have hc3p := of_decide_eq_true hc3
    exact absurd (of_decide_eq_true hc3) (by omega)
   ·have hc3p := of_decide_eq_false hc3
    refine Tx ?_
    refine rw_q rfl rfl rfl (q_add rfl rfl Zf rfl Zf Zo) ?_
    refine Tx ?_
    refine Cd (b := decide ((0 + blockSize1) < n1)) (fun hc4 => ?_) fun hc4 => ?_
    ·have hc4p := of_decide_eq_true hc4
     refine Tx ?_
     refine aX (hY 100 y1 y1b data3 0 (0 + blockSize1) n1 _ _ _ cmp1 (by assumption) hfn1 (by omega) (by omega)) .sq (.inl ⟨_, rfl⟩) (ae rfl) rfl rfl rfl Kr rfl rfl Sf (.nil _) Tk ?_
     intro _
     have hv3l : data3.length = (aj 100 data3 0 (0 + blockSize1) n1 cmp1).length := (gP 100 data3 0 (0 + blockSize1) n1 cmp1 (by omega) (by omega)).symm
     have hv3 : y1.val data3.length = y1.val (aj 100 data3 0 (0 + blockSize1) n1 cmp1).length := congrArg (SlV.val y1) hv3l
     try rw [hv3]
     refine Tx ?_
     refine rw_q rfl rfl rfl (q_mul rfl rfl Zf rfl Zf Zo) ?_
     refine Tx ?_
     refine ⟨⟨(aj 100 data3 0 (0 + blockSize1) n1 cmp1), (blockSize1 * 2), 0, (2 * blockSize1), (fz2 - 1)⟩, ⟨(by (try simp only []); omega), (by (try simp only []); first | omega | (simp only [List.length_append, List.length_cons, List.length_nil]; omega)), (by rw [← hf2]; (conv => lhs; rw [← hlt1_]); simp only [aR, hc2, hc3, hc4, Bool.true_and, Bool.and_true, Cf] : (bC data1 n1 cmp1) = (aR n1 cmp1 (fz2 - 1) (aj 100 data3 0 (0 + blockSize1) n1 cmp1) (blockSize1 * 2) 0 (2 * blockSize1))).symm⟩, (by simp only []; omega), Le5⟩
    ·have hc4p := of_decide_eq_false hc4
     refine Tx ?_
     refine rw_q rfl rfl rfl (q_mul rfl rfl Zf rfl Zf Zo) ?_
     refine Tx ?_
     refine ⟨⟨data3, (blockSize1 * 2), 0, (2 * blockSize1), (fz2 - 1)⟩, ⟨(by (try simp only []); omega), (by (try simp only []); first | omega | (simp only [List.length_append, List.length_cons, List.length_nil]; omega)), (by rw [← hf2]; (conv => lhs; rw [← hlt1_]); simp only [aR, hc2, hc3, hc4, Bool.true_and, Bool.and_true, Cf] : (bC data1 n1 cmp1) = (aR n1 cmp1 (fz2 - 1) data3 (blockSize1 * 2) 0 (2 * blockSize1))).symm⟩, (by simp only []; omega), Le5⟩
  ·have hc2p := of_decide_eq_false hc2
   refine Tx ?_
   have hr1 : (bC data1 n1 cmp1) = data3 := by rw [← hf2]; (conv => lhs; rw [← hlt1_]); simp only [aR, hc2, Bool.true_and, Bool.and_true, Cf]
   rw [hr1]
   exact ⟨(), _, .nil, rfl, Sf, .nil _, Sp⟩
def al (x1 : List Op) (cmp1 : Op → Op → Int) : List Op :=
 (bC x1 (x1.length : Int) cmp1)
theorem il (y1 : SlV) (y1b : Option Nat) (x1 : List Op) (f1 : Nat) (caps1 : List Value) (pre1 : List Pred) [StabL pre1] (cmp1 : Op → Op → Int) (hfb1 : tab.fnb f1 = true) (hfn1 : ∀ (a0_ : Op) (a1_ : Op), Does Tryz.prog f1 ([.agg ⟨[.int .i64 a0_.time, .int .i64 a0_.who, .int .i64 a0_.node, .int .i64 a0_.parent, .int .i64 a0_.name, .int .i64 a0_.life, .int .i64 a0_.seq]⟩, .agg ⟨[.int .i64 a1_.time, .int .i64 a1_.who, .int .i64 a1_.node, .int .i64 a1_.parent, .int .i64 a1_.name, .int .i64 a1_.life, .int .i64 a1_.seq]⟩] ++ caps1) pre1 (fun (_ : Unit) => .int .i64 (cmp1 a0_ a1_)) (fun _ => [])) (hx : x1.length ≤ 30) : DoesG Tryz.prog 165 [y1.val x1.length, .func (.func f1) #[] ⟨caps1⟩] pre1 ⟨[], [ownL EOp 65 y1 y1b x1]⟩ (fun (_ : Unit) => .tuple #[]) (fun _ => []) (fun _ => ⟨[], [ownL EOp 65 y1 y1b (al x1 cmp1)]⟩) := by
 refine cF aV Tryz.func165 rfl Tryz.ntmps165 Tryz.results165 rfl inferInstance (fun _ => inferInstance) fun C => ?_
 refine jc EOp (e := 65) (X := y1) (b := y1b) (l := x1) Mm fun hl63y1 hleny1 => ?_
 simp only [show EOp.by_ = 56 from rfl] at hleny1
 refine Tx ?_
 refine aX (iz y1 y1b x1 (x1.length : Int) _ _ _ cmp1 (by assumption) hfn1 Zc) .sq (.inl ⟨_, rfl⟩) (ae rfl) rfl rfl rfl Kr rfl rfl Sf (.nil _) Tk ?_
 intro _
 refine er ?_
 have hr1 : (al x1 cmp1) = (bC x1 (x1.length : Int) cmp1) := by simp only [al, Bool.true_and, Bool.and_true, Cf]
 rw [hr1]
 exact ⟨(), _, .nil, rfl, Sf, .nil _, Sp⟩
theorem vR (cmp : Op → Op → Int) (lt : Op → Op → Bool) (hlt : ∀ a b, decide (cmp a b < 0) = lt a b) (htr : ∀ a b c, lt c b = false → lt b a = false → lt c a = false) (has : ∀ a b, lt a b = true → lt b a = false) (U V : List Op) (hU : U.length = 20) (hV : U.length + V.length ≤ 30) (sU : Sorted lt U) (sV : Sorted lt V) (a b : Int) :
  ∃ W, aR ((U.length + V.length : Nat) : Int) cmp 41 (U ++ V) 20 a b = W ∧ W.Perm (U ++ V) ∧ Sorted lt W := by
 cases V with
 | nil =>
  refine ⟨U, ?_, by simp, sU⟩
  rw [aR]
  have : decide ((20 : Int) < ((U.length + ([] : List Op).length : Nat) : Int)) = false := by simp; omega
  rw [this]; simp
 | cons v V =>
  simp only [List.length_cons] at hV
  obtain ⟨W, h1, h2, h3⟩ := SM_Op cmp lt hlt htr has 100 [] U (v :: V) [] 0 (0 + 20) ((U.length + (v :: V).length : Nat) : Int) (by omega) (by simp) rfl (by simp; omega) (by simp) (by simp; omega) sU sV
  refine ⟨W, ?_, h2, h3⟩
  simp only [List.nil_append, List.append_nil] at h1
  rw [aR]
  have c1 : decide ((20 : Int) < ((U.length + (v :: V).length : Nat) : Int)) = true := by simp; omega
  have c2 : decide ((2 * 20 : Int) ≤ ((U.length + (v :: V).length : Nat) : Int)) = false := by simp; omega
  have c3 : decide ((0 + 20 : Int) < ((U.length + (v :: V).length : Nat) : Int)) = true := by simp; omega
  rw [c1, c2, c3, cond_true, cond_false, cond_true, h1, aR]
  have c4 : decide ((20 * 2 : Int) < ((U.length + (v :: V).length : Nat) : Int)) = false := by simp; omega
  rw [c4]; rfl
theorem ST_Op (cmp : Op → Op → Int) (lt : Op → Op → Bool) (hlt : ∀ a b, decide (cmp a b < 0) = lt a b) (htr : ∀ a b c, lt c b = false → lt b a = false → lt c a = false) (has : ∀ a b, lt a b = true → lt b a = false) (l : List Op) (hl : l.length ≤ 30) :
  (al l cmp).Perm l ∧ Sorted lt (al l cmp) := by
 have hfun : (fun a b => decide (cmp a b < 0)) = lt := by funext a b; exact hlt a b
 unfold al bC
 have key : ∀ M : List Op, (isort lt [] M).Perm M ∧ Sorted lt (isort lt [] M) := fun M => ⟨by simpa using mP lt M [], m7 htr has M [] (by simp [Sorted])⟩
 rw [show (l.length : Int).toNat + 21 = (l.length + 20) + 1 by simp, bK]
 by_cases h : 20 ≤ l.length
 ·have c1 : decide ((20 : Int) ≤ (l.length : Int)) = true := by simp; omega
  have e1 : az l 0 20 cmp = isort lt [] (l.take 20) ++ l.drop 20 := by
   have := IS_Op cmp [] (l.take 20) (l.drop 20) 0 20 rfl (by simp; omega)
   rw [List.nil_append, List.nil_append, List.take_append_drop, hfun] at this
   exact this
  rw [c1, cond_true, e1, bK]
  have c2 : decide ((20 + 20 : Int) ≤ (l.length : Int)) = false := by simp; omega
  have e2 : az (isort lt [] (l.take 20) ++ l.drop 20) 20 (l.length : Int) cmp = isort lt [] (l.take 20) ++ isort lt [] (l.drop 20) := by
   have := IS_Op cmp (isort lt [] (l.take 20)) (l.drop 20) [] 20 (l.length : Int) (by rw [k9]; simp; omega) (by rw [k9]; simp; omega)
   rw [List.append_nil, List.append_nil, hfun] at this
   exact this
  rw [c2, cond_false, e2]
  have hlen : ((isort lt [] (l.take 20)).length + (isort lt [] (l.drop 20)).length : Nat) = l.length := by rw [k9, k9]; simp; omega
  obtain ⟨W, h1, h2, h3⟩ := vR cmp lt hlt htr has (isort lt [] (l.take 20)) (isort lt [] (l.drop 20)) (by rw [k9]; simp; omega) (by rw [hlen]; exact hl) (key _).2 (key _).2 20 (20 + 20)
  rw [hlen] at h1
  rw [h1]
  refine ⟨h2.trans ?_, h3⟩
  have := (key (l.take 20)).1.append (key (l.drop 20)).1
  rw [List.take_append_drop] at this
  exact this
 ·have c1 : decide ((20 : Int) ≤ (l.length : Int)) = false := by simp; omega
  have e1 : az l 0 (l.length : Int) cmp = isort lt [] l := by
   have := IS_Op cmp [] l [] 0 (l.length : Int) rfl (by simp)
   simp only [List.nil_append, List.append_nil, hfun] at this
   exact this
  rw [c1, cond_false, e1, aR]
  have c2 : decide ((20 : Int) < (l.length : Int)) = false := by simp; omega
  rw [c2]
  exact key l
theorem uY (l : List Op) (cmp : Op → Op → Int) (hl : l.length ≤ 30) : (al l cmp).length = l.length := by
 have key : ∀ (d : List Op) (a b : Int), d.length = l.length → (aR (l.length : Int) cmp 41 d 20 a b).length = l.length := fun d a b hd => by
  rw [aR]
  cases hc : decide ((20 : Int) < (l.length : Int)) with
  | false => exact hd
  | true =>
   have hc := of_decide_eq_true hc
   have c2 : decide ((2 * 20 : Int) ≤ (l.length : Int)) = false := by simp; omega
   have c3 : decide ((0 + 20 : Int) < (l.length : Int)) = true := by simp; omega
   have c4 : decide ((20 * 2 : Int) < (l.length : Int)) = false := by simp; omega
   rw [c2, c3, cond_true, cond_false, cond_true, aR, c4, cond_false, gP 100 _ _ _ _ _ (by omega) (by omega)]
   exact hd
 unfold al bC
 rw [show (l.length : Int).toNat + 21 = (l.length + 20) + 1 by simp, bK]
 cases hc : decide ((20 : Int) ≤ (l.length : Int)) with
 | false => rw [cond_false]; exact key _ _ _ (lm _ _ _ _)
 | true =>
  have hc := of_decide_eq_true hc
  have c2 : decide ((20 + 20 : Int) ≤ (l.length : Int)) = false := by simp; omega
  rw [cond_true, bK, c2, cond_false]
  exact key _ _ _ (by rw [lm, lm])
def cz (k1 : Nat) : Nat → (List Op) → Int → Int → (List Op)
 | 0, s2, i1, j1 => default
 | f_k0 + 1, s2, i1, j1 => (bif decide (i1 < j1) then (cz k1 f_k0 ((s2.set (k1 + i1.toNat) (gt s2 (k1 + j1.toNat))).set (k1 + j1.toNat) (gt s2 (k1 + i1.toNat))) (i1 + 1) (j1 - 1)) else s2)
def aJ (s1 : List Op) (k1 : Nat) : List Op :=
 (cz k1 (s1.length + 2) s1 0 (((s1.drop k1).length : Int) - 1))
theorem j3 (y1 : SlV) (y1b : Option Nat) (s1 : List Op) (k1 : Nat) (hk : k1 ≤ s1.length) : DoesG Tryz.prog 131 [(⟨slA y1.a y1.c k1 EOp.esz, y1.c - k1⟩ : SlV).val (s1.drop k1).length] [] ⟨[], [ownL EOp 65 y1 y1b s1]⟩ (fun (_ : Unit) => .tuple #[]) (fun _ => []) (fun _ => ⟨[], [ownL EOp 65 y1 y1b (aJ s1 k1)]⟩) := by
 refine cF aV Tryz.func131 rfl Tryz.ntmps131 Tryz.results131 rfl inferInstance (fun _ => inferInstance) fun C => ?_
 refine jc EOp (e := 65) (X := y1) (b := y1b) (l := s1) Mm fun hl63y1 hleny1 => ?_
 simp only [show EOp.by_ = 56 from rfl] at hleny1
 have hkd : (s1.drop k1).length = s1.length - k1 := List.length_drop
 refine Tx ?_
 refine rw_q rfl rfl rfl (q_sub rfl rfl Zf rfl Zf Zo) ?_
 refine Tx ?_
 (repeat refine ar ?_); refine Lp [] [] (fun (i_ : List Op × Int × Int × Nat) => match i_ with | ⟨s2, i1, j1, fz1⟩ => (⟨[(0, .v ((⟨slA y1.a y1.c k1 EOp.esz, y1.c - k1⟩ : SlV).val (s2.drop k1).length)), (2, .v (.int .i64 i1)), (3, .v (.int .i64 j1))], [], [ownL EOp 65 y1 y1b s2], [], (0 ≤ i1 ∧ i1 + j1 = ((s1.drop k1).length : Int) - 1 ∧ s2.length = s1.length) ∧ ((j1 - i1 + 1).toNat < fz1) ∧ (cz k1 fz1 s2 i1 j1) = (aJ s1 k1), fz1⟩ : Ls)) ⟨s1, 0, (((s1.drop k1).length : Int) - 1), s1.length + 2⟩ Sn (.nil) ⟨⟨by simp, by simp, rfl⟩, (by first | exact Nat.le_refl _ | exact Nat.zero_le _ | omega), (by simp only [aJ, Bool.true_and, Bool.and_true, Cf] : (aJ s1 k1) = (cz k1 (s1.length + 2) s1 0 (((s1.drop k1).length : Int) - 1))).symm⟩ Le4 ?_
 rintro ⟨s2, i1, j1, fz1⟩ ⟨hi, hzfz1, hf1⟩
 simp only [List.cons_append, List.nil_append]
 have hlt0_ : (fz1 - 1) + 1 = fz1 := by omega
 refine Tx ?_
 refine Cd (b := decide (i1 < j1)) (fun hc1 => ?_) fun hc1 => ?_
 ·have hc1p := of_decide_eq_true hc1
  refine Tx ?_
  (repeat refine ar ?_); refine aw (fun j => match j with | 13 => some y1b.toList | 15 => some y1b.toList | _ => some []) ?_
  refine Ra 0 rfl Qp ?_
  refine Ra 1 rfl Qp ?_
  refine ra_q (.an (i := 2) (js := [3, 4, 5, 6, 7, 8, 9, 10, 11, 12, 13]) rfl Kr Kr Kr Kr) (bN.all _) (by intro g hg; simp only [List.mem_append, List.mem_singleton, List.not_mem_nil, or_false, false_or, Option.mem_toList, Option.mem_def, List.append_nil] at hg; first | exact .inr ⟨ownL EOp 65 y1 y1b s2, Mm, hg⟩) rfl rfl rfl (q_pev rfl Zf) ?_
  refine ra_q (.an (i := 3) (js := [4, 5, 6, 7, 8, 9, 10, 11, 12, 13]) rfl Kr Kr Kr Kr) (bN.all _) (by intro g hg; simp only [List.mem_append, List.mem_singleton, List.not_mem_nil, or_false, false_or, Option.mem_toList, Option.mem_def, List.append_nil] at hg; first | exact .inr ⟨ownL EOp 65 y1 y1b s2, Mm, hg⟩) rfl rfl rfl (q_pev rfl Zf) ?_
  refine Rb 4 rfl Qp ?_
  refine Rb 5 rfl Qp ?_
  refine rw_qO EOp (e := 65) (X := y1) (b := y1b) (l := s2) Mm (.an (i := 6) (js := [8, 9, 10, 11]) rfl Kr Kr Kr Kr) rfl rfl rfl (rQ EOp (l := s2) (X := y1) (k := k1) j1.toNat rfl rfl Zf rfl Zf rfl rfl rfl (.head _) Zo Za) ?_
  refine rw_qO EOp (e := 65) (X := y1) (b := y1b) (l := s2) Mm (.an (i := 7) (js := [8, 9, 10, 11]) rfl Kr Kr Kr Kr) rfl rfl rfl (q_leA EOp rfl rfl Zf rfl rfl (.head _) Za) ?_
  refine Rb 8 rfl Qp ?_
  refine Rb 9 rfl Qp ?_
  refine rw_qO EOp (e := 65) (X := y1) (b := y1b) (l := s2) Mm (.ab (i := 10) (js := []) [11, 12, 13, 14, 15] rfl Kr Kr Kr Kr Kr) rfl rfl rfl (rQ EOp (l := s2) (X := y1) (k := k1) i1.toNat rfl rfl Zf rfl Zf rfl rfl rfl (.head _) Zo Za) ?_
  refine rw_qO EOp (e := 65) (X := y1) (b := y1b) (l := s2) Mm (.an (i := 11) (js := []) rfl Kr Kr Kr Kr) rfl rfl rfl (q_leA EOp rfl rfl Zf rfl rfl (.head _) Za) ?_
  refine rw_qO EOp (e := 65) (X := y1) (b := y1b) (l := s2) Mm (.an (i := 12) (js := []) rfl Kr Kr Kr Kr) rfl rfl rfl (rQ EOp (l := s2) (X := y1) (k := k1) i1.toNat rfl rfl Zf rfl Zf rfl rfl rfl (.head _) Zo Za) ?_
  refine av 13 Kr ?_
  refine kB EOp s2 (k1 + i1.toNat) 0 (gt s2 (k1 + j1.toNat)) (e := 65) (X := y1) (b := y1b) (.an rfl rfl) (.inr (fun g h => by simp [h])) (ae rfl) rfl rfl rfl rfl rfl rfl rfl rfl rfl rfl rfl Zb rfl Uo ?_
  have hv1 : y1.val s2.length = y1.val (s2.set (k1 + i1.toNat) (gt s2 (k1 + j1.toNat))).length := congrArg (SlV.val y1) List.length_set.symm
  try rw [hv1]
  have hv2 : (⟨slA y1.a y1.c k1 EOp.esz, y1.c - k1⟩ : SlV).val (s2.drop k1).length = (⟨slA y1.a y1.c k1 EOp.esz, y1.c - k1⟩ : SlV).val ((s2.set (k1 + i1.toNat) (gt s2 (k1 + j1.toNat))).drop k1).length := by congr 1; simp only [List.length_drop, List.length_set] <;> omega
  try rw [hv2]
  refine rw_qO EOp (e := 65) (X := y1) (b := y1b) (l := (s2.set (k1 + i1.toNat) (gt s2 (k1 + j1.toNat)))) Mm (.an (i := 14) (js := []) rfl Kr Kr Kr Kr) rfl rfl rfl (rQ EOp (l := (s2.set (k1 + i1.toNat) (gt s2 (k1 + j1.toNat)))) (X := y1) (k := k1) j1.toNat rfl rfl Zf rfl Zf rfl rfl rfl (.head _) Zo Za) ?_
  refine av 15 Kr ?_
  refine kB EOp (s2.set (k1 + i1.toNat) (gt s2 (k1 + j1.toNat))) (k1 + j1.toNat) 0 (gt s2 (k1 + i1.toNat)) (e := 65) (X := y1) (b := y1b) (.an rfl rfl) (.inr (fun g h => by simp [h])) (ae rfl) rfl rfl rfl rfl rfl rfl rfl rfl rfl rfl rfl Zb rfl Uo ?_
  have hv3 : y1.val (s2.set (k1 + i1.toNat) (gt s2 (k1 + j1.toNat))).length = y1.val ((s2.set (k1 + i1.toNat) (gt s2 (k1 + j1.toNat))).set (k1 + j1.toNat) (gt s2 (k1 + i1.toNat))).length := congrArg (SlV.val y1) List.length_set.symm
  try rw [hv3]
  have hv4 : (⟨slA y1.a y1.c k1 EOp.esz, y1.c - k1⟩ : SlV).val ((s2.set (k1 + i1.toNat) (gt s2 (k1 + j1.toNat))).drop k1).length = (⟨slA y1.a y1.c k1 EOp.esz, y1.c - k1⟩ : SlV).val (((s2.set (k1 + i1.toNat) (gt s2 (k1 + j1.toNat))).set (k1 + j1.toNat) (gt s2 (k1 + i1.toNat))).drop k1).length := by congr 1; simp only [List.length_drop, List.length_set] <;> omega
  try rw [hv4]
  refine bj Kr ?_
  refine Tx ?_
  refine rw_q rfl rfl rfl (q_add rfl rfl Zf rfl Zf Zo) ?_
  refine Rp rfl rfl rfl rfl ?_
  refine rw_q rfl rfl rfl (q_sub rfl rfl Zf rfl Zf Zo) ?_
  refine Tx ?_
  refine ⟨⟨((s2.set (k1 + i1.toNat) (gt s2 (k1 + j1.toNat))).set (k1 + j1.toNat) (gt s2 (k1 + i1.toNat))), (i1 + 1), (j1 - 1), (fz1 - 1)⟩, ⟨(by simp only [List.length_set]; omega), (by (try simp only []); first | omega | (simp only [List.length_append, List.length_cons, List.length_nil]; omega)), (by rw [← hf1]; (conv => lhs; rw [← hlt0_]); simp only [cz, hc1, Bool.true_and, Bool.and_true, Cf] : (aJ s1 k1) = (cz k1 (fz1 - 1) ((s2.set (k1 + i1.toNat) (gt s2 (k1 + j1.toNat))).set (k1 + j1.toNat) (gt s2 (k1 + i1.toNat))) (i1 + 1) (j1 - 1))).symm⟩, (by simp only []; omega), Le4⟩
 ·have hc1p := of_decide_eq_false hc1
  refine Tx ?_
  have hr1 : (aJ s1 k1) = s2 := by rw [← hf1]; (conv => lhs; rw [← hlt0_]); simp only [cz, hc1, Bool.true_and, Bool.and_true, Cf]
  rw [hr1]
  exact ⟨(), _, .nil, rfl, Sm, .nil _, Sp⟩
theorem nf (k : Nat) : ∀ (f : Nat) (s : List Op) (i j : Int), (j - i + 1).toNat < f → (cz k f s i j).length = s.length
 | 0, _, _, _, h => by omega
 | f + 1, s, i, j, h => by
  rw [cz]
  cases hc : decide (i < j) with
  | false => rfl
  | true =>
   have hc := of_decide_eq_true hc
   simp only [cond_true]
   rw [nf k f _ _ _ (by omega)]; simp
theorem u5 (s : List Op) (k : Nat) (h : k ≤ s.length) : (aJ s k).length = s.length := nf k _ s _ _ (by simp; omega)
theorem vT (k : Nat) : ∀ (n : Nat) (A M B : List Op) (f : Nat), M.length = n → A.length = B.length → k ≤ (A.length + k) → ∀ P : List Op, P.length = k → n + 1 < f →
  cz k f (P ++ (A ++ (M ++ B))) (A.length : Int) ((A.length + M.length : Nat) - 1 : Int) = P ++ (A ++ (M.reverse ++ B)) := by
 intro n
 induction n using Nat.strongRecOn with
 | _ n ih =>
  intro A M B f hM hAB _ P hP hf
  obtain ⟨f, rfl⟩ : ∃ g, f = g + 1 := ⟨f - 1, by omega⟩
  rw [cz]
  match M, hM with
  | [], hM =>
   have : decide ((A.length : Int) < ((A.length + ([] : List Op).length : Nat) - 1 : Int)) = false := by simp; omega
   rw [this]; rfl
  | [x], hM =>
   have : decide ((A.length : Int) < ((A.length + [x].length : Nat) - 1 : Int)) = false := by simp
   rw [this]; rfl
  | x :: y :: M', hM =>
   obtain ⟨L, z, hL⟩ : ∃ L z, y :: M' = L ++ [z] := ⟨(y :: M').dropLast, (y :: M').getLast (by simp), (List.dropLast_concat_getLast (by simp)).symm⟩
   rw [hL] at hM ⊢
   simp only [List.length_cons, List.length_append, List.length_nil] at hM
   have hc : decide ((A.length : Int) < ((A.length + (x :: (L ++ [z])).length : Nat) - 1 : Int)) = true := by simp; omega
   have e0 : k + (A.length : Int).toNat = (P ++ A).length := by simp; omega
   have e1 : k + ((A.length + (x :: (L ++ [z])).length : Nat) - 1 : Int).toNat = (P ++ (A ++ (x :: L))).length := by simp; omega
   have e2 : k + ((A.length + (x :: (L ++ [z])).length : Nat) - 1 : Int).toNat = (P ++ (A ++ (z :: L))).length := by simp; omega
   have d0 : P ++ (A ++ (x :: (L ++ [z]) ++ B)) = (P ++ A) ++ x :: (L ++ ([z] ++ B)) := by simp
   have d1 : P ++ (A ++ (x :: (L ++ [z]) ++ B)) = (P ++ (A ++ (x :: L))) ++ z :: B := by simp
   have g0 : gt (P ++ (A ++ (x :: (L ++ [z]) ++ B))) (k + (A.length : Int).toNat) = x := by rw [d0]; exact jS _ _ _ _ e0
   have g1 : gt (P ++ (A ++ (x :: (L ++ [z]) ++ B))) (k + ((A.length + (x :: (L ++ [z])).length : Nat) - 1 : Int).toNat) = z := by rw [d1]; exact jS _ _ _ _ e1
   have s0 : (P ++ (A ++ (x :: (L ++ [z]) ++ B))).set (k + (A.length : Int).toNat) z = (P ++ A) ++ z :: (L ++ ([z] ++ B)) := by rw [d0]; exact iW _ _ _ _ _ e0
   rw [hc, cond_true, g0, g1, s0, show (P ++ A) ++ z :: (L ++ ([z] ++ B)) = (P ++ (A ++ (z :: L))) ++ z :: B by simp, iW _ _ _ _ _ e2]
   have h := ih L.length (by omega) (A ++ [z]) L (x :: B) f rfl (by simp [hAB]) (by omega) P hP (by omega)
   rw [show (((A ++ [z]).length : Nat) : Int) = (A.length : Int) + 1 by simp, show ((((A ++ [z]).length + L.length : Nat) : Int) - 1) = ((A.length + (x :: (L ++ [z])).length : Nat) - 1 : Int) - 1 by simp; omega] at h
   rw [show (P ++ (A ++ (z :: L))) ++ x :: B = P ++ (A ++ [z] ++ (L ++ x :: B)) by simp, h]
   simp
theorem RK_Op (s : List Op) (k : Nat) (h : k ≤ s.length) : aJ s k = s.take k ++ (s.drop k).reverse := by
 unfold aJ
 have := vT k (s.drop k).length [] (s.drop k) [] (s.length + 2) rfl rfl (by omega) (s.take k) (by simp; omega) (by simp; omega)
 simp only [List.nil_append, List.append_nil, List.take_append_drop, List.length_nil, Nat.zero_add] at this
 exact this
def aG (a1 : Op) (b1 : Op) : Int :=
 (bif (fe (⟨a1.time, a1.who⟩ : Stamp) (⟨b1.time, b1.who⟩ : Stamp)) then (-1) else (bif (fe (⟨b1.time, b1.who⟩ : Stamp) (⟨a1.time, a1.who⟩ : Stamp)) then 1 else 0))
theorem lR (a1 : Op) (b1 : Op) : Does Tryz.prog 166 [.agg ⟨[.int .i64 a1.time, .int .i64 a1.who, .int .i64 a1.node, .int .i64 a1.parent, .int .i64 a1.name, .int .i64 a1.life, .int .i64 a1.seq]⟩, .agg ⟨[.int .i64 b1.time, .int .i64 b1.who, .int .i64 b1.node, .int .i64 b1.parent, .int .i64 b1.name, .int .i64 b1.life, .int .i64 b1.seq]⟩] [] (fun (_ : Unit) => .int .i64 (aG a1 b1)) (fun _ => []) := by
 refine bd aV Tryz.func166 rfl Tryz.ntmps166 Tryz.results166 rfl inferInstance (fun _ => inferInstance) fun C => ?_
 refine Tx ?_
 refine Bx fun g1 => ?_
 refine Bx fun g2 => ?_
 refine Tx ?_
 refine Cl (ip (⟨a1.time, a1.who⟩ : Stamp) (⟨b1.time, b1.who⟩ : Stamp)) fun _ => ?_
 refine er ?_
 (repeat refine ar ?_)
 refine Cd (b := (fe (⟨a1.time, a1.who⟩ : Stamp) (⟨b1.time, b1.who⟩ : Stamp))) (fun hc1 => ?_) fun hc1 => ?_
 ·refine Tx ?_
  refine ak ?_; simp only [aG, hc1, Cf]; exact Re () (Vt Vn)
 ·refine Tx ?_
  refine Cl (ip (⟨b1.time, b1.who⟩ : Stamp) (⟨a1.time, a1.who⟩ : Stamp)) fun _ => ?_
  refine er ?_
  (repeat refine ar ?_)
  refine Cd (b := (fe (⟨b1.time, b1.who⟩ : Stamp) (⟨a1.time, a1.who⟩ : Stamp))) (fun hc2 => ?_) fun hc2 => ?_
  ·refine Tx ?_
   refine ak ?_; simp only [aG, hc1, hc2, Cf]; exact Re () (Vt Vn)
  ·refine Tx ?_
   refine ak ?_; simp only [aG, hc1, hc2, Cf]; exact Re () (Vt Vn)
def dg (l1 : List Op) : List Op → Nat → (List Step) → (List Place) → (History × Int)
 | [], n2, l2, p1 => ((⟨l2, p1⟩ : History), 0)
 | pn2 :: rn2, n2, l2, p1 => (bif (decide ((n2 : Int) > 0) && decide ((⟨(gt (al l1 aG) (n2 - 1)).time, (gt (al l1 aG) (n2 - 1)).who⟩ : Stamp) = (⟨pn2.time, pn2.who⟩ : Stamp))) then ((⟨[], []⟩ : History), 6) else (bif ((cw p1 pn2).2.2 != 0) then ((⟨[], []⟩ : History), (cw p1 pn2).2.2) else (dg l1 rn2 (n2 + 1) (l2 ++ [(cw p1 pn2).2.1]) (cw p1 pn2).1)))
def dw (l1 : List Op) : List Op → (History × Int)
 | [] => (dg l1 (al l1 aG) 0 [] [])
 | pn1 :: rn1 => (bif ((cx pn1) != 0) then ((⟨[], []⟩ : History), (cx pn1)) else (dw l1 rn1))
def bf (l1 : List Op) : History × Int :=
 (bif decide ((l1.length : Int) > 30) then ((⟨[], []⟩ : History), 2) else (dw l1 l1))
theorem mR (y1 : SlV) (l1 : List Op) : Does Tryz.prog 151 [y1.val l1.length] [RdL EOp y1 l1] (fun (X : SlV × SlV) => .tuple #[.agg ⟨[X.1.val (bf l1).1.l.length, X.2.val (bf l1).1.t.length]⟩, .int .i64 (bf l1).2]) (fun X => [RdL EStep X.1 (bf l1).1.l, RdL EPlace X.2 (bf l1).1.t]) := by
 refine bd aV Tryz.func151 rfl Tryz.ntmps151 Tryz.results151 rfl inferInstance (fun _ => inferInstance) fun C => ?_
 refine Pc EOp y1 l1 56 fun hlen1 => ?_
 refine Tx ?_
 refine Al fun g1 => ?_
 refine Tx ?_
 refine Cd (b := decide ((l1.length : Int) > 30)) (fun hc1 => ?_) fun hc1 => ?_
 ·have hc1p := of_decide_eq_true hc1
  refine Tx ?_
  refine Fc EStep ?_
  refine Fc EPlace ?_
  refine ak ?_; simp only [bf, hc1, Cf]; exact Re ⟨(⟨none, 0⟩ : SlV), (⟨none, 0⟩ : SlV)⟩ (Va (Vt Vn))
 ·have hc1p := of_decide_eq_false hc1
  refine Tx ?_
  (repeat refine ar ?_); refine Lp [0,2,3,17,18] [true] (fun (n1 : Nat) => (⟨[(19, .v (.int .i64 (n1 : Int)))], [], [], [], (n1 ≤ l1.length) ∧ (dw l1 (l1.drop n1)) = (bf l1), l1.length - n1⟩ : Ls)) 0 (Sc (Sc (Sc (Sc (Sc Sn))))) (.keep (.nil)) ⟨Nat.zero_le _, (by simp only [bf, hc1, Cf] : (bf l1) = (dw l1 l1)).symm⟩ Le4 ?_
  rintro n1 ⟨hkn1, hf1⟩
  simp only [List.cons_append, List.nil_append]
  refine Tx ?_
  refine Cd (b := decide ((n1 : Int) < (l1.length : Int))) (fun hc2 => ?_) fun hc2 => ?_
  ·have hlt0 : n1 < l1.length := Int.ofNat_lt.1 (of_decide_eq_true hc2)
   refine Tx ?_
   refine rw_q rfl rfl rfl (q_idx EOp n1 rfl rfl Zf rfl Zf rfl rfl rfl Mm rfl Zf (fun _ => by first | assumption | omega)) ?_
   refine rw_q rfl rfl rfl (q_leA EOp rfl rfl Zf rfl rfl Mm (fun _ => by first | assumption | omega)) ?_
   refine Al fun g2 => ?_
   refine Tx ?_
   refine Cl (eC (gt l1 n1)) fun _ => ?_
   refine Tx ?_
   refine Cd (b := ((cx (gt l1 n1)) != 0)) (fun hc3 => ?_) fun hc3 => ?_
   ·have hc3p := bne_iff_ne.1 hc3
    refine Tx ?_
    refine Fc EStep ?_
    refine Fc EPlace ?_
    refine ak ?_; rw [show (bf l1) = ((⟨[], []⟩ : History), (cx (gt l1 n1))) by rw [← hf1, aI hlt0]; simp only [dw, hc3, Cf]]; exact Re ⟨(⟨none, 0⟩ : SlV), (⟨none, 0⟩ : SlV)⟩ (Va (Vt Vn))
   ·have hc3p := ag hc3
    refine Tx ?_
    refine rw_q rfl rfl rfl (q_add rfl rfl Zf rfl Zf Zo) ?_
    refine Tx ?_
    refine ⟨(n1 + 1), ⟨hlt0, (by rw [← hf1, aI hlt0]; simp only [dw, hc3, Cf] : (bf l1) = (dw l1 (l1.drop (n1 + 1)))).symm⟩, (by simp only []; omega), Le4⟩
  ·have hge0 : l1.length ≤ n1 := by have := of_decide_eq_false hc2; omega
   refine Tx ?_
   refine Cg (iu y1 l1) fun x1 => ?_
   refine Tx ?_
   refine aX (il x1.1 x1.2 l1 _ _ _ aG Kr (fun a0_ a1_ => lR a0_ a1_) (by omega)) .sq (.inl ⟨_, rfl⟩) (ae rfl) rfl rfl rfl Kr rfl rfl Sm (.nil _) Tk ?_
   intro _
   have hv1l : l1.length = (al l1 aG).length := (uY l1 aG (by omega)).symm
   have hv1 : x1.1.val l1.length = x1.1.val (al l1 aG).length := congrArg (SlV.val x1.1) hv1l
   try rw [hv1]
   refine Tx ?_
   refine Al fun g3 => ?_
   refine Tx ?_
   refine cw_le (aA EOp 65 x1.1 x1.2 (al l1 aG) Uo) ?_
   refine Pc EOp x1.1 (al l1 aG) 56 fun hlen2 => ?_
   (repeat refine ar ?_); refine Lp [0,2,3,7,34,35] [false, true] (fun (i_ : Nat × List Step × SlV × Option Nat × List Place × SlV) => match i_ with | ⟨n2, l2, x2, x2b, p1, x3⟩ => (⟨[(36, .v (.int .i64 (n2 : Int)))], [⟨g3, 27, [x2.val l2.length, x3.val p1.length]⟩], [ownL EStep 116 x2 x2b l2], [RdL EPlace x3 p1], (n2 ≤ (al l1 aG).length) ∧ (l2.length ≤ n2) ∧ (l2.length = n2) ∧ (dg l1 ((al l1 aG).drop n2) n2 l2 p1) = (bf l1), (al l1 aG).length - n2⟩ : Ls)) ⟨0, [], ⟨none, 0⟩, none, [], ⟨none, 0⟩⟩ (Sc (Sc (Sc (Sc (Sc (Sc Sn)))))) (.drop (.keep (.nil))) ⟨Nat.zero_le _, (by first | exact Nat.le_refl _ | exact Nat.zero_le _ | omega), rfl, (by rw [← hf1, List.drop_of_length_le hge0]; simp only [dw, Cf] : (bf l1) = (dg l1 (al l1 aG) 0 [] [])).symm⟩ (Le.trans (fk EStep 116) (Le.trans (uu (RdL EPlace ⟨none, 0⟩ ([] : List Place)) [] (.nil _) (fun M w _ => RdL.nil _ _ _ (by omega) M w)) Le4)) ?_
   rintro ⟨n2, l2, x2, x2b, p1, x3⟩ ⟨hkn2, hl2, hhl, hf2⟩
   simp only [List.cons_append, List.nil_append]
   refine Tx ?_
   refine Cd (b := decide ((n2 : Int) < ((al l1 aG).length : Int))) (fun hc4 => ?_) fun hc4 => ?_
   ·have hlt1 : n2 < (al l1 aG).length := Int.ofNat_lt.1 (of_decide_eq_true hc4)
    refine Tx ?_
    refine rw_q rfl rfl rfl (q_idx EOp n2 rfl rfl Zf rfl Zf rfl rfl rfl Mm rfl Zf (fun _ => by first | assumption | omega)) ?_
    refine rw_q rfl rfl rfl (q_leA EOp rfl rfl Zf rfl rfl Mm (fun _ => by first | assumption | omega)) ?_
    refine Al fun g4 => ?_
    refine Tx ?_
    (repeat refine ar ?_); refine aw (fun _ => some []) ?_
    refine Rb 0 rfl Qp ?_
    refine Rb 1 rfl Qp ?_
    refine Ra 2 rfl Qp ?_
    refine Gb 3 rfl (au rfl rfl rfl) (q_pev rfl Bt) ?_
    refine Gb 4 rfl (au rfl rfl rfl) (q_pev rfl Bt) ?_
    refine Gb 5 rfl (au rfl rfl rfl) (q_sub rfl rfl Bt rfl Bt (by intro h; first | omega | (simp at h; omega))) ?_
    refine Gb 6 rfl (au rfl rfl rfl) (q_idx EOp (n2 - 1) rfl rfl Bt rfl Bt rfl rfl rfl Mm rfl (by intro h; first | omega | rfl | (simp at h; omega)) (by first | (intro _; first | assumption | omega) | (intro h; simp at h; omega))) ?_
    refine Gb 7 rfl (au rfl rfl rfl) (q_fae rfl rfl Bt rfl rfl) ?_
    refine Gb 8 rfl (au rfl rfl rfl) (q_leP EOp rfl rfl Bt rfl rfl Mm (by first | (intro _; first | assumption | omega) | (intro h; simp at h; omega)) rfl) ?_
    refine Gb 9 rfl (au rfl rfl rfl) (q_pev rfl Bt) ?_
    refine Gb 10 rfl (au rfl rfl rfl) (q_ldP rfl rfl Bt rfl Mm rfl) ?_
    refine Ga 11 rfl (au rfl rfl rfl) (q_eqE qN (m8 (⟨(gt (al l1 aG) (n2 - 1)).time, (gt (al l1 aG) (n2 - 1)).who⟩ : Stamp) (⟨(gt (al l1 aG) n2).time, (gt (al l1 aG) n2).who⟩ : Stamp)) rfl rfl Bt rfl Bt rfl rfl) ?_
    refine Ra 12 rfl (q_pev rfl Bt) ?_
    refine bj Kr ?_
    (repeat refine ar ?_)
    refine Cd (b := (decide ((n2 : Int) > 0) && decide ((⟨(gt (al l1 aG) (n2 - 1)).time, (gt (al l1 aG) (n2 - 1)).who⟩ : Stamp) = (⟨(gt (al l1 aG) n2).time, (gt (al l1 aG) n2).who⟩ : Stamp)))) (fun hc5 => ?_) fun hc5 => ?_
    ·refine Tx ?_
     refine Fc EStep ?_
     refine Fc EPlace ?_
     refine ak ?_; rw [show (bf l1) = ((⟨[], []⟩ : History), 6) by rw [← hf2, aI hlt1]; simp only [dg, hc5, Cf]]; exact Re ⟨(⟨none, 0⟩ : SlV), (⟨none, 0⟩ : SlV)⟩ (Va (Vt Vn))
    ·refine Tx ?_
     refine Cl (k8 x3 p1 (gt (al l1 aG) n2)) fun x4 => ?_
     refine Pr EPlace x4 (cw p1 (gt (al l1 aG) n2)).1 24 fun hlen3 => ?_
     refine Tx ?_
     refine Al fun g5 => ?_
     refine Al fun g6 => ?_
     refine Tx ?_
     refine Cd (b := ((cw p1 (gt (al l1 aG) n2)).2.2 != 0)) (fun hc6 => ?_) fun hc6 => ?_
     ·have hc6p := bne_iff_ne.1 hc6
      refine Tx ?_
      refine Fc EStep ?_
      refine Fc EPlace ?_
      refine ak ?_; rw [show (bf l1) = ((⟨[], []⟩ : History), (cw p1 (gt (al l1 aG) n2)).2.2) by rw [← hf2, aI hlt1]; simp only [dg, hc5, hc6, Cf]]; exact Re ⟨(⟨none, 0⟩ : SlV), (⟨none, 0⟩ : SlV)⟩ (Va (Vt Vn))
     ·have hc6p := ag hc6
      refine Tx ?_
      (repeat refine ar ?_); refine aw (fun j => match j with | 5 => some x2b.toList | 7 => some [g3] | 9 => some [g3] | _ => some []) ?_
      refine ra_q (.an (i := 0) (js := [1, 2, 3, 4, 5]) rfl Kr Kr Kr Kr) (bN.all _) (by intro g hg; simp only [List.mem_append, List.mem_singleton, List.not_mem_nil, or_false, false_or, Option.mem_toList, Option.mem_def, List.append_nil] at hg; first | exact .inr ⟨ownL EStep 116 x2 x2b l2, Mm, hg⟩) rfl rfl rfl (q_ldA rfl rfl Zf rfl Mm rfl) ?_
      refine Rb 1 rfl Qp ?_
      refine Ra 2 rfl Q1 ?_
      refine Rb 3 rfl (q_ldA rfl rfl Zf rfl Mm rfl) ?_
      refine ra_q (.an (i := 6) (js := [4, 5]) rfl Kr Kr Kr Kr) (bN.all _) (by intro g hg; simp only [List.mem_append, List.mem_singleton, List.not_mem_nil, or_false, false_or, Option.mem_toList, Option.mem_def, List.append_nil] at hg; first | exact .inr ⟨ownL EStep 116 x2 x2b l2, Mm, hg⟩) rfl rfl rfl (q_pev rfl Zf) ?_
      refine av 4 Kr ?_
      refine bA EStep [(cw p1 (gt (al l1 aG) n2)).2.1] (.an rfl rfl) (ae rfl) rfl rfl rfl rfl rfl rfl rfl rfl rfl rfl rfl rfl rfl rfl rfl fun x5 x5b => ?_
      refine av 5 Kr ?_
      refine cg EStep l2 [(cw p1 (gt (al l1 aG) n2)).2.1] (b := x2b) (.an rfl rfl) (fun g h => .inr (by simp [h])) (ae rfl) rfl rfl rfl rfl rfl rfl rfl (fun _ _ => Uo) rfl rfl rfl rfl rfl rfl rfl (dC (e := 116) (b := x5b) Mm) (by show (l2.length + 1) * 88 ≤ 140737488355328; (try simp only [List.length_append, List.length_cons, List.length_nil]); omega) fun x6 x6b => ?_
      refine av 7 Kr ?_
      refine fo (.an rfl rfl) (.inr (by simp)) (ae rfl) rfl rfl rfl rfl rfl rfl rfl rfl rfl Ub rfl ?_
      refine Ra 8 rfl Qp ?_
      refine av 9 Kr ?_
      refine eS (.an rfl rfl) (.inr (by simp)) (ae rfl) rfl rfl rfl rfl rfl rfl rfl rfl rfl Ub rfl ?_
      refine bj Kr ?_
      refine Tx ?_
      refine rw_q rfl rfl rfl (q_add rfl rfl Zf rfl Zf Zo) ?_
      refine Tx ?_
      refine ⟨⟨(n2 + 1), (l2 ++ [(cw p1 (gt (al l1 aG) n2)).2.1]), x6, x6b, (cw p1 (gt (al l1 aG) n2)).1, x4⟩, ⟨hlt1, Zl, Zl, (by rw [← hf2, aI hlt1]; simp only [dg, hc5, hc6, Cf] : (bf l1) = (dg l1 ((al l1 aG).drop (n2 + 1)) (n2 + 1) (l2 ++ [(cw p1 (gt (al l1 aG) n2)).2.1]) (cw p1 (gt (al l1 aG) n2)).1)).symm⟩, (by simp only []; omega), Le4⟩
   ·have hge1 : (al l1 aG).length ≤ n2 := by have := of_decide_eq_false hc4; omega
    refine Tx ?_
    refine cw_le (aA EStep 116 x2 x2b l2 Uo) ?_
    refine ak ?_; rw [show (bf l1) = ((⟨l2, p1⟩ : History), 0) by rw [← hf2, List.drop_of_length_le hge1]; simp only [dg, Cf]]; exact Re ⟨x2, x3⟩ (Va (Vt Vn))
def ee  : List Step → (List Op) → (List Op)
 | [], l1 => l1
 | pn1 :: rn1, l1 => (ee rn1 (l1 ++ [pn1.o]))
def cW (h1 : History) : List Op :=
 (ee h1.l [])
theorem nk (y1 : SlV) (y2 : SlV) (h1 : History) : Does Tryz.prog 152 [.agg ⟨[y1.val h1.l.length, y2.val h1.t.length]⟩] [RdL EStep y1 h1.l, RdL EPlace y2 h1.t] (fun (X : SlV) => X.val (cW h1).length) (fun X => [RdL EOp X (cW h1)]) := by
 refine bd aV Tryz.func152 rfl Tryz.ntmps152 Tryz.results152 rfl inferInstance (fun _ => inferInstance) fun C => ?_
 refine Pc EStep y1 h1.l 88 fun hlen1 => ?_
 refine Pc EPlace y2 h1.t 24 fun hlen2 => ?_
 refine Tx ?_
 refine Bx fun g1 => ?_
 refine Tx ?_
 (repeat refine ar ?_); refine Lp [2,7,8] [true] (fun (i_ : List Op × SlV × Option Nat × Nat) => match i_ with | ⟨l1, x1, x1b, n1⟩ => (⟨[(3, .v (x1.val l1.length)), (9, .v (.int .i64 (n1 : Int)))], [], [ownL EOp 65 x1 x1b l1], [], (n1 ≤ h1.l.length) ∧ (l1.length ≤ n1) ∧ (ee (h1.l.drop n1) l1) = (cW h1), h1.l.length - n1⟩ : Ls)) ⟨[], ⟨none, 0⟩, none, 0⟩ (Sc (Sc (Sc Sn))) (.keep (.nil)) ⟨Nat.zero_le _, (by first | exact Nat.le_refl _ | exact Nat.zero_le _ | omega), (by simp only [cW, Cf] : (cW h1) = (ee h1.l [])).symm⟩ (Le.trans (fk EOp 65) Le4) ?_
 rintro ⟨l1, x1, x1b, n1⟩ ⟨hkn1, hl1, hf1⟩
 simp only [List.cons_append, List.nil_append]
 refine Tx ?_
 refine Cd (b := decide ((n1 : Int) < (h1.l.length : Int))) (fun hc1 => ?_) fun hc1 => ?_
 ·have hlt0 : n1 < h1.l.length := Int.ofNat_lt.1 (of_decide_eq_true hc1)
  refine Tx ?_
  refine rw_q rfl rfl rfl (q_idx EStep n1 rfl rfl Zf rfl Zf rfl rfl rfl Mm rfl Zf (fun _ => by first | assumption | omega)) ?_
  refine rw_q rfl rfl rfl (q_leA EStep rfl rfl Zf rfl rfl Mm (fun _ => by first | assumption | omega)) ?_
  refine Al fun g2 => ?_
  refine Tx ?_
  refine bA EOp [(gt h1.l n1).o] .sq (ae rfl) rfl rfl rfl rfl rfl rfl rfl rfl rfl rfl rfl rfl rfl rfl rfl fun x2 x2b => ?_
  refine cg EOp l1 [(gt h1.l n1).o] (b := x1b) .sq (fun _ _ => .inl ⟨_, rfl⟩) (ae rfl) rfl rfl rfl rfl rfl rfl rfl (fun _ _ => Uo) rfl rfl rfl rfl rfl rfl rfl (dC (e := 65) (b := x2b) Mm) (by show (l1.length + 1) * 56 ≤ 140737488355328; (try simp only [List.length_append, List.length_cons, List.length_nil]); omega) fun x3 x3b => ?_
  refine Tx ?_
  refine rw_q rfl rfl rfl (q_add rfl rfl Zf rfl Zf Zo) ?_
  refine Tx ?_
  refine ⟨⟨(l1 ++ [(gt h1.l n1).o]), x3, x3b, (n1 + 1)⟩, ⟨hlt0, Zl, (by rw [← hf1, aI hlt0]; simp only [ee, Cf] : (cW h1) = (ee (h1.l.drop (n1 + 1)) (l1 ++ [(gt h1.l n1).o]))).symm⟩, (by simp only []; omega), Le4⟩
 ·have hge0 : h1.l.length ≤ n1 := by have := of_decide_eq_false hc1; omega
  refine Tx ?_
  refine cw_le (aA EOp 65 x1 x1b l1 Uo) ?_
  refine ak ?_; rw [show (cW h1) = l1 by rw [← hf1, List.drop_of_length_le hge0]; simp only [ee, Cf]]; exact Re x1 (Vt Vn)
def eD (a1 : History) (b1 : History) : Bool :=
 ((decide (a1.l = b1.l)) && (decide (a1.t = b1.t)))
theorem jQ (y1 : SlV) (y2 : SlV) (a1 : History) (y3 : SlV) (y4 : SlV) (b1 : History) : Does Tryz.prog 43 [.agg ⟨[y1.val a1.l.length, y2.val a1.t.length]⟩, .agg ⟨[y3.val b1.l.length, y4.val b1.t.length]⟩] [RdL EStep y1 a1.l, RdL EPlace y2 a1.t, RdL EStep y3 b1.l, RdL EPlace y4 b1.t] (fun (_ : Unit) => .bool (eD a1 b1)) (fun _ => []) := by
 refine bd aV Tryz.func43 rfl Tryz.ntmps43 Tryz.results43 rfl inferInstance (fun _ => inferInstance) fun C => ?_
 refine Pc EStep y1 a1.l 88 fun hlen1 => ?_
 refine Pc EPlace y2 a1.t 24 fun hlen2 => ?_
 refine Pc EStep y3 b1.l 88 fun hlen3 => ?_
 refine Pc EPlace y4 b1.t 24 fun hlen4 => ?_
 refine Tx ?_
 refine Bx fun g1 => ?_
 refine Bx fun g2 => ?_
 refine Tx ?_
 refine Cl ((fun y1 a y2 b => j6 y1 y2 a b) y1 a1.l y3 b1.l) fun _ => ?_
 refine Tx ?_
 refine c6 (fun hG_ => (fun y1 a y2 b => dm y1 y2 a b) y2 a1.t y4 b1.t) Zf .sq (au rfl rfl rfl) rfl rfl rfl Kr rfl Bt Sm ?_
 refine Tx ?_
 refine ak ?_; simp only [eD, Cf]; exact Re () (Vt Vn)
def c7 (h1 : History) : Int :=
 (bif (((bf (cW h1)).2 == 0) && (!(eD (bf (cW h1)).1 h1))) then 4 else (bf (cW h1)).2)
theorem mm (y1 : SlV) (y2 : SlV) (h1 : History) : Does Tryz.prog 135 [.agg ⟨[y1.val h1.l.length, y2.val h1.t.length]⟩] [RdL EStep y1 h1.l, RdL EPlace y2 h1.t] (fun (_ : Unit) => .int .i64 (c7 h1)) (fun _ => []) := by
 refine bd aV Tryz.func135 rfl Tryz.ntmps135 Tryz.results135 rfl inferInstance (fun _ => inferInstance) fun C => ?_
 refine Pc EStep y1 h1.l 88 fun hlen1 => ?_
 refine Pc EPlace y2 h1.t 24 fun hlen2 => ?_
 refine Tx ?_
 refine Bx fun g1 => ?_
 refine Tx ?_
 refine Cl (nk y1 y2 h1) fun x1 => ?_
 refine Pr EOp x1 (cW h1) 56 fun hlen3 => ?_
 refine Cl (mR x1 (cW h1)) fun x2 => ?_
 refine Pr EStep x2.1 (bf (cW h1)).1.l 88 fun hlen4 => ?_
 refine Pr EPlace x2.2 (bf (cW h1)).1.t 24 fun hlen5 => ?_
 refine Tx ?_
 refine Al fun g2 => ?_
 refine Tx ?_
 refine c6 (fun hG_ => jQ x2.1 x2.2 (bf (cW h1)).1 y1 y2 h1) Zf .sq (au rfl rfl rfl) rfl rfl rfl Kr rfl Bt Sm ?_
 refine Tx ?_
 refine Cd (b := (((bf (cW h1)).2 == 0) && (!(eD (bf (cW h1)).1 h1)))) (fun hc1 => ?_) fun hc1 => ?_
 ·refine Tx ?_
  refine ak ?_; simp only [c7, hc1, Cf]; exact Re () (Vt Vn)
 ·refine Tx ?_
  refine ak ?_; simp only [c7, hc1, Cf]; exact Re () (Vt Vn)
def ic (h1 : History) : History :=
 (⟨h1.l, (gh h1.t)⟩ : History)
theorem jR (y1 : SlV) (y2 : SlV) (h1 : History) : DoesG Tryz.prog 76 [.agg ⟨[y1.val h1.l.length, y2.val h1.t.length]⟩] [RdL EStep y1 h1.l, RdL EPlace y2 h1.t] ⟨[], []⟩ (fun (X : SlV × Option Nat × SlV) => .agg ⟨[X.1.val (ic h1).l.length, X.2.2.val (ic h1).t.length]⟩) (fun X => [RdL EPlace X.2.2 (ic h1).t]) (fun X => ⟨[], [ownL EStep 116 X.1 X.2.1 (ic h1).l]⟩) := by
 refine cF aV Tryz.func76 rfl Tryz.ntmps76 Tryz.results76 rfl inferInstance (fun _ => inferInstance) fun C => ?_
 refine Pc EStep y1 h1.l 88 fun hlen1 => ?_
 refine Pc EPlace y2 h1.t 24 fun hlen2 => ?_
 refine Tx ?_
 refine Bx fun g1 => ?_
 refine Al fun g2 => ?_
 refine er ?_
 (repeat refine ar ?_); refine aw (fun j => match j with | 7 => some [g2] | _ => some []) ?_
 refine Rb 0 rfl Qp ?_
 refine Rb 1 rfl Q1 ?_
 refine Rb 3 rfl Qp ?_
 refine Rb 4 rfl (q_ldP rfl rfl Zf rfl Mm rfl) ?_
 refine av 2 Kr ?_
 refine aX (kP y1 h1.l) (.an rfl rfl) (.inr (by simp [Lent.ids])) (ae rfl) rfl rfl rfl Kr rfl rfl Sm (.nil _) (.nil _) ?_
 intro x1
 refine av 5 Kr ?_
 refine aX (jw y2 h1.t) (.an rfl rfl) (.inr (by simp [Lent.ids])) (ae rfl) rfl rfl rfl Kr rfl rfl Sm (.nil _) (.nil _) ?_
 intro x2
 refine Ra 6 rfl Qp ?_
 refine av 7 Kr ?_
 refine di (.an rfl rfl) (.inr (by simp)) (ae rfl) rfl rfl rfl rfl rfl rfl rfl rfl rfl Ub rfl ?_
 refine bj Kr ?_
 (repeat refine ar ?_)
 refine cw_le (aA EPlace 82 x2.1 x2.2 (gh h1.t) Uo) ?_
 refine ak ?_; simp only [ic, Cf]; exact Re ⟨x1.1, x1.2, x2.1⟩ (Va Vn)
def ck (f1 : Step → Bool) : List Step → Nat → Int
 | [], n1 => (-1)
 | pn1 :: rn1, n1 => (bif (f1 pn1) then (n1 : Int) else (ck f1 rn1 (n1 + 1)))
def da (s1 : List Step) (f1 : Step → Bool) : Int :=
 (ck f1 s1 0)
theorem je (y1 : SlV) (s1 : List Step) (f2 : Nat) (caps1 : List Value) (pre1 : List Pred) [StabL pre1] (f1 : Step → Bool) (hfb1 : tab.fnb f2 = true) (hfn1 : ∀ (a0_ : Step), Does Tryz.prog f2 ([.agg ⟨[.int .i64 a0_.o.time, .int .i64 a0_.o.who, .int .i64 a0_.o.node, .int .i64 a0_.o.parent, .int .i64 a0_.o.name, .int .i64 a0_.o.life, .int .i64 a0_.o.seq, .bool a0_.did, .int .i64 a0_.was.node, .int .i64 a0_.was.parent, .int .i64 a0_.was.name]⟩] ++ caps1) pre1 (fun (_ : Unit) => .bool (f1 a0_)) (fun _ => [])) : Does Tryz.prog 149 [y1.val s1.length, .func (.func f2) #[] ⟨caps1⟩] (RdL EStep y1 s1 :: pre1) (fun (_ : Unit) => .int .i64 (da s1 f1)) (fun _ => []) := by
 refine bd aV Tryz.func149 rfl Tryz.ntmps149 Tryz.results149 rfl inferInstance (fun _ => inferInstance) fun C => ?_
 refine ec (φ := s1.length * 88 ≤ 140737488355328) [RdL EStep y1 s1] Sf (fun M w h => (allF1 h).len) fun hlen1 => ?_
 refine Tx ?_
 (repeat refine ar ?_); refine Lp [0,1,4,7] [] (fun (n1 : Nat) => (⟨[(8, .v (.int .i64 (n1 : Int)))], [], [], [], (n1 ≤ s1.length) ∧ (ck f1 (s1.drop n1) n1) = (da s1 f1), s1.length - n1⟩ : Ls)) 0 (Sc (Sc (Sc (Sc Sn)))) (.nil) ⟨Nat.zero_le _, (by simp only [da, Cf] : (da s1 f1) = (ck f1 s1 0)).symm⟩ Le5 ?_
 rintro n1 ⟨hkn1, hf1⟩
 simp only [List.cons_append, List.nil_append]
 refine Tx ?_
 refine Cd (b := decide ((n1 : Int) < (s1.length : Int))) (fun hc1 => ?_) fun hc1 => ?_
 ·have hlt0 : n1 < s1.length := Int.ofNat_lt.1 (of_decide_eq_true hc1)
  refine Tx ?_
  refine rw_q rfl rfl rfl (q_idx EStep n1 rfl rfl Zf rfl Zf rfl rfl rfl Mm rfl Zf (fun _ => by first | assumption | omega)) ?_
  refine rw_q rfl rfl rfl (q_leA EStep rfl rfl Zf rfl rfl Mm (fun _ => by first | assumption | omega)) ?_
  refine em (hfn1 (gt s1 n1)) .sq (ae rfl) rfl rfl rfl rfl rfl (by assumption) rfl rfl rfl Sf ?_
  intro _
  refine er ?_
  (repeat refine ar ?_)
  refine Cd (b := (f1 (gt s1 n1))) (fun hc2 => ?_) fun hc2 => ?_
  ·refine Tx ?_
   have hr1 : (da s1 f1) = (n1 : Int) := by rw [← hf1, aI hlt0]; simp only [ck, hc2, Cf]
   refine ak ?_
   rw [hr1]
   exact ⟨(), _, (.cons (.tmp rfl) .nil), rfl, Sf, .nil _, .nil _⟩
  ·refine Tx ?_
   refine rw_q rfl rfl rfl (q_add rfl rfl Zf rfl Zf Zo) ?_
   refine Tx ?_
   refine ⟨(n1 + 1), ⟨hlt0, (by rw [← hf1, aI hlt0]; simp only [ck, hc2, Cf] : (da s1 f1) = (ck f1 (s1.drop (n1 + 1)) (n1 + 1))).symm⟩, (by simp only []; omega), Le5⟩
 ·have hge0 : s1.length ≤ n1 := by have := of_decide_eq_false hc1; omega
  refine Tx ?_
  have hr2 : (da s1 f1) = (-1) := by rw [← hf1, List.drop_of_length_le hge0]; simp only [ck, Cf]
  refine ak ?_
  rw [hr2]
  exact ⟨(), _, (.cons (.tmp rfl) .nil), rfl, Sf, .nil _, .nil _⟩
def eE (s1 : List Step) (f1 : Step → Bool) : Bool :=
 decide ((da s1 f1) ≥ 0)
theorem im (y1 : SlV) (s1 : List Step) (f2 : Nat) (caps1 : List Value) (pre1 : List Pred) [StabL pre1] (f1 : Step → Bool) (hfb1 : tab.fnb f2 = true) (hfn1 : ∀ (a0_ : Step), Does Tryz.prog f2 ([.agg ⟨[.int .i64 a0_.o.time, .int .i64 a0_.o.who, .int .i64 a0_.o.node, .int .i64 a0_.o.parent, .int .i64 a0_.o.name, .int .i64 a0_.o.life, .int .i64 a0_.o.seq, .bool a0_.did, .int .i64 a0_.was.node, .int .i64 a0_.was.parent, .int .i64 a0_.was.name]⟩] ++ caps1) pre1 (fun (_ : Unit) => .bool (f1 a0_)) (fun _ => [])) : Does Tryz.prog 127 [y1.val s1.length, .func (.func f2) #[] ⟨caps1⟩] (RdL EStep y1 s1 :: pre1) (fun (_ : Unit) => .bool (eE s1 f1)) (fun _ => []) := by
 refine bd aV Tryz.func127 rfl Tryz.ntmps127 Tryz.results127 rfl inferInstance (fun _ => inferInstance) fun C => ?_
 refine ec (φ := s1.length * 88 ≤ 140737488355328) [RdL EStep y1 s1] Sf (fun M w h => (allF1 h).len) fun hlen1 => ?_
 refine Tx ?_
 refine cR (je y1 s1 _ _ _ f1 (by assumption) hfn1) .sq (ae rfl) rfl rfl rfl Kr rfl rfl Sf ?_
 intro _
 refine Tx ?_
 have hr1 : (eE s1 f1) = decide ((da s1 f1) ≥ 0) := by simp only [eE, Cf]
 refine ak ?_
 rw [hr1]
 exact ⟨(), _, (.cons (.tmp rfl) .nil), rfl, Sf, .nil _, .nil _⟩
theorem iU (s : List Step) (f : Step → Bool) : eE s f = s.any f := by
 have key : ∀ (l : List Step) (k : Nat), decide (ck f l k ≥ 0) = l.any f := by
  intro l
  induction l with
  | nil => intro k; rfl
  | cons p r ih =>
   intro k
   rw [ck, List.any_cons]
   cases f p with
   | true => simp only [cond_true, Bool.true_or, decide_eq_true_eq]; omega
   | false => rw [cond_false, ih, Bool.false_or]
 exact key s 0
theorem hZ (y1 : SlV) (s1 : List Step) (f1 : Nat) (caps1 : List Value) (pre1 : List Pred) [StabL pre1] (p1 : Step → Bool) (hfb1 : tab.fnb f1 = true) (hfn1 : ∀ (a0_ : Step), Does Tryz.prog f1 ([.agg ⟨[.int .i64 a0_.o.time, .int .i64 a0_.o.who, .int .i64 a0_.o.node, .int .i64 a0_.o.parent, .int .i64 a0_.o.name, .int .i64 a0_.o.life, .int .i64 a0_.o.seq, .bool a0_.did, .int .i64 a0_.was.node, .int .i64 a0_.was.parent, .int .i64 a0_.was.name]⟩] ++ caps1) pre1 (fun (_ : Unit) => .bool (p1 a0_)) (fun _ => [])) :
  Does Tryz.prog 127 [y1.val s1.length, .func (.func f1) #[] ⟨caps1⟩] (RdL EStep y1 s1 :: pre1) (fun (_ : Unit) => .bool (s1.any p1)) (fun (_ : Unit) => []) := by
 have := im y1 s1 f1 caps1 pre1 p1 hfb1 hfn1
 rw [iU] at this
 exact this
def fx (s1 : Step) (o1 : Op) : Bool :=
 decide ((⟨s1.o.time, s1.o.who⟩ : Stamp) = (⟨o1.time, o1.who⟩ : Stamp))
theorem ml (s1 : Step) (c1 : Nat) (o1 : Op) : Does Tryz.prog 128 [.agg ⟨[.int .i64 s1.o.time, .int .i64 s1.o.who, .int .i64 s1.o.node, .int .i64 s1.o.parent, .int .i64 s1.o.name, .int .i64 s1.o.life, .int .i64 s1.o.seq, .bool s1.did, .int .i64 s1.was.node, .int .i64 s1.was.parent, .int .i64 s1.was.name]⟩, .pointer (some ⟨c1, 0, none⟩)] [VarP c1 [.int .i64 o1.time, .int .i64 o1.who, .int .i64 o1.node, .int .i64 o1.parent, .int .i64 o1.name, .int .i64 o1.life, .int .i64 o1.seq]] (fun (_ : Unit) => .bool (fx s1 o1)) (fun _ => []) := by
 refine bd aV Tryz.func128 rfl Tryz.ntmps128 Tryz.results128 rfl inferInstance (fun _ => inferInstance) fun C => ?_
 refine Tx ?_
 refine Bx fun g1 => ?_
 refine Tx ?_
 refine rw_q rfl rfl rfl (q_eqE qN (m8 (⟨s1.o.time, s1.o.who⟩ : Stamp) (⟨o1.time, o1.who⟩ : Stamp)) rfl rfl Zf rfl Zf rfl rfl) ?_
 refine Tx ?_
 refine ak ?_; simp only [fx, Cf]; exact Re () (Vt Vn)
def ed  : List Op → (List Step) → (List Place) → (History × Int)
 | [], l2, p2 => ((⟨l2, p2⟩ : History), 0)
 | pn2 :: rn2, l2, p2 => (bif ((cw p2 pn2).2.2 != 0) then ((⟨[], []⟩ : History), (cw p2 pn2).2.2) else (ed rn2 (l2 ++ [(cw p2 pn2).2.1]) (cw p2 pn2).1))
def dD (o1 : Op) : Nat → (List Op) → Int → (List Step) → (List Place) → (History × Int)
 | 0, later1, n1, l1, p1 => default
 | f_k0 + 1, later1, n1, l1, p1 => (bif (decide (n1 > 0) && (fe (⟨o1.time, o1.who⟩ : Stamp) (⟨(gt l1 (n1 - 1).toNat).o.time, (gt l1 (n1 - 1).toNat).o.who⟩ : Stamp))) then (bif ((cE p1 (gt l1 (n1 - 1).toNat)).2 != 0) then ((⟨[], []⟩ : History), (cE p1 (gt l1 (n1 - 1).toNat)).2) else (dD o1 f_k0 (later1 ++ [(gt l1 (n1 - 1).toNat).o]) (n1 - 1) (l1.take (n1 - 1).toNat) (cE p1 (gt l1 (n1 - 1).toNat)).1)) else (ed (aJ later1 1) l1 p1))
def bk (h1 : History) (o1 : Op) : History × Int :=
 (bif ((cx o1) != 0) then ((⟨[], []⟩ : History), (cx o1)) else (bif (h1.l.any (fun a0_ => fx a0_ o1)) then ((⟨[], []⟩ : History), 6) else (bif ((h1.l.length : Int) == 30) then ((⟨[], []⟩ : History), 2) else (dD o1 (h1.l.length + 1) [o1] (h1.l.length : Int) h1.l h1.t))))
theorem kD (y1 : SlV) (y2 : SlV) (h1 : History) (o1 : Op) (hl : h1.l.length ≤ 1000) : Does Tryz.prog 113 [.agg ⟨[y1.val h1.l.length, y2.val h1.t.length]⟩, .agg ⟨[.int .i64 o1.time, .int .i64 o1.who, .int .i64 o1.node, .int .i64 o1.parent, .int .i64 o1.name, .int .i64 o1.life, .int .i64 o1.seq]⟩] [RdL EStep y1 h1.l, RdL EPlace y2 h1.t] (fun (X : SlV × SlV) => .tuple #[.agg ⟨[X.1.val (bk h1 o1).1.l.length, X.2.val (bk h1 o1).1.t.length]⟩, .int .i64 (bk h1 o1).2]) (fun X => [RdL EStep X.1 (bk h1 o1).1.l, RdL EPlace X.2 (bk h1 o1).1.t]) := by
 refine bd aV Tryz.func113 rfl Tryz.ntmps113 Tryz.results113 rfl inferInstance (fun _ => inferInstance) fun C => ?_
 refine Pc EStep y1 h1.l 88 fun hlen1 => ?_
 refine Pc EPlace y2 h1.t 24 fun hlen2 => ?_
 refine Tx ?_
 refine Bx fun g1 => ?_
 refine Bx fun g2 => ?_
 refine Al fun g3 => ?_
 refine Tx ?_
 refine Cl (eC o1) fun _ => ?_
 refine Tx ?_
 refine Cd (b := ((cx o1) != 0)) (fun hc1 => ?_) fun hc1 => ?_
 ·have hc1p := bne_iff_ne.1 hc1
  refine Tx ?_
  refine Fc EStep ?_
  refine Fc EPlace ?_
  refine ak ?_; simp only [bk, hc1, Cf]; exact Re ⟨(⟨none, 0⟩ : SlV), (⟨none, 0⟩ : SlV)⟩ (Va (Vt Vn))
 ·have hc1p := ag hc1
  refine Tx ?_
  refine rw_le (og (g := g2) Pk) ?_
  refine Cl (hZ y1 h1.l _ _ _ (fun a0_ => fx a0_ o1) Kr (fun a0_ => ml a0_ g2 o1)) fun _ => ?_
  refine er ?_
  (repeat refine ar ?_)
  refine Cd (b := (h1.l.any (fun a0_ => fx a0_ o1))) (fun hc2 => ?_) fun hc2 => ?_
  ·refine Tx ?_
   refine Fc EStep ?_
   refine Fc EPlace ?_
   refine ak ?_; simp only [bk, hc1, hc2, Cf]; exact Re ⟨(⟨none, 0⟩ : SlV), (⟨none, 0⟩ : SlV)⟩ (Va (Vt Vn))
  ·refine Tx ?_
   refine Cd (b := ((h1.l.length : Int) == 30)) (fun hc3 => ?_) fun hc3 => ?_
   ·have hc3p := eq_of_beq hc3
    refine Tx ?_
    refine Fc EStep ?_
    refine Fc EPlace ?_
    refine ak ?_; simp only [bk, hc1, hc2, hc3, Cf]; exact Re ⟨(⟨none, 0⟩ : SlV), (⟨none, 0⟩ : SlV)⟩ (Va (Vt Vn))
   ·have hc3p := ne_of_beq_false hc3
    refine Tx ?_
    refine Cg (jR y1 y2 h1) fun x1 => ?_
    refine Pr EPlace x1.2.2 h1.t 24 fun hlen3 => ?_
    refine Tx ?_
    refine bA EOp [o1] .sq (ae rfl) rfl rfl rfl rfl rfl rfl rfl rfl rfl rfl rfl rfl rfl rfl rfl fun x2 x2b => ?_
    refine Tx ?_
    (repeat refine ar ?_); refine Lp [2,3,4,5] [true, false] (fun (i_ : List Op × SlV × Option Nat × Int × List Step × List Place × SlV × Nat) => match i_ with | ⟨later1, x3, x3b, n1, l1, p1, x5, fz1⟩ => (⟨[(7, .v (x3.val later1.length)), (8, .v (.int .i64 n1))], [⟨g1, 27, [x1.1.val l1.length, x5.val p1.length]⟩], [ownL EOp 65 x3 x3b later1, ownL EStep 116 x1.1 x1.2.1 l1], [RdL EPlace x5 p1], (n1 = (l1.length : Int) ∧ 1 ≤ later1.length ∧ later1.length + l1.length = h1.l.length + 1) ∧ (n1.toNat < fz1) ∧ (dD o1 fz1 later1 n1 l1 p1) = (bk h1 o1), fz1⟩ : Ls)) ⟨[o1], x2, x2b, (h1.l.length : Int), h1.l, h1.t, x1.2.2, h1.l.length + 1⟩ (Sc (Sc (Sc (Sc Sn)))) (.keep (.drop (.nil))) ⟨⟨rfl, Nat.le_refl _, by simp only [List.length_cons, List.length_nil]; omega⟩, (by first | exact Nat.le_refl _ | exact Nat.zero_le _ | omega), (by simp only [bk, hc1, hc2, hc3, Cf] : (bk h1 o1) = (dD o1 (h1.l.length + 1) [o1] (h1.l.length : Int) h1.l h1.t)).symm⟩ Le4 ?_
    rintro ⟨later1, x3, x3b, n1, l1, p1, x5, fz1⟩ ⟨hi, hzfz1, hf1⟩
    simp only [List.cons_append, List.nil_append]
    have hlt0_ : (fz1 - 1) + 1 = fz1 := by omega
    (repeat refine ar ?_); refine aw (fun _ => some []) ?_
    refine Rb 0 rfl Qp ?_
    refine Rb 1 rfl Qp ?_
    refine Ra 2 rfl Qp ?_
    refine Gb 3 rfl (au rfl rfl rfl) (q_pev rfl Bt) ?_
    refine Gb 4 rfl (au rfl rfl rfl) (q_lfP rfl rfl Bt rfl Mm rfl) ?_
    refine Gb 5 rfl (au rfl rfl rfl) (q_pev rfl Bt) ?_
    refine Gb 6 rfl (au rfl rfl rfl) (q_ld1 rfl rfl Bt rfl Mm rfl) ?_
    refine Gb 7 rfl (au rfl rfl rfl) (q_pev rfl Bt) ?_
    refine Gb 8 rfl (au rfl rfl rfl) (q_sub rfl rfl Bt rfl Bt (by intro h; first | omega | (simp at h; omega))) ?_
    refine nM EStep (e := 116) (X := x1.1) (b := x1.2.1) (l := l1) Mm (.ab (i := 9) (js := []) [10, 11, 12, 13, 14] rfl Kr Kr Kr Kr Kr) (au rfl rfl rfl) rfl rfl (q_idx EStep (n1 - 1).toNat rfl rfl Bt rfl Bt rfl rfl rfl (.head _) rfl (by intro h; first | omega | rfl | (simp at h; omega)) (by first | (intro _; first | assumption | omega | (simp only [List.length_set]; omega)) | (intro h; simp at h; omega))) ?_
    refine Gb 10 rfl (au rfl rfl rfl) (q_fae rfl rfl Bt rfl rfl) ?_
    refine Gb 11 rfl (au rfl rfl rfl) (q_fae rfl rfl Bt rfl rfl) ?_
    refine nM EStep (e := 116) (X := x1.1) (b := x1.2.1) (l := l1) Mm (.ab (i := 12) (js := []) [13, 14] rfl Kr Kr Kr Kr Kr) (au rfl rfl rfl) rfl rfl (q_leP EStep rfl rfl Bt rfl rfl (.head _) (by first | (intro _; first | assumption | omega | (simp only [List.length_set]; omega)) | (intro h; simp at h; omega)) rfl) ?_
    refine av 13 Kr ?_
    refine c6 (fun hG_ => ip (⟨o1.time, o1.who⟩ : Stamp) (⟨(gt l1 (n1 - 1).toNat).o.time, (gt l1 (n1 - 1).toNat).o.who⟩ : Stamp)) Zf (.an rfl rfl) (au rfl rfl rfl) rfl rfl rfl Kr rfl Bt Sm ?_
    refine Ra 14 rfl (q_pev rfl Bt) ?_
    refine bj Kr ?_
    (repeat refine ar ?_)
    refine Cd (b := (decide (n1 > 0) && (fe (⟨o1.time, o1.who⟩ : Stamp) (⟨(gt l1 (n1 - 1).toNat).o.time, (gt l1 (n1 - 1).toNat).o.who⟩ : Stamp)))) (fun hc4 => ?_) fun hc4 => ?_
    ·have hn0 := of_decide_eq_true (Bool.and_eq_true_iff.1 hc4).1
     refine Tx ?_
     refine ge [2, 3, 4, 5, 7, 8, 39, 40, 41, 53] [true, true] (fun (i_ : Nat × SlV) => match i_ with | ⟨g4, x6⟩ => [(9, .v (.pointer (some ⟨g4, 0, none⟩))), (10, .v (.int .i64 (cE p1 (gt l1 (n1 - 1).toNat)).2)), (56, .v (.tuple #[.agg ⟨[x6.val (cE p1 (gt l1 (n1 - 1).toNat)).1.length]⟩, .int .i64 (cE p1 (gt l1 (n1 - 1).toNat)).2])), (57, .v (.pointer (some ⟨g1, 1, none⟩))), (58, .v (.agg ⟨[x5.val p1.length]⟩)), (59, .v (.pointer (some ⟨g1, 0, none⟩))), (60, .v (x1.1.val l1.length)), (61, .v (.int .i64 n1)), (62, .v (.int .i64 (n1 - 1))), (64, .v (.agg ⟨[.int .i64 (gt l1 (n1 - 1).toNat).o.time, .int .i64 (gt l1 (n1 - 1).toNat).o.who, .int .i64 (gt l1 (n1 - 1).toNat).o.node, .int .i64 (gt l1 (n1 - 1).toNat).o.parent, .int .i64 (gt l1 (n1 - 1).toNat).o.name, .int .i64 (gt l1 (n1 - 1).toNat).o.life, .int .i64 (gt l1 (n1 - 1).toNat).o.seq, .bool (gt l1 (n1 - 1).toNat).did, .int .i64 (gt l1 (n1 - 1).toNat).was.node, .int .i64 (gt l1 (n1 - 1).toNat).was.parent, .int .i64 (gt l1 (n1 - 1).toNat).was.name]⟩)), (65, .v (.tuple #[.agg ⟨[x6.val (cE p1 (gt l1 (n1 - 1).toNat)).1.length]⟩, .int .i64 (cE p1 (gt l1 (n1 - 1).toNat)).2])), (66, .v (.agg ⟨[x6.val (cE p1 (gt l1 (n1 - 1).toNat)).1.length]⟩)), (67, .v (.int .i64 (cE p1 (gt l1 (n1 - 1).toNat)).2))]) (fun (i_ : Nat × SlV) => match i_ with | ⟨g4, x6⟩ => [⟨g4, 25, [x6.val (cE p1 (gt l1 (n1 - 1).toNat)).1.length]⟩]) (fun (i_ : Nat × SlV) => match i_ with | ⟨g4, x6⟩ => [ownL EOp 65 x3 x3b later1, ownL EStep 116 x1.1 x1.2.1 l1]) (fun (i_ : Nat × SlV) => match i_ with | ⟨g4, x6⟩ => [RdL EPlace x6 (cE p1 (gt l1 (n1 - 1).toNat)).1, RdL EPlace x5 p1]) (fun _ => True) (.cons rfl (.cons rfl (.cons rfl (.cons rfl (.cons rfl (.cons rfl (.cons rfl (.cons rfl (.cons rfl (.cons rfl (.nil _))))))))))) (.keep (.keep (.nil))) ?_ ?_
     ·refine aw (fun j => match j with | 13 => none | _ => some []) ?_
      refine Rb 0 rfl Qp ?_
      refine Rb 1 rfl (q_ldP rfl rfl Zf rfl Mm rfl) ?_
      refine Rb 2 rfl Qp ?_
      refine Rb 3 rfl Q1 ?_
      refine Rb 4 rfl Qp ?_
      refine Rb 5 rfl (q_sub rfl rfl Zf rfl Zf Zo) ?_
      refine rw_qO EStep (e := 116) (X := x1.1) (b := x1.2.1) (l := l1) Mm (.ab (i := 6) (js := [12]) [7, 8, 9, 10, 11, 13, 14] rfl Kr Kr Kr Kr Kr) rfl rfl rfl (q_idx EStep (n1 - 1).toNat rfl rfl Zf rfl Zf rfl rfl rfl (.head _) rfl Zo Za) ?_
      refine rw_qO EStep (e := 116) (X := x1.1) (b := x1.2.1) (l := l1) Mm (.ab (i := 7) (js := [12]) [8, 9, 10, 11, 13, 14] rfl Kr Kr Kr Kr Kr) rfl rfl rfl (q_leA EStep rfl rfl Zf rfl rfl (.head _) Za) ?_
      refine fF 8 12 Kr ?_ ?_
      ·refine cR (lH x5 p1 (gt l1 (n1 - 1).toNat)) (.an rfl rfl) (ae rfl) rfl rfl rfl Kr rfl rfl Sm ?_
       intro x7
       refine Pr EPlace x7 (cE p1 (gt l1 (n1 - 1).toNat)).1 24 fun hlen4 => ?_
       refine Ra 9 rfl Qp ?_
       refine Ra 10 rfl Qp ?_
       refine ra_p (.an (i := 11) (js := [12, 13]) rfl Kr Kr Kr Kr) rfl rfl rfl (q_pev rfl Zf) ?_
       refine av 12 Kr ?_
       refine dh (.an rfl rfl) (ae rfl) rfl rfl rfl rfl fun g5 => ?_
       refine av 13 Kr ?_
       refine di (.lo [g5] rfl rfl) (.inr (by simp)) (ae rfl) rfl rfl rfl rfl rfl rfl rfl rfl rfl Ub rfl ?_
       refine Ra 14 rfl Qp ?_
       refine bj Kr ?_
       refine ⟨⟨g5, x7⟩, trivial, Le4⟩
      ·refine dh (.an rfl rfl) (ae rfl) rfl rfl rfl rfl fun g6 => ?_
       refine av 8 Kr ?_
       refine cR (lH x5 p1 (gt l1 (n1 - 1).toNat)) (.an rfl rfl) (ae rfl) rfl rfl rfl Kr rfl rfl Sm ?_
       intro x8
       refine Pr EPlace x8 (cE p1 (gt l1 (n1 - 1).toNat)).1 24 fun hlen5 => ?_
       refine Ra 9 rfl Qp ?_
       refine Ra 10 rfl Qp ?_
       refine ra_p (.an (i := 11) (js := [13]) rfl Kr Kr Kr Kr) rfl rfl rfl (q_pev rfl Zf) ?_
       refine av 13 Kr ?_
       refine di (.lo [g6] rfl rfl) (.inr (by simp)) (ae rfl) rfl rfl rfl rfl rfl rfl rfl rfl rfl Ub rfl ?_
       refine Ra 14 rfl Qp ?_
       refine bj Kr ?_
       refine ⟨⟨g6, x8⟩, trivial, Le4⟩
     ·rintro ⟨g4, x6⟩ -
      simp only [List.cons_append, List.nil_append]
      refine Tx ?_
      refine Cd (b := ((cE p1 (gt l1 (n1 - 1).toNat)).2 != 0)) (fun hc5 => ?_) fun hc5 => ?_
      ·have hc5p := bne_iff_ne.1 hc5
       refine Tx ?_
       refine Fc EStep ?_
       refine Fc EPlace ?_
       refine ak ?_; rw [show (bk h1 o1) = ((⟨[], []⟩ : History), (cE p1 (gt l1 (n1 - 1).toNat)).2) by rw [← hf1]; (conv => lhs; rw [← hlt0_]); simp only [dD, hc4, hc5, Cf]]; exact Re ⟨(⟨none, 0⟩ : SlV), (⟨none, 0⟩ : SlV)⟩ (Va (Vt Vn))
      ·have hc5p := ag hc5
       refine Tx ?_
       refine rw_q rfl rfl rfl (q_sub rfl rfl Zf rfl Zf Zo) ?_
       refine rw_qO EStep (e := 116) (X := x1.1) (b := x1.2.1) (l := l1) Mm .sq rfl rfl rfl (q_idx EStep (n1 - 1).toNat rfl rfl Zf rfl Zf rfl rfl rfl (.head _) rfl Zo Za) ?_
       refine rw_q rfl rfl rfl (q_fae rfl rfl Zf rfl rfl) ?_
       refine rw_qO EStep (e := 116) (X := x1.1) (b := x1.2.1) (l := l1) Mm .sq rfl rfl rfl (q_leP EStep rfl rfl Zf rfl rfl (.head _) Za rfl) ?_
       refine bA EOp [(gt l1 (n1 - 1).toNat).o] .sq (ae rfl) rfl rfl rfl rfl rfl rfl rfl rfl rfl rfl rfl rfl rfl rfl rfl fun x9 x9b => ?_
       refine cg EOp later1 [(gt l1 (n1 - 1).toNat).o] (b := x3b) .sq (fun _ _ => .inl ⟨_, rfl⟩) (ae rfl) rfl rfl rfl rfl rfl rfl rfl (fun _ _ => Uo) rfl rfl rfl rfl rfl rfl rfl (dC (e := 65) (b := x9b) Mm) (by show (later1.length + 1) * 56 ≤ 140737488355328; (try simp only [List.length_append, List.length_cons, List.length_nil]); omega) fun x10 x10b => ?_
       refine Tx ?_
       (repeat refine ar ?_); refine aw (fun j => match j with | 7 => some [g1] | 9 => some [g1] | _ => some []) ?_
       refine Ra 0 rfl (q_ldA rfl rfl Zf rfl Mm rfl) ?_
       refine Rb 1 rfl Qp ?_
       refine Ra 2 rfl Q1 ?_
       refine ra_q (.ab (i := 3) (js := [6, 7]) [4, 5, 8, 9] rfl Kr Kr Kr Kr Kr) (.keep (.drop (bN.all _))) (by intro g hg; simp at hg; simp [hg]) rfl rfl rfl (q_pev rfl Zf) ?_
       refine ra_q (.an (i := 4) (js := [6, 7]) rfl Kr Kr Kr Kr) (.keep (.drop (bN.all _))) (by intro g hg; simp at hg; simp [hg]) rfl rfl rfl (q_sub rfl rfl Zf rfl Zf Zo) ?_
       refine Ra 6 rfl Qp ?_
       refine fF 5 7 Kr ?_ ?_
       ·refine qp EStep l1 (n1 - 1).toNat (e := 116) (X := x1.1) (ob := x1.2.1) (.an rfl rfl) (ae rfl) rfl rfl rfl rfl rfl rfl rfl rfl rfl Uo (by omega) (by first | omega | (simp only [List.length_set]; omega)) ?_
        refine av 7 Kr ?_
        refine fo (.an rfl rfl) (.inr (by simp)) (ae rfl) rfl rfl rfl rfl rfl rfl rfl rfl rfl Ub rfl ?_
        refine Ra 8 rfl Qp ?_
        refine av 9 Kr ?_
        refine eS (.an rfl rfl) (.inr (by simp)) (ae rfl) rfl rfl rfl rfl rfl rfl rfl rfl rfl Ub rfl ?_
        refine bj Kr ?_
        refine Tx ?_
        refine rw_q rfl rfl rfl (q_sub rfl rfl Zf rfl Zf Zo) ?_
        refine Tx ?_
        refine ⟨⟨(later1 ++ [(gt l1 (n1 - 1).toNat).o]), x10, x10b, (n1 - 1), (l1.take (n1 - 1).toNat), (cE p1 (gt l1 (n1 - 1).toNat)).1, x6, (fz1 - 1)⟩, ⟨(by (try simp only [List.length_append, List.length_cons, List.length_nil, List.length_take]); omega), (by (try simp only []); first | omega | (simp only [List.length_append, List.length_cons, List.length_nil]; omega)), (by rw [← hf1]; (conv => lhs; rw [← hlt0_]); simp only [dD, hc4, hc5, Cf] : (bk h1 o1) = (dD o1 (fz1 - 1) (later1 ++ [(gt l1 (n1 - 1).toNat).o]) (n1 - 1) (l1.take (n1 - 1).toNat) (cE p1 (gt l1 (n1 - 1).toNat)).1)).symm⟩, (by simp only []; omega), Le4⟩
       ·refine fo (.an rfl rfl) (.inr (by simp)) (ae rfl) rfl rfl rfl rfl rfl rfl rfl rfl rfl Ub rfl ?_
        refine av 5 Kr ?_
        refine qp EStep l1 (n1 - 1).toNat (e := 116) (X := x1.1) (ob := x1.2.1) (.an rfl rfl) (ae rfl) rfl rfl rfl rfl rfl rfl rfl rfl rfl Uo (by omega) (by first | omega | (simp only [List.length_set]; omega)) ?_
        refine Ra 8 rfl Qp ?_
        refine av 9 Kr ?_
        refine eS (.an rfl rfl) (.inr (by simp)) (ae rfl) rfl rfl rfl rfl rfl rfl rfl rfl rfl Ub rfl ?_
        refine bj Kr ?_
        refine Tx ?_
        refine rw_q rfl rfl rfl (q_sub rfl rfl Zf rfl Zf Zo) ?_
        refine Tx ?_
        refine ⟨⟨(later1 ++ [(gt l1 (n1 - 1).toNat).o]), x10, x10b, (n1 - 1), (l1.take (n1 - 1).toNat), (cE p1 (gt l1 (n1 - 1).toNat)).1, x6, (fz1 - 1)⟩, ⟨(by (try simp only [List.length_append, List.length_cons, List.length_nil, List.length_take]); omega), (by (try simp only []); first | omega | (simp only [List.length_append, List.length_cons, List.length_nil]; omega)), (by rw [← hf1]; (conv => lhs; rw [← hlt0_]); simp only [dD, hc4, hc5, Cf] : (bk h1 o1) = (dD o1 (fz1 - 1) (later1 ++ [(gt l1 (n1 - 1).toNat).o]) (n1 - 1) (l1.take (n1 - 1).toNat) (cE p1 (gt l1 (n1 - 1).toNat)).1)).symm⟩, (by simp only []; omega), Le4⟩
    ·refine Tx ?_
     refine rw_q rfl rfl rfl (o7 EOp 1 (l := later1) (X := x3) rfl rfl Zf rfl Zf rfl rfl (fun _ => by first | omega | (simp only [List.length_set]; omega)) (fun _ => by first | omega | (simp only [List.length_set]; omega))) ?_
     refine aX (j3 x3 x3b later1 1 (by omega)) .sq (.inl ⟨_, rfl⟩) (ae rfl) rfl rfl rfl Kr rfl rfl Sm (.nil _) Tk ?_
     intro _
     have hv1l : later1.length = (aJ later1 1).length := (u5 later1 1 (by omega)).symm
     have hv1 : x3.val later1.length = x3.val (aJ later1 1).length := congrArg (SlV.val x3) hv1l
     try rw [hv1]
     have hv2 : (⟨slA x3.a x3.c 1 EOp.esz, x3.c - 1⟩ : SlV).val (later1.drop 1).length = (⟨slA x3.a x3.c 1 EOp.esz, x3.c - 1⟩ : SlV).val ((aJ later1 1).drop 1).length := by congr 1; simp only [List.length_drop, List.length_set] <;> omega
     try rw [hv2]
     refine Tx ?_
     refine cw_le (aA EOp 65 x3 x3b (aJ later1 1) Uo) ?_
     refine Pc EOp x3 (aJ later1 1) 56 fun hlen6 => ?_
     (repeat refine ar ?_); refine Lp [2,4,5,93,94] [false, true] (fun (i_ : Nat × List Step × SlV × Option Nat × List Place × SlV) => match i_ with | ⟨n2, l2, x11, x11b, p2, x12⟩ => (⟨[(95, .v (.int .i64 (n2 : Int)))], [⟨g1, 27, [x11.val l2.length, x12.val p2.length]⟩], [ownL EStep 116 x11 x11b l2], [RdL EPlace x12 p2], (n2 ≤ (aJ later1 1).length) ∧ (l2.length ≤ n2 + l1.length) ∧ (ed ((aJ later1 1).drop n2) l2 p2) = (bk h1 o1), (aJ later1 1).length - n2⟩ : Ls)) ⟨0, l1, x1.1, x1.2.1, p1, x5⟩ (Sc (Sc (Sc (Sc (Sc Sn))))) (.drop (.keep (.nil))) ⟨Nat.zero_le _, (by first | exact Nat.le_refl _ | exact Nat.zero_le _ | omega), (by rw [← hf1]; (conv => lhs; rw [← hlt0_]); simp only [dD, hc4, Cf] : (bk h1 o1) = (ed (aJ later1 1) l1 p1)).symm⟩ Le4 ?_
     rintro ⟨n2, l2, x11, x11b, p2, x12⟩ ⟨hkn2, hl2, hf2⟩
     simp only [List.cons_append, List.nil_append]
     refine Tx ?_
     refine Cd (b := decide ((n2 : Int) < ((aJ later1 1).length : Int))) (fun hc6 => ?_) fun hc6 => ?_
     ·have hlt1 : n2 < (aJ later1 1).length := Int.ofNat_lt.1 (of_decide_eq_true hc6)
      refine Tx ?_
      refine rw_q rfl rfl rfl (q_idx EOp n2 rfl rfl Zf rfl Zf rfl rfl rfl Mm rfl Zf (fun _ => by first | assumption | omega)) ?_
      refine rw_q rfl rfl rfl (q_leA EOp rfl rfl Zf rfl rfl Mm (fun _ => by first | assumption | omega)) ?_
      refine Al fun g7 => ?_
      refine Tx ?_
      refine Cl (k8 x12 p2 (gt (aJ later1 1) n2)) fun x13 => ?_
      refine Pr EPlace x13 (cw p2 (gt (aJ later1 1) n2)).1 24 fun hlen7 => ?_
      refine Tx ?_
      refine Al fun g8 => ?_
      refine Al fun g9 => ?_
      refine Tx ?_
      refine Cd (b := ((cw p2 (gt (aJ later1 1) n2)).2.2 != 0)) (fun hc7 => ?_) fun hc7 => ?_
      ·have hc7p := bne_iff_ne.1 hc7
       refine Tx ?_
       refine Fc EStep ?_
       refine Fc EPlace ?_
       refine ak ?_; rw [show (bk h1 o1) = ((⟨[], []⟩ : History), (cw p2 (gt (aJ later1 1) n2)).2.2) by rw [← hf2, aI hlt1]; simp only [ed, hc7, Cf]]; exact Re ⟨(⟨none, 0⟩ : SlV), (⟨none, 0⟩ : SlV)⟩ (Va (Vt Vn))
      ·have hc7p := ag hc7
       refine Tx ?_
       (repeat refine ar ?_); refine aw (fun j => match j with | 5 => some x11b.toList | 7 => some [g1] | 9 => some [g1] | _ => some []) ?_
       refine ra_q (.an (i := 0) (js := [1, 2, 3, 4, 5]) rfl Kr Kr Kr Kr) (bN.all _) (by intro g hg; simp only [List.mem_append, List.mem_singleton, List.not_mem_nil, or_false, false_or, Option.mem_toList, Option.mem_def, List.append_nil] at hg; first | exact .inr ⟨ownL EStep 116 x11 x11b l2, Mm, hg⟩) rfl rfl rfl (q_ldA rfl rfl Zf rfl Mm rfl) ?_
       refine Rb 1 rfl Qp ?_
       refine Ra 2 rfl Q1 ?_
       refine Rb 3 rfl (q_ldA rfl rfl Zf rfl Mm rfl) ?_
       refine ra_q (.an (i := 6) (js := [4, 5]) rfl Kr Kr Kr Kr) (bN.all _) (by intro g hg; simp only [List.mem_append, List.mem_singleton, List.not_mem_nil, or_false, false_or, Option.mem_toList, Option.mem_def, List.append_nil] at hg; first | exact .inr ⟨ownL EStep 116 x11 x11b l2, Mm, hg⟩) rfl rfl rfl (q_pev rfl Zf) ?_
       refine av 4 Kr ?_
       refine bA EStep [(cw p2 (gt (aJ later1 1) n2)).2.1] (.an rfl rfl) (ae rfl) rfl rfl rfl rfl rfl rfl rfl rfl rfl rfl rfl rfl rfl rfl rfl fun x14 x14b => ?_
       refine av 5 Kr ?_
       refine cg EStep l2 [(cw p2 (gt (aJ later1 1) n2)).2.1] (b := x11b) (.an rfl rfl) (fun g h => .inr (by simp [h])) (ae rfl) rfl rfl rfl rfl rfl rfl rfl (fun _ _ => Uo) rfl rfl rfl rfl rfl rfl rfl (dC (e := 116) (b := x14b) Mm) (by show (l2.length + 1) * 88 ≤ 140737488355328; (try simp only [List.length_append, List.length_cons, List.length_nil]); omega) fun x15 x15b => ?_
       refine av 7 Kr ?_
       refine fo (.an rfl rfl) (.inr (by simp)) (ae rfl) rfl rfl rfl rfl rfl rfl rfl rfl rfl Ub rfl ?_
       refine Ra 8 rfl Qp ?_
       refine av 9 Kr ?_
       refine eS (.an rfl rfl) (.inr (by simp)) (ae rfl) rfl rfl rfl rfl rfl rfl rfl rfl rfl Ub rfl ?_
       refine bj Kr ?_
       refine Tx ?_
       refine rw_q rfl rfl rfl (q_add rfl rfl Zf rfl Zf Zo) ?_
       refine Tx ?_
       refine ⟨⟨(n2 + 1), (l2 ++ [(cw p2 (gt (aJ later1 1) n2)).2.1]), x15, x15b, (cw p2 (gt (aJ later1 1) n2)).1, x13⟩, ⟨hlt1, Zl, (by rw [← hf2, aI hlt1]; simp only [ed, hc7, Cf] : (bk h1 o1) = (ed ((aJ later1 1).drop (n2 + 1)) (l2 ++ [(cw p2 (gt (aJ later1 1) n2)).2.1]) (cw p2 (gt (aJ later1 1) n2)).1)).symm⟩, (by simp only []; omega), Le4⟩
     ·have hge1 : (aJ later1 1).length ≤ n2 := by have := of_decide_eq_false hc6; omega
      refine Tx ?_
      refine cw_le (aA EStep 116 x11 x11b l2 Uo) ?_
      refine ak ?_; rw [show (bk h1 o1) = ((⟨l2, p2⟩ : History), 0) by rw [← hf2, List.drop_of_length_le hge1]; simp only [ed, Cf]]; exact Re ⟨x11, x12⟩ (Va (Vt Vn))
theorem jC (h : History) : cW h = h.l.map (·.o) := by
 have key : ∀ (l : List Step) (acc : List Op), ee l acc = acc ++ l.map (·.o) := by
  intro l
  induction l with
  | nil => intro acc; simp [ee]
  | cons p r ih => intro acc; rw [ee, ih]; simp
 unfold cW
 rw [key]; simp
theorem nl {l : List Op} (h : (bf l).2 = 0) : l.length ≤ 30 := by
 unfold bf at h
 cases hc : decide ((l.length : Int) > 30) with
 | true => rw [hc, cond_true] at h; cases h
 | false => have := of_decide_eq_false hc; omega
theorem jo {h : History} (hc : c7 h = 0) : (bf (cW h)).2 = 0 ∧ eD (bf (cW h)).1 h = true := by
 unfold c7 at hc
 cases h1 : ((bf (cW h)).2 == 0 && !eD (bf (cW h)).1 h) with
 | true => rw [h1, cond_true] at hc; cases hc
 | false =>
  rw [h1, cond_false] at hc
  rw [hc] at h1
  exact ⟨hc, by simpa using h1⟩
theorem mT {h : History} (hc : c7 h = 0) : h.l.length ≤ 30 := by
 have := nl (jo hc).1
 rw [jC, List.length_map] at this
 exact this
theorem ka (x : SlV) (l : List (NPeer.G × Peer)) : DoesG Tryz.prog 77 [x.val l.length] [RdL NPeer.E x l] ⟨[], []⟩ (fun (X : SlV × Option Nat) => X.1.val l.length) (fun _ => []) (fun X => ⟨[], [ownL NPeer.E 111 X.1 X.2 l]⟩) := by
 refine cF aV Tryz.func77 rfl Tryz.ntmps77 Tryz.results77 rfl inferInstance (fun _ => inferInstance) fun C => ?_
 refine ec (φ := l.length * NPeer.E.by_ ≤ 140737488355328) [RdL NPeer.E x l] Sm (fun M w h => (allF1 h).len) fun hlen => ?_
 refine Tx ?_
 refine rw_q rfl rfl rfl (ke rfl rfl Zf rfl) ?_
 refine er ?_
 (repeat refine ar ?_); refine jD rfl rfl (fun hc0 => ?_) (fun hc0 => ?_)
 ·refine ec [RdL NPeer.E x l] Sm (fun M w h => (allF1 h).nil_of hc0) fun hnil => ?_
  subst hnil
  refine cw_le (fk NPeer.E 111) ?_
  refine Tx ?_
  (repeat refine ar ?_); refine ak ?_
  exact ⟨(⟨none, 0⟩, none), _, (.cons (.tmp rfl) .nil), rfl, .nil _, .nil _, Sp⟩
 ·refine Tx ?_
  refine bA NPeer.E [] .sq (ae rfl) rfl rfl rfl rfl rfl rfl rfl rfl rfl rfl rfl rfl rfl rfl rfl fun x1 x1b => ?_
  refine Rp rfl rfl rfl rfl ?_
  refine cg NPeer.E [] l (b := x1b) .sq (fun _ _ => .inl ⟨_, rfl⟩) (ae rfl) rfl rfl rfl rfl rfl rfl rfl (fun _ _ => Uo) rfl rfl rfl rfl rfl rfl rfl (fE Mm) (by simpa using hlen) fun x2 x2b => ?_
  refine Tx ?_
  (repeat refine ar ?_); refine ak ?_
  exact ⟨(x2, x2b), _, (.cons (.tmp rfl) .nil), rfl, .nil _, .nil _, Sp⟩
theorem kQ (x : SlV) (γ : Nat → NPeer.G) (l : List Peer) : DoesG Tryz.prog 77 [x.val l.length] [RdG NPeer x γ l] ⟨[], []⟩ (fun (X : SlV × Option Nat) => X.1.val l.length) (fun _ => []) (fun X => ⟨[], [ownL NPeer.E 111 X.1 X.2 (zipG γ 0 l)]⟩) := by
 have := ka x (zipG γ 0 l)
 rw [dA] at this
 exact this
def dQ  : List Peer → Int
 | [] => 0
 | pn1 :: rn1 => (bif (((decide (pn1.life < 0) || decide (pn1.life > 50)) || decide (pn1.seq < 0)) || decide (pn1.seq > 30)) then 3 else (bif ((pn1.life == 0) && (decide (pn1.seq > 0) || decide ((pn1.roots.length : Int) > 0))) then 4 else (bif ((bO pn1.roots) != 0) then (bO pn1.roots) else (dQ rn1))))
def cN (h1 : Hub) : Int :=
 (bif ((c7 h1.h) != 0) then (c7 h1.h) else (bif (decide (h1.version < 0) || decide (h1.version > 60)) then 3 else (bif ((h1.peers.length : Int) != 3) then 4 else (dQ h1.peers))))
theorem lK (y1 : SlV) (y2 : SlV) (y3 : SlV) (h1 : Hub) : Does Tryz.prog 118 [.agg ⟨[y1.val h1.h.l.length, y2.val h1.h.t.length, .int .i64 h1.version, y3.val h1.peers.length]⟩] [RdL EStep y1 h1.h.l, RdL EPlace y2 h1.h.t, RdN NPeer y3 h1.peers] (fun (_ : Unit) => .int .i64 (cN h1)) (fun _ => []) := by
 refine bd aV Tryz.func118 rfl Tryz.ntmps118 Tryz.results118 rfl inferInstance (fun _ => inferInstance) fun C => ?_
 refine Pc EStep y1 h1.h.l 88 fun hlen1 => ?_
 refine Pc EPlace y2 h1.h.t 24 fun hlen2 => ?_
 refine Pn NPeer y3 h1.peers 40 fun hlen3 => ?_
 refine Tx ?_
 refine Bx fun g1 => ?_
 refine Tx ?_
 refine Cl (mm y1 y2 h1.h) fun _ => ?_
 refine Tx ?_
 refine Cd (b := ((c7 h1.h) != 0)) (fun hc1 => ?_) fun hc1 => ?_
 ·have hc1p := bne_iff_ne.1 hc1
  refine Tx ?_
  refine ak ?_; simp only [cN, hc1, Cf]; exact Re () (Vt Vn)
 ·have hc1p := ag hc1
  refine Tx ?_
  refine Cd (b := (decide (h1.version < 0) || decide (h1.version > 60))) (fun hc2 => ?_) fun hc2 => ?_
  ·refine Tx ?_
   refine ak ?_; simp only [cN, hc1, hc2, Cf]; exact Re () (Vt Vn)
  ·refine Tx ?_
   refine Cd (b := ((h1.peers.length : Int) != 3)) (fun hc3 => ?_) fun hc3 => ?_
   ·have hc3p := bne_iff_ne.1 hc3
    refine Tx ?_
    refine ak ?_; simp only [cN, hc1, hc2, hc3, Cf]; exact Re () (Vt Vn)
   ·have hc3p := ag hc3
    refine Tx ?_
    (repeat refine ar ?_); refine Lp [2,26,27] [true] (fun (n1 : Nat) => (⟨[(28, .v (.int .i64 (n1 : Int)))], [], [], [], (n1 ≤ h1.peers.length) ∧ (dQ (h1.peers.drop n1)) = (cN h1), h1.peers.length - n1⟩ : Ls)) 0 (Sc (Sc (Sc Sn))) (.keep (.nil)) ⟨Nat.zero_le _, (by simp only [cN, hc1, hc2, hc3, Cf] : (cN h1) = (dQ h1.peers)).symm⟩ Le4 ?_
    rintro n1 ⟨hkn1, hf1⟩
    simp only [List.cons_append, List.nil_append]
    refine Tx ?_
    refine Cd (b := decide ((n1 : Int) < (h1.peers.length : Int))) (fun hc4 => ?_) fun hc4 => ?_
    ·have hlt0 : n1 < h1.peers.length := Int.ofNat_lt.1 (of_decide_eq_true hc4)
     refine Tx ?_
     refine eY NPeer (X := y3) (l := h1.peers) Mm fun (γ1 : Nat → SlV) => ?_
     refine rw_q rfl rfl rfl (dv NPeer γ1 n1 rfl rfl Zf rfl Zf rfl rfl rfl Mm rfl Zf (fun _ => by first | assumption | omega)) ?_
     refine rw_q rfl rfl rfl (q_is (v' := .agg ⟨[.int .i64 (gt h1.peers n1).life, .int .i64 (gt h1.peers n1).seq, (γ1 n1).val (gt h1.peers n1).roots.length]⟩) (fK NPeer γ1 rfl rfl Zf rfl rfl Mm (fun _ => by first | assumption | omega)) rfl) ?_
     refine ay (F := RdL EInt (γ1 n1) (gt h1.peers n1).roots) [ao NPeer γ1 h1.peers] Sm (fun M w h => (allF1 h) n1 Zc _ (.head _)) ?_
     refine Al fun g2 => ?_
     refine Tx ?_
     refine Cd (b := (((decide ((gt h1.peers n1).life < 0) || decide ((gt h1.peers n1).life > 50)) || decide ((gt h1.peers n1).seq < 0)) || decide ((gt h1.peers n1).seq > 30))) (fun hc5 => ?_) fun hc5 => ?_
     ·refine Tx ?_
      refine ak ?_; rw [show (cN h1) = 3 by rw [← hf1, aI hlt0]; simp only [dQ, hc5, Cf]]; exact Re () (Vt Vn)
     ·refine Tx ?_
      refine Cd (b := (((gt h1.peers n1).life == 0) && (decide ((gt h1.peers n1).seq > 0) || decide (((gt h1.peers n1).roots.length : Int) > 0)))) (fun hc6 => ?_) fun hc6 => ?_
      ·refine Tx ?_
       refine ak ?_; rw [show (cN h1) = 4 by rw [← hf1, aI hlt0]; simp only [dQ, hc5, hc6, Cf]]; exact Re () (Vt Vn)
      ·refine Tx ?_
       refine Cl (gG (γ1 n1) (gt h1.peers n1).roots) fun _ => ?_
       refine Tx ?_
       refine Cd (b := ((bO (gt h1.peers n1).roots) != 0)) (fun hc7 => ?_) fun hc7 => ?_
       ·have hc7p := bne_iff_ne.1 hc7
        refine Tx ?_
        refine ak ?_; rw [show (cN h1) = (bO (gt h1.peers n1).roots) by rw [← hf1, aI hlt0]; simp only [dQ, hc5, hc6, hc7, Cf]]; exact Re () (Vt Vn)
       ·have hc7p := ag hc7
        refine Tx ?_
        refine rw_q rfl rfl rfl (q_add rfl rfl Zf rfl Zf Zo) ?_
        refine Tx ?_
        refine ⟨(n1 + 1), ⟨hlt0, (by rw [← hf1, aI hlt0]; simp only [dQ, hc5, hc6, hc7, Cf] : (cN h1) = (dQ (h1.peers.drop (n1 + 1)))).symm⟩, (by simp only []; omega), Le4⟩
    ·have hge0 : h1.peers.length ≤ n1 := by have := of_decide_eq_false hc4; omega
     refine Tx ?_
     refine ak ?_; rw [show (cN h1) = 0 by rw [← hf1, List.drop_of_length_le hge0]; simp only [dQ, Cf]]; exact Re () (Vt Vn)
theorem fY {h : Hub} (hc : cN h = 0) : c7 h.h = 0 ∧ 0 ≤ h.version ∧ h.version ≤ 60 ∧ h.peers.length = 3 := by
 unfold cN at hc
 cases h1 : (c7 h.h != 0) with
 | true => rw [h1, cond_true] at hc; rw [hc] at h1; cases h1
 | false =>
 rw [h1, cond_false] at hc
 cases h2 : (decide (h.version < 0) || decide (h.version > 60)) with
 | true => rw [h2, cond_true] at hc; cases hc
 | false =>
 rw [h2, cond_false] at hc
 cases h3 : ((h.peers.length : Int) != 3) with
 | true => rw [h3, cond_true] at hc; cases hc
 | false =>
 simp only [Bool.or_eq_false_iff, decide_eq_false_iff_not] at h2
 exact ⟨ag h1, by omega, by omega, by have := ag h3; omega⟩
def fw (h1 : Hub) : List Peer → Nat → (List Peer) → Hub
 | [], n1, l1 => (⟨h1.h, h1.version, l1⟩ : Hub)
 | pn1 :: rn1, n1, l1 => (fw h1 rn1 (n1 + 1) (l1.set n1 (gt l1 n1)))
def fL (h1 : Hub) : Hub :=
 (fw h1 h1.peers 0 h1.peers)
theorem pQ (y1 : SlV) (y2 : SlV) (y3 : SlV) (h1 : Hub) : DoesG Tryz.prog 51 [.agg ⟨[y1.val h1.h.l.length, y2.val h1.h.t.length, .int .i64 h1.version, y3.val h1.peers.length]⟩] [RdL EStep y1 h1.h.l, RdL EPlace y2 h1.h.t, RdN NPeer y3 h1.peers] ⟨[], []⟩ (fun (X : SlV × SlV × SlV × Option Nat × (Nat → SlV)) => .agg ⟨[X.1.val (fL h1).h.l.length, X.2.1.val (fL h1).h.t.length, .int .i64 (fL h1).version, X.2.2.1.val (fL h1).peers.length]⟩) (fun X => [RdL EStep X.1 (fL h1).h.l, RdL EPlace X.2.1 (fL h1).h.t, ao NPeer X.2.2.2.2 (fL h1).peers]) (fun X => ⟨[], [ownL NPeer.E 111 X.2.2.1 X.2.2.2.1 (zipG X.2.2.2.2 0 (fL h1).peers)]⟩) := by
 refine cF aV Tryz.func51 rfl Tryz.ntmps51 Tryz.results51 rfl inferInstance (fun _ => inferInstance) fun C => ?_
 refine Pc EStep y1 h1.h.l 88 fun hlen1 => ?_
 refine Pc EPlace y2 h1.h.t 24 fun hlen2 => ?_
 refine Pn NPeer y3 h1.peers 40 fun hlen3 => ?_
 refine Tx ?_
 refine Bx fun g1 => ?_
 refine Al fun g2 => ?_
 refine er ?_
 (repeat refine ar ?_); refine aw (fun j => match j with | 7 => some [g1] | 9 => some [g1] | _ => some []) ?_
 refine Rb 0 rfl Qp ?_
 refine Rb 1 rfl (q_ldP rfl rfl Zf rfl Mm rfl) ?_
 refine Rb 3 rfl Qp ?_
 refine Ra 4 rfl Q1 ?_
 refine av 2 Kr ?_
 refine aX (jR y1 y2 h1.h) (.an rfl rfl) (.inr (by simp [Lent.ids])) (ae rfl) rfl rfl rfl Kr rfl rfl Sm (.nil _) (.nil _) ?_
 intro x1
 refine Pr EPlace x1.2.2 h1.h.t 24 fun hlen4 => ?_
 refine Ra 6 rfl Qp ?_
 refine av 5 Kr ?_
 refine eY NPeer (X := y3) (l := h1.peers) Mm fun (γ1 : Nat → SlV) => ?_
 refine aX (kQ y3 γ1 h1.peers) (.an rfl rfl) (.inr (by simp [Lent.ids])) (ae rfl) rfl rfl rfl Kr rfl rfl Sm (.nil _) (.nil _) ?_
 intro x2
 refine av 7 Kr ?_
 refine fo (.an rfl rfl) (.inr (by simp)) (ae rfl) rfl rfl rfl rfl rfl rfl rfl rfl rfl Ub rfl ?_
 refine Ra 8 rfl Qp ?_
 refine av 9 Kr ?_
 refine eS (.an rfl rfl) (.inr (by simp)) (ae rfl) rfl rfl rfl rfl rfl rfl rfl rfl rfl Ub rfl ?_
 refine bj Kr ?_
 refine Tx ?_
 (repeat refine ar ?_); refine Lp [1,2,15] [true, false] (fun (i_ : List Peer × (Nat → SlV) × Nat) => match i_ with | ⟨l1, γ2, n1⟩ => (⟨[(14, .v (x2.1.val l1.length)), (16, .v (.int .i64 (n1 : Int)))], [⟨g1, 30, [x1.1.val h1.h.l.length, x1.2.2.val h1.h.t.length, .int .i64 h1.version, x2.1.val l1.length]⟩], [ownL NPeer.E 111 x2.1 x2.2 (zipG γ2 0 l1), ownL EStep 116 x1.1 x1.2.1 h1.h.l], [ao NPeer γ2 l1], (n1 ≤ h1.peers.length) ∧ (l1.length = h1.peers.length) ∧ (fw h1 (h1.peers.drop n1) n1 l1) = (fL h1), h1.peers.length - n1⟩ : Ls)) ⟨h1.peers, γ1, 0⟩ (Sc (Sc (Sc Sn))) (.keep (.drop (.nil))) ⟨Nat.zero_le _, rfl, (by simp only [fL, Cf] : (fL h1) = (fw h1 h1.peers 0 h1.peers)).symm⟩ Le4 ?_
 rintro ⟨l1, γ2, n1⟩ ⟨hkn1, hll, hf1⟩
 simp only [List.cons_append, List.nil_append]
 refine Tx ?_
 refine Cd (b := decide ((n1 : Int) < (h1.peers.length : Int))) (fun hc1 => ?_) fun hc1 => ?_
 ·have hlt0 : n1 < h1.peers.length := Int.ofNat_lt.1 (of_decide_eq_true hc1)
  refine Tx ?_
  refine rw_qO NPeer.E (e := 111) (X := x2.1) (b := x2.2) (l := zipG γ2 0 l1) Mm .sq rfl rfl rfl (dv NPeer γ2 n1 rfl rfl Zf rfl Zf rfl rfl rfl (.head _) rfl Zf Za) ?_
  refine rw_qO NPeer.E (e := 111) (X := x2.1) (b := x2.2) (l := zipG γ2 0 l1) Mm .sq rfl rfl rfl (q_is (v' := .agg ⟨[.int .i64 (gt l1 n1).life, .int .i64 (gt l1 n1).seq, (γ2 n1).val (gt l1 n1).roots.length]⟩) (fK NPeer γ2 rfl rfl Zf rfl rfl (.head _) Za) rfl) ?_
  refine ay (F := RdL EInt (γ2 n1) (gt l1 n1).roots) [ao NPeer γ2 l1] Sm (fun M w h => (allF1 h) n1 Zc _ (.head _)) ?_
  refine Al fun g3 => ?_
  refine Tx ?_
  (repeat refine ar ?_); refine aw (fun j => match j with | 8 => some x2.2.toList | _ => some []) ?_
  refine Ra 0 rfl Qp ?_
  refine Ra 1 rfl Q1 ?_
  refine Ra 2 rfl Qp ?_
  refine Rb 3 rfl Qp ?_
  refine Ra 4 rfl Q1 ?_
  refine av 5 Kr ?_
  refine aX (dc (γ2 n1) (gt l1 n1).roots) (.an rfl rfl) (.inr (by simp [Lent.ids])) (ae rfl) rfl rfl rfl Kr rfl rfl Sm (.nil _) (.nil _) ?_
  intro x5
  refine rw_qO NPeer.E (e := 111) (X := x2.1) (b := x2.2) (l := zipG γ2 0 l1) Mm (.ab (i := 6) (js := []) [7, 8] rfl Kr Kr Kr Kr Kr) rfl rfl rfl (dv NPeer γ2 n1 rfl rfl Zf rfl Zf rfl rfl rfl (.head _) rfl Zf Za) ?_
  refine Ra 7 rfl (q_fae rfl rfl Zf rfl rfl) ?_
  refine av 8 Kr ?_
  refine rw_le (aA EInt 3 x5.1 x5.2 (gt l1 n1).roots Uo) ?_
  refine gH NPeer γ2 l1 n1 2 x5.1 (gt l1 n1) (e := 111) (X := x2.1) (b := x2.2) (.an rfl rfl) (.inr (fun g h => by simp [h])) (ae rfl) rfl rfl rfl rfl rfl rfl rfl rfl rfl rfl rfl Zb rfl Uo ?_
  refine ay (F := ao NPeer (updG γ2 n1 x5.1) (l1.set n1 (gt l1 n1))) [ao NPeer γ2 l1, RdL EInt x5.1 (gt l1 n1).roots] Sm (fun M w h => ao.upd NPeer (h _ (.head _)) (cL Sm h)) ?_
  have hv1 : x2.1.val l1.length = x2.1.val (l1.set n1 (gt l1 n1)).length := congrArg (SlV.val x2.1) List.length_set.symm
  try rw [hv1]
  refine bj Kr ?_
  refine Tx ?_
  refine rw_q rfl rfl rfl (q_add rfl rfl Zf rfl Zf Zo) ?_
  refine Tx ?_
  refine ⟨⟨(l1.set n1 (gt l1 n1)), (updG γ2 n1 x5.1), (n1 + 1)⟩, ⟨hlt0, (by (try simp only [List.length_set]); omega), (by rw [← hf1, aI hlt0]; simp only [fw, Cf] : (fL h1) = (fw h1 (h1.peers.drop (n1 + 1)) (n1 + 1) (l1.set n1 (gt l1 n1)))).symm⟩, (by simp only []; omega), Le4⟩
 ·have hge0 : h1.peers.length ≤ n1 := by have := of_decide_eq_false hc1; omega
  refine Tx ?_
  refine cw_le (aA EStep 116 x1.1 x1.2.1 h1.h.l Uo) ?_
  refine ak ?_; rw [show (fL h1) = (⟨h1.h, h1.version, l1⟩ : Hub) by rw [← hf1, List.drop_of_length_le hge0]; simp only [fw, Cf]]; exact Re ⟨x1.1, x1.2.2, x2.1, x2.2, γ2⟩ (Va Vn)
theorem lJ (h : Hub) : ∀ (r : List Peer) (n : Nat) (l : List Peer), fw h r n l = ⟨h.h, h.version, l⟩
 | [], _, _ => rfl
 | _ :: r, n, l => by
  have : l.set n (gt l n) = l := by
   by_cases h : n < l.length
   ·rw [gt_eq h]; exact List.set_getElem_self h
   ·exact List.set_eq_of_length_le (Nat.le_of_not_lt h)
  rw [fw, this]; exact lJ h r (n + 1) l
theorem rj (h : Hub) : fL h = h := lJ h _ 0 h.peers
theorem lI (y1 : SlV) (y2 : SlV) (y3 : SlV) (h1 : Hub) : DoesG Tryz.prog 51 [.agg ⟨[y1.val h1.h.l.length, y2.val h1.h.t.length, .int .i64 h1.version, y3.val h1.peers.length]⟩] [RdL EStep y1 h1.h.l, RdL EPlace y2 h1.h.t, RdN NPeer y3 h1.peers] ⟨[], []⟩ (fun (X : SlV × SlV × SlV × Option Nat × (Nat → SlV)) => .agg ⟨[X.1.val h1.h.l.length, X.2.1.val h1.h.t.length, .int .i64 h1.version, X.2.2.1.val h1.peers.length]⟩) (fun X => [RdL EStep X.1 h1.h.l, RdL EPlace X.2.1 h1.h.t, ao NPeer X.2.2.2.2 h1.peers]) (fun X => ⟨[], [ownL NPeer.E 111 X.2.2.1 X.2.2.2.1 (zipG X.2.2.2.2 0 h1.peers)]⟩) := by
 have := pQ y1 y2 y3 h1
 rw [rj] at this
 exact this
def aQ (r1 : Rec) : Int :=
 (bif (decide (r1.kind < 1) || decide (r1.kind > 3)) then 4 else (bif (r1.kind == 1) then (bif (((r1.who != 0) || (r1.life != 0)) || decide ((r1.roots.length : Int) > 0)) then 4 else (cx r1.o)) else (bif (((!(decide (r1.o = (⟨0, 0, 0, 0, 0, 0, 0⟩ : Op)))) || ((r1.kind == 3) && (r1.life != 0))) || ((r1.kind == 2) && decide ((r1.roots.length : Int) > 0))) then 4 else (bif ((decide (r1.who < 0) || decide (r1.who ≥ 3)) || ((r1.kind == 2) && (decide (r1.life < 1) || decide (r1.life > 50)))) then 3 else (bO r1.roots)))))
theorem fP (y1 : SlV) (r1 : Rec) : Does Tryz.prog 92 [.agg ⟨[.int .i64 r1.kind, .int .i64 r1.who, .int .i64 r1.life, y1.val r1.roots.length, .int .i64 r1.o.time, .int .i64 r1.o.who, .int .i64 r1.o.node, .int .i64 r1.o.parent, .int .i64 r1.o.name, .int .i64 r1.o.life, .int .i64 r1.o.seq]⟩] [RdL EInt y1 r1.roots] (fun (_ : Unit) => .int .i64 (aQ r1)) (fun _ => []) := by
 refine bd aV Tryz.func92 rfl Tryz.ntmps92 Tryz.results92 rfl inferInstance (fun _ => inferInstance) fun C => ?_
 refine Pc EInt y1 r1.roots 8 fun hlen1 => ?_
 refine Tx ?_
 refine Bx fun g1 => ?_
 refine Tx ?_
 refine Cd (b := (decide (r1.kind < 1) || decide (r1.kind > 3))) (fun hc1 => ?_) fun hc1 => ?_
 ·refine Tx ?_
  refine ak ?_; simp only [aQ, hc1, Cf]; exact Re () (Vt Vn)
 ·refine Tx ?_
  refine Cd (b := (r1.kind == 1)) (fun hc2 => ?_) fun hc2 => ?_
  ·have hc2p := eq_of_beq hc2
   refine Tx ?_
   refine Cd (b := (((r1.who != 0) || (r1.life != 0)) || decide ((r1.roots.length : Int) > 0))) (fun hc3 => ?_) fun hc3 => ?_
   ·refine Tx ?_
    refine ak ?_; simp only [aQ, hc1, hc2, hc3, Cf]; exact Re () (Vt Vn)
   ·refine Tx ?_
    refine Cl (eC r1.o) fun _ => ?_
    refine Tx ?_
    refine ak ?_; simp only [aQ, hc1, hc2, hc3, Cf]; exact Re () (Vt Vn)
  ·have hc2p := ne_of_beq_false hc2
   refine Tx ?_
   refine rw_q rfl rfl rfl (q_neE uz (ot r1.o (⟨0, 0, 0, 0, 0, 0, 0⟩ : Op)) rfl rfl Zf rfl Zf rfl rfl) ?_
   refine Tx ?_
   refine Cd (b := (((!(decide (r1.o = (⟨0, 0, 0, 0, 0, 0, 0⟩ : Op)))) || ((r1.kind == 3) && (r1.life != 0))) || ((r1.kind == 2) && decide ((r1.roots.length : Int) > 0)))) (fun hc4 => ?_) fun hc4 => ?_
   ·refine Tx ?_
    refine ak ?_; simp only [aQ, hc1, hc2, hc4, Cf]; exact Re () (Vt Vn)
   ·refine Tx ?_
    refine Cd (b := ((decide (r1.who < 0) || decide (r1.who ≥ 3)) || ((r1.kind == 2) && (decide (r1.life < 1) || decide (r1.life > 50))))) (fun hc5 => ?_) fun hc5 => ?_
    ·refine Tx ?_
     refine ak ?_; simp only [aQ, hc1, hc2, hc4, hc5, Cf]; exact Re () (Vt Vn)
    ·refine Tx ?_
     refine Cl (gG y1 r1.roots) fun _ => ?_
     refine Tx ?_
     refine ak ?_; simp only [aQ, hc1, hc2, hc4, hc5, Cf]; exact Re () (Vt Vn)
def fX (x1 : Peer) (y1 : Peer) : Bool :=
 (((x1.life == y1.life) && (x1.seq == y1.seq)) && (decide (x1.roots = y1.roots)))
theorem om (y2 : SlV) (x1 : Peer) (y3 : SlV) (y1 : Peer) : Does Tryz.prog 45 [.agg ⟨[.int .i64 x1.life, .int .i64 x1.seq, y2.val x1.roots.length]⟩, .agg ⟨[.int .i64 y1.life, .int .i64 y1.seq, y3.val y1.roots.length]⟩] [RdL EInt y2 x1.roots, RdL EInt y3 y1.roots] (fun (_ : Unit) => .bool (fX x1 y1)) (fun _ => []) := by
 refine bd aV Tryz.func45 rfl Tryz.ntmps45 Tryz.results45 rfl inferInstance (fun _ => inferInstance) fun C => ?_
 refine Pc EInt y2 x1.roots 8 fun hlen1 => ?_
 refine Pc EInt y3 y1.roots 8 fun hlen2 => ?_
 refine Tx ?_
 refine Bx fun g1 => ?_
 refine Bx fun g2 => ?_
 refine Tx ?_
 refine c6 (fun hG_ => (fun y1 a y2 b => dS y1 y2 a b) y2 x1.roots y3 y1.roots) Zf .sq (au rfl rfl rfl) rfl rfl rfl Kr rfl Bt Sm ?_
 refine Tx ?_
 refine ak ?_; simp only [fX, Cf]; exact Re () (Vt Vn)
def bG (s2 : List Peer) (eq1 : Peer → Peer → Bool) : List Peer → Nat → Bool
 | [], n1 => true
 | pn1 :: rn1, n1 => (bif (!(eq1 pn1 (gt s2 n1))) then false else (bG s2 eq1 rn1 (n1 + 1)))
def bT (s1 : List Peer) (s2 : List Peer) (eq1 : Peer → Peer → Bool) : Bool :=
 (bif ((s1.length : Int) != (s2.length : Int)) then false else (bG s2 eq1 s1 0))
theorem jf (y1 : SlV) (s1 : List Peer) (y2 : SlV) (s2 : List Peer) (f1 : Nat) (caps1 : List Value) (pre1 : List Pred) [StabL pre1] (eq1 : Peer → Peer → Bool) (hfb1 : tab.fnb f1 = true) (hfn1 : ∀ (z0a_ : SlV) (a0_ : Peer) (z1a_ : SlV) (a1_ : Peer), Does Tryz.prog f1 ([.agg ⟨[.int .i64 a0_.life, .int .i64 a0_.seq, z0a_.val a0_.roots.length]⟩, .agg ⟨[.int .i64 a1_.life, .int .i64 a1_.seq, z1a_.val a1_.roots.length]⟩] ++ caps1) (RdL EInt z0a_ a0_.roots :: RdL EInt z1a_ a1_.roots :: pre1) (fun (_ : Unit) => .bool (eq1 a0_ a1_)) (fun _ => [])) : Does Tryz.prog 44 [y1.val s1.length, y2.val s2.length, .func (.func f1) #[] ⟨caps1⟩] (RdN NPeer y1 s1 :: RdN NPeer y2 s2 :: pre1) (fun (_ : Unit) => .bool (bT s1 s2 eq1)) (fun _ => []) := by
 refine bd aV Tryz.func44 rfl Tryz.ntmps44 Tryz.results44 rfl inferInstance (fun _ => inferInstance) fun C => ?_
 refine ec (φ := s1.length * 40 ≤ 140737488355328) [RdN NPeer y1 s1] Sf (fun M w h => (allF1 h).len) fun hlen1 => ?_
 refine ec (φ := s2.length * 40 ≤ 140737488355328) [RdN NPeer y2 s2] Sf (fun M w h => (allF1 h).len) fun hlen2 => ?_
 refine Tx ?_
 refine Cd (b := ((s1.length : Int) != (s2.length : Int))) (fun hc1 => ?_) fun hc1 => ?_
 ·have hc1p := bne_iff_ne.1 hc1
  refine Tx ?_
  have hr1 : (bT s1 s2 eq1) = false := by simp only [bT, hc1, Cf]
  refine ak ?_
  rw [hr1]
  exact ⟨(), _, (.cons (.tmp rfl) .nil), rfl, Sf, .nil _, .nil _⟩
 ·have hc1p := ag hc1
  refine Tx ?_
  (repeat refine ar ?_); refine Lp [1,2,6,15,16] [] (fun (n1 : Nat) => (⟨[(17, .v (.int .i64 (n1 : Int)))], [], [], [], (n1 ≤ s1.length) ∧ (bG s2 eq1 (s1.drop n1) n1) = (bT s1 s2 eq1), s1.length - n1⟩ : Ls)) 0 (Sc (Sc (Sc (Sc (Sc Sn))))) (.nil) ⟨Nat.zero_le _, (by simp only [bT, hc1, Cf] : (bT s1 s2 eq1) = (bG s2 eq1 s1 0)).symm⟩ Le5 ?_
  rintro n1 ⟨hkn1, hf1⟩
  simp only [List.cons_append, List.nil_append]
  refine Tx ?_
  refine Cd (b := decide ((n1 : Int) < (s1.length : Int))) (fun hc2 => ?_) fun hc2 => ?_
  ·have hlt0 : n1 < s1.length := Int.ofNat_lt.1 (of_decide_eq_true hc2)
   refine Tx ?_
   refine eY NPeer (X := y1) (l := s1) Mm fun (γ1 : Nat → SlV) => ?_
   refine rw_q rfl rfl rfl (dv NPeer γ1 n1 rfl rfl Zf rfl Zf rfl rfl rfl Mm rfl Zf (fun _ => by first | assumption | omega)) ?_
   refine rw_q rfl rfl rfl (q_is (v' := .agg ⟨[.int .i64 (gt s1 n1).life, .int .i64 (gt s1 n1).seq, (γ1 n1).val (gt s1 n1).roots.length]⟩) (fK NPeer γ1 rfl rfl Zf rfl rfl Mm (fun _ => by first | assumption | omega)) rfl) ?_
   refine ay (F := RdL EInt (γ1 n1) (gt s1 n1).roots) [ao NPeer γ1 s1] Sf (fun M w h => (allF1 h) n1 Zc _ (.head _)) ?_
   refine Al fun g1 => ?_
   refine Tx ?_
   refine eY NPeer (X := y2) (l := s2) Mm fun (γ2 : Nat → SlV) => ?_
   refine rw_q rfl rfl rfl (dv NPeer γ2 n1 rfl rfl Zf rfl Zf rfl rfl rfl Mm rfl Zf (fun _ => by first | assumption | omega)) ?_
   refine rw_q rfl rfl rfl (q_is (v' := .agg ⟨[.int .i64 (gt s2 n1).life, .int .i64 (gt s2 n1).seq, (γ2 n1).val (gt s2 n1).roots.length]⟩) (fK NPeer γ2 rfl rfl Zf rfl rfl Mm (fun _ => by first | assumption | omega)) rfl) ?_
   refine ay (F := RdL EInt (γ2 n1) (gt s2 n1).roots) [ao NPeer γ2 s2] Sf (fun M w h => (allF1 h) n1 Zc _ (.head _)) ?_
   refine Al fun g2 => ?_
   refine Tx ?_
   refine em (hfn1 (γ1 n1) (gt s1 n1) (γ2 n1) (gt s2 n1)) .sq (ae rfl) rfl rfl rfl rfl rfl (by assumption) rfl rfl rfl Sf ?_
   intro _
   refine Tx ?_
   refine Cd (b := (!(eq1 (gt s1 n1) (gt s2 n1)))) (fun hc3 => ?_) fun hc3 => ?_
   ·refine Tx ?_
    have hr2 : (bT s1 s2 eq1) = false := by rw [← hf1, aI hlt0]; simp only [bG, hc3, Cf]
    refine ak ?_
    rw [hr2]
    exact ⟨(), _, (.cons (.tmp rfl) .nil), rfl, Sf, .nil _, .nil _⟩
   ·refine Tx ?_
    refine rw_q rfl rfl rfl (q_add rfl rfl Zf rfl Zf Zo) ?_
    refine Tx ?_
    refine ⟨(n1 + 1), ⟨hlt0, (by rw [← hf1, aI hlt0]; simp only [bG, hc3, Cf] : (bT s1 s2 eq1) = (bG s2 eq1 (s1.drop (n1 + 1)) (n1 + 1))).symm⟩, (by simp only []; omega), Le5⟩
  ·have hge0 : s1.length ≤ n1 := by have := of_decide_eq_false hc2; omega
   refine Tx ?_
   have hr3 : (bT s1 s2 eq1) = true := by rw [← hf1, List.drop_of_length_le hge0]; simp only [bG, Cf]
   refine ak ?_
   rw [hr3]
   exact ⟨(), _, (.cons (.tmp rfl) .nil), rfl, Sf, .nil _, .nil _⟩
def fv (a1 : Hub) (b1 : Hub) : Bool :=
 (((eD a1.h b1.h) && (a1.version == b1.version)) && (bT a1.peers b1.peers fX))
theorem iI (y1 : SlV) (y2 : SlV) (y3 : SlV) (a1 : Hub) (y4 : SlV) (y5 : SlV) (y6 : SlV) (b1 : Hub) : Does Tryz.prog 20 [.agg ⟨[y1.val a1.h.l.length, y2.val a1.h.t.length, .int .i64 a1.version, y3.val a1.peers.length]⟩, .agg ⟨[y4.val b1.h.l.length, y5.val b1.h.t.length, .int .i64 b1.version, y6.val b1.peers.length]⟩] [RdL EStep y1 a1.h.l, RdL EPlace y2 a1.h.t, RdN NPeer y3 a1.peers, RdL EStep y4 b1.h.l, RdL EPlace y5 b1.h.t, RdN NPeer y6 b1.peers] (fun (_ : Unit) => .bool (fv a1 b1)) (fun _ => []) := by
 refine bd aV Tryz.func20 rfl Tryz.ntmps20 Tryz.results20 rfl inferInstance (fun _ => inferInstance) fun C => ?_
 refine Pc EStep y1 a1.h.l 88 fun hlen1 => ?_
 refine Pc EPlace y2 a1.h.t 24 fun hlen2 => ?_
 refine Pn NPeer y3 a1.peers 40 fun hlen3 => ?_
 refine Pc EStep y4 b1.h.l 88 fun hlen4 => ?_
 refine Pc EPlace y5 b1.h.t 24 fun hlen5 => ?_
 refine Pn NPeer y6 b1.peers 40 fun hlen6 => ?_
 refine Tx ?_
 refine Bx fun g1 => ?_
 refine Bx fun g2 => ?_
 refine Tx ?_
 refine Cl (jQ y1 y2 a1.h y4 y5 b1.h) fun _ => ?_
 refine Tx ?_
 refine c6 (fun hG_ => jf y3 a1.peers y6 b1.peers _ _ _ fX Kr (fun z0a_ a0_ z1a_ a1_ => om z0a_ a0_ z1a_ a1_)) Zf .sq (au rfl rfl rfl) rfl rfl rfl Kr rfl Bt Sm ?_
 refine Tx ?_
 refine ak ?_; simp only [fv, Cf]; exact Re () (Vt Vn)
def bH (h1 : Hub) (who1 : Int) : View × Int :=
 (bif ((cN h1) != 0) then ((⟨[], [], []⟩ : View), (cN h1)) else (bif (decide (who1 < 0) || decide (who1 ≥ 3)) then ((⟨[], [], []⟩ : View), 5) else ((co h1.h.t (gt h1.peers who1.toNat).roots).1, (co h1.h.t (gt h1.peers who1.toNat).roots).2)))
theorem ko (y1 : SlV) (y2 : SlV) (y3 : SlV) (h1 : Hub) (who1 : Int) : Does Tryz.prog 106 [.agg ⟨[y1.val h1.h.l.length, y2.val h1.h.t.length, .int .i64 h1.version, y3.val h1.peers.length]⟩, .int .i64 who1] [RdL EStep y1 h1.h.l, RdL EPlace y2 h1.h.t, RdN NPeer y3 h1.peers] (fun (X : SlV × SlV × SlV) => .tuple #[.agg ⟨[X.1.val (bH h1 who1).1.roots.length, X.2.1.val (bH h1 who1).1.known.length, X.2.2.val (bH h1 who1).1.way.length]⟩, .int .i64 (bH h1 who1).2]) (fun X => [RdL EInt X.1 (bH h1 who1).1.roots, RdL EPlace X.2.1 (bH h1 who1).1.known, RdL EPlace X.2.2 (bH h1 who1).1.way]) := by
 refine bd aV Tryz.func106 rfl Tryz.ntmps106 Tryz.results106 rfl inferInstance (fun _ => inferInstance) fun C => ?_
 refine Pc EStep y1 h1.h.l 88 fun hlen1 => ?_
 refine Pc EPlace y2 h1.h.t 24 fun hlen2 => ?_
 refine Pn NPeer y3 h1.peers 40 fun hlen3 => ?_
 refine Tx ?_
 refine Bx fun g1 => ?_
 refine Al fun g2 => ?_
 refine Tx ?_
 refine Cl (lK y1 y2 y3 h1) fun _ => ?_
 refine Tx ?_
 refine Cd (b := ((cN h1) != 0)) (fun hc1 => ?_) fun hc1 => ?_
 ·have hc1p := bne_iff_ne.1 hc1
  refine Tx ?_
  refine Fc EInt ?_
  refine Fc EPlace ?_
  refine ak ?_; simp only [bH, hc1, Cf]; exact Re ⟨(⟨none, 0⟩ : SlV), (⟨none, 0⟩ : SlV), (⟨none, 0⟩ : SlV)⟩ (Va (Vt Vn))
 ·have hc1p := ag hc1
  have hpl := fY (ag hc1)
  refine Tx ?_
  refine Cd (b := (decide (who1 < 0) || decide (who1 ≥ 3))) (fun hc2 => ?_) fun hc2 => ?_
  ·refine Tx ?_
   refine Fc EInt ?_
   refine Fc EPlace ?_
   refine ak ?_; simp only [bH, hc1, hc2, Cf]; exact Re ⟨(⟨none, 0⟩ : SlV), (⟨none, 0⟩ : SlV), (⟨none, 0⟩ : SlV)⟩ (Va (Vt Vn))
  ·have hwr := hc2
   simp only [Bool.or_eq_false_iff, decide_eq_false_iff_not] at hwr
   refine Tx ?_
   (repeat refine ar ?_); refine aw (fun j => match j with | 12 => some [g2] | _ => some []) ?_
   refine Rb 0 rfl Qp ?_
   refine Rb 1 rfl Qp ?_
   refine Rb 2 rfl (q_ldP rfl rfl Zf rfl Mm rfl) ?_
   refine Rb 3 rfl Qp ?_
   refine Rb 4 rfl Q1 ?_
   refine Rb 5 rfl Qp ?_
   refine eY NPeer (X := y3) (l := h1.peers) Mm fun (γ1 : Nat → SlV) => ?_
   refine Rb 6 rfl (dv NPeer γ1 who1.toNat rfl rfl Zf rfl Zf rfl rfl rfl Mm rfl Zo (fun _ => by first | assumption | omega)) ?_
   refine Rb 7 rfl (q_fae rfl rfl Zf rfl rfl) ?_
   refine Rb 8 rfl (iw NPeer γ1 (v := (γ1 who1.toNat).val (gt h1.peers who1.toNat).roots.length) rfl rfl Zf rfl rfl Mm (fun _ => by first | assumption | omega) rfl) ?_
   refine ay (F := RdL EInt (γ1 who1.toNat) (gt h1.peers who1.toNat).roots) [ao NPeer γ1 h1.peers] Sm (fun M w h => (allF1 h) who1.toNat Zc _ (.head _)) ?_
   refine av 9 Kr ?_
   refine cR (jk y2 h1.h.t (γ1 who1.toNat) (gt h1.peers who1.toNat).roots) (.an rfl rfl) (ae rfl) rfl rfl rfl Kr rfl rfl Sm ?_
   intro x1
   refine Pr EInt x1.1 (co h1.h.t (gt h1.peers who1.toNat).roots).1.roots 8 fun hlen4 => ?_
   refine Pr EPlace x1.2.1 (co h1.h.t (gt h1.peers who1.toNat).roots).1.known 24 fun hlen5 => ?_
   refine Pr EPlace x1.2.2 (co h1.h.t (gt h1.peers who1.toNat).roots).1.way 24 fun hlen6 => ?_
   refine Ra 10 rfl Qp ?_
   refine Ra 11 rfl Qp ?_
   refine av 12 Kr ?_
   refine di (.an rfl rfl) (.inr (by simp)) (ae rfl) rfl rfl rfl rfl rfl rfl rfl rfl rfl Ub rfl ?_
   refine Ra 13 rfl Qp ?_
   refine bj Kr ?_
   (repeat refine ar ?_)
   refine ak ?_; simp only [bH, hc1, hc2, Cf]; exact Re ⟨x1.1, x1.2.1, x1.2.2⟩ (Va (Vt Vn))
def cq  : Hub :=
 (⟨(⟨[], []⟩ : History), 0, [(⟨0, 0, ([] : List Int)⟩ : Peer), (⟨0, 0, ([] : List Int)⟩ : Peer), (⟨0, 0, ([] : List Int)⟩ : Peer)]⟩ : Hub)
theorem jn  : Does Tryz.prog 60 [] [] (fun (X : SlV × SlV × SlV) => .agg ⟨[X.1.val cq.h.l.length, X.2.1.val cq.h.t.length, .int .i64 cq.version, X.2.2.val cq.peers.length]⟩) (fun X => [RdL EStep X.1 cq.h.l, RdL EPlace X.2.1 cq.h.t, RdN NPeer X.2.2 cq.peers]) := by
 refine bd aV Tryz.func60 rfl Tryz.ntmps60 Tryz.results60 rfl inferInstance (fun _ => inferInstance) fun C => ?_
 refine Tx ?_
 refine Al fun g1 => ?_
 refine Tx ?_
 refine lP NPeer.E (zipG (fun _ => (⟨none, 0⟩ : SlV)) 0 [(⟨0, 0, ([] : List Int)⟩ : Peer), (⟨0, 0, ([] : List Int)⟩ : Peer), (⟨0, 0, ([] : List Int)⟩ : Peer)]) .sq (ae rfl) rfl rfl rfl rfl rfl rfl rfl rfl rfl rfl rfl rfl rfl rfl rfl rfl rfl fun x1 x1b => ?_
 refine Fr EInt ?_
 refine ay (F := ao NPeer (fun _ => (⟨none, 0⟩ : SlV)) [(⟨0, 0, ([] : List Int)⟩ : Peer), (⟨0, 0, ([] : List Int)⟩ : Peer), (⟨0, 0, ([] : List Int)⟩ : Peer)]) [RdL EInt (⟨none, 0⟩ : SlV) ([] : List Int)] Sm (fun M w h => ao.const NPeer (by intro a ha; simp only [List.mem_cons, List.not_mem_nil, or_false, or_self] at ha; subst ha; exact cL Sm h)) ?_
 refine Tx ?_
 refine Fc EStep ?_
 refine Fc EPlace ?_
 refine cw_le (aA NPeer.E 111 x1 x1b (zipG (fun _ => (⟨none, 0⟩ : SlV)) 0 [(⟨0, 0, ([] : List Int)⟩ : Peer), (⟨0, 0, ([] : List Int)⟩ : Peer), (⟨0, 0, ([] : List Int)⟩ : Peer)]) Uo) ?_
 refine dj (F := RdN NPeer x1 [(⟨0, 0, ([] : List Int)⟩ : Peer), (⟨0, 0, ([] : List Int)⟩ : Peer), (⟨0, 0, ([] : List Int)⟩ : Peer)]) [RdG NPeer x1 (fun _ => (⟨none, 0⟩ : SlV)) [(⟨0, 0, ([] : List Int)⟩ : Peer), (⟨0, 0, ([] : List Int)⟩ : Peer), (⟨0, 0, ([] : List Int)⟩ : Peer)], ao NPeer (fun _ => (⟨none, 0⟩ : SlV)) [(⟨0, 0, ([] : List Int)⟩ : Peer), (⟨0, 0, ([] : List Int)⟩ : Peer), (⟨0, 0, ([] : List Int)⟩ : Peer)]] Sm (fun M w h => RdN.ofG NPeer (h _ (.head _)) (h _ (.tail _ (.head _)))) ?_
 refine ak ?_; simp only [cq, Cf]; exact Re ⟨(⟨none, 0⟩ : SlV), (⟨none, 0⟩ : SlV), x1⟩ (Va Vn)
end Go.Proofs.YtgkggkgdceapgaaGreatDoor

namespace Go.Proofs.YtgkggkgdceapgaaGreatDoor.Fw
open Go
def spl (c : UInt8) : Str → List Str
 | [] => [[]]
 | b :: r => bif b == c then [] :: spl c r else match spl c r with | [] => [[b]] | h :: t => (b :: h) :: t
def cutc (c : UInt8) : Str → Str × Str × Bool
 | [] => ([], [], false)
 | b :: r => bif b == c then ([], r, true) else (b :: (cutc c r).1, (cutc c r).2.1, (cutc c r).2.2)
theorem idx1 (c : UInt8) : ∀ s : Str, (Lib.index s [c] = -1 ∧ c ∉ s) ∨ ∃ p r, s = p ++ c :: r ∧ c ∉ p ∧ Lib.index s [c] = (p.length : Int)
 | [] => .inl ⟨rfl, by simp⟩
 | b :: l => by
  by_cases h : b = c
  ·subst h
   exact .inr ⟨[], l, rfl, by simp, by simp [Lib.index]⟩
  ·have hp : ([c] : Str).isPrefixOf (b :: l) = false := by simp [List.isPrefixOf, Ne.symm h]
   rcases idx1 c l with ⟨h1, h2⟩ | ⟨p, r, h1, h2, h3⟩
   ·exact .inl ⟨by rw [Lib.index, hp, h1]; rfl, by simp [Ne.symm h, h2]⟩
   ·refine .inr ⟨b :: p, r, by rw [h1]; rfl, by simp [Ne.symm h, h2], ?_⟩
    rw [Lib.index, hp, h3]
    have : ((p.length : Int) == -1) = false := by rw [beq_eq_false_iff_ne]; omega
    simp [this]
theorem rK {c : UInt8} : ∀ {s : Str}, c ∉ s → spl c s = [s]
 | [], _ => rfl
 | b :: r, h => by
  have h1 : (b == c) = false := by simp only [List.mem_cons, not_or] at h; simpa using Ne.symm h.1
  rw [spl, h1, cond_false, rK (by simp only [List.mem_cons, not_or] at h; exact h.2)]
theorem pB {c : UInt8} (r : Str) : ∀ {p : Str}, c ∉ p → spl c (p ++ c :: r) = p :: spl c r
 | [], _ => by simp [spl]
 | b :: p, h => by
  have h1 : (b == c) = false := by simp only [List.mem_cons, not_or] at h; simpa using Ne.symm h.1
  rw [List.cons_append, spl, h1, cond_false, pB r (by simp only [List.mem_cons, not_or] at h; exact h.2)]
theorem rn {c : UInt8} : ∀ {s : Str}, c ∉ s → cutc c s = (s, [], false)
 | [], _ => rfl
 | b :: r, h => by
  have h1 : (b == c) = false := by simp only [List.mem_cons, not_or] at h; simpa using Ne.symm h.1
  rw [cutc, h1, cond_false, rn (by simp only [List.mem_cons, not_or] at h; exact h.2)]
theorem pV {c : UInt8} (r : Str) : ∀ {p : Str}, c ∉ p → cutc c (p ++ c :: r) = (p, r, true)
 | [], _ => by simp [cutc]
 | b :: p, h => by
  have h1 : (b == c) = false := by simp only [List.mem_cons, not_or] at h; simpa using Ne.symm h.1
  rw [List.cons_append, cutc, h1, cond_false, pV r (by simp only [List.mem_cons, not_or] at h; exact h.2)]
theorem at_c (c : UInt8) (s : Str) : c ∉ s ∨ ∃ p r, s = p ++ c :: r ∧ c ∉ p := by
 rcases idx1 c s with ⟨_, h⟩ | ⟨p, r, h1, h2, _⟩
 ·exact .inl h
 ·exact .inr ⟨p, r, h1, h2⟩
theorem vA (c : UInt8) (s : Str) : Lib.cut s [c] = cutc c s := by
 unfold Lib.cut
 rcases idx1 c s with ⟨h1, h2⟩ | ⟨p, r, h1, h2, h3⟩
 ·rw [h1, if_neg (by omega), rn h2]
 ·rw [h3, if_pos (by omega), h1, pV r h2]
  simp
theorem o0 (c : UInt8) : ∀ (n : Nat) (s : Str), s.length ≤ n → Lib.splitK [c] 0 (Lib.count s [c]) s = spl c s
 | n, s, hn => by
  rcases idx1 c s with ⟨h1, h2⟩ | ⟨p, r, h1, h2, h3⟩
  ·rw [Lib.count_miss h1, rK h2]; rfl
  ·have hr : s.drop (p.length + ([c] : Str).length) = r := by rw [h1]; simp
   rw [Lib.count_hit (by simp) h3, hr, Nat.add_comm 1, Lib.splitK, h3]
   have : ((p.length : Int) == -1) = false := by rw [beq_eq_false_iff_ne]; omega
   rw [this]
   simp only [Int.toNat_natCast, hr]
   cases n with
   | zero => rw [h1] at hn; simp at hn
   | succ n =>
    rw [o0 c n r (by rw [h1] at hn; simp at hn; omega), h1, pB r h2]
    simp
theorem sP (c : UInt8) (s : Str) : (Lib.splitB ⟨#[c]⟩ 0 (Lib.countB ⟨s.toArray⟩ ⟨#[c]⟩) ⟨s.toArray⟩).map Value.string = (spl c s).map sV := by
 have h := Lib.splitB_data ⟨#[c]⟩ 0 (Lib.countB ⟨s.toArray⟩ ⟨#[c]⟩) ⟨s.toArray⟩
 have h2 := o0 c s.length s (Nat.le_refl _)
 rw [show Lib.splitK (ByteArray.mk #[c]).data.toList 0 (Lib.countB ⟨s.toArray⟩ ⟨#[c]⟩) (ByteArray.mk s.toArray).data.toList = spl c s from h2] at h
 rw [← h, List.map_map]
 refine List.map_congr_left fun b _ => ?_
 simp [sV]
theorem ra (c : UInt8) : ∀ s : Str, 0 < (spl c s).length ∧ (spl c s).length ≤ s.length + 1
 | [] => by simp [spl]
 | b :: r => by
  have ih := ra c r
  rw [spl]
  cases b == c with
  | true => simp only [cond_true, List.length_cons]; omega
  | false =>
   simp only [cond_false]
   cases h : spl c r with
   | nil => simp
   | cons a t => rw [h] at ih; simp at ih ⊢; omega
theorem j0 {c : UInt8} : ∀ {s t : Str}, t ∈ spl c s → t.length ≤ s.length
 | [], t, h => by simp [spl] at h; simp [h]
 | b :: r, t, h => by
  rw [spl] at h
  cases hb : b == c with
  | true =>
   rw [hb, cond_true] at h
   rcases List.mem_cons.1 h with rfl | h
   ·simp
   ·have := j0 h; simp; omega
  | false =>
   rw [hb, cond_false] at h
   cases hs : spl c r with
   | nil => rw [hs] at h; simp at h; simp [h]
   | cons a q =>
    rw [hs] at h
    rcases List.mem_cons.1 h with rfl | h
    ·have := j0 (c := c) (s := r) (t := a) (by rw [hs]; exact .head _); simp; omega
    ·have := j0 (c := c) (s := r) (t := t) (by rw [hs]; exact .tail _ h); simp; omega
theorem sj (c : UInt8) : ∀ s : Str, (cutc c s).1.length ≤ s.length ∧ (cutc c s).2.1.length ≤ s.length
 | [] => by simp [cutc]
 | b :: r => by
  have := sj c r
  rw [cutc]
  cases b == c with
  | true => simp
  | false => simp only [cond_false, List.length_cons]; omega
theorem pU (c : UInt8) : ∀ s : Str, (cutc c s).2.2 = true → (cutc c s).1.length + (cutc c s).2.1.length + 1 = s.length
 | [], h => by simp [cutc] at h
 | b :: r, h => by
  have ih := pU c r
  rw [cutc] at h ⊢
  cases hb : b == c with
  | true => simp
  | false => rw [hb] at h; simp only [cond_false, List.length_cons] at h ⊢; have := ih h; omega
def atv (s : Str) : Int := match Lib.atoiAll s with | .ok v => v | .range => Lib.atoiSat s | _ => 0
def ate (s : Str) : Bool := match Lib.atoiAll s with | .ok _ => false | _ => true
theorem th (s : Str) : -9223372036854775808 ≤ atv s ∧ atv s ≤ 9223372036854775807 := by
 unfold atv
 cases h : Lib.atoiAll s with
 | ok v => exact Lib.atoiAll_bounds h
 | range => simp only [Lib.atoiSat]; split <;> omega
 | _ => simp
end Go.Proofs.YtgkggkgdceapgaaGreatDoor.Fw

namespace Go.Proofs.YtgkggkgdceapgaaGreatDoor.Fw
open Go Go.RowKit
structure LibW (P : Program) (w : World) : Prop where
 len : ∃ g m, P.globalNamed "internal/bytealg.MaxLen" = some g ∧ w.cell? ⟨g, 0, none⟩ = some (.int .i64 m)
 tab : Lib.TabIs P w "internal/strconv.uint64pow10" .u64 Lib.pow10Tab
 syn : ∃ tp p, w.var? P "strconv.ErrSyntax" = some #[.iface tp p]
 rng : ∃ tp p, w.var? P "strconv.ErrRange" = some #[.iface tp p]
def km : List String := ["internal/bytealg.MaxLen", "internal/strconv.uint64pow10", "strconv.ErrSyntax", "strconv.ErrRange"]
def LibP (P : Program) : Pred := fun M w => (∀ n ∈ km, ∀ g, P.globalNamed n = some g → g < w.heap.size ∧ ¬ M g) ∧ LibW P w
theorem var_eq {P : Program} {w w' : World} {n : String} (h : ∀ g, P.globalNamed n = some g → w'.heap[g]? = w.heap[g]?) : w'.var? P n = w.var? P n := by
 unfold World.var?
 cases hg : P.globalNamed n with
 | none => rfl
 | some g => simp only [Option.bind_some, h g hg]
instance (P : Program) : Stab (LibP P) where
 st M M' w w' h hx hM := by
  obtain ⟨h1, h2⟩ := h
  have hh : ∀ n ∈ km, ∀ g, P.globalNamed n = some g → w'.heap[g]? = w.heap[g]? := fun n hn g hg => hx.2 g (h1 n hn g hg).1 (h1 n hn g hg).2
  have hv := fun n hn => var_eq (P := P) (w := w) (w' := w') (n := n) (hh n hn)
  refine ⟨fun n hn g hg => ⟨Nat.lt_of_lt_of_le (h1 n hn g hg).1 hx.1, fun hm => (h1 n hn g hg).2 (hM g (h1 n hn g hg).1 hm)⟩, ?_, ?_, ?_, ?_⟩
  ·obtain ⟨g, m, hg, hc⟩ := h2.len
   exact ⟨g, m, hg, (World.cell?_of_block (hh _ (by simp [km]) g hg)).trans hc⟩
  ·unfold Lib.TabIs; rw [hv _ (by simp [km])]; exact h2.tab
  ·rw [hv _ (by simp [km])]; exact h2.syn
  ·rw [hv _ (by simp [km])]; exact h2.rng
theorem w9 {P : Program} {w : World} (h : LibW P w) : LibP P (fun _ => False) w := by
 refine ⟨fun n hn g hg => ⟨?_, fun h => h⟩, h⟩
 have hv : ∀ {cs}, w.var? P n = some cs → g < w.heap.size := fun {cs} h => by
  unfold World.var? at h
  rw [hg] at h
  rcases Nat.lt_or_ge g w.heap.size with h' | h'
  ·exact h'
  ·simp [Array.getElem?_eq_none h'] at h
 simp only [km, List.mem_cons, List.not_mem_nil, or_false] at hn
 rcases hn with rfl | rfl | rfl | rfl
 ·obtain ⟨g', m, hg', hc⟩ := h.len
  rw [hg'] at hg
  cases hg
  rcases Nat.lt_or_ge g w.heap.size with h' | h'
  ·exact h'
  ·simp [World.cell?, Array.getElem?_eq_none h'] at hc
 ·exact hv h.tab
 ·obtain ⟨_, _, h1⟩ := h.syn; exact hv h1
 ·obtain ⟨_, _, h1⟩ := h.rng; exact hv h1
theorem nx {P : Program} {f : FuncId} {args : List Value} {pre : List Pred} {X : Type} {val : X → Value} {post : X → List Pred} (hst : ∀ x, StabL (post x))
  (h : ∀ (M : Nat → Prop) (w : World), (∀ b, M b → b < w.heap.size) → AllF pre M w → Calls P f args.toArray w (fun e w' => ∃ x, e = .returned (val x) ∧ Below w.heap.size w w' ∧ AllF (post x) M w')) :
  Does P f args pre val post where
 st := hst
 ok C hB hw := by
  refine (h (Mset C ⟨0, [], [], [], pre⟩) C.w0 (fun b hb => vb hw hb) (fun F hF => (hw.fa F hF).2)).mono fun e w' ⟨x, he, hb, hp⟩ => ⟨x, he, ?_⟩
  have hg := hw.grow hb
  exact ⟨hg.be, hg.bl, hg.ow, hg.nd, fun F hF => ⟨(hst x).st F hF, hp F hF⟩⟩
theorem rv {w : World} (n : Nat) : Below w.heap.size w (w.drewN n) := ⟨rfl, rfl, rfl, Nat.le_refl _, fun _ _ => rfl⟩
theorem rx (w : World) (e : TypeId) (s : ByteArray) : Below w.heap.size w (Lib.bytesWorld w e s) := by
 refine ⟨?_, ?_, ?_, by rw [Lib.bytesWorld_size]; omega, fun k hk => Lib.bytesWorld_at_old w e _ k hk⟩ <;> rfl
theorem ry (w : World) (o : Obj) : Below w.heap.size w (w.alloc o) := ⟨rfl, rfl, rfl, by simp, fun k hk => heap_alloc_old w o k hk⟩
theorem tN {M : Nat → Prop} {w : World} (hM : ∀ b, M b → b < w.heap.size) (l : List Str) (t : TypeId) (hl : l.length * 16 ≤ 140737488355328) :
  RdL EStr ⟨some ⟨w.heap.size, 0, none⟩, l.length⟩ l M (w.alloc (.cells (l.map sV).toArray t)) := by
 refine ⟨Nat.le_refl _, by show l.length ≤ _; omega, hl, fun _ => ⟨_, rfl, by simp, fun hm => Nat.lt_irrefl _ (hM _ hm), fun i hi j v hv => ?_⟩⟩
 have hj : j = 0 := by
  obtain ⟨hlt, _⟩ := List.getElem?_eq_some_iff.1 hv
  simp [EStr] at hlt
  exact hlt
 subst hj
 simp only [EStr, List.getElem?_cons_zero, Option.some.injEq] at hv
 subst hv
 rw [hJ]
 have h0 := heap_alloc_new w (.cells (l.map sV).toArray t)
 simp only [EStr, World.cell?, h0]
 simp [hi]
end Go.Proofs.YtgkggkgdceapgaaGreatDoor.Fw

namespace Go.Proofs.YtgkggkgdceapgaaGreatDoor.Fw
open Go Go.RowKit
section
variable {P : Program} {T : Tab} {C : Cx} {ops : Array Oper} {o : Oper} {r r' : RS} {s : St} {Q : Post} {N : Nat} {SL : Slots} {BL : List Blk} {OW : List Own} {FA : List Pred} {c : Code}
theorem qk (l : Str) : Lib.strCells ⟨l.toArray⟩ = l.flatMap EByte.enc := by
 show (l.map fun b => Value.int .u8 b.toNat) = l.flatMap fun b => [yV b]
 induction l with
 | nil => rfl
 | cons a r ih => rw [List.map_cons, List.flatMap_cons, ih]; rfl
theorem tI {t u ty e : TypeId} {i : TypeInfo} (ht : P.underlying t = some (.slice e)) (hu : P.underlying u = some .string) (hi : P.info? e = some i) (w : World) {A : Option Addr} {n cap : Nat} (hn : n ≤ cap) {b : ByteArray} (hb : b.size = 0) :
  (Builtin.append_ #[t, u] ty #[.slice A n cap, .string b]).run P w = .ok (.slice A n cap) w := by
 have hx : b.data = #[] := Array.eq_empty_of_size_eq_zero hb
 cases A <;> simp [Builtin.append_, run_underlying ht, run_underlying hu, sizeOf, typeInfo, hi, Builtin.lenOf, Builtin.firstCells, hb, hn, storeCells, hx]
theorem vo {t u ty : Nat} {q : Own} {z : List Value} (hT : TabOk T P) (ht : T.slc t = some q.e) (hu : P.underlying u = some .string) {agg : Bool} (hz : T.siz q.e = some (q.esz, agg)) (hzz : T.zer q.e = some z) (hzl : z.length = 1) (hby : T.byt q.e = some q.by_) (hes : q.esz = 1) (hb1 : q.by_ = 1)
  {w : World} (hw : WOk C ⟨N, SL, BL, OW, FA⟩ w) (hq : OwnOk C w q) (l : Str) (hb : q.n + l.length ≤ 140737488355328) :
  ∃ A' c' b' w', (Builtin.append_ #[t, u] ty #[q.v, sV l]).run P w = .ok (.slice A' (q.n + l.length) c') w' ∧ OwnOk C w' ⟨.slice A' (q.n + l.length) c', b', q.e, q.esz, q.by_, q.n + l.length, q.xs ++ l.flatMap EByte.enc⟩ ∧ w.grownBy w' q.b ∧ (b' = q.b ∨ b' = none ∨ b' = some w.heap.size) := by
 obtain ⟨qv, qb, qe, qs, qby, qn, qx⟩ := q
 simp only at ht hz hzz hby hes hb1 hb hq ⊢
 subst hes; subst hb1
 have hut := hT.slc _ _ ht
 obtain ⟨ti, d, q1, q2, q3, q4⟩ := hT.siz _ _ _ hz
 obtain ⟨ti', hi', hby'⟩ := hT.byt _ _ hby
 obtain ⟨ti'', zv, hi'', hz'', hzc⟩ := hT.zer _ _ hzz
 rw [q1] at hi' hi''
 cases hi'; cases hi''
 have hzs : zv.cells.size = 1 := by rw [← hzl, ← hzc]; simp
 have hsz := mI l
 have hsc := qk l
 have hfl : (l.flatMap EByte.enc).length = l.length := by rw [← hsc, Lib.strCells_length, hsz]
 obtain ⟨hl', hn', hbb⟩ := hq
 simp only at hl' hn' hbb
 rw [Nat.mul_one] at hl'
 have e1 : (Array.map (fun b => Value.int .u8 b.toNat) (ByteArray.mk l.toArray).data) = (Lib.strCells ⟨l.toArray⟩).toArray := by
  apply Array.ext'
  simp [Lib.strCells]
 have grown : ∀ (old : Nat), OwnOk C (w.drew.alloc (.cells (qx.toArray ++ (l.flatMap EByte.enc).toArray ++ Builtin.zeroCells zv.cells (grownCap w (qn + l.length) old qe - (qn + l.length))) qe)) ⟨.slice (some ⟨w.heap.size, 0, none⟩) (qn + l.length) (grownCap w (qn + l.length) old qe), some w.heap.size, qe, 1, 1, qn + l.length, qx ++ l.flatMap EByte.enc⟩ := by
  intro old
  have hge := grownCap_ge w (qn + l.length) old qe
  have hcm : grownCap w (qn + l.length) old qe ≤ maxLen := grownCap_le_maxLen w (qn + l.length) old qe (by simp only [maxLen]; omega)
  refine ⟨by simp only [List.length_append, hl', hfl, Nat.mul_one], ⟨(by show qn + l.length ≤ _; omega), (by show (qn + l.length) * 1 ≤ _; omega)⟩, .inl hw.be.size, _, _, rfl, heap_alloc_new w.drew _, hge, by simpa [maxLen] using hcm, ?_, ?_⟩
  ·simp only [Array.size_append, List.size_toArray, size_zeroCells, hzs, hl', hfl]
   omega
  ·simp only [Array.toList_append, List.append_assoc, Nat.mul_one]
   rw [← List.append_assoc, show qn + l.length = (qx ++ l.flatMap EByte.enc).length by rw [List.length_append, hl', hfl]]
   exact List.take_left
 have hgr : ∀ (o : Obj) (row : Option Nat), w.grownBy (w.drew.alloc o) row := fun o row => ⟨rfl, rfl, rfl, by simp, fun k hk _ => heap_alloc_old w.drew _ k hk⟩
 have hnil : l.length = 0 → l = [] := fun h => List.eq_nil_of_length_eq_zero h
 cases qb with
 | none =>
  simp only at hbb
  obtain ⟨h0, A, rfl⟩ := hbb
  subst h0
  have hxs : qx = [] := List.eq_nil_of_length_eq_zero hl'
  subst hxs
  by_cases hm : l.length = 0
  ·have := hnil hm
   subst this
   exact ⟨A, 0, none, w, tI hut hu q1 w (Nat.le_refl _) hsz, ⟨rfl, ⟨Nat.zero_le _, Nat.zero_le _⟩, rfl, A, rfl⟩, ⟨rfl, rfl, rfl, Nat.le_refl _, fun _ _ _ => rfl⟩, .inl rfl⟩
  ·have hg := grown 0
   cases A with
   | none =>
    have hr := run_append_nil_string (P := P) w t u ty qe ti zv hut hu q1 hz'' ⟨l.toArray⟩ (by rw [hsz]; omega) (by rw [hsz]; omega) (by rw [hby', hsz]; omega)
    rw [e1, hsc, hsz] at hr
    simp only [Nat.zero_add, List.nil_append, Array.empty_append] at hg ⊢
    exact ⟨_, _, some w.heap.size, _, hr, hg, hgr _ _, .inr (.inr rfl)⟩
   | some a =>
    have hr := Lib.run_append_grow_string (P := P) w t u ty qe ti zv hut hu q1 hz'' a 0 0 [] (by simp) (by simp) ⟨l.toArray⟩ (by rw [hsz]; omega) (by rw [hsz]; omega) (by rw [hby', hsz]; exact growslice_fits (by omega) (by omega))
    rw [hsc, hsz] at hr
    exact ⟨_, _, some w.heap.size, _, hr, hg, hgr _ _, .inr (.inr rfl)⟩
 | some g =>
  simp only at hbb
  obtain ⟨hg, cap, cur, rfl, hh, hnc, hcap, hcs, htake⟩ := hbb
  rw [Nat.mul_one] at hcs htake
  by_cases hroom : qn + l.length ≤ cap
  ·have hr := Lib.run_append_room_string (P := P) w t u ty qe ti hut hu q1 q2 g qn cap cur hh ⟨l.toArray⟩ (by rw [hsz]; exact hroom) (by rw [hsz]; omega)
   rw [hsc, hsz] at hr
   refine ⟨_, _, some g, _, hr, ⟨by simp only [List.length_append, hl', hfl, Nat.mul_one], ⟨(by show qn + l.length ≤ _; omega), (by show (qn + l.length) * 1 ≤ _; omega)⟩, hg, cap, _, rfl, setRow_heap w g cur _ qe _ hh, hroom, hcap, ?_, ?_⟩, ⟨rfl, rfl, rfl, by simp, fun k _ hk => setRow_other w g k _ (fun e => hk (by simp [e]))⟩, .inl rfl⟩
   ·simp only [List.size_toArray, List.length_append, List.length_take, List.length_drop, Array.length_toList, hfl]
    omega
   ·simp only [Nat.mul_one]
    rw [htake, show qn + l.length = (qx ++ l.flatMap EByte.enc).length by rw [List.length_append, hl', hfl]]
    exact List.take_left
  ·have holds : ∀ j u, qx[j]? = some u → w.cell? ((⟨g, 0, none⟩ : Addr).add j) = some u := fun j u hj => by
    rw [hJ, Nat.zero_add]
    simp only [World.cell?, hh]
    have hjl := (List.getElem?_eq_some_iff.1 hj).1
    rw [← htake, List.getElem?_take, if_pos (by omega), Array.getElem?_toList] at hj
    exact hj
   have hr := Lib.run_append_grow_string (P := P) w t u ty qe ti zv hut hu q1 hz'' ⟨g, 0, none⟩ qn cap qx (by rw [q2]; omega) holds ⟨l.toArray⟩ (by rw [hsz]; omega) (by rw [hsz]; omega) (by rw [hby', hsz]; exact growslice_fits (by omega) (by omega))
   rw [hsc, hsz] at hr
   exact ⟨_, _, some w.heap.size, _, hr, grown cap, hgr _ _, .inr (.inr rfl)⟩
theorem lr (l m : Str) {e : TypeId} {X : SlV} {b : Option Nat} {d t u : Nat} {x y : Operand} {g0 g1 : Bool} {z : List Value} {agg : Bool} {ow' : SlV → Option Nat → List Own} {D : List Nat} (hf : Front ops r o D r') (hbD : ∀ g, b = some g → (∃ l, r = .sq l) ∨ g ∈ D) (hg : Guard ops SL o true) (hd : o.dst = some d) (hn : Nat.blt d N = true)
  (ho : o.op = .call ⟨.builtin .append, ⟨[x, y]⟩, ⟨[t, u]⟩⟩) (hx : ev SL x = some (g0, X.val l.length)) (hg0 : g0 = true) (hy : ev SL y = some (g1, sV m)) (hg1 : g1 = true)
  (hut : P.underlying u = some .string) (hu : ∀ (X' : SlV) b', UpdO OW (ownL EByte e X b l) [ownL EByte e X' b' (l ++ m)] (ow' X' b'))
  (ht : T.slc t = some e) (hz : T.siz e = some (1, agg)) (hzz : T.zer e = some z) (hzl : z.length = 1) (hby : T.byt e = some 1)
  (hb : l.length + m.length ≤ 140737488355328)
  (h : ∀ (X' : SlV) (b' : Option Nat), RW P T C ops r' ⟨N, (d, .v (X'.val (l ++ m).length)) :: SL, BL, ow' X' b', FA⟩ Q) : RW P T C ops r ⟨N, SL, BL, OW, FA⟩ Q := by
 have key : Loud P T C ⟨N, SL, BL, OW, FA⟩ o b.toList (fun s' => ∃ (X : SlV) (b' : Option Nat), s' = ⟨N, (d, .v (X.val (l ++ m).length)) :: SL, BL, ow' X b', FA⟩) := by
  intro hT a w hrep
  refine Oper.wp_mono ?_ (mc (D := b.toList) hd hn (K := fun u bl ow fa => ∃ (X : SlV) (b' : Option Nat), u = X.val (l ++ m).length ∧ bl = BL ∧ ow = ow' X b' ∧ fa = FA) ?_ hT a w hrep)
  ·rintro a' w' ⟨s', ⟨u, bl, ow, fa, ⟨X, b', e1, e2, e3, e4⟩, e5⟩, h2, h3⟩
   subst e1; subst e2; subst e3; subst e4
   exact ⟨s', ⟨X, b', e5⟩, h2, h3⟩
  ·intro hT a w hrep
   have hm : ownL EByte e X b l ∈ OW := by obtain ⟨l', r, e, _⟩ := (hu ⟨none, 0⟩ none).spec; rw [e]; simp
   have hq := hrep.wo.ow _ hm
   obtain ⟨A', c', b', w', hrun, ho', hgr, hbb⟩ := vo (ty := o.type) hT (q := ownL EByte e X b l) ht hut hz hzz hzl hby rfl rfl hrep.wo hq m hb
   simp only at hrun ho' hgr hbb
   have e1 : (l ++ m).length = l.length + m.length := List.length_append
   have e2 : (l ++ m).flatMap EByte.enc = l.flatMap EByte.enc ++ m.flatMap EByte.enc := List.flatMap_append
   have hu' := hu ⟨A', c'⟩ b'
   rw [ownL, ownL, e1, e2] at hu'
   refine ⟨.slice A' (l.length + m.length) c', w', BL, ow' ⟨A', c'⟩ b', FA, ?_, hrep.wo.swapO hu' ho' hgr hbb, ⟨hgr.size, fun k hk hn => hgr.block k hk fun e => hn (by rw [← e]; simp)⟩, ⟨A', c'⟩, b', by rw [e1]; rfl, rfl, rfl, rfl⟩
   simp only [execOp, ho, resolve, invoke, builtin, Sem.run_bind, Sem.run_pure, Result.andThen_ok, List.map_toArray, List.map_cons, List.map_nil, ev_ok hrep.sl hx hg0, ev_ok hrep.sl hy hg1, hrun]
 cases hf with
 | sq => exact nN hg key (fun s' ⟨X, b', e⟩ => by subst e; exact h X b')
 | lo _ hi hDD => exact rw_l (.lo b.toList hi hDD) hg key (fun s' ⟨X, b', e⟩ => by subst e; exact h X b')
 | an hi hDD =>
  refine rw_l (.an hi hDD) hg (fun hT a w hrep => Oper.wp_mono (fun a' w' ⟨s', h1, h2, h3⟩ => ⟨s', h1, h2, h3.mono fun k hk => ?_⟩) (key hT a w hrep)) (fun s' ⟨X, b', e⟩ => by subst e; exact h X b')
  rcases hbD k (by simpa using hk) with ⟨_, e⟩ | e
  ·cases e
  ·exact e
end
end Go.Proofs.YtgkggkgdceapgaaGreatDoor.Fw

namespace Go.Proofs.YtgkggkgdceapgaaGreatDoor.Fw
open Go Go.Lib
theorem ki {k : Nat} (h : k < 256) : (UInt8.ofNat k).toNat = k := by simp [UInt8.toNat_ofNat']; omega
theorem oC : ∀ (u : Nat), ∀ c ∈ decDigits u, 48 ≤ c.toNat ∧ c.toNat ≤ 57 := by
 intro u
 induction u using Nat.strongRecOn with
 | _ u ih =>
  intro c hc
  rw [decDigits] at hc
  split at hc
  ·rename_i h
   simp only [List.mem_singleton] at hc
   subst hc
   rw [ki (by omega)]; omega
  ·rename_i h
   rcases List.mem_append.1 hc with hc | hc
   ·exact ih _ (by omega) c hc
   ·simp only [List.mem_singleton] at hc
    subst hc
    rw [ki (by omega)]; omega
theorem uD (u : Nat) : decDigits u ≠ [] := by
 rw [decDigits]; split <;> simp
theorem qA : ∀ (l : Str) (acc v : Nat) (r : Str), parseUint10 acc l = .ok v → parseUint10 acc (l ++ r) = parseUint10 v r
 | [], acc, v, r, h => by simp only [parseUint10, NumEnd.ok.injEq] at h; subst h; rfl
 | c :: l, acc, v, r, h => by
  rw [List.cons_append]
  rw [parseUint10] at h ⊢
  split at h
  ·rename_i h1
   rw [if_pos h1]
   split at h
   ·cases h
   ·rename_i h2
    rw [if_neg h2]
    split at h
    ·cases h
    ·rename_i h3
     rw [if_neg h3]
     exact qA l _ v r h
  ·cases h
theorem qz : ∀ (u : Nat), u < 18446744073709551616 → parseUint10 0 (decDigits u) = .ok u := by
 intro u
 induction u using Nat.strongRecOn with
 | _ u ih =>
  intro hu
  rw [decDigits]
  split
  ·rename_i h
   rw [parseUint10, ki (by omega), if_pos (by omega), if_neg (by omega), if_neg (by omega), parseUint10]
   congr 1; omega
  ·rename_i h
   rw [qA _ _ _ _ (ih (u / 10) (by omega) (by omega)), parseUint10, ki (by omega), if_pos (by omega), if_neg (by omega), if_neg (by omega), parseUint10]
   congr 1; omega
theorem qV {n : Int} (h : -9223372036854775808 ≤ n ∧ n ≤ 9223372036854775807) : atoiAll (itoa n) = .ok n := by
 unfold itoa
 split
 ·rename_i hn
  have hp := qz n.natAbs (by omega)
  have hm : parseMag (decDigits n.natAbs) = .ok n.natAbs := by rw [parseMag, if_neg (uD _)]; exact hp
  rw [atoiAll_minus, hm]
  simp only [signed]
  rw [if_neg (by omega)]
  congr 1; omega
 ·rename_i hn
  have hp := qz n.toNat (by omega)
  have hd := oC n.toNat
  have hm : parseMag (decDigits n.toNat) = .ok n.toNat := by rw [parseMag, if_neg (uD _)]; exact hp
  cases hc : decDigits n.toNat with
  | nil => exact absurd hc (uD _)
  | cons c r =>
   have hcd := hd c (by rw [hc]; exact .head _)
   rw [hc] at hm
   rw [atoiAll_plain c r (by omega) (by omega), hm]
   simp only [signless]
   rw [if_neg (by omega)]
   congr 1; omega
theorem vP {n : Int} (h : -9223372036854775808 ≤ n ∧ n ≤ 9223372036854775807) : ate (itoa n) = false := by rw [ate, qV h]
theorem vO {n : Int} (h : -9223372036854775808 ≤ n ∧ n ≤ 9223372036854775807) : atv (itoa n) = n := by rw [atv, qV h]
theorem uv {n : Int} {c : UInt8} (h : c.toNat < 45) : c ∉ itoa n := by
 unfold itoa
 intro hc
 split at hc
 ·rcases List.mem_cons.1 hc with rfl | hc
  ·exact absurd h (by decide)
  ·have := oC _ c hc; omega
 ·have := oC _ c hc; omega
def glue (c : UInt8) (l : List Str) : Str := l.flatMap (fun t => c :: t)
theorem rL {c : UInt8} : ∀ (w : Str) (l : List Str), c ∉ w → (∀ t ∈ l, c ∉ t) → spl c (w ++ glue c l) = w :: l
 | w, [], hw, _ => by simp only [glue, List.flatMap_nil, List.append_nil]; exact rK hw
 | w, t :: l, hw, hl => by
  have e : w ++ glue c (t :: l) = w ++ c :: (t ++ glue c l) := by simp [glue]
  rw [e, pB _ hw, rL t l (hl t (.head _)) (fun u hu => hl u (.tail _ hu))]
theorem sb (c : UInt8) : ∀ (n : Nat) (s : Str), s.length ≤ n → ∃ w l, spl c s = w :: l ∧ s = w ++ glue c l
 | n, s, hn => by
  rcases at_c c s with h | ⟨p, r, h1, h2⟩
  ·exact ⟨s, [], rK h, by simp [glue]⟩
  ·cases n with
   | zero => rw [h1] at hn; simp at hn
   | succ n =>
    obtain ⟨w, l, h3, h4⟩ := sb c n r (by rw [h1] at hn; simp at hn; omega)
    refine ⟨p, w :: l, by rw [h1, pB r h2, h3], ?_⟩
    rw [h1]
    conv => lhs; rw [h4]
    simp [glue]
end Go.Proofs.YtgkggkgdceapgaaGreatDoor.Fw
