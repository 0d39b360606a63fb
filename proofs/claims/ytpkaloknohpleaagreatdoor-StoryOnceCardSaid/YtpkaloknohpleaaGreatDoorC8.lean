/- Part of this claim. No condition. -/
import Derived.Test.YtpkaloknohpleaaGreatDoorC7
import Derived.Test.YtpkaloknohpleaaGreatDoorC4
import Derived.Test.YtpkaloknohpleaaGreatDoorC3
import Derived.Lib.SplitLaws
import Derived.Lib.ItoaMem
import Derived.Lib.AtoiAllCases
import Derived.Lib.ParseIntBTie
import Derived.Lib.LaidTab
set_option linter.unusedVariables false
set_option linter.unusedSimpArgs false
set_option maxHeartbeats 2000000
namespace Go.Proofs.YtpkaloknohpleaaGreatDoor
open Go Go.Proofs.YtpkaloknohpleaaGreatDoor.Fw Go.Proofs
attribute [local irreducible] RdL RdN VarP RW CW
theorem m4 (a : Int) (cmp : Op → Op → Int) : ∀ (f : Nat) (data : List Op) (j : Int), (j - a).toNat < f → (ar a cmp f data j).length = data.length
 | 0, _, _, h => by omega
 | f + 1, data, j, h => by
  rw [ar]
  cases hc : decide (j > a) with
  | false => rfl
  | true =>
   have hc := of_decide_eq_true hc
   simp only [cond_true, Bool.true_and]
   cases decide (cmp (gt data j.toNat) (gt data (j - 1).toNat) < 0) with
   | false => rfl
   | true => simp only [cond_true]; rw [m4 a cmp f _ _ (by omega)]; simp
theorem m5 (a b : Int) (cmp : Op → Op → Int) : ∀ (f : Nat) (data : List Op) (i : Int), (b - i).toNat < f → (aR a b cmp f data i).length = data.length
 | 0, _, _, h => by omega
 | f + 1, data, i, h => by
  rw [aR]
  cases hc : decide (i < b) with
  | false => rfl
  | true =>
   have hc := of_decide_eq_true hc
   simp only [cond_true]
   rw [m5 a b cmp f _ _ (by omega), m4 a cmp _ _ _ (by omega)]
theorem kV (data : List Op) (a b : Int) (cmp : Op → Op → Int) : (av data a b cmp).length = data.length := m5 a b cmp _ data _ (by omega)
def aP (n1 : Int) (cmp1 : Op → Op → Int) : Nat → (List Op) → Int → Int → Int → (List Op)
 | 0, data3, blockSize1, a2, b2 => []
 | f_k1 + 1, data3, blockSize1, a2, b2 => (bif decide (blockSize1 < n1) then (bif decide ((2 * blockSize1) ≤ n1) then [] else (bif decide ((0 + blockSize1) < n1) then (aP n1 cmp1 f_k1 (ah 100 data3 0 (0 + blockSize1) n1 cmp1) (blockSize1 * 2) 0 (2 * blockSize1)) else (aP n1 cmp1 f_k1 data3 (blockSize1 * 2) 0 (2 * blockSize1)))) else data3)
def bI (n1 : Int) (cmp1 : Op → Op → Int) : Nat → (List Op) → Int → Int → (List Op)
 | 0, data2, a1, b1 => []
 | f_k0 + 1, data2, a1, b1 => (bif decide (b1 ≤ n1) then (bI n1 cmp1 f_k0 (av data2 a1 b1 cmp1) b1 (b1 + 20)) else (aP n1 cmp1 (41) (av data2 a1 n1 cmp1) 20 a1 b1))
def bC (data1 : List Op) (n1 : Int) (cmp1 : Op → Op → Int) : List Op :=
 (bI n1 cmp1 (n1.toNat + 21) data1 0 20)
theorem ib (y1 : SlV) (y1b : Option Nat) (data1 : List Op) (n1 : Int) (f1 : Nat) (caps1 : List Value) (pre1 : List Pred) [StabL pre1] (cmp1 : Op → Op → Int) (hfb1 : tab.fnb f1 = true) (hfn1 : ∀ (a0_ : Op) (a1_ : Op), Does Tryz.prog f1 ([.agg ⟨[.int .i64 a0_.time, .int .i64 a0_.who, .int .i64 a0_.node, .int .i64 a0_.parent, .int .i64 a0_.name, .int .i64 a0_.life, .int .i64 a0_.seq]⟩, .agg ⟨[.int .i64 a1_.time, .int .i64 a1_.who, .int .i64 a1_.node, .int .i64 a1_.parent, .int .i64 a1_.name, .int .i64 a1_.life, .int .i64 a1_.seq]⟩] ++ caps1) pre1 (fun (_ : Unit) => .int .i64 (cmp1 a0_ a1_)) (fun _ => [])) (hn : 0 ≤ n1 ∧ n1 ≤ 30 ∧ n1 ≤ (data1.length : Int)) : DoesG Tryz.prog 49 [y1.val data1.length, .int .i64 n1, .func (.func f1) #[] ⟨caps1⟩] pre1 ⟨[], [ownL EOp 49 y1 y1b data1]⟩ (fun (_ : Unit) => .tuple #[]) (fun _ => []) (fun _ => ⟨[], [ownL EOp 49 y1 y1b (bC data1 n1 cmp1)]⟩) := by
 refine co aZ Tryz.func49 rfl Tryz.ntmps49 Tryz.results49 rfl inferInstance (fun _ => inferInstance) fun C => ?_
 refine iL EOp (e := 49) (X := y1) (b := y1b) (l := data1) Mm fun hl63y1 hleny1 => ?_
 simp only [show EOp.by_ = 56 from rfl] at hleny1
 refine Tx ?_
 (repeat refine ao ?_); refine Lp [1,2,6] [] (fun (i_ : List Op × Int × Int × Nat) => match i_ with | ⟨data2, a1, b1, fz1⟩ => (⟨[(0, .v (y1.val data2.length)), (7, .v (.int .i64 a1)), (8, .v (.int .i64 b1))], [], [ownL EOp 49 y1 y1b data2], [], (0 ≤ a1 ∧ b1 = a1 + 20 ∧ a1 ≤ n1 ∧ data2.length = data1.length) ∧ ((n1 + 20 - b1).toNat < fz1) ∧ (bI n1 cmp1 fz1 data2 a1 b1) = (bC data1 n1 cmp1), fz1⟩ : Ls)) ⟨data1, 0, 20, n1.toNat + 21⟩ (Sc (Sc (Sc Sn))) (.nil) ⟨(by first | exact Nat.le_refl _ | exact Nat.zero_le _ | omega), (by first | exact Nat.le_refl _ | exact Nat.zero_le _ | omega), (by simp only [bC, Bool.true_and, Bool.and_true, Cf] : (bC data1 n1 cmp1) = (bI n1 cmp1 (n1.toNat + 21) data1 0 20)).symm⟩ Le5 ?_
 rintro ⟨data2, a1, b1, fz1⟩ ⟨hi0, hzfz1, hf1⟩
 simp only [List.cons_append, List.nil_append]
 have hlt0_ : (fz1 - 1) + 1 = fz1 := by omega
 refine Tx ?_
 refine Cd (b := decide (b1 ≤ n1)) (fun hc1 => ?_) fun hc1 => ?_
 ·have hc1p := of_decide_eq_true hc1
  refine Tx ?_
  refine aV (eu y1 y1b data2 a1 b1 _ _ _ cmp1 (by assumption) hfn1 (by omega)) .sq (.inl ⟨_, rfl⟩) (ac rfl) rfl rfl rfl Kr rfl rfl Sf (.nil _) Tk ?_
  intro _
  have hv1l : data2.length = (av data2 a1 b1 cmp1).length := (kV data2 a1 b1 cmp1).symm
  have hv1 : y1.val data2.length = y1.val (av data2 a1 b1 cmp1).length := congrArg (SlV.val y1) hv1l
  try rw [hv1]
  refine Tx ?_
  refine rw_q rfl rfl rfl (q_add rfl rfl Zf rfl Zf Zo) ?_
  refine Tx ?_
  refine ⟨⟨(av data2 a1 b1 cmp1), b1, (b1 + 20), (fz1 - 1)⟩, ⟨(by simp only [true_and]; omega), (by (try simp only []); first | omega | (simp only [List.length_append, List.length_cons, List.length_nil]; omega)), (by rw [← hf1]; (conv => lhs; rw [← hlt0_]); simp only [bI, hc1, Bool.true_and, Bool.and_true, Cf] : (bC data1 n1 cmp1) = (bI n1 cmp1 (fz1 - 1) (av data2 a1 b1 cmp1) b1 (b1 + 20))).symm⟩, (by simp only []; omega), Le5⟩
 ·have hc1p := of_decide_eq_false hc1
  refine Tx ?_
  refine aV (eu y1 y1b data2 a1 n1 _ _ _ cmp1 (by assumption) hfn1 (by omega)) .sq (.inl ⟨_, rfl⟩) (ac rfl) rfl rfl rfl Kr rfl rfl Sf (.nil _) Tk ?_
  intro _
  have hv2l : data2.length = (av data2 a1 n1 cmp1).length := (kV data2 a1 n1 cmp1).symm
  have hv2 : y1.val data2.length = y1.val (av data2 a1 n1 cmp1).length := congrArg (SlV.val y1) hv2l
  try rw [hv2]
  refine Tx ?_
  (repeat refine ao ?_); refine Lp [1,2] [] (fun (i_ : List Op × Int × Int × Int × Nat) => match i_ with | ⟨data3, blockSize1, a2, b2, fz2⟩ => (⟨[(0, .v (y1.val data3.length)), (6, .v (.int .i64 blockSize1)), (7, .v (.int .i64 a2)), (8, .v (.int .i64 b2))], [], [ownL EOp 49 y1 y1b data3], [], (20 ≤ blockSize1 ∧ blockSize1 ≤ 60 ∧ data3.length = data1.length) ∧ ((60 - blockSize1).toNat < fz2) ∧ (aP n1 cmp1 fz2 data3 blockSize1 a2 b2) = (bC data1 n1 cmp1), fz2⟩ : Ls)) ⟨(av data2 a1 n1 cmp1), 20, a1, b1, 41⟩ (Sc (Sc Sn)) (.nil) ⟨(by first | exact Nat.le_refl _ | exact Nat.zero_le _ | omega), (by first | exact Nat.le_refl _ | exact Nat.zero_le _ | omega), (by rw [← hf1]; (conv => lhs; rw [← hlt0_]); simp only [bI, hc1, Bool.true_and, Bool.and_true, Cf] : (bC data1 n1 cmp1) = (aP n1 cmp1 (41) (av data2 a1 n1 cmp1) 20 a1 b1)).symm⟩ Le5 ?_
  rintro ⟨data3, blockSize1, a2, b2, fz2⟩ ⟨hi1, hzfz2, hf2⟩
  simp only [List.cons_append, List.nil_append]
  have hlt1_ : (fz2 - 1) + 1 = fz2 := by omega
  refine Tx ?_
  refine Cd (b := decide (blockSize1 < n1)) (fun hc2 => ?_) fun hc2 => ?_
  ·have hc2p := of_decide_eq_true hc2
   refine Tx ?_
   refine rw_q rfl rfl rfl (q_mul rfl rfl Zf rfl Zf Zo) ?_
   refine Tx ?_
   (repeat refine ao ?_); refine vZ ?_
   refine Tx ?_
   refine Cd (b := decide ((2 * blockSize1) ≤ n1)) (fun hc3 => ?_) fun hc3 => ?_
   ·have hc3p := of_decide_eq_true hc3
    exact absurd (of_decide_eq_true hc3) (by omega)
   ·have hc3p := of_decide_eq_false hc3
    refine Tx ?_
    refine rw_q rfl rfl rfl (q_add rfl rfl Zf rfl Zf Zo) ?_
    refine Tx ?_
    refine Cd (b := decide ((0 + blockSize1) < n1)) (fun hc4 => ?_) fun hc4 => ?_
    ·have hc4p := of_decide_eq_true hc4
     refine Tx ?_
     refine aV (gH 100 y1 y1b data3 0 (0 + blockSize1) n1 _ _ _ cmp1 (by assumption) hfn1 (by omega) (by omega)) .sq (.inl ⟨_, rfl⟩) (ac rfl) rfl rfl rfl Kr rfl rfl Sf (.nil _) Tk ?_
     intro _
     have hv3l : data3.length = (ah 100 data3 0 (0 + blockSize1) n1 cmp1).length := (gq 100 data3 0 (0 + blockSize1) n1 cmp1 (by omega) (by omega)).symm
     have hv3 : y1.val data3.length = y1.val (ah 100 data3 0 (0 + blockSize1) n1 cmp1).length := congrArg (SlV.val y1) hv3l
     try rw [hv3]
     refine Tx ?_
     refine rw_q rfl rfl rfl (q_mul rfl rfl Zf rfl Zf Zo) ?_
     refine Tx ?_
     refine ⟨⟨(ah 100 data3 0 (0 + blockSize1) n1 cmp1), (blockSize1 * 2), 0, (2 * blockSize1), (fz2 - 1)⟩, ⟨(by (try simp only []); omega), (by (try simp only []); first | omega | (simp only [List.length_append, List.length_cons, List.length_nil]; omega)), (by rw [← hf2]; (conv => lhs; rw [← hlt1_]); simp only [aP, hc2, hc3, hc4, Bool.true_and, Bool.and_true, Cf] : (bC data1 n1 cmp1) = (aP n1 cmp1 (fz2 - 1) (ah 100 data3 0 (0 + blockSize1) n1 cmp1) (blockSize1 * 2) 0 (2 * blockSize1))).symm⟩, (by simp only []; omega), Le5⟩
    ·have hc4p := of_decide_eq_false hc4
     refine Tx ?_
     refine rw_q rfl rfl rfl (q_mul rfl rfl Zf rfl Zf Zo) ?_
     refine Tx ?_
     refine ⟨⟨data3, (blockSize1 * 2), 0, (2 * blockSize1), (fz2 - 1)⟩, ⟨(by (try simp only []); omega), (by (try simp only []); first | omega | (simp only [List.length_append, List.length_cons, List.length_nil]; omega)), (by rw [← hf2]; (conv => lhs; rw [← hlt1_]); simp only [aP, hc2, hc3, hc4, Bool.true_and, Bool.and_true, Cf] : (bC data1 n1 cmp1) = (aP n1 cmp1 (fz2 - 1) data3 (blockSize1 * 2) 0 (2 * blockSize1))).symm⟩, (by simp only []; omega), Le5⟩
  ·have hc2p := of_decide_eq_false hc2
   refine Tx ?_
   have hr1 : (bC data1 n1 cmp1) = data3 := by rw [← hf2]; (conv => lhs; rw [← hlt1_]); simp only [aP, hc2, Bool.true_and, Bool.and_true, Cf]
   rw [hr1]
   exact ⟨(), _, .nil, rfl, Sf, .nil _, Sp⟩
def aj (x1 : List Op) (cmp1 : Op → Op → Int) : List Op :=
 (bC x1 (x1.length : Int) cmp1)
theorem gQ (y1 : SlV) (y1b : Option Nat) (x1 : List Op) (f1 : Nat) (caps1 : List Value) (pre1 : List Pred) [StabL pre1] (cmp1 : Op → Op → Int) (hfb1 : tab.fnb f1 = true) (hfn1 : ∀ (a0_ : Op) (a1_ : Op), Does Tryz.prog f1 ([.agg ⟨[.int .i64 a0_.time, .int .i64 a0_.who, .int .i64 a0_.node, .int .i64 a0_.parent, .int .i64 a0_.name, .int .i64 a0_.life, .int .i64 a0_.seq]⟩, .agg ⟨[.int .i64 a1_.time, .int .i64 a1_.who, .int .i64 a1_.node, .int .i64 a1_.parent, .int .i64 a1_.name, .int .i64 a1_.life, .int .i64 a1_.seq]⟩] ++ caps1) pre1 (fun (_ : Unit) => .int .i64 (cmp1 a0_ a1_)) (fun _ => [])) (hx : x1.length ≤ 30) : DoesG Tryz.prog 25 [y1.val x1.length, .func (.func f1) #[] ⟨caps1⟩] pre1 ⟨[], [ownL EOp 49 y1 y1b x1]⟩ (fun (_ : Unit) => .tuple #[]) (fun _ => []) (fun _ => ⟨[], [ownL EOp 49 y1 y1b (aj x1 cmp1)]⟩) := by
 refine co aZ Tryz.func25 rfl Tryz.ntmps25 Tryz.results25 rfl inferInstance (fun _ => inferInstance) fun C => ?_
 refine iL EOp (e := 49) (X := y1) (b := y1b) (l := x1) Mm fun hl63y1 hleny1 => ?_
 simp only [show EOp.by_ = 56 from rfl] at hleny1
 refine Tx ?_
 refine aV (ib y1 y1b x1 (x1.length : Int) _ _ _ cmp1 (by assumption) hfn1 Zc) .sq (.inl ⟨_, rfl⟩) (ac rfl) rfl rfl rfl Kr rfl rfl Sf (.nil _) Tk ?_
 intro _
 refine dY ?_
 have hr1 : (aj x1 cmp1) = (bC x1 (x1.length : Int) cmp1) := by simp only [aj, Bool.true_and, Bool.and_true, Cf]
 rw [hr1]
 exact ⟨(), _, .nil, rfl, Sf, .nil _, Sp⟩
theorem uV (cmp : Op → Op → Int) (lt : Op → Op → Bool) (hlt : ∀ a b, decide (cmp a b < 0) = lt a b) (htr : ∀ a b c, lt c b = false → lt b a = false → lt c a = false) (has : ∀ a b, lt a b = true → lt b a = false) (U V : List Op) (hU : U.length = 20) (hV : U.length + V.length ≤ 30) (sU : Sorted lt U) (sV : Sorted lt V) (a b : Int) :
  ∃ W, aP ((U.length + V.length : Nat) : Int) cmp 41 (U ++ V) 20 a b = W ∧ W.Perm (U ++ V) ∧ Sorted lt W := by
 cases V with
 | nil =>
  refine ⟨U, ?_, by simp, sU⟩
  rw [aP]
  have : decide ((20 : Int) < ((U.length + ([] : List Op).length : Nat) : Int)) = false := by simp; omega
  rw [this]; simp
 | cons v V =>
  simp only [List.length_cons] at hV
  obtain ⟨W, h1, h2, h3⟩ := SM_Op cmp lt hlt htr has 100 [] U (v :: V) [] 0 (0 + 20) ((U.length + (v :: V).length : Nat) : Int) (by omega) (by simp) rfl (by simp; omega) (by simp) (by simp; omega) sU sV
  refine ⟨W, ?_, h2, h3⟩
  simp only [List.nil_append, List.append_nil] at h1
  rw [aP]
  have c1 : decide ((20 : Int) < ((U.length + (v :: V).length : Nat) : Int)) = true := by simp; omega
  have c2 : decide ((2 * 20 : Int) ≤ ((U.length + (v :: V).length : Nat) : Int)) = false := by simp; omega
  have c3 : decide ((0 + 20 : Int) < ((U.length + (v :: V).length : Nat) : Int)) = true := by simp; omega
  rw [c1, c2, c3, cond_true, cond_false, cond_true, h1, aP]
  have c4 : decide ((20 * 2 : Int) < ((U.length + (v :: V).length : Nat) : Int)) = false := by simp; omega
  rw [c4]; rfl
theorem ST_Op (cmp : Op → Op → Int) (lt : Op → Op → Bool) (hlt : ∀ a b, decide (cmp a b < 0) = lt a b) (htr : ∀ a b c, lt c b = false → lt b a = false → lt c a = false) (has : ∀ a b, lt a b = true → lt b a = false) (l : List Op) (hl : l.length ≤ 30) :
  (aj l cmp).Perm l ∧ Sorted lt (aj l cmp) := by
 have hfun : (fun a b => decide (cmp a b < 0)) = lt := by funext a b; exact hlt a b
 unfold aj bC
 have key : ∀ M : List Op, (isort lt [] M).Perm M ∧ Sorted lt (isort lt [] M) := fun M => ⟨by simpa using mr lt M [], mT htr has M [] (by simp [Sorted])⟩
 rw [show (l.length : Int).toNat + 21 = (l.length + 20) + 1 by simp, bI]
 by_cases h : 20 ≤ l.length
 ·have c1 : decide ((20 : Int) ≤ (l.length : Int)) = true := by simp; omega
  have e1 : av l 0 20 cmp = isort lt [] (l.take 20) ++ l.drop 20 := by
   have := IS_Op cmp [] (l.take 20) (l.drop 20) 0 20 rfl (by simp; omega)
   rw [List.nil_append, List.nil_append, List.take_append_drop, hfun] at this
   exact this
  rw [c1, cond_true, e1, bI]
  have c2 : decide ((20 + 20 : Int) ≤ (l.length : Int)) = false := by simp; omega
  have e2 : av (isort lt [] (l.take 20) ++ l.drop 20) 20 (l.length : Int) cmp = isort lt [] (l.take 20) ++ isort lt [] (l.drop 20) := by
   have := IS_Op cmp (isort lt [] (l.take 20)) (l.drop 20) [] 20 (l.length : Int) (by rw [kJ]; simp; omega) (by rw [kJ]; simp; omega)
   rw [List.append_nil, List.append_nil, hfun] at this
   exact this
  rw [c2, cond_false, e2]
  have hlen : ((isort lt [] (l.take 20)).length + (isort lt [] (l.drop 20)).length : Nat) = l.length := by rw [kJ, kJ]; simp; omega
  obtain ⟨W, h1, h2, h3⟩ := uV cmp lt hlt htr has (isort lt [] (l.take 20)) (isort lt [] (l.drop 20)) (by rw [kJ]; simp; omega) (by rw [hlen]; exact hl) (key _).2 (key _).2 20 (20 + 20)
  rw [hlen] at h1
  rw [h1]
  refine ⟨h2.trans ?_, h3⟩
  have := (key (l.take 20)).1.append (key (l.drop 20)).1
  rw [List.take_append_drop] at this
  exact this
 ·have c1 : decide ((20 : Int) ≤ (l.length : Int)) = false := by simp; omega
  have e1 : av l 0 (l.length : Int) cmp = isort lt [] l := by
   have := IS_Op cmp [] l [] 0 (l.length : Int) rfl (by simp)
   simp only [List.nil_append, List.append_nil, hfun] at this
   exact this
  rw [c1, cond_false, e1, aP]
  have c2 : decide ((20 : Int) < (l.length : Int)) = false := by simp; omega
  rw [c2]
  exact key l
theorem ua (l : List Op) (cmp : Op → Op → Int) (hl : l.length ≤ 30) : (aj l cmp).length = l.length := by
 have key : ∀ (d : List Op) (a b : Int), d.length = l.length → (aP (l.length : Int) cmp 41 d 20 a b).length = l.length := fun d a b hd => by
  rw [aP]
  cases hc : decide ((20 : Int) < (l.length : Int)) with
  | false => exact hd
  | true =>
   have hc := of_decide_eq_true hc
   have c2 : decide ((2 * 20 : Int) ≤ (l.length : Int)) = false := by simp; omega
   have c3 : decide ((0 + 20 : Int) < (l.length : Int)) = true := by simp; omega
   have c4 : decide ((20 * 2 : Int) < (l.length : Int)) = false := by simp; omega
   rw [c2, c3, cond_true, cond_false, cond_true, aP, c4, cond_false, gq 100 _ _ _ _ _ (by omega) (by omega)]
   exact hd
 unfold aj bC
 rw [show (l.length : Int).toNat + 21 = (l.length + 20) + 1 by simp, bI]
 cases hc : decide ((20 : Int) ≤ (l.length : Int)) with
 | false => rw [cond_false]; exact key _ _ _ (kV _ _ _ _)
 | true =>
  have hc := of_decide_eq_true hc
  have c2 : decide ((20 + 20 : Int) ≤ (l.length : Int)) = false := by simp; omega
  rw [cond_true, bI, c2, cond_false]
  exact key _ _ _ (by rw [kV, kV])
def cl (k1 : Nat) : Nat → (List Op) → Int → Int → (List Op)
 | 0, s2, i1, j1 => default
 | f_k0 + 1, s2, i1, j1 => (bif decide (i1 < j1) then (cl k1 f_k0 ((s2.set (k1 + i1.toNat) (gt s2 (k1 + j1.toNat))).set (k1 + j1.toNat) (gt s2 (k1 + i1.toNat))) (i1 + 1) (j1 - 1)) else s2)
def aF (s1 : List Op) (k1 : Nat) : List Op :=
 (cl k1 (s1.length + 2) s1 0 (((s1.drop k1).length : Int) - 1))
theorem jI (y1 : SlV) (y1b : Option Nat) (s1 : List Op) (k1 : Nat) (hk : k1 ≤ s1.length) : DoesG Tryz.prog 128 [(⟨slA y1.a y1.c k1 EOp.esz, y1.c - k1⟩ : SlV).val (s1.drop k1).length] [] ⟨[], [ownL EOp 49 y1 y1b s1]⟩ (fun (_ : Unit) => .tuple #[]) (fun _ => []) (fun _ => ⟨[], [ownL EOp 49 y1 y1b (aF s1 k1)]⟩) := by
 refine co aZ Tryz.func128 rfl Tryz.ntmps128 Tryz.results128 rfl inferInstance (fun _ => inferInstance) fun C => ?_
 refine iL EOp (e := 49) (X := y1) (b := y1b) (l := s1) Mm fun hl63y1 hleny1 => ?_
 simp only [show EOp.by_ = 56 from rfl] at hleny1
 have hkd : (s1.drop k1).length = s1.length - k1 := List.length_drop
 refine Tx ?_
 refine rw_q rfl rfl rfl (q_sub rfl rfl Zf rfl Zf Zo) ?_
 refine Tx ?_
 (repeat refine ao ?_); refine Lp [] [] (fun (i_ : List Op × Int × Int × Nat) => match i_ with | ⟨s2, i1, j1, fz1⟩ => (⟨[(0, .v ((⟨slA y1.a y1.c k1 EOp.esz, y1.c - k1⟩ : SlV).val (s2.drop k1).length)), (2, .v (.int .i64 i1)), (3, .v (.int .i64 j1))], [], [ownL EOp 49 y1 y1b s2], [], (0 ≤ i1 ∧ i1 + j1 = ((s1.drop k1).length : Int) - 1 ∧ s2.length = s1.length) ∧ ((j1 - i1 + 1).toNat < fz1) ∧ (cl k1 fz1 s2 i1 j1) = (aF s1 k1), fz1⟩ : Ls)) ⟨s1, 0, (((s1.drop k1).length : Int) - 1), s1.length + 2⟩ Sn (.nil) ⟨⟨by simp, by simp, rfl⟩, (by first | exact Nat.le_refl _ | exact Nat.zero_le _ | omega), (by simp only [aF, Bool.true_and, Bool.and_true, Cf] : (aF s1 k1) = (cl k1 (s1.length + 2) s1 0 (((s1.drop k1).length : Int) - 1))).symm⟩ Le4 ?_
 rintro ⟨s2, i1, j1, fz1⟩ ⟨hi, hzfz1, hf1⟩
 simp only [List.cons_append, List.nil_append]
 have hlt0_ : (fz1 - 1) + 1 = fz1 := by omega
 refine Tx ?_
 refine Cd (b := decide (i1 < j1)) (fun hc1 => ?_) fun hc1 => ?_
 ·have hc1p := of_decide_eq_true hc1
  refine Tx ?_
  (repeat refine ao ?_); refine au (fun j => match j with | 13 => some y1b.toList | 15 => some y1b.toList | _ => some []) ?_
  refine Ra 0 rfl Qp ?_
  refine Ra 1 rfl Qp ?_
  refine ra_q (.an (i := 2) (js := [3, 4, 5, 6, 7, 8, 9, 10, 11, 12, 13]) rfl Kr Kr Kr Kr) (bK.all _) (by intro g hg; simp only [List.mem_append, List.mem_singleton, List.not_mem_nil, or_false, false_or, Option.mem_toList, Option.mem_def, List.append_nil] at hg; first | exact .inr ⟨ownL EOp 49 y1 y1b s2, Mm, hg⟩) rfl rfl rfl (q_pev rfl Zf) ?_
  refine ra_q (.an (i := 3) (js := [4, 5, 6, 7, 8, 9, 10, 11, 12, 13]) rfl Kr Kr Kr Kr) (bK.all _) (by intro g hg; simp only [List.mem_append, List.mem_singleton, List.not_mem_nil, or_false, false_or, Option.mem_toList, Option.mem_def, List.append_nil] at hg; first | exact .inr ⟨ownL EOp 49 y1 y1b s2, Mm, hg⟩) rfl rfl rfl (q_pev rfl Zf) ?_
  refine Rb 4 rfl Qp ?_
  refine Rb 5 rfl Qp ?_
  refine rw_qO EOp (e := 49) (X := y1) (b := y1b) (l := s2) Mm (.an (i := 6) (js := [8, 9, 10, 11]) rfl Kr Kr Kr Kr) rfl rfl rfl (rC EOp (l := s2) (X := y1) (k := k1) j1.toNat rfl rfl Zf rfl Zf rfl rfl rfl (.head _) Zo Za) ?_
  refine rw_qO EOp (e := 49) (X := y1) (b := y1b) (l := s2) Mm (.an (i := 7) (js := [8, 9, 10, 11]) rfl Kr Kr Kr Kr) rfl rfl rfl (q_leA EOp rfl rfl Zf rfl rfl (.head _) Za) ?_
  refine Rb 8 rfl Qp ?_
  refine Rb 9 rfl Qp ?_
  refine rw_qO EOp (e := 49) (X := y1) (b := y1b) (l := s2) Mm (.ab (i := 10) (js := []) [11, 12, 13, 14, 15] rfl Kr Kr Kr Kr Kr) rfl rfl rfl (rC EOp (l := s2) (X := y1) (k := k1) i1.toNat rfl rfl Zf rfl Zf rfl rfl rfl (.head _) Zo Za) ?_
  refine rw_qO EOp (e := 49) (X := y1) (b := y1b) (l := s2) Mm (.an (i := 11) (js := []) rfl Kr Kr Kr Kr) rfl rfl rfl (q_leA EOp rfl rfl Zf rfl rfl (.head _) Za) ?_
  refine rw_qO EOp (e := 49) (X := y1) (b := y1b) (l := s2) Mm (.an (i := 12) (js := []) rfl Kr Kr Kr Kr) rfl rfl rfl (rC EOp (l := s2) (X := y1) (k := k1) i1.toNat rfl rfl Zf rfl Zf rfl rfl rfl (.head _) Zo Za) ?_
  refine ap 13 Kr ?_
  refine kh EOp s2 (k1 + i1.toNat) 0 (gt s2 (k1 + j1.toNat)) (e := 49) (X := y1) (b := y1b) (.an rfl rfl) (.inr (fun g h => by simp [h])) (ac rfl) rfl rfl rfl rfl rfl rfl rfl rfl rfl rfl rfl Zb rfl Uo ?_
  have hv1 : y1.val s2.length = y1.val (s2.set (k1 + i1.toNat) (gt s2 (k1 + j1.toNat))).length := congrArg (SlV.val y1) List.length_set.symm
  try rw [hv1]
  have hv2 : (⟨slA y1.a y1.c k1 EOp.esz, y1.c - k1⟩ : SlV).val (s2.drop k1).length = (⟨slA y1.a y1.c k1 EOp.esz, y1.c - k1⟩ : SlV).val ((s2.set (k1 + i1.toNat) (gt s2 (k1 + j1.toNat))).drop k1).length := by congr 1; simp only [List.length_drop, List.length_set] <;> omega
  try rw [hv2]
  refine rw_qO EOp (e := 49) (X := y1) (b := y1b) (l := (s2.set (k1 + i1.toNat) (gt s2 (k1 + j1.toNat)))) Mm (.an (i := 14) (js := []) rfl Kr Kr Kr Kr) rfl rfl rfl (rC EOp (l := (s2.set (k1 + i1.toNat) (gt s2 (k1 + j1.toNat)))) (X := y1) (k := k1) j1.toNat rfl rfl Zf rfl Zf rfl rfl rfl (.head _) Zo Za) ?_
  refine ap 15 Kr ?_
  refine kh EOp (s2.set (k1 + i1.toNat) (gt s2 (k1 + j1.toNat))) (k1 + j1.toNat) 0 (gt s2 (k1 + i1.toNat)) (e := 49) (X := y1) (b := y1b) (.an rfl rfl) (.inr (fun g h => by simp [h])) (ac rfl) rfl rfl rfl rfl rfl rfl rfl rfl rfl rfl rfl Zb rfl Uo ?_
  have hv3 : y1.val (s2.set (k1 + i1.toNat) (gt s2 (k1 + j1.toNat))).length = y1.val ((s2.set (k1 + i1.toNat) (gt s2 (k1 + j1.toNat))).set (k1 + j1.toNat) (gt s2 (k1 + i1.toNat))).length := congrArg (SlV.val y1) List.length_set.symm
  try rw [hv3]
  have hv4 : (⟨slA y1.a y1.c k1 EOp.esz, y1.c - k1⟩ : SlV).val ((s2.set (k1 + i1.toNat) (gt s2 (k1 + j1.toNat))).drop k1).length = (⟨slA y1.a y1.c k1 EOp.esz, y1.c - k1⟩ : SlV).val (((s2.set (k1 + i1.toNat) (gt s2 (k1 + j1.toNat))).set (k1 + j1.toNat) (gt s2 (k1 + i1.toNat))).drop k1).length := by congr 1; simp only [List.length_drop, List.length_set] <;> omega
  try rw [hv4]
  refine bn Kr ?_
  refine Tx ?_
  refine rw_q rfl rfl rfl (q_add rfl rfl Zf rfl Zf Zo) ?_
  refine Rp rfl rfl rfl rfl ?_
  refine rw_q rfl rfl rfl (q_sub rfl rfl Zf rfl Zf Zo) ?_
  refine Tx ?_
  refine ⟨⟨((s2.set (k1 + i1.toNat) (gt s2 (k1 + j1.toNat))).set (k1 + j1.toNat) (gt s2 (k1 + i1.toNat))), (i1 + 1), (j1 - 1), (fz1 - 1)⟩, ⟨(by simp only [List.length_set]; omega), (by (try simp only []); first | omega | (simp only [List.length_append, List.length_cons, List.length_nil]; omega)), (by rw [← hf1]; (conv => lhs; rw [← hlt0_]); simp only [cl, hc1, Bool.true_and, Bool.and_true, Cf] : (aF s1 k1) = (cl k1 (fz1 - 1) ((s2.set (k1 + i1.toNat) (gt s2 (k1 + j1.toNat))).set (k1 + j1.toNat) (gt s2 (k1 + i1.toNat))) (i1 + 1) (j1 - 1))).symm⟩, (by simp only []; omega), Le4⟩
 ·have hc1p := of_decide_eq_false hc1
  refine Tx ?_
  have hr1 : (aF s1 k1) = s2 := by rw [← hf1]; (conv => lhs; rw [← hlt0_]); simp only [cl, hc1, Bool.true_and, Bool.and_true, Cf]
  rw [hr1]
  exact ⟨(), _, .nil, rfl, Sm, .nil _, Sp⟩
theorem m3 (k : Nat) : ∀ (f : Nat) (s : List Op) (i j : Int), (j - i + 1).toNat < f → (cl k f s i j).length = s.length
 | 0, _, _, _, h => by omega
 | f + 1, s, i, j, h => by
  rw [cl]
  cases hc : decide (i < j) with
  | false => rfl
  | true =>
   have hc := of_decide_eq_true hc
   simp only [cond_true]
   rw [m3 k f _ _ _ (by omega)]; simp
theorem uc (s : List Op) (k : Nat) (h : k ≤ s.length) : (aF s k).length = s.length := m3 k _ s _ _ (by simp; omega)
theorem uX (k : Nat) : ∀ (n : Nat) (A M B : List Op) (f : Nat), M.length = n → A.length = B.length → k ≤ (A.length + k) → ∀ P : List Op, P.length = k → n + 1 < f →
  cl k f (P ++ (A ++ (M ++ B))) (A.length : Int) ((A.length + M.length : Nat) - 1 : Int) = P ++ (A ++ (M.reverse ++ B)) := by
 intro n
 induction n using Nat.strongRecOn with
 | _ n ih =>
  intro A M B f hM hAB _ P hP hf
  obtain ⟨f, rfl⟩ : ∃ g, f = g + 1 := ⟨f - 1, by omega⟩
  rw [cl]
  match M, hM with
  | [], hM =>
   have : decide ((A.length : Int) < ((A.length + ([] : List Op).length : Nat) - 1 : Int)) = false := by simp; omega
   rw [this]; rfl
  | [x], hM =>
   have : decide ((A.length : Int) < ((A.length + [x].length : Nat) - 1 : Int)) = false := by simp
   rw [this]; rfl
  | x :: y :: M', hM =>
   obtain ⟨L, z, hL⟩ : ∃ L z, y :: M' = L ++ [z] := ⟨(y :: M').dropLast, (y :: M').getLast (by simp), (List.dropLast_concat_getLast (by simp)).symm⟩
   rw [hL] at hM ⊢
   simp only [List.length_cons, List.length_append, List.length_nil] at hM
   have hc : decide ((A.length : Int) < ((A.length + (x :: (L ++ [z])).length : Nat) - 1 : Int)) = true := by simp; omega
   have e0 : k + (A.length : Int).toNat = (P ++ A).length := by simp; omega
   have e1 : k + ((A.length + (x :: (L ++ [z])).length : Nat) - 1 : Int).toNat = (P ++ (A ++ (x :: L))).length := by simp; omega
   have e2 : k + ((A.length + (x :: (L ++ [z])).length : Nat) - 1 : Int).toNat = (P ++ (A ++ (z :: L))).length := by simp; omega
   have d0 : P ++ (A ++ (x :: (L ++ [z]) ++ B)) = (P ++ A) ++ x :: (L ++ ([z] ++ B)) := by simp
   have d1 : P ++ (A ++ (x :: (L ++ [z]) ++ B)) = (P ++ (A ++ (x :: L))) ++ z :: B := by simp
   have g0 : gt (P ++ (A ++ (x :: (L ++ [z]) ++ B))) (k + (A.length : Int).toNat) = x := by rw [d0]; exact jA _ _ _ _ e0
   have g1 : gt (P ++ (A ++ (x :: (L ++ [z]) ++ B))) (k + ((A.length + (x :: (L ++ [z])).length : Nat) - 1 : Int).toNat) = z := by rw [d1]; exact jA _ _ _ _ e1
   have s0 : (P ++ (A ++ (x :: (L ++ [z]) ++ B))).set (k + (A.length : Int).toNat) z = (P ++ A) ++ z :: (L ++ ([z] ++ B)) := by rw [d0]; exact iy _ _ _ _ _ e0
   rw [hc, cond_true, g0, g1, s0, show (P ++ A) ++ z :: (L ++ ([z] ++ B)) = (P ++ (A ++ (z :: L))) ++ z :: B by simp, iy _ _ _ _ _ e2]
   have h := ih L.length (by omega) (A ++ [z]) L (x :: B) f rfl (by simp [hAB]) (by omega) P hP (by omega)
   rw [show (((A ++ [z]).length : Nat) : Int) = (A.length : Int) + 1 by simp, show ((((A ++ [z]).length + L.length : Nat) : Int) - 1) = ((A.length + (x :: (L ++ [z])).length : Nat) - 1 : Int) - 1 by simp; omega] at h
   rw [show (P ++ (A ++ (z :: L))) ++ x :: B = P ++ (A ++ [z] ++ (L ++ x :: B)) by simp, h]
   simp
theorem RK_Op (s : List Op) (k : Nat) (h : k ≤ s.length) : aF s k = s.take k ++ (s.drop k).reverse := by
 unfold aF
 have := uX k (s.drop k).length [] (s.drop k) [] (s.length + 2) rfl rfl (by omega) (s.take k) (by simp; omega) (by simp; omega)
 simp only [List.nil_append, List.append_nil, List.take_append_drop, List.length_nil, Nat.zero_add] at this
 exact this
def aD (a1 : Op) (b1 : Op) : Int :=
 (bif (eK (⟨a1.time, a1.who⟩ : Stamp) (⟨b1.time, b1.who⟩ : Stamp)) then (-1) else (bif (eK (⟨b1.time, b1.who⟩ : Stamp) (⟨a1.time, a1.who⟩ : Stamp)) then 1 else 0))
theorem lC (a1 : Op) (b1 : Op) : Does Tryz.prog 26 [.agg ⟨[.int .i64 a1.time, .int .i64 a1.who, .int .i64 a1.node, .int .i64 a1.parent, .int .i64 a1.name, .int .i64 a1.life, .int .i64 a1.seq]⟩, .agg ⟨[.int .i64 b1.time, .int .i64 b1.who, .int .i64 b1.node, .int .i64 b1.parent, .int .i64 b1.name, .int .i64 b1.life, .int .i64 b1.seq]⟩] [] (fun (_ : Unit) => .int .i64 (aD a1 b1)) (fun _ => []) := by
 refine bj aZ Tryz.func26 rfl Tryz.ntmps26 Tryz.results26 rfl inferInstance (fun _ => inferInstance) fun C => ?_
 refine Tx ?_
 refine Bx fun g1 => ?_
 refine Bx fun g2 => ?_
 refine Tx ?_
 refine Cl (gS (⟨a1.time, a1.who⟩ : Stamp) (⟨b1.time, b1.who⟩ : Stamp)) fun _ => ?_
 refine dY ?_
 (repeat refine ao ?_)
 refine Cd (b := (eK (⟨a1.time, a1.who⟩ : Stamp) (⟨b1.time, b1.who⟩ : Stamp))) (fun hc1 => ?_) fun hc1 => ?_
 ·refine Tx ?_
  refine ai ?_; simp only [aD, hc1, Cf]; exact Re () (Vt Vn)
 ·refine Tx ?_
  refine Cl (gS (⟨b1.time, b1.who⟩ : Stamp) (⟨a1.time, a1.who⟩ : Stamp)) fun _ => ?_
  refine dY ?_
  (repeat refine ao ?_)
  refine Cd (b := (eK (⟨b1.time, b1.who⟩ : Stamp) (⟨a1.time, a1.who⟩ : Stamp))) (fun hc2 => ?_) fun hc2 => ?_
  ·refine Tx ?_
   refine ai ?_; simp only [aD, hc1, hc2, Cf]; exact Re () (Vt Vn)
  ·refine Tx ?_
   refine ai ?_; simp only [aD, hc1, hc2, Cf]; exact Re () (Vt Vn)
def cR (l1 : List Op) : List Op → Nat → (List Step) → (List Place) → (History × Int)
 | [], n2, l2, p1 => ((⟨l2, p1⟩ : History), 0)
 | pn2 :: rn2, n2, l2, p1 => (bif (decide ((n2 : Int) > 0) && decide ((⟨(gt (aj l1 aD) (n2 - 1)).time, (gt (aj l1 aD) (n2 - 1)).who⟩ : Stamp) = (⟨pn2.time, pn2.who⟩ : Stamp))) then ((⟨[], []⟩ : History), 6) else (bif ((cI p1 pn2).2.2 != 0) then ((⟨[], []⟩ : History), (cI p1 pn2).2.2) else (cR l1 rn2 (n2 + 1) (l2 ++ [(cI p1 pn2).2.1]) (cI p1 pn2).1)))
def db (l1 : List Op) : List Op → (History × Int)
 | [] => (cR l1 (aj l1 aD) 0 [] [])
 | pn1 :: rn1 => (bif ((ck pn1) != 0) then ((⟨[], []⟩ : History), (ck pn1)) else (db l1 rn1))
def aQ (l1 : List Op) : History × Int :=
 (bif decide ((l1.length : Int) > 30) then ((⟨[], []⟩ : History), 2) else (db l1 l1))
theorem jx (y1 : SlV) (l1 : List Op) : Does Tryz.prog 10 [y1.val l1.length] [RdL EOp y1 l1] (fun (X : SlV × SlV) => .tuple #[.agg ⟨[X.1.val (aQ l1).1.l.length, X.2.val (aQ l1).1.t.length]⟩, .int .i64 (aQ l1).2]) (fun X => [RdL EStep X.1 (aQ l1).1.l, RdL EPlace X.2 (aQ l1).1.t]) := by
 refine bj aZ Tryz.func10 rfl Tryz.ntmps10 Tryz.results10 rfl inferInstance (fun _ => inferInstance) fun C => ?_
 refine Pc EOp y1 l1 56 fun hlen1 => ?_
 refine Tx ?_
 refine Al fun g1 => ?_
 refine Tx ?_
 refine Cd (b := decide ((l1.length : Int) > 30)) (fun hc1 => ?_) fun hc1 => ?_
 ·have hc1p := of_decide_eq_true hc1
  refine Tx ?_
  refine Fc EStep ?_
  refine Fc EPlace ?_
  refine ai ?_; simp only [aQ, hc1, Cf]; exact Re ⟨(⟨none, 0⟩ : SlV), (⟨none, 0⟩ : SlV)⟩ (Va (Vt Vn))
 ·have hc1p := of_decide_eq_false hc1
  refine Tx ?_
  (repeat refine ao ?_); refine Lp [0,2,3,17,18] [true] (fun (n1 : Nat) => (⟨[(19, .v (.int .i64 (n1 : Int)))], [], [], [], (n1 ≤ l1.length) ∧ (db l1 (l1.drop n1)) = (aQ l1), l1.length - n1⟩ : Ls)) 0 (Sc (Sc (Sc (Sc (Sc Sn))))) (.keep (.nil)) ⟨Nat.zero_le _, (by simp only [aQ, hc1, Cf] : (aQ l1) = (db l1 l1)).symm⟩ Le4 ?_
  rintro n1 ⟨hkn1, hf1⟩
  simp only [List.cons_append, List.nil_append]
  refine Tx ?_
  refine Cd (b := decide ((n1 : Int) < (l1.length : Int))) (fun hc2 => ?_) fun hc2 => ?_
  ·have hlt0 : n1 < l1.length := Int.ofNat_lt.1 (of_decide_eq_true hc2)
   refine Tx ?_
   refine rw_q rfl rfl rfl (q_idx EOp n1 rfl rfl Zf rfl Zf rfl rfl rfl Mm rfl Zf (fun _ => by first | assumption | omega)) ?_
   refine rw_q rfl rfl rfl (q_leA EOp rfl rfl Zf rfl rfl Mm (fun _ => by first | assumption | omega)) ?_
   refine Al fun g2 => ?_
   refine Tx ?_
   refine Cl (ef (gt l1 n1)) fun _ => ?_
   refine Tx ?_
   refine Cd (b := ((ck (gt l1 n1)) != 0)) (fun hc3 => ?_) fun hc3 => ?_
   ·have hc3p := bne_iff_ne.1 hc3
    refine Tx ?_
    refine Fc EStep ?_
    refine Fc EPlace ?_
    refine ai ?_; rw [show (aQ l1) = ((⟨[], []⟩ : History), (ck (gt l1 n1))) by rw [← hf1, aE hlt0]; simp only [db, hc3, Cf]]; exact Re ⟨(⟨none, 0⟩ : SlV), (⟨none, 0⟩ : SlV)⟩ (Va (Vt Vn))
   ·have hc3p := ae hc3
    refine Tx ?_
    refine rw_q rfl rfl rfl (q_add rfl rfl Zf rfl Zf Zo) ?_
    refine Tx ?_
    refine ⟨(n1 + 1), ⟨hlt0, (by rw [← hf1, aE hlt0]; simp only [db, hc3, Cf] : (aQ l1) = (db l1 (l1.drop (n1 + 1)))).symm⟩, (by simp only []; omega), Le4⟩
  ·have hge0 : l1.length ≤ n1 := by have := of_decide_eq_false hc2; omega
   refine Tx ?_
   refine Cg (hJ y1 l1) fun x1 => ?_
   refine Tx ?_
   refine aV (gQ x1.1 x1.2 l1 _ _ _ aD Kr (fun a0_ a1_ => lC a0_ a1_) (by omega)) .sq (.inl ⟨_, rfl⟩) (ac rfl) rfl rfl rfl Kr rfl rfl Sm (.nil _) Tk ?_
   intro _
   have hv1l : l1.length = (aj l1 aD).length := (ua l1 aD (by omega)).symm
   have hv1 : x1.1.val l1.length = x1.1.val (aj l1 aD).length := congrArg (SlV.val x1.1) hv1l
   try rw [hv1]
   refine Tx ?_
   refine Al fun g3 => ?_
   refine Tx ?_
   refine cw_le (ay EOp 49 x1.1 x1.2 (aj l1 aD) Uo) ?_
   refine Pc EOp x1.1 (aj l1 aD) 56 fun hlen2 => ?_
   (repeat refine ao ?_); refine Lp [0,2,3,7,34,35] [false, true] (fun (i_ : Nat × List Step × SlV × Option Nat × List Place × SlV) => match i_ with | ⟨n2, l2, x2, x2b, p1, x3⟩ => (⟨[(36, .v (.int .i64 (n2 : Int)))], [⟨g3, 29, [x2.val l2.length, x3.val p1.length]⟩], [ownL EStep 85 x2 x2b l2], [RdL EPlace x3 p1], (n2 ≤ (aj l1 aD).length) ∧ (l2.length ≤ n2) ∧ (l2.length = n2) ∧ (cR l1 ((aj l1 aD).drop n2) n2 l2 p1) = (aQ l1), (aj l1 aD).length - n2⟩ : Ls)) ⟨0, [], ⟨none, 0⟩, none, [], ⟨none, 0⟩⟩ (Sc (Sc (Sc (Sc (Sc (Sc Sn)))))) (.drop (.keep (.nil))) ⟨Nat.zero_le _, (by first | exact Nat.le_refl _ | exact Nat.zero_le _ | omega), rfl, (by rw [← hf1, List.drop_of_length_le hge0]; simp only [db, Cf] : (aQ l1) = (cR l1 (aj l1 aD) 0 [] [])).symm⟩ (Le.trans (eO EStep 85) (Le.trans (tH (RdL EPlace ⟨none, 0⟩ ([] : List Place)) [] (.nil _) (fun M w _ => RdL.nil _ _ _ (by omega) M w)) Le4)) ?_
   rintro ⟨n2, l2, x2, x2b, p1, x3⟩ ⟨hkn2, hl2, hhl, hf2⟩
   simp only [List.cons_append, List.nil_append]
   refine Tx ?_
   refine Cd (b := decide ((n2 : Int) < ((aj l1 aD).length : Int))) (fun hc4 => ?_) fun hc4 => ?_
   ·have hlt1 : n2 < (aj l1 aD).length := Int.ofNat_lt.1 (of_decide_eq_true hc4)
    refine Tx ?_
    refine rw_q rfl rfl rfl (q_idx EOp n2 rfl rfl Zf rfl Zf rfl rfl rfl Mm rfl Zf (fun _ => by first | assumption | omega)) ?_
    refine rw_q rfl rfl rfl (q_leA EOp rfl rfl Zf rfl rfl Mm (fun _ => by first | assumption | omega)) ?_
    refine Al fun g4 => ?_
    refine Tx ?_
    (repeat refine ao ?_); refine au (fun _ => some []) ?_
    refine Rb 0 rfl Qp ?_
    refine Rb 1 rfl Qp ?_
    refine Ra 2 rfl Qp ?_
    refine Gb 3 rfl (aG rfl rfl rfl) (q_pev rfl Bt) ?_
    refine Gb 4 rfl (aG rfl rfl rfl) (q_pev rfl Bt) ?_
    refine Gb 5 rfl (aG rfl rfl rfl) (q_sub rfl rfl Bt rfl Bt (by intro h; first | omega | (simp at h; omega))) ?_
    refine Gb 6 rfl (aG rfl rfl rfl) (q_idx EOp (n2 - 1) rfl rfl Bt rfl Bt rfl rfl rfl Mm rfl (by intro h; first | omega | rfl | (simp at h; omega)) (by first | (intro _; first | assumption | omega) | (intro h; simp at h; omega))) ?_
    refine Gb 7 rfl (aG rfl rfl rfl) (q_fae rfl rfl Bt rfl rfl) ?_
    refine Gb 8 rfl (aG rfl rfl rfl) (q_leP EOp rfl rfl Bt rfl rfl Mm (by first | (intro _; first | assumption | omega) | (intro h; simp at h; omega)) rfl) ?_
    refine Gb 9 rfl (aG rfl rfl rfl) (q_pev rfl Bt) ?_
    refine Gb 10 rfl (aG rfl rfl rfl) (q_ldP rfl rfl Bt rfl Mm rfl) ?_
    refine Ga 11 rfl (aG rfl rfl rfl) (q_eqE qu (mV (⟨(gt (aj l1 aD) (n2 - 1)).time, (gt (aj l1 aD) (n2 - 1)).who⟩ : Stamp) (⟨(gt (aj l1 aD) n2).time, (gt (aj l1 aD) n2).who⟩ : Stamp)) rfl rfl Bt rfl Bt rfl rfl) ?_
    refine Ra 12 rfl (q_pev rfl Bt) ?_
    refine bn Kr ?_
    (repeat refine ao ?_)
    refine Cd (b := (decide ((n2 : Int) > 0) && decide ((⟨(gt (aj l1 aD) (n2 - 1)).time, (gt (aj l1 aD) (n2 - 1)).who⟩ : Stamp) = (⟨(gt (aj l1 aD) n2).time, (gt (aj l1 aD) n2).who⟩ : Stamp)))) (fun hc5 => ?_) fun hc5 => ?_
    ·refine Tx ?_
     refine Fc EStep ?_
     refine Fc EPlace ?_
     refine ai ?_; rw [show (aQ l1) = ((⟨[], []⟩ : History), 6) by rw [← hf2, aE hlt1]; simp only [cR, hc5, Cf]]; exact Re ⟨(⟨none, 0⟩ : SlV), (⟨none, 0⟩ : SlV)⟩ (Va (Vt Vn))
    ·refine Tx ?_
     refine Cl (mQ x3 p1 (gt (aj l1 aD) n2)) fun x4 => ?_
     refine Pr EPlace x4 (cI p1 (gt (aj l1 aD) n2)).1 24 fun hlen3 => ?_
     refine Tx ?_
     refine Al fun g5 => ?_
     refine Al fun g6 => ?_
     refine Tx ?_
     refine Cd (b := ((cI p1 (gt (aj l1 aD) n2)).2.2 != 0)) (fun hc6 => ?_) fun hc6 => ?_
     ·have hc6p := bne_iff_ne.1 hc6
      refine Tx ?_
      refine Fc EStep ?_
      refine Fc EPlace ?_
      refine ai ?_; rw [show (aQ l1) = ((⟨[], []⟩ : History), (cI p1 (gt (aj l1 aD) n2)).2.2) by rw [← hf2, aE hlt1]; simp only [cR, hc5, hc6, Cf]]; exact Re ⟨(⟨none, 0⟩ : SlV), (⟨none, 0⟩ : SlV)⟩ (Va (Vt Vn))
     ·have hc6p := ae hc6
      refine Tx ?_
      (repeat refine ao ?_); refine au (fun j => match j with | 5 => some x2b.toList | 7 => some [g3] | 9 => some [g3] | _ => some []) ?_
      refine ra_q (.an (i := 0) (js := [1, 2, 3, 4, 5]) rfl Kr Kr Kr Kr) (bK.all _) (by intro g hg; simp only [List.mem_append, List.mem_singleton, List.not_mem_nil, or_false, false_or, Option.mem_toList, Option.mem_def, List.append_nil] at hg; first | exact .inr ⟨ownL EStep 85 x2 x2b l2, Mm, hg⟩) rfl rfl rfl (q_ldA rfl rfl Zf rfl Mm rfl) ?_
      refine Rb 1 rfl Qp ?_
      refine Ra 2 rfl Q1 ?_
      refine Rb 3 rfl (q_ldA rfl rfl Zf rfl Mm rfl) ?_
      refine ra_q (.an (i := 6) (js := [4, 5]) rfl Kr Kr Kr Kr) (bK.all _) (by intro g hg; simp only [List.mem_append, List.mem_singleton, List.not_mem_nil, or_false, false_or, Option.mem_toList, Option.mem_def, List.append_nil] at hg; first | exact .inr ⟨ownL EStep 85 x2 x2b l2, Mm, hg⟩) rfl rfl rfl (q_pev rfl Zf) ?_
      refine ap 4 Kr ?_
      refine bB EStep [(cI p1 (gt (aj l1 aD) n2)).2.1] (.an rfl rfl) (ac rfl) rfl rfl rfl rfl rfl rfl rfl rfl rfl rfl rfl rfl rfl rfl rfl fun x5 x5b => ?_
      refine ap 5 Kr ?_
      refine b5 EStep l2 [(cI p1 (gt (aj l1 aD) n2)).2.1] (b := x2b) (.an rfl rfl) (fun g h => .inr (by simp [h])) (ac rfl) rfl rfl rfl rfl rfl rfl rfl (fun _ _ => Uo) rfl rfl rfl rfl rfl rfl rfl (c6 (e := 85) (b := x5b) Mm) (by show (l2.length + 1) * 88 ≤ 140737488355328; (try simp only [List.length_append, List.length_cons, List.length_nil]); omega) fun x6 x6b => ?_
      refine ap 7 Kr ?_
      refine eS (.an rfl rfl) (.inr (by simp)) (ac rfl) rfl rfl rfl rfl rfl rfl rfl rfl rfl Ub rfl ?_
      refine Ra 8 rfl Qp ?_
      refine ap 9 Kr ?_
      refine ew (.an rfl rfl) (.inr (by simp)) (ac rfl) rfl rfl rfl rfl rfl rfl rfl rfl rfl Ub rfl ?_
      refine bn Kr ?_
      refine Tx ?_
      refine rw_q rfl rfl rfl (q_add rfl rfl Zf rfl Zf Zo) ?_
      refine Tx ?_
      refine ⟨⟨(n2 + 1), (l2 ++ [(cI p1 (gt (aj l1 aD) n2)).2.1]), x6, x6b, (cI p1 (gt (aj l1 aD) n2)).1, x4⟩, ⟨hlt1, Zl, Zl, (by rw [← hf2, aE hlt1]; simp only [cR, hc5, hc6, Cf] : (aQ l1) = (cR l1 ((aj l1 aD).drop (n2 + 1)) (n2 + 1) (l2 ++ [(cI p1 (gt (aj l1 aD) n2)).2.1]) (cI p1 (gt (aj l1 aD) n2)).1)).symm⟩, (by simp only []; omega), Le4⟩
   ·have hge1 : (aj l1 aD).length ≤ n2 := by have := of_decide_eq_false hc4; omega
    refine Tx ?_
    refine cw_le (ay EStep 85 x2 x2b l2 Uo) ?_
    refine ai ?_; rw [show (aQ l1) = ((⟨l2, p1⟩ : History), 0) by rw [← hf2, List.drop_of_length_le hge1]; simp only [cR, Cf]]; exact Re ⟨x2, x3⟩ (Va (Vt Vn))
def dL  : List Step → (List Op) → (List Op)
 | [], l1 => l1
 | pn1 :: rn1, l1 => (dL rn1 (l1 ++ [pn1.o]))
def cD (h1 : History) : List Op :=
 (dL h1.l [])
theorem m8 (y1 : SlV) (y2 : SlV) (h1 : History) : Does Tryz.prog 162 [.agg ⟨[y1.val h1.l.length, y2.val h1.t.length]⟩] [RdL EStep y1 h1.l, RdL EPlace y2 h1.t] (fun (X : SlV) => X.val (cD h1).length) (fun X => [RdL EOp X (cD h1)]) := by
 refine bj aZ Tryz.func162 rfl Tryz.ntmps162 Tryz.results162 rfl inferInstance (fun _ => inferInstance) fun C => ?_
 refine Pc EStep y1 h1.l 88 fun hlen1 => ?_
 refine Pc EPlace y2 h1.t 24 fun hlen2 => ?_
 refine Tx ?_
 refine Bx fun g1 => ?_
 refine Tx ?_
 (repeat refine ao ?_); refine Lp [2,7,8] [true] (fun (i_ : List Op × SlV × Option Nat × Nat) => match i_ with | ⟨l1, x1, x1b, n1⟩ => (⟨[(3, .v (x1.val l1.length)), (9, .v (.int .i64 (n1 : Int)))], [], [ownL EOp 49 x1 x1b l1], [], (n1 ≤ h1.l.length) ∧ (l1.length ≤ n1) ∧ (dL (h1.l.drop n1) l1) = (cD h1), h1.l.length - n1⟩ : Ls)) ⟨[], ⟨none, 0⟩, none, 0⟩ (Sc (Sc (Sc Sn))) (.keep (.nil)) ⟨Nat.zero_le _, (by first | exact Nat.le_refl _ | exact Nat.zero_le _ | omega), (by simp only [cD, Cf] : (cD h1) = (dL h1.l [])).symm⟩ (Le.trans (eO EOp 49) Le4) ?_
 rintro ⟨l1, x1, x1b, n1⟩ ⟨hkn1, hl1, hf1⟩
 simp only [List.cons_append, List.nil_append]
 refine Tx ?_
 refine Cd (b := decide ((n1 : Int) < (h1.l.length : Int))) (fun hc1 => ?_) fun hc1 => ?_
 ·have hlt0 : n1 < h1.l.length := Int.ofNat_lt.1 (of_decide_eq_true hc1)
  refine Tx ?_
  refine rw_q rfl rfl rfl (q_idx EStep n1 rfl rfl Zf rfl Zf rfl rfl rfl Mm rfl Zf (fun _ => by first | assumption | omega)) ?_
  refine rw_q rfl rfl rfl (q_leA EStep rfl rfl Zf rfl rfl Mm (fun _ => by first | assumption | omega)) ?_
  refine Al fun g2 => ?_
  refine Tx ?_
  refine bB EOp [(gt h1.l n1).o] .sq (ac rfl) rfl rfl rfl rfl rfl rfl rfl rfl rfl rfl rfl rfl rfl rfl rfl fun x2 x2b => ?_
  refine b5 EOp l1 [(gt h1.l n1).o] (b := x1b) .sq (fun _ _ => .inl ⟨_, rfl⟩) (ac rfl) rfl rfl rfl rfl rfl rfl rfl (fun _ _ => Uo) rfl rfl rfl rfl rfl rfl rfl (c6 (e := 49) (b := x2b) Mm) (by show (l1.length + 1) * 56 ≤ 140737488355328; (try simp only [List.length_append, List.length_cons, List.length_nil]); omega) fun x3 x3b => ?_
  refine Tx ?_
  refine rw_q rfl rfl rfl (q_add rfl rfl Zf rfl Zf Zo) ?_
  refine Tx ?_
  refine ⟨⟨(l1 ++ [(gt h1.l n1).o]), x3, x3b, (n1 + 1)⟩, ⟨hlt0, Zl, (by rw [← hf1, aE hlt0]; simp only [dL, Cf] : (cD h1) = (dL (h1.l.drop (n1 + 1)) (l1 ++ [(gt h1.l n1).o]))).symm⟩, (by simp only []; omega), Le4⟩
 ·have hge0 : h1.l.length ≤ n1 := by have := of_decide_eq_false hc1; omega
  refine Tx ?_
  refine cw_le (ay EOp 49 x1 x1b l1 Uo) ?_
  refine ai ?_; rw [show (cD h1) = l1 by rw [← hf1, List.drop_of_length_le hge0]; simp only [dL, Cf]]; exact Re x1 (Vt Vn)
def dS (a1 : History) (b1 : History) : Bool :=
 ((decide (a1.l = b1.l)) && (decide (a1.t = b1.t)))
theorem gv (y1 : SlV) (y2 : SlV) (a1 : History) (y3 : SlV) (y4 : SlV) (b1 : History) : Does Tryz.prog 11 [.agg ⟨[y1.val a1.l.length, y2.val a1.t.length]⟩, .agg ⟨[y3.val b1.l.length, y4.val b1.t.length]⟩] [RdL EStep y1 a1.l, RdL EPlace y2 a1.t, RdL EStep y3 b1.l, RdL EPlace y4 b1.t] (fun (_ : Unit) => .bool (dS a1 b1)) (fun _ => []) := by
 refine bj aZ Tryz.func11 rfl Tryz.ntmps11 Tryz.results11 rfl inferInstance (fun _ => inferInstance) fun C => ?_
 refine Pc EStep y1 a1.l 88 fun hlen1 => ?_
 refine Pc EPlace y2 a1.t 24 fun hlen2 => ?_
 refine Pc EStep y3 b1.l 88 fun hlen3 => ?_
 refine Pc EPlace y4 b1.t 24 fun hlen4 => ?_
 refine Tx ?_
 refine Bx fun g1 => ?_
 refine Bx fun g2 => ?_
 refine Tx ?_
 refine Cl ((fun y1 a y2 b => jJ y1 y2 a b) y1 a1.l y3 b1.l) fun _ => ?_
 refine Tx ?_
 refine dv (fun hG_ => (fun y1 a y2 b => dJ y1 y2 a b) y2 a1.t y4 b1.t) Zf .sq (aG rfl rfl rfl) rfl rfl rfl Kr rfl Bt Sm ?_
 refine Tx ?_
 refine ai ?_; simp only [dS, Cf]; exact Re () (Vt Vn)
def cH (h1 : History) : Int :=
 (bif (((aQ (cD h1)).2 == 0) && (!(dS (aQ (cD h1)).1 h1))) then 4 else (aQ (cD h1)).2)
theorem l6 (y1 : SlV) (y2 : SlV) (h1 : History) : Does Tryz.prog 149 [.agg ⟨[y1.val h1.l.length, y2.val h1.t.length]⟩] [RdL EStep y1 h1.l, RdL EPlace y2 h1.t] (fun (_ : Unit) => .int .i64 (cH h1)) (fun _ => []) := by
 refine bj aZ Tryz.func149 rfl Tryz.ntmps149 Tryz.results149 rfl inferInstance (fun _ => inferInstance) fun C => ?_
 refine Pc EStep y1 h1.l 88 fun hlen1 => ?_
 refine Pc EPlace y2 h1.t 24 fun hlen2 => ?_
 refine Tx ?_
 refine Bx fun g1 => ?_
 refine Tx ?_
 refine Cl (m8 y1 y2 h1) fun x1 => ?_
 refine Pr EOp x1 (cD h1) 56 fun hlen3 => ?_
 refine Cl (jx x1 (cD h1)) fun x2 => ?_
 refine Pr EStep x2.1 (aQ (cD h1)).1.l 88 fun hlen4 => ?_
 refine Pr EPlace x2.2 (aQ (cD h1)).1.t 24 fun hlen5 => ?_
 refine Tx ?_
 refine Al fun g2 => ?_
 refine Tx ?_
 refine dv (fun hG_ => gv x2.1 x2.2 (aQ (cD h1)).1 y1 y2 h1) Zf .sq (aG rfl rfl rfl) rfl rfl rfl Kr rfl Bt Sm ?_
 refine Tx ?_
 refine Cd (b := (((aQ (cD h1)).2 == 0) && (!(dS (aQ (cD h1)).1 h1)))) (fun hc1 => ?_) fun hc1 => ?_
 ·refine Tx ?_
  refine ai ?_; simp only [cH, hc1, Cf]; exact Re () (Vt Vn)
 ·refine Tx ?_
  refine ai ?_; simp only [cH, hc1, Cf]; exact Re () (Vt Vn)
def gL (h1 : History) : History :=
 (⟨h1.l, (fK h1.t)⟩ : History)
theorem jy (y1 : SlV) (y2 : SlV) (h1 : History) : DoesG Tryz.prog 83 [.agg ⟨[y1.val h1.l.length, y2.val h1.t.length]⟩] [RdL EStep y1 h1.l, RdL EPlace y2 h1.t] ⟨[], []⟩ (fun (X : SlV × Option Nat × SlV) => .agg ⟨[X.1.val (gL h1).l.length, X.2.2.val (gL h1).t.length]⟩) (fun X => [RdL EPlace X.2.2 (gL h1).t]) (fun X => ⟨[], [ownL EStep 85 X.1 X.2.1 (gL h1).l]⟩) := by
 refine co aZ Tryz.func83 rfl Tryz.ntmps83 Tryz.results83 rfl inferInstance (fun _ => inferInstance) fun C => ?_
 refine Pc EStep y1 h1.l 88 fun hlen1 => ?_
 refine Pc EPlace y2 h1.t 24 fun hlen2 => ?_
 refine Tx ?_
 refine Bx fun g1 => ?_
 refine Al fun g2 => ?_
 refine dY ?_
 (repeat refine ao ?_); refine au (fun j => match j with | 7 => some [g2] | _ => some []) ?_
 refine Rb 0 rfl Qp ?_
 refine Rb 1 rfl Q1 ?_
 refine Rb 3 rfl Qp ?_
 refine Rb 4 rfl (q_ldP rfl rfl Zf rfl Mm rfl) ?_
 refine ap 2 Kr ?_
 refine aV (ku y1 h1.l) (.an rfl rfl) (.inr (by simp [Lent.ids])) (ac rfl) rfl rfl rfl Kr rfl rfl Sm (.nil _) (.nil _) ?_
 intro x1
 refine ap 5 Kr ?_
 refine aV (jb y2 h1.t) (.an rfl rfl) (.inr (by simp [Lent.ids])) (ac rfl) rfl rfl rfl Kr rfl rfl Sm (.nil _) (.nil _) ?_
 intro x2
 refine Ra 6 rfl Qp ?_
 refine ap 7 Kr ?_
 refine cY (.an rfl rfl) (.inr (by simp)) (ac rfl) rfl rfl rfl rfl rfl rfl rfl rfl rfl Ub rfl ?_
 refine bn Kr ?_
 (repeat refine ao ?_)
 refine cw_le (ay EPlace 83 x2.1 x2.2 (fK h1.t) Uo) ?_
 refine ai ?_; simp only [gL, Cf]; exact Re ⟨x1.1, x1.2, x2.1⟩ (Va Vn)
def b9 (f1 : Step → Bool) : List Step → Nat → Int
 | [], n1 => (-1)
 | pn1 :: rn1, n1 => (bif (f1 pn1) then (n1 : Int) else (b9 f1 rn1 (n1 + 1)))
def cN (s1 : List Step) (f1 : Step → Bool) : Int :=
 (b9 f1 s1 0)
theorem iQ (y1 : SlV) (s1 : List Step) (f2 : Nat) (caps1 : List Value) (pre1 : List Pred) [StabL pre1] (f1 : Step → Bool) (hfb1 : tab.fnb f2 = true) (hfn1 : ∀ (a0_ : Step), Does Tryz.prog f2 ([.agg ⟨[.int .i64 a0_.o.time, .int .i64 a0_.o.who, .int .i64 a0_.o.node, .int .i64 a0_.o.parent, .int .i64 a0_.o.name, .int .i64 a0_.o.life, .int .i64 a0_.o.seq, .bool a0_.did, .int .i64 a0_.was.node, .int .i64 a0_.was.parent, .int .i64 a0_.was.name]⟩] ++ caps1) pre1 (fun (_ : Unit) => .bool (f1 a0_)) (fun _ => [])) : Does Tryz.prog 148 [y1.val s1.length, .func (.func f2) #[] ⟨caps1⟩] (RdL EStep y1 s1 :: pre1) (fun (_ : Unit) => .int .i64 (cN s1 f1)) (fun _ => []) := by
 refine bj aZ Tryz.func148 rfl Tryz.ntmps148 Tryz.results148 rfl inferInstance (fun _ => inferInstance) fun C => ?_
 refine dP (φ := s1.length * 88 ≤ 140737488355328) [RdL EStep y1 s1] Sf (fun M w h => (allF1 h).len) fun hlen1 => ?_
 refine Tx ?_
 (repeat refine ao ?_); refine Lp [0,1,4,7] [] (fun (n1 : Nat) => (⟨[(8, .v (.int .i64 (n1 : Int)))], [], [], [], (n1 ≤ s1.length) ∧ (b9 f1 (s1.drop n1) n1) = (cN s1 f1), s1.length - n1⟩ : Ls)) 0 (Sc (Sc (Sc (Sc Sn)))) (.nil) ⟨Nat.zero_le _, (by simp only [cN, Cf] : (cN s1 f1) = (b9 f1 s1 0)).symm⟩ Le5 ?_
 rintro n1 ⟨hkn1, hf1⟩
 simp only [List.cons_append, List.nil_append]
 refine Tx ?_
 refine Cd (b := decide ((n1 : Int) < (s1.length : Int))) (fun hc1 => ?_) fun hc1 => ?_
 ·have hlt0 : n1 < s1.length := Int.ofNat_lt.1 (of_decide_eq_true hc1)
  refine Tx ?_
  refine rw_q rfl rfl rfl (q_idx EStep n1 rfl rfl Zf rfl Zf rfl rfl rfl Mm rfl Zf (fun _ => by first | assumption | omega)) ?_
  refine rw_q rfl rfl rfl (q_leA EStep rfl rfl Zf rfl rfl Mm (fun _ => by first | assumption | omega)) ?_
  refine gg (hfn1 (gt s1 n1)) .sq (ac rfl) rfl rfl rfl rfl rfl (by assumption) rfl rfl rfl Sf ?_
  intro _
  refine dY ?_
  (repeat refine ao ?_)
  refine Cd (b := (f1 (gt s1 n1))) (fun hc2 => ?_) fun hc2 => ?_
  ·refine Tx ?_
   have hr1 : (cN s1 f1) = (n1 : Int) := by rw [← hf1, aE hlt0]; simp only [b9, hc2, Cf]
   refine ai ?_
   rw [hr1]
   exact ⟨(), _, (.cons (.tmp rfl) .nil), rfl, Sf, .nil _, .nil _⟩
  ·refine Tx ?_
   refine rw_q rfl rfl rfl (q_add rfl rfl Zf rfl Zf Zo) ?_
   refine Tx ?_
   refine ⟨(n1 + 1), ⟨hlt0, (by rw [← hf1, aE hlt0]; simp only [b9, hc2, Cf] : (cN s1 f1) = (b9 f1 (s1.drop (n1 + 1)) (n1 + 1))).symm⟩, (by simp only []; omega), Le5⟩
 ·have hge0 : s1.length ≤ n1 := by have := of_decide_eq_false hc1; omega
  refine Tx ?_
  have hr2 : (cN s1 f1) = (-1) := by rw [← hf1, List.drop_of_length_le hge0]; simp only [b9, Cf]
  refine ai ?_
  rw [hr2]
  exact ⟨(), _, (.cons (.tmp rfl) .nil), rfl, Sf, .nil _, .nil _⟩
def eg (s1 : List Step) (f1 : Step → Bool) : Bool :=
 decide ((cN s1 f1) ≥ 0)
theorem gR (y1 : SlV) (s1 : List Step) (f2 : Nat) (caps1 : List Value) (pre1 : List Pred) [StabL pre1] (f1 : Step → Bool) (hfb1 : tab.fnb f2 = true) (hfn1 : ∀ (a0_ : Step), Does Tryz.prog f2 ([.agg ⟨[.int .i64 a0_.o.time, .int .i64 a0_.o.who, .int .i64 a0_.o.node, .int .i64 a0_.o.parent, .int .i64 a0_.o.name, .int .i64 a0_.o.life, .int .i64 a0_.o.seq, .bool a0_.did, .int .i64 a0_.was.node, .int .i64 a0_.was.parent, .int .i64 a0_.was.name]⟩] ++ caps1) pre1 (fun (_ : Unit) => .bool (f1 a0_)) (fun _ => [])) : Does Tryz.prog 125 [y1.val s1.length, .func (.func f2) #[] ⟨caps1⟩] (RdL EStep y1 s1 :: pre1) (fun (_ : Unit) => .bool (eg s1 f1)) (fun _ => []) := by
 refine bj aZ Tryz.func125 rfl Tryz.ntmps125 Tryz.results125 rfl inferInstance (fun _ => inferInstance) fun C => ?_
 refine dP (φ := s1.length * 88 ≤ 140737488355328) [RdL EStep y1 s1] Sf (fun M w h => (allF1 h).len) fun hlen1 => ?_
 refine Tx ?_
 refine cJ (iQ y1 s1 _ _ _ f1 (by assumption) hfn1) .sq (ac rfl) rfl rfl rfl Kr rfl rfl Sf ?_
 intro _
 refine Tx ?_
 have hr1 : (eg s1 f1) = decide ((cN s1 f1) ≥ 0) := by simp only [eg, Cf]
 refine ai ?_
 rw [hr1]
 exact ⟨(), _, (.cons (.tmp rfl) .nil), rfl, Sf, .nil _, .nil _⟩
theorem ix (s : List Step) (f : Step → Bool) : eg s f = s.any f := by
 have key : ∀ (l : List Step) (k : Nat), decide (b9 f l k ≥ 0) = l.any f := by
  intro l
  induction l with
  | nil => intro k; rfl
  | cons p r ih =>
   intro k
   rw [b9, List.any_cons]
   cases f p with
   | true => simp only [cond_true, Bool.true_or, decide_eq_true_eq]; omega
   | false => rw [cond_false, ih, Bool.false_or]
 exact key s 0
theorem gI (y1 : SlV) (s1 : List Step) (f1 : Nat) (caps1 : List Value) (pre1 : List Pred) [StabL pre1] (p1 : Step → Bool) (hfb1 : tab.fnb f1 = true) (hfn1 : ∀ (a0_ : Step), Does Tryz.prog f1 ([.agg ⟨[.int .i64 a0_.o.time, .int .i64 a0_.o.who, .int .i64 a0_.o.node, .int .i64 a0_.o.parent, .int .i64 a0_.o.name, .int .i64 a0_.o.life, .int .i64 a0_.o.seq, .bool a0_.did, .int .i64 a0_.was.node, .int .i64 a0_.was.parent, .int .i64 a0_.was.name]⟩] ++ caps1) pre1 (fun (_ : Unit) => .bool (p1 a0_)) (fun _ => [])) :
  Does Tryz.prog 125 [y1.val s1.length, .func (.func f1) #[] ⟨caps1⟩] (RdL EStep y1 s1 :: pre1) (fun (_ : Unit) => .bool (s1.any p1)) (fun (_ : Unit) => []) := by
 have := gR y1 s1 f1 caps1 pre1 p1 hfb1 hfn1
 rw [ix] at this
 exact this
def e6 (s1 : Step) (o1 : Op) : Bool :=
 decide ((⟨s1.o.time, s1.o.who⟩ : Stamp) = (⟨o1.time, o1.who⟩ : Stamp))
theorem l5 (s1 : Step) (c1 : Nat) (o1 : Op) : Does Tryz.prog 126 [.agg ⟨[.int .i64 s1.o.time, .int .i64 s1.o.who, .int .i64 s1.o.node, .int .i64 s1.o.parent, .int .i64 s1.o.name, .int .i64 s1.o.life, .int .i64 s1.o.seq, .bool s1.did, .int .i64 s1.was.node, .int .i64 s1.was.parent, .int .i64 s1.was.name]⟩, .pointer (some ⟨c1, 0, none⟩)] [VarP c1 [.int .i64 o1.time, .int .i64 o1.who, .int .i64 o1.node, .int .i64 o1.parent, .int .i64 o1.name, .int .i64 o1.life, .int .i64 o1.seq]] (fun (_ : Unit) => .bool (e6 s1 o1)) (fun _ => []) := by
 refine bj aZ Tryz.func126 rfl Tryz.ntmps126 Tryz.results126 rfl inferInstance (fun _ => inferInstance) fun C => ?_
 refine Tx ?_
 refine Bx fun g1 => ?_
 refine Tx ?_
 refine rw_q rfl rfl rfl (q_eqE qu (mV (⟨s1.o.time, s1.o.who⟩ : Stamp) (⟨o1.time, o1.who⟩ : Stamp)) rfl rfl Zf rfl Zf rfl rfl) ?_
 refine Tx ?_
 refine ai ?_; simp only [e6, Cf]; exact Re () (Vt Vn)
def dK  : List Op → (List Step) → (List Place) → (History × Int)
 | [], l2, p2 => ((⟨l2, p2⟩ : History), 0)
 | pn2 :: rn2, l2, p2 => (bif ((cI p2 pn2).2.2 != 0) then ((⟨[], []⟩ : History), (cI p2 pn2).2.2) else (dK rn2 (l2 ++ [(cI p2 pn2).2.1]) (cI p2 pn2).1))
def dl (o1 : Op) : Nat → (List Op) → Int → (List Step) → (List Place) → (History × Int)
 | 0, later1, n1, l1, p1 => default
 | f_k0 + 1, later1, n1, l1, p1 => (bif (decide (n1 > 0) && (eK (⟨o1.time, o1.who⟩ : Stamp) (⟨(gt l1 (n1 - 1).toNat).o.time, (gt l1 (n1 - 1).toNat).o.who⟩ : Stamp))) then (bif ((cn p1 (gt l1 (n1 - 1).toNat)).2 != 0) then ((⟨[], []⟩ : History), (cn p1 (gt l1 (n1 - 1).toNat)).2) else (dl o1 f_k0 (later1 ++ [(gt l1 (n1 - 1).toNat).o]) (n1 - 1) (l1.take (n1 - 1).toNat) (cn p1 (gt l1 (n1 - 1).toNat)).1)) else (dK (aF later1 1) l1 p1))
def bi (h1 : History) (o1 : Op) : History × Int :=
 (bif ((ck o1) != 0) then ((⟨[], []⟩ : History), (ck o1)) else (bif (h1.l.any (fun a0_ => e6 a0_ o1)) then ((⟨[], []⟩ : History), 6) else (bif ((h1.l.length : Int) == 30) then ((⟨[], []⟩ : History), 2) else (dl o1 (h1.l.length + 1) [o1] (h1.l.length : Int) h1.l h1.t))))
theorem ki (y1 : SlV) (y2 : SlV) (h1 : History) (o1 : Op) (hl : h1.l.length ≤ 1000) : Does Tryz.prog 103 [.agg ⟨[y1.val h1.l.length, y2.val h1.t.length]⟩, .agg ⟨[.int .i64 o1.time, .int .i64 o1.who, .int .i64 o1.node, .int .i64 o1.parent, .int .i64 o1.name, .int .i64 o1.life, .int .i64 o1.seq]⟩] [RdL EStep y1 h1.l, RdL EPlace y2 h1.t] (fun (X : SlV × SlV) => .tuple #[.agg ⟨[X.1.val (bi h1 o1).1.l.length, X.2.val (bi h1 o1).1.t.length]⟩, .int .i64 (bi h1 o1).2]) (fun X => [RdL EStep X.1 (bi h1 o1).1.l, RdL EPlace X.2 (bi h1 o1).1.t]) := by
 refine bj aZ Tryz.func103 rfl Tryz.ntmps103 Tryz.results103 rfl inferInstance (fun _ => inferInstance) fun C => ?_
 refine Pc EStep y1 h1.l 88 fun hlen1 => ?_
 refine Pc EPlace y2 h1.t 24 fun hlen2 => ?_
 refine Tx ?_
 refine Bx fun g1 => ?_
 refine Bx fun g2 => ?_
 refine Al fun g3 => ?_
 refine Tx ?_
 refine Cl (ef o1) fun _ => ?_
 refine Tx ?_
 refine Cd (b := ((ck o1) != 0)) (fun hc1 => ?_) fun hc1 => ?_
 ·have hc1p := bne_iff_ne.1 hc1
  refine Tx ?_
  refine Fc EStep ?_
  refine Fc EPlace ?_
  refine ai ?_; simp only [bi, hc1, Cf]; exact Re ⟨(⟨none, 0⟩ : SlV), (⟨none, 0⟩ : SlV)⟩ (Va (Vt Vn))
 ·have hc1p := ae hc1
  refine Tx ?_
  refine rw_le (nR (g := g2) Pk) ?_
  refine Cl (gI y1 h1.l _ _ _ (fun a0_ => e6 a0_ o1) Kr (fun a0_ => l5 a0_ g2 o1)) fun _ => ?_
  refine dY ?_
  (repeat refine ao ?_)
  refine Cd (b := (h1.l.any (fun a0_ => e6 a0_ o1))) (fun hc2 => ?_) fun hc2 => ?_
  ·refine Tx ?_
   refine Fc EStep ?_
   refine Fc EPlace ?_
   refine ai ?_; simp only [bi, hc1, hc2, Cf]; exact Re ⟨(⟨none, 0⟩ : SlV), (⟨none, 0⟩ : SlV)⟩ (Va (Vt Vn))
  ·refine Tx ?_
   refine Cd (b := ((h1.l.length : Int) == 30)) (fun hc3 => ?_) fun hc3 => ?_
   ·have hc3p := eq_of_beq hc3
    refine Tx ?_
    refine Fc EStep ?_
    refine Fc EPlace ?_
    refine ai ?_; simp only [bi, hc1, hc2, hc3, Cf]; exact Re ⟨(⟨none, 0⟩ : SlV), (⟨none, 0⟩ : SlV)⟩ (Va (Vt Vn))
   ·have hc3p := ne_of_beq_false hc3
    refine Tx ?_
    refine Cg (jy y1 y2 h1) fun x1 => ?_
    refine Pr EPlace x1.2.2 h1.t 24 fun hlen3 => ?_
    refine Tx ?_
    refine bB EOp [o1] .sq (ac rfl) rfl rfl rfl rfl rfl rfl rfl rfl rfl rfl rfl rfl rfl rfl rfl fun x2 x2b => ?_
    refine Tx ?_
    (repeat refine ao ?_); refine Lp [2,3,4,5] [true, false] (fun (i_ : List Op × SlV × Option Nat × Int × List Step × List Place × SlV × Nat) => match i_ with | ⟨later1, x3, x3b, n1, l1, p1, x5, fz1⟩ => (⟨[(7, .v (x3.val later1.length)), (8, .v (.int .i64 n1))], [⟨g1, 29, [x1.1.val l1.length, x5.val p1.length]⟩], [ownL EOp 49 x3 x3b later1, ownL EStep 85 x1.1 x1.2.1 l1], [RdL EPlace x5 p1], (n1 = (l1.length : Int) ∧ 1 ≤ later1.length ∧ later1.length + l1.length = h1.l.length + 1) ∧ (n1.toNat < fz1) ∧ (dl o1 fz1 later1 n1 l1 p1) = (bi h1 o1), fz1⟩ : Ls)) ⟨[o1], x2, x2b, (h1.l.length : Int), h1.l, h1.t, x1.2.2, h1.l.length + 1⟩ (Sc (Sc (Sc (Sc Sn)))) (.keep (.drop (.nil))) ⟨⟨rfl, Nat.le_refl _, by simp only [List.length_cons, List.length_nil]; omega⟩, (by first | exact Nat.le_refl _ | exact Nat.zero_le _ | omega), (by simp only [bi, hc1, hc2, hc3, Cf] : (bi h1 o1) = (dl o1 (h1.l.length + 1) [o1] (h1.l.length : Int) h1.l h1.t)).symm⟩ Le4 ?_
    rintro ⟨later1, x3, x3b, n1, l1, p1, x5, fz1⟩ ⟨hi, hzfz1, hf1⟩
    simp only [List.cons_append, List.nil_append]
    have hlt0_ : (fz1 - 1) + 1 = fz1 := by omega
    (repeat refine ao ?_); refine au (fun _ => some []) ?_
    refine Rb 0 rfl Qp ?_
    refine Rb 1 rfl Qp ?_
    refine Ra 2 rfl Qp ?_
    refine Gb 3 rfl (aG rfl rfl rfl) (q_pev rfl Bt) ?_
    refine Gb 4 rfl (aG rfl rfl rfl) (q_lfP rfl rfl Bt rfl Mm rfl) ?_
    refine Gb 5 rfl (aG rfl rfl rfl) (q_pev rfl Bt) ?_
    refine Gb 6 rfl (aG rfl rfl rfl) (q_ld1 rfl rfl Bt rfl Mm rfl) ?_
    refine Gb 7 rfl (aG rfl rfl rfl) (q_pev rfl Bt) ?_
    refine Gb 8 rfl (aG rfl rfl rfl) (q_sub rfl rfl Bt rfl Bt (by intro h; first | omega | (simp at h; omega))) ?_
    refine nB EStep (e := 85) (X := x1.1) (b := x1.2.1) (l := l1) Mm (.ab (i := 9) (js := []) [10, 11, 12, 13, 14] rfl Kr Kr Kr Kr Kr) (aG rfl rfl rfl) rfl rfl (q_idx EStep (n1 - 1).toNat rfl rfl Bt rfl Bt rfl rfl rfl (.head _) rfl (by intro h; first | omega | rfl | (simp at h; omega)) (by first | (intro _; first | assumption | omega | (simp only [List.length_set]; omega)) | (intro h; simp at h; omega))) ?_
    refine Gb 10 rfl (aG rfl rfl rfl) (q_fae rfl rfl Bt rfl rfl) ?_
    refine Gb 11 rfl (aG rfl rfl rfl) (q_fae rfl rfl Bt rfl rfl) ?_
    refine nB EStep (e := 85) (X := x1.1) (b := x1.2.1) (l := l1) Mm (.ab (i := 12) (js := []) [13, 14] rfl Kr Kr Kr Kr Kr) (aG rfl rfl rfl) rfl rfl (q_leP EStep rfl rfl Bt rfl rfl (.head _) (by first | (intro _; first | assumption | omega | (simp only [List.length_set]; omega)) | (intro h; simp at h; omega)) rfl) ?_
    refine ap 13 Kr ?_
    refine dv (fun hG_ => gS (⟨o1.time, o1.who⟩ : Stamp) (⟨(gt l1 (n1 - 1).toNat).o.time, (gt l1 (n1 - 1).toNat).o.who⟩ : Stamp)) Zf (.an rfl rfl) (aG rfl rfl rfl) rfl rfl rfl Kr rfl Bt Sm ?_
    refine Ra 14 rfl (q_pev rfl Bt) ?_
    refine bn Kr ?_
    (repeat refine ao ?_)
    refine Cd (b := (decide (n1 > 0) && (eK (⟨o1.time, o1.who⟩ : Stamp) (⟨(gt l1 (n1 - 1).toNat).o.time, (gt l1 (n1 - 1).toNat).o.who⟩ : Stamp)))) (fun hc4 => ?_) fun hc4 => ?_
    ·have hn0 := of_decide_eq_true (Bool.and_eq_true_iff.1 hc4).1
     refine Tx ?_
     refine gp [2, 3, 4, 5, 7, 8, 39, 40, 41, 53] [true, true] (fun (i_ : Nat × SlV) => match i_ with | ⟨g4, x6⟩ => [(9, .v (.pointer (some ⟨g4, 0, none⟩))), (10, .v (.int .i64 (cn p1 (gt l1 (n1 - 1).toNat)).2)), (56, .v (.tuple #[.agg ⟨[x6.val (cn p1 (gt l1 (n1 - 1).toNat)).1.length]⟩, .int .i64 (cn p1 (gt l1 (n1 - 1).toNat)).2])), (57, .v (.pointer (some ⟨g1, 1, none⟩))), (58, .v (.agg ⟨[x5.val p1.length]⟩)), (59, .v (.pointer (some ⟨g1, 0, none⟩))), (60, .v (x1.1.val l1.length)), (61, .v (.int .i64 n1)), (62, .v (.int .i64 (n1 - 1))), (64, .v (.agg ⟨[.int .i64 (gt l1 (n1 - 1).toNat).o.time, .int .i64 (gt l1 (n1 - 1).toNat).o.who, .int .i64 (gt l1 (n1 - 1).toNat).o.node, .int .i64 (gt l1 (n1 - 1).toNat).o.parent, .int .i64 (gt l1 (n1 - 1).toNat).o.name, .int .i64 (gt l1 (n1 - 1).toNat).o.life, .int .i64 (gt l1 (n1 - 1).toNat).o.seq, .bool (gt l1 (n1 - 1).toNat).did, .int .i64 (gt l1 (n1 - 1).toNat).was.node, .int .i64 (gt l1 (n1 - 1).toNat).was.parent, .int .i64 (gt l1 (n1 - 1).toNat).was.name]⟩)), (65, .v (.tuple #[.agg ⟨[x6.val (cn p1 (gt l1 (n1 - 1).toNat)).1.length]⟩, .int .i64 (cn p1 (gt l1 (n1 - 1).toNat)).2])), (66, .v (.agg ⟨[x6.val (cn p1 (gt l1 (n1 - 1).toNat)).1.length]⟩)), (67, .v (.int .i64 (cn p1 (gt l1 (n1 - 1).toNat)).2))]) (fun (i_ : Nat × SlV) => match i_ with | ⟨g4, x6⟩ => [⟨g4, 27, [x6.val (cn p1 (gt l1 (n1 - 1).toNat)).1.length]⟩]) (fun (i_ : Nat × SlV) => match i_ with | ⟨g4, x6⟩ => [ownL EOp 49 x3 x3b later1, ownL EStep 85 x1.1 x1.2.1 l1]) (fun (i_ : Nat × SlV) => match i_ with | ⟨g4, x6⟩ => [RdL EPlace x6 (cn p1 (gt l1 (n1 - 1).toNat)).1, RdL EPlace x5 p1]) (fun _ => True) (.cons rfl (.cons rfl (.cons rfl (.cons rfl (.cons rfl (.cons rfl (.cons rfl (.cons rfl (.cons rfl (.cons rfl (.nil _))))))))))) (.keep (.keep (.nil))) ?_ ?_
     ·refine au (fun j => match j with | 13 => none | _ => some []) ?_
      refine Rb 0 rfl Qp ?_
      refine Rb 1 rfl (q_ldP rfl rfl Zf rfl Mm rfl) ?_
      refine Rb 2 rfl Qp ?_
      refine Rb 3 rfl Q1 ?_
      refine Rb 4 rfl Qp ?_
      refine Rb 5 rfl (q_sub rfl rfl Zf rfl Zf Zo) ?_
      refine rw_qO EStep (e := 85) (X := x1.1) (b := x1.2.1) (l := l1) Mm (.ab (i := 6) (js := [12]) [7, 8, 9, 10, 11, 13, 14] rfl Kr Kr Kr Kr Kr) rfl rfl rfl (q_idx EStep (n1 - 1).toNat rfl rfl Zf rfl Zf rfl rfl rfl (.head _) rfl Zo Za) ?_
      refine rw_qO EStep (e := 85) (X := x1.1) (b := x1.2.1) (l := l1) Mm (.ab (i := 7) (js := [12]) [8, 9, 10, 11, 13, 14] rfl Kr Kr Kr Kr Kr) rfl rfl rfl (q_leA EStep rfl rfl Zf rfl rfl (.head _) Za) ?_
      refine fu 8 12 Kr ?_ ?_
      ·refine cJ (lp x5 p1 (gt l1 (n1 - 1).toNat)) (.an rfl rfl) (ac rfl) rfl rfl rfl Kr rfl rfl Sm ?_
       intro x7
       refine Pr EPlace x7 (cn p1 (gt l1 (n1 - 1).toNat)).1 24 fun hlen4 => ?_
       refine Ra 9 rfl Qp ?_
       refine Ra 10 rfl Qp ?_
       refine ra_p (.an (i := 11) (js := [12, 13]) rfl Kr Kr Kr Kr) rfl rfl rfl (q_pev rfl Zf) ?_
       refine ap 12 Kr ?_
       refine di (.an rfl rfl) (ac rfl) rfl rfl rfl rfl fun g5 => ?_
       refine ap 13 Kr ?_
       refine cY (.lo [g5] rfl rfl) (.inr (by simp)) (ac rfl) rfl rfl rfl rfl rfl rfl rfl rfl rfl Ub rfl ?_
       refine Ra 14 rfl Qp ?_
       refine bn Kr ?_
       refine ⟨⟨g5, x7⟩, trivial, Le4⟩
      ·refine di (.an rfl rfl) (ac rfl) rfl rfl rfl rfl fun g6 => ?_
       refine ap 8 Kr ?_
       refine cJ (lp x5 p1 (gt l1 (n1 - 1).toNat)) (.an rfl rfl) (ac rfl) rfl rfl rfl Kr rfl rfl Sm ?_
       intro x8
       refine Pr EPlace x8 (cn p1 (gt l1 (n1 - 1).toNat)).1 24 fun hlen5 => ?_
       refine Ra 9 rfl Qp ?_
       refine Ra 10 rfl Qp ?_
       refine ra_p (.an (i := 11) (js := [13]) rfl Kr Kr Kr Kr) rfl rfl rfl (q_pev rfl Zf) ?_
       refine ap 13 Kr ?_
       refine cY (.lo [g6] rfl rfl) (.inr (by simp)) (ac rfl) rfl rfl rfl rfl rfl rfl rfl rfl rfl Ub rfl ?_
       refine Ra 14 rfl Qp ?_
       refine bn Kr ?_
       refine ⟨⟨g6, x8⟩, trivial, Le4⟩
     ·rintro ⟨g4, x6⟩ -
      simp only [List.cons_append, List.nil_append]
      refine Tx ?_
      refine Cd (b := ((cn p1 (gt l1 (n1 - 1).toNat)).2 != 0)) (fun hc5 => ?_) fun hc5 => ?_
      ·have hc5p := bne_iff_ne.1 hc5
       refine Tx ?_
       refine Fc EStep ?_
       refine Fc EPlace ?_
       refine ai ?_; rw [show (bi h1 o1) = ((⟨[], []⟩ : History), (cn p1 (gt l1 (n1 - 1).toNat)).2) by rw [← hf1]; (conv => lhs; rw [← hlt0_]); simp only [dl, hc4, hc5, Cf]]; exact Re ⟨(⟨none, 0⟩ : SlV), (⟨none, 0⟩ : SlV)⟩ (Va (Vt Vn))
      ·have hc5p := ae hc5
       refine Tx ?_
       refine rw_q rfl rfl rfl (q_sub rfl rfl Zf rfl Zf Zo) ?_
       refine rw_qO EStep (e := 85) (X := x1.1) (b := x1.2.1) (l := l1) Mm .sq rfl rfl rfl (q_idx EStep (n1 - 1).toNat rfl rfl Zf rfl Zf rfl rfl rfl (.head _) rfl Zo Za) ?_
       refine rw_q rfl rfl rfl (q_fae rfl rfl Zf rfl rfl) ?_
       refine rw_qO EStep (e := 85) (X := x1.1) (b := x1.2.1) (l := l1) Mm .sq rfl rfl rfl (q_leP EStep rfl rfl Zf rfl rfl (.head _) Za rfl) ?_
       refine bB EOp [(gt l1 (n1 - 1).toNat).o] .sq (ac rfl) rfl rfl rfl rfl rfl rfl rfl rfl rfl rfl rfl rfl rfl rfl rfl fun x9 x9b => ?_
       refine b5 EOp later1 [(gt l1 (n1 - 1).toNat).o] (b := x3b) .sq (fun _ _ => .inl ⟨_, rfl⟩) (ac rfl) rfl rfl rfl rfl rfl rfl rfl (fun _ _ => Uo) rfl rfl rfl rfl rfl rfl rfl (c6 (e := 49) (b := x9b) Mm) (by show (later1.length + 1) * 56 ≤ 140737488355328; (try simp only [List.length_append, List.length_cons, List.length_nil]); omega) fun x10 x10b => ?_
       refine Tx ?_
       (repeat refine ao ?_); refine au (fun j => match j with | 7 => some [g1] | 9 => some [g1] | _ => some []) ?_
       refine Ra 0 rfl (q_ldA rfl rfl Zf rfl Mm rfl) ?_
       refine Rb 1 rfl Qp ?_
       refine Ra 2 rfl Q1 ?_
       refine ra_q (.ab (i := 3) (js := [6, 7]) [4, 5, 8, 9] rfl Kr Kr Kr Kr Kr) (.keep (.drop (bK.all _))) (by intro g hg; simp at hg; simp [hg]) rfl rfl rfl (q_pev rfl Zf) ?_
       refine ra_q (.an (i := 4) (js := [6, 7]) rfl Kr Kr Kr Kr) (.keep (.drop (bK.all _))) (by intro g hg; simp at hg; simp [hg]) rfl rfl rfl (q_sub rfl rfl Zf rfl Zf Zo) ?_
       refine Ra 6 rfl Qp ?_
       refine fu 5 7 Kr ?_ ?_
       ·refine pW EStep l1 (n1 - 1).toNat (e := 85) (X := x1.1) (ob := x1.2.1) (.an rfl rfl) (ac rfl) rfl rfl rfl rfl rfl rfl rfl rfl rfl Uo (by omega) (by first | omega | (simp only [List.length_set]; omega)) ?_
        refine ap 7 Kr ?_
        refine eS (.an rfl rfl) (.inr (by simp)) (ac rfl) rfl rfl rfl rfl rfl rfl rfl rfl rfl Ub rfl ?_
        refine Ra 8 rfl Qp ?_
        refine ap 9 Kr ?_
        refine ew (.an rfl rfl) (.inr (by simp)) (ac rfl) rfl rfl rfl rfl rfl rfl rfl rfl rfl Ub rfl ?_
        refine bn Kr ?_
        refine Tx ?_
        refine rw_q rfl rfl rfl (q_sub rfl rfl Zf rfl Zf Zo) ?_
        refine Tx ?_
        refine ⟨⟨(later1 ++ [(gt l1 (n1 - 1).toNat).o]), x10, x10b, (n1 - 1), (l1.take (n1 - 1).toNat), (cn p1 (gt l1 (n1 - 1).toNat)).1, x6, (fz1 - 1)⟩, ⟨(by (try simp only [List.length_append, List.length_cons, List.length_nil, List.length_take]); omega), (by (try simp only []); first | omega | (simp only [List.length_append, List.length_cons, List.length_nil]; omega)), (by rw [← hf1]; (conv => lhs; rw [← hlt0_]); simp only [dl, hc4, hc5, Cf] : (bi h1 o1) = (dl o1 (fz1 - 1) (later1 ++ [(gt l1 (n1 - 1).toNat).o]) (n1 - 1) (l1.take (n1 - 1).toNat) (cn p1 (gt l1 (n1 - 1).toNat)).1)).symm⟩, (by simp only []; omega), Le4⟩
       ·refine eS (.an rfl rfl) (.inr (by simp)) (ac rfl) rfl rfl rfl rfl rfl rfl rfl rfl rfl Ub rfl ?_
        refine ap 5 Kr ?_
        refine pW EStep l1 (n1 - 1).toNat (e := 85) (X := x1.1) (ob := x1.2.1) (.an rfl rfl) (ac rfl) rfl rfl rfl rfl rfl rfl rfl rfl rfl Uo (by omega) (by first | omega | (simp only [List.length_set]; omega)) ?_
        refine Ra 8 rfl Qp ?_
        refine ap 9 Kr ?_
        refine ew (.an rfl rfl) (.inr (by simp)) (ac rfl) rfl rfl rfl rfl rfl rfl rfl rfl rfl Ub rfl ?_
        refine bn Kr ?_
        refine Tx ?_
        refine rw_q rfl rfl rfl (q_sub rfl rfl Zf rfl Zf Zo) ?_
        refine Tx ?_
        refine ⟨⟨(later1 ++ [(gt l1 (n1 - 1).toNat).o]), x10, x10b, (n1 - 1), (l1.take (n1 - 1).toNat), (cn p1 (gt l1 (n1 - 1).toNat)).1, x6, (fz1 - 1)⟩, ⟨(by (try simp only [List.length_append, List.length_cons, List.length_nil, List.length_take]); omega), (by (try simp only []); first | omega | (simp only [List.length_append, List.length_cons, List.length_nil]; omega)), (by rw [← hf1]; (conv => lhs; rw [← hlt0_]); simp only [dl, hc4, hc5, Cf] : (bi h1 o1) = (dl o1 (fz1 - 1) (later1 ++ [(gt l1 (n1 - 1).toNat).o]) (n1 - 1) (l1.take (n1 - 1).toNat) (cn p1 (gt l1 (n1 - 1).toNat)).1)).symm⟩, (by simp only []; omega), Le4⟩
    ·refine Tx ?_
     refine rw_q rfl rfl rfl (p4 EOp 1 (l := later1) (X := x3) rfl rfl Zf rfl Zf rfl rfl (fun _ => by first | omega | (simp only [List.length_set]; omega)) (fun _ => by first | omega | (simp only [List.length_set]; omega))) ?_
     refine aV (jI x3 x3b later1 1 (by omega)) .sq (.inl ⟨_, rfl⟩) (ac rfl) rfl rfl rfl Kr rfl rfl Sm (.nil _) Tk ?_
     intro _
     have hv1l : later1.length = (aF later1 1).length := (uc later1 1 (by omega)).symm
     have hv1 : x3.val later1.length = x3.val (aF later1 1).length := congrArg (SlV.val x3) hv1l
     try rw [hv1]
     have hv2 : (⟨slA x3.a x3.c 1 EOp.esz, x3.c - 1⟩ : SlV).val (later1.drop 1).length = (⟨slA x3.a x3.c 1 EOp.esz, x3.c - 1⟩ : SlV).val ((aF later1 1).drop 1).length := by congr 1; simp only [List.length_drop, List.length_set] <;> omega
     try rw [hv2]
     refine Tx ?_
     refine cw_le (ay EOp 49 x3 x3b (aF later1 1) Uo) ?_
     refine Pc EOp x3 (aF later1 1) 56 fun hlen6 => ?_
     (repeat refine ao ?_); refine Lp [2,4,5,93,94] [false, true] (fun (i_ : Nat × List Step × SlV × Option Nat × List Place × SlV) => match i_ with | ⟨n2, l2, x11, x11b, p2, x12⟩ => (⟨[(95, .v (.int .i64 (n2 : Int)))], [⟨g1, 29, [x11.val l2.length, x12.val p2.length]⟩], [ownL EStep 85 x11 x11b l2], [RdL EPlace x12 p2], (n2 ≤ (aF later1 1).length) ∧ (l2.length ≤ n2 + l1.length) ∧ (dK ((aF later1 1).drop n2) l2 p2) = (bi h1 o1), (aF later1 1).length - n2⟩ : Ls)) ⟨0, l1, x1.1, x1.2.1, p1, x5⟩ (Sc (Sc (Sc (Sc (Sc Sn))))) (.drop (.keep (.nil))) ⟨Nat.zero_le _, (by first | exact Nat.le_refl _ | exact Nat.zero_le _ | omega), (by rw [← hf1]; (conv => lhs; rw [← hlt0_]); simp only [dl, hc4, Cf] : (bi h1 o1) = (dK (aF later1 1) l1 p1)).symm⟩ Le4 ?_
     rintro ⟨n2, l2, x11, x11b, p2, x12⟩ ⟨hkn2, hl2, hf2⟩
     simp only [List.cons_append, List.nil_append]
     refine Tx ?_
     refine Cd (b := decide ((n2 : Int) < ((aF later1 1).length : Int))) (fun hc6 => ?_) fun hc6 => ?_
     ·have hlt1 : n2 < (aF later1 1).length := Int.ofNat_lt.1 (of_decide_eq_true hc6)
      refine Tx ?_
      refine rw_q rfl rfl rfl (q_idx EOp n2 rfl rfl Zf rfl Zf rfl rfl rfl Mm rfl Zf (fun _ => by first | assumption | omega)) ?_
      refine rw_q rfl rfl rfl (q_leA EOp rfl rfl Zf rfl rfl Mm (fun _ => by first | assumption | omega)) ?_
      refine Al fun g7 => ?_
      refine Tx ?_
      refine Cl (mQ x12 p2 (gt (aF later1 1) n2)) fun x13 => ?_
      refine Pr EPlace x13 (cI p2 (gt (aF later1 1) n2)).1 24 fun hlen7 => ?_
      refine Tx ?_
      refine Al fun g8 => ?_
      refine Al fun g9 => ?_
      refine Tx ?_
      refine Cd (b := ((cI p2 (gt (aF later1 1) n2)).2.2 != 0)) (fun hc7 => ?_) fun hc7 => ?_
      ·have hc7p := bne_iff_ne.1 hc7
       refine Tx ?_
       refine Fc EStep ?_
       refine Fc EPlace ?_
       refine ai ?_; rw [show (bi h1 o1) = ((⟨[], []⟩ : History), (cI p2 (gt (aF later1 1) n2)).2.2) by rw [← hf2, aE hlt1]; simp only [dK, hc7, Cf]]; exact Re ⟨(⟨none, 0⟩ : SlV), (⟨none, 0⟩ : SlV)⟩ (Va (Vt Vn))
      ·have hc7p := ae hc7
       refine Tx ?_
       (repeat refine ao ?_); refine au (fun j => match j with | 5 => some x11b.toList | 7 => some [g1] | 9 => some [g1] | _ => some []) ?_
       refine ra_q (.an (i := 0) (js := [1, 2, 3, 4, 5]) rfl Kr Kr Kr Kr) (bK.all _) (by intro g hg; simp only [List.mem_append, List.mem_singleton, List.not_mem_nil, or_false, false_or, Option.mem_toList, Option.mem_def, List.append_nil] at hg; first | exact .inr ⟨ownL EStep 85 x11 x11b l2, Mm, hg⟩) rfl rfl rfl (q_ldA rfl rfl Zf rfl Mm rfl) ?_
       refine Rb 1 rfl Qp ?_
       refine Ra 2 rfl Q1 ?_
       refine Rb 3 rfl (q_ldA rfl rfl Zf rfl Mm rfl) ?_
       refine ra_q (.an (i := 6) (js := [4, 5]) rfl Kr Kr Kr Kr) (bK.all _) (by intro g hg; simp only [List.mem_append, List.mem_singleton, List.not_mem_nil, or_false, false_or, Option.mem_toList, Option.mem_def, List.append_nil] at hg; first | exact .inr ⟨ownL EStep 85 x11 x11b l2, Mm, hg⟩) rfl rfl rfl (q_pev rfl Zf) ?_
       refine ap 4 Kr ?_
       refine bB EStep [(cI p2 (gt (aF later1 1) n2)).2.1] (.an rfl rfl) (ac rfl) rfl rfl rfl rfl rfl rfl rfl rfl rfl rfl rfl rfl rfl rfl rfl fun x14 x14b => ?_
       refine ap 5 Kr ?_
       refine b5 EStep l2 [(cI p2 (gt (aF later1 1) n2)).2.1] (b := x11b) (.an rfl rfl) (fun g h => .inr (by simp [h])) (ac rfl) rfl rfl rfl rfl rfl rfl rfl (fun _ _ => Uo) rfl rfl rfl rfl rfl rfl rfl (c6 (e := 85) (b := x14b) Mm) (by show (l2.length + 1) * 88 ≤ 140737488355328; (try simp only [List.length_append, List.length_cons, List.length_nil]); omega) fun x15 x15b => ?_
       refine ap 7 Kr ?_
       refine eS (.an rfl rfl) (.inr (by simp)) (ac rfl) rfl rfl rfl rfl rfl rfl rfl rfl rfl Ub rfl ?_
       refine Ra 8 rfl Qp ?_
       refine ap 9 Kr ?_
       refine ew (.an rfl rfl) (.inr (by simp)) (ac rfl) rfl rfl rfl rfl rfl rfl rfl rfl rfl Ub rfl ?_
       refine bn Kr ?_
       refine Tx ?_
       refine rw_q rfl rfl rfl (q_add rfl rfl Zf rfl Zf Zo) ?_
       refine Tx ?_
       refine ⟨⟨(n2 + 1), (l2 ++ [(cI p2 (gt (aF later1 1) n2)).2.1]), x15, x15b, (cI p2 (gt (aF later1 1) n2)).1, x13⟩, ⟨hlt1, Zl, (by rw [← hf2, aE hlt1]; simp only [dK, hc7, Cf] : (bi h1 o1) = (dK ((aF later1 1).drop (n2 + 1)) (l2 ++ [(cI p2 (gt (aF later1 1) n2)).2.1]) (cI p2 (gt (aF later1 1) n2)).1)).symm⟩, (by simp only []; omega), Le4⟩
     ·have hge1 : (aF later1 1).length ≤ n2 := by have := of_decide_eq_false hc6; omega
      refine Tx ?_
      refine cw_le (ay EStep 85 x11 x11b l2 Uo) ?_
      refine ai ?_; rw [show (bi h1 o1) = ((⟨l2, p2⟩ : History), 0) by rw [← hf2, List.drop_of_length_le hge1]; simp only [dK, Cf]]; exact Re ⟨x11, x12⟩ (Va (Vt Vn))
theorem jg (h : History) : cD h = h.l.map (·.o) := by
 have key : ∀ (l : List Step) (acc : List Op), dL l acc = acc ++ l.map (·.o) := by
  intro l
  induction l with
  | nil => intro acc; simp [dL]
  | cons p r ih => intro acc; rw [dL, ih]; simp
 unfold cD
 rw [key]; simp
theorem m9 {l : List Op} (h : (aQ l).2 = 0) : l.length ≤ 30 := by
 unfold aQ at h
 cases hc : decide ((l.length : Int) > 30) with
 | true => rw [hc, cond_true] at h; cases h
 | false => have := of_decide_eq_false hc; omega
theorem iW {h : History} (hc : cH h = 0) : (aQ (cD h)).2 = 0 ∧ dS (aQ (cD h)).1 h = true := by
 unfold cH at hc
 cases h1 : ((aQ (cD h)).2 == 0 && !dS (aQ (cD h)).1 h) with
 | true => rw [h1, cond_true] at hc; cases hc
 | false =>
  rw [h1, cond_false] at hc
  rw [hc] at h1
  exact ⟨hc, by simpa using h1⟩
theorem mt {h : History} (hc : cH h = 0) : h.l.length ≤ 30 := by
 have := m9 (iW hc).1
 rw [jg, List.length_map] at this
 exact this
theorem jN (x : SlV) (l : List (NPeer.G × Peer)) : DoesG Tryz.prog 84 [x.val l.length] [RdL NPeer.E x l] ⟨[], []⟩ (fun (X : SlV × Option Nat) => X.1.val l.length) (fun _ => []) (fun X => ⟨[], [ownL NPeer.E 101 X.1 X.2 l]⟩) := by
 refine co aZ Tryz.func84 rfl Tryz.ntmps84 Tryz.results84 rfl inferInstance (fun _ => inferInstance) fun C => ?_
 refine dP (φ := l.length * NPeer.E.by_ ≤ 140737488355328) [RdL NPeer.E x l] Sm (fun M w h => (allF1 h).len) fun hlen => ?_
 refine Tx ?_
 refine rw_q rfl rfl rfl (jR rfl rfl Zf rfl) ?_
 refine dY ?_
 (repeat refine ao ?_); refine jh rfl rfl (fun hc0 => ?_) (fun hc0 => ?_)
 ·refine dP [RdL NPeer.E x l] Sm (fun M w h => (allF1 h).nil_of hc0) fun hnil => ?_
  subst hnil
  refine cw_le (eO NPeer.E 101) ?_
  refine Tx ?_
  (repeat refine ao ?_); refine ai ?_
  exact ⟨(⟨none, 0⟩, none), _, (.cons (.tmp rfl) .nil), rfl, .nil _, .nil _, Sp⟩
 ·refine Tx ?_
  refine bB NPeer.E [] .sq (ac rfl) rfl rfl rfl rfl rfl rfl rfl rfl rfl rfl rfl rfl rfl rfl rfl fun x1 x1b => ?_
  refine Rp rfl rfl rfl rfl ?_
  refine b5 NPeer.E [] l (b := x1b) .sq (fun _ _ => .inl ⟨_, rfl⟩) (ac rfl) rfl rfl rfl rfl rfl rfl rfl (fun _ _ => Uo) rfl rfl rfl rfl rfl rfl rfl (fr Mm) (by simpa using hlen) fun x2 x2b => ?_
  refine Tx ?_
  (repeat refine ao ?_); refine ai ?_
  exact ⟨(x2, x2b), _, (.cons (.tmp rfl) .nil), rfl, .nil _, .nil _, Sp⟩
theorem kv (x : SlV) (γ : Nat → NPeer.G) (l : List Peer) : DoesG Tryz.prog 84 [x.val l.length] [RdG NPeer x γ l] ⟨[], []⟩ (fun (X : SlV × Option Nat) => X.1.val l.length) (fun _ => []) (fun X => ⟨[], [ownL NPeer.E 101 X.1 X.2 (zipG γ 0 l)]⟩) := by
 have := jN x (zipG γ 0 l)
 rw [dh] at this
 exact this
def dx  : List Peer → Int
 | [] => 0
 | pn1 :: rn1 => (bif (((decide (pn1.life < 0) || decide (pn1.life > 50)) || decide (pn1.seq < 0)) || decide (pn1.seq > 30)) then 3 else (bif ((pn1.life == 0) && (decide (pn1.seq > 0) || decide ((pn1.roots.length : Int) > 0))) then 4 else (bif ((bL pn1.roots) != 0) then (bL pn1.roots) else (dx rn1))))
def cu (h1 : Hub) : Int :=
 (bif ((cH h1.h) != 0) then (cH h1.h) else (bif (decide (h1.version < 0) || decide (h1.version > 60)) then 3 else (bif ((h1.peers.length : Int) != 3) then 4 else (dx h1.peers))))
theorem lu (y1 : SlV) (y2 : SlV) (y3 : SlV) (h1 : Hub) : Does Tryz.prog 131 [.agg ⟨[y1.val h1.h.l.length, y2.val h1.h.t.length, .int .i64 h1.version, y3.val h1.peers.length]⟩] [RdL EStep y1 h1.h.l, RdL EPlace y2 h1.h.t, RdN NPeer y3 h1.peers] (fun (_ : Unit) => .int .i64 (cu h1)) (fun _ => []) := by
 refine bj aZ Tryz.func131 rfl Tryz.ntmps131 Tryz.results131 rfl inferInstance (fun _ => inferInstance) fun C => ?_
 refine Pc EStep y1 h1.h.l 88 fun hlen1 => ?_
 refine Pc EPlace y2 h1.h.t 24 fun hlen2 => ?_
 refine Pn NPeer y3 h1.peers 40 fun hlen3 => ?_
 refine Tx ?_
 refine Bx fun g1 => ?_
 refine Tx ?_
 refine Cl (l6 y1 y2 h1.h) fun _ => ?_
 refine Tx ?_
 refine Cd (b := ((cH h1.h) != 0)) (fun hc1 => ?_) fun hc1 => ?_
 ·have hc1p := bne_iff_ne.1 hc1
  refine Tx ?_
  refine ai ?_; simp only [cu, hc1, Cf]; exact Re () (Vt Vn)
 ·have hc1p := ae hc1
  refine Tx ?_
  refine Cd (b := (decide (h1.version < 0) || decide (h1.version > 60))) (fun hc2 => ?_) fun hc2 => ?_
  ·refine Tx ?_
   refine ai ?_; simp only [cu, hc1, hc2, Cf]; exact Re () (Vt Vn)
  ·refine Tx ?_
   refine Cd (b := ((h1.peers.length : Int) != 3)) (fun hc3 => ?_) fun hc3 => ?_
   ·have hc3p := bne_iff_ne.1 hc3
    refine Tx ?_
    refine ai ?_; simp only [cu, hc1, hc2, hc3, Cf]; exact Re () (Vt Vn)
   ·have hc3p := ae hc3
    refine Tx ?_
    (repeat refine ao ?_); refine Lp [2,26,27] [true] (fun (n1 : Nat) => (⟨[(28, .v (.int .i64 (n1 : Int)))], [], [], [], (n1 ≤ h1.peers.length) ∧ (dx (h1.peers.drop n1)) = (cu h1), h1.peers.length - n1⟩ : Ls)) 0 (Sc (Sc (Sc Sn))) (.keep (.nil)) ⟨Nat.zero_le _, (by simp only [cu, hc1, hc2, hc3, Cf] : (cu h1) = (dx h1.peers)).symm⟩ Le4 ?_
    rintro n1 ⟨hkn1, hf1⟩
    simp only [List.cons_append, List.nil_append]
    refine Tx ?_
    refine Cd (b := decide ((n1 : Int) < (h1.peers.length : Int))) (fun hc4 => ?_) fun hc4 => ?_
    ·have hlt0 : n1 < h1.peers.length := Int.ofNat_lt.1 (of_decide_eq_true hc4)
     refine Tx ?_
     refine fj NPeer (X := y3) (l := h1.peers) Mm fun (γ1 : Nat → SlV) => ?_
     refine rw_q rfl rfl rfl (dw NPeer γ1 n1 rfl rfl Zf rfl Zf rfl rfl rfl Mm rfl Zf (fun _ => by first | assumption | omega)) ?_
     refine rw_q rfl rfl rfl (q_is (v' := .agg ⟨[.int .i64 (gt h1.peers n1).life, .int .i64 (gt h1.peers n1).seq, (γ1 n1).val (gt h1.peers n1).roots.length]⟩) (fP NPeer γ1 rfl rfl Zf rfl rfl Mm (fun _ => by first | assumption | omega)) rfl) ?_
     refine aI (F := RdL EInt (γ1 n1) (gt h1.peers n1).roots) [am NPeer γ1 h1.peers] Sm (fun M w h => (allF1 h) n1 Zc _ (.head _)) ?_
     refine Al fun g2 => ?_
     refine Tx ?_
     refine Cd (b := (((decide ((gt h1.peers n1).life < 0) || decide ((gt h1.peers n1).life > 50)) || decide ((gt h1.peers n1).seq < 0)) || decide ((gt h1.peers n1).seq > 30))) (fun hc5 => ?_) fun hc5 => ?_
     ·refine Tx ?_
      refine ai ?_; rw [show (cu h1) = 3 by rw [← hf1, aE hlt0]; simp only [dx, hc5, Cf]]; exact Re () (Vt Vn)
     ·refine Tx ?_
      refine Cd (b := (((gt h1.peers n1).life == 0) && (decide ((gt h1.peers n1).seq > 0) || decide (((gt h1.peers n1).roots.length : Int) > 0)))) (fun hc6 => ?_) fun hc6 => ?_
      ·refine Tx ?_
       refine ai ?_; rw [show (cu h1) = 4 by rw [← hf1, aE hlt0]; simp only [dx, hc5, hc6, Cf]]; exact Re () (Vt Vn)
      ·refine Tx ?_
       refine Cl (gb (γ1 n1) (gt h1.peers n1).roots) fun _ => ?_
       refine Tx ?_
       refine Cd (b := ((bL (gt h1.peers n1).roots) != 0)) (fun hc7 => ?_) fun hc7 => ?_
       ·have hc7p := bne_iff_ne.1 hc7
        refine Tx ?_
        refine ai ?_; rw [show (cu h1) = (bL (gt h1.peers n1).roots) by rw [← hf1, aE hlt0]; simp only [dx, hc5, hc6, hc7, Cf]]; exact Re () (Vt Vn)
       ·have hc7p := ae hc7
        refine Tx ?_
        refine rw_q rfl rfl rfl (q_add rfl rfl Zf rfl Zf Zo) ?_
        refine Tx ?_
        refine ⟨(n1 + 1), ⟨hlt0, (by rw [← hf1, aE hlt0]; simp only [dx, hc5, hc6, hc7, Cf] : (cu h1) = (dx (h1.peers.drop (n1 + 1)))).symm⟩, (by simp only []; omega), Le4⟩
    ·have hge0 : h1.peers.length ≤ n1 := by have := of_decide_eq_false hc4; omega
     refine Tx ?_
     refine ai ?_; rw [show (cu h1) = 0 by rw [← hf1, List.drop_of_length_le hge0]; simp only [dx, Cf]]; exact Re () (Vt Vn)
theorem fD {h : Hub} (hc : cu h = 0) : cH h.h = 0 ∧ 0 ≤ h.version ∧ h.version ≤ 60 ∧ h.peers.length = 3 := by
 unfold cu at hc
 cases h1 : (cH h.h != 0) with
 | true => rw [h1, cond_true] at hc; rw [hc] at h1; cases h1
 | false =>
 rw [h1, cond_false] at hc
 cases h2 : (decide (h.version < 0) || decide (h.version > 60)) with
 | true => rw [h2, cond_true] at hc; cases hc
 | false =>
 rw [h2, cond_false] at hc
 cases h3 : ((h.peers.length : Int) != 3) with
 | true => rw [h3, cond_true] at hc; cases hc
 | false =>
 simp only [Bool.or_eq_false_iff, decide_eq_false_iff_not] at h2
 exact ⟨ae h1, by omega, by omega, by have := ae h3; omega⟩
def eZ (h1 : Hub) : List Peer → Nat → (List Peer) → Hub
 | [], n1, l1 => (⟨h1.h, h1.version, l1⟩ : Hub)
 | pn1 :: rn1, n1, l1 => (eZ h1 rn1 (n1 + 1) (l1.set n1 (gt l1 n1)))
def fl (h1 : Hub) : Hub :=
 (eZ h1 h1.peers 0 h1.peers)
theorem pA (y1 : SlV) (y2 : SlV) (y3 : SlV) (h1 : Hub) : DoesG Tryz.prog 59 [.agg ⟨[y1.val h1.h.l.length, y2.val h1.h.t.length, .int .i64 h1.version, y3.val h1.peers.length]⟩] [RdL EStep y1 h1.h.l, RdL EPlace y2 h1.h.t, RdN NPeer y3 h1.peers] ⟨[], []⟩ (fun (X : SlV × SlV × SlV × Option Nat × (Nat → SlV)) => .agg ⟨[X.1.val (fl h1).h.l.length, X.2.1.val (fl h1).h.t.length, .int .i64 (fl h1).version, X.2.2.1.val (fl h1).peers.length]⟩) (fun X => [RdL EStep X.1 (fl h1).h.l, RdL EPlace X.2.1 (fl h1).h.t, am NPeer X.2.2.2.2 (fl h1).peers]) (fun X => ⟨[], [ownL NPeer.E 101 X.2.2.1 X.2.2.2.1 (zipG X.2.2.2.2 0 (fl h1).peers)]⟩) := by
 refine co aZ Tryz.func59 rfl Tryz.ntmps59 Tryz.results59 rfl inferInstance (fun _ => inferInstance) fun C => ?_
 refine Pc EStep y1 h1.h.l 88 fun hlen1 => ?_
 refine Pc EPlace y2 h1.h.t 24 fun hlen2 => ?_
 refine Pn NPeer y3 h1.peers 40 fun hlen3 => ?_
 refine Tx ?_
 refine Bx fun g1 => ?_
 refine Al fun g2 => ?_
 refine dY ?_
 (repeat refine ao ?_); refine au (fun j => match j with | 7 => some [g1] | 9 => some [g1] | _ => some []) ?_
 refine Rb 0 rfl Qp ?_
 refine Rb 1 rfl (q_ldP rfl rfl Zf rfl Mm rfl) ?_
 refine Rb 3 rfl Qp ?_
 refine Ra 4 rfl Q1 ?_
 refine ap 2 Kr ?_
 refine aV (jy y1 y2 h1.h) (.an rfl rfl) (.inr (by simp [Lent.ids])) (ac rfl) rfl rfl rfl Kr rfl rfl Sm (.nil _) (.nil _) ?_
 intro x1
 refine Pr EPlace x1.2.2 h1.h.t 24 fun hlen4 => ?_
 refine Ra 6 rfl Qp ?_
 refine ap 5 Kr ?_
 refine fj NPeer (X := y3) (l := h1.peers) Mm fun (γ1 : Nat → SlV) => ?_
 refine aV (kv y3 γ1 h1.peers) (.an rfl rfl) (.inr (by simp [Lent.ids])) (ac rfl) rfl rfl rfl Kr rfl rfl Sm (.nil _) (.nil _) ?_
 intro x2
 refine ap 7 Kr ?_
 refine eS (.an rfl rfl) (.inr (by simp)) (ac rfl) rfl rfl rfl rfl rfl rfl rfl rfl rfl Ub rfl ?_
 refine Ra 8 rfl Qp ?_
 refine ap 9 Kr ?_
 refine ew (.an rfl rfl) (.inr (by simp)) (ac rfl) rfl rfl rfl rfl rfl rfl rfl rfl rfl Ub rfl ?_
 refine bn Kr ?_
 refine Tx ?_
 (repeat refine ao ?_); refine Lp [1,2,15] [true, false] (fun (i_ : List Peer × (Nat → SlV) × Nat) => match i_ with | ⟨l1, γ2, n1⟩ => (⟨[(14, .v (x2.1.val l1.length)), (16, .v (.int .i64 (n1 : Int)))], [⟨g1, 32, [x1.1.val h1.h.l.length, x1.2.2.val h1.h.t.length, .int .i64 h1.version, x2.1.val l1.length]⟩], [ownL NPeer.E 101 x2.1 x2.2 (zipG γ2 0 l1), ownL EStep 85 x1.1 x1.2.1 h1.h.l], [am NPeer γ2 l1], (n1 ≤ h1.peers.length) ∧ (l1.length = h1.peers.length) ∧ (eZ h1 (h1.peers.drop n1) n1 l1) = (fl h1), h1.peers.length - n1⟩ : Ls)) ⟨h1.peers, γ1, 0⟩ (Sc (Sc (Sc Sn))) (.keep (.drop (.nil))) ⟨Nat.zero_le _, rfl, (by simp only [fl, Cf] : (fl h1) = (eZ h1 h1.peers 0 h1.peers)).symm⟩ Le4 ?_
 rintro ⟨l1, γ2, n1⟩ ⟨hkn1, hll, hf1⟩
 simp only [List.cons_append, List.nil_append]
 refine Tx ?_
 refine Cd (b := decide ((n1 : Int) < (h1.peers.length : Int))) (fun hc1 => ?_) fun hc1 => ?_
 ·have hlt0 : n1 < h1.peers.length := Int.ofNat_lt.1 (of_decide_eq_true hc1)
  refine Tx ?_
  refine rw_qO NPeer.E (e := 101) (X := x2.1) (b := x2.2) (l := zipG γ2 0 l1) Mm .sq rfl rfl rfl (dw NPeer γ2 n1 rfl rfl Zf rfl Zf rfl rfl rfl (.head _) rfl Zf Za) ?_
  refine rw_qO NPeer.E (e := 101) (X := x2.1) (b := x2.2) (l := zipG γ2 0 l1) Mm .sq rfl rfl rfl (q_is (v' := .agg ⟨[.int .i64 (gt l1 n1).life, .int .i64 (gt l1 n1).seq, (γ2 n1).val (gt l1 n1).roots.length]⟩) (fP NPeer γ2 rfl rfl Zf rfl rfl (.head _) Za) rfl) ?_
  refine aI (F := RdL EInt (γ2 n1) (gt l1 n1).roots) [am NPeer γ2 l1] Sm (fun M w h => (allF1 h) n1 Zc _ (.head _)) ?_
  refine Al fun g3 => ?_
  refine Tx ?_
  (repeat refine ao ?_); refine au (fun j => match j with | 8 => some x2.2.toList | _ => some []) ?_
  refine Ra 0 rfl Qp ?_
  refine Ra 1 rfl Q1 ?_
  refine Ra 2 rfl Qp ?_
  refine Rb 3 rfl Qp ?_
  refine Ra 4 rfl Q1 ?_
  refine ap 5 Kr ?_
  refine aV (cP (γ2 n1) (gt l1 n1).roots) (.an rfl rfl) (.inr (by simp [Lent.ids])) (ac rfl) rfl rfl rfl Kr rfl rfl Sm (.nil _) (.nil _) ?_
  intro x5
  refine rw_qO NPeer.E (e := 101) (X := x2.1) (b := x2.2) (l := zipG γ2 0 l1) Mm (.ab (i := 6) (js := []) [7, 8] rfl Kr Kr Kr Kr Kr) rfl rfl rfl (dw NPeer γ2 n1 rfl rfl Zf rfl Zf rfl rfl rfl (.head _) rfl Zf Za) ?_
  refine Ra 7 rfl (q_fae rfl rfl Zf rfl rfl) ?_
  refine ap 8 Kr ?_
  refine rw_le (ay EInt 3 x5.1 x5.2 (gt l1 n1).roots Uo) ?_
  refine gf NPeer γ2 l1 n1 2 x5.1 (gt l1 n1) (e := 101) (X := x2.1) (b := x2.2) (.an rfl rfl) (.inr (fun g h => by simp [h])) (ac rfl) rfl rfl rfl rfl rfl rfl rfl rfl rfl rfl rfl Zb rfl Uo ?_
  refine aI (F := am NPeer (updG γ2 n1 x5.1) (l1.set n1 (gt l1 n1))) [am NPeer γ2 l1, RdL EInt x5.1 (gt l1 n1).roots] Sm (fun M w h => am.upd NPeer (h _ (.head _)) (da Sm h)) ?_
  have hv1 : x2.1.val l1.length = x2.1.val (l1.set n1 (gt l1 n1)).length := congrArg (SlV.val x2.1) List.length_set.symm
  try rw [hv1]
  refine bn Kr ?_
  refine Tx ?_
  refine rw_q rfl rfl rfl (q_add rfl rfl Zf rfl Zf Zo) ?_
  refine Tx ?_
  refine ⟨⟨(l1.set n1 (gt l1 n1)), (updG γ2 n1 x5.1), (n1 + 1)⟩, ⟨hlt0, (by (try simp only [List.length_set]); omega), (by rw [← hf1, aE hlt0]; simp only [eZ, Cf] : (fl h1) = (eZ h1 (h1.peers.drop (n1 + 1)) (n1 + 1) (l1.set n1 (gt l1 n1)))).symm⟩, (by simp only []; omega), Le4⟩
 ·have hge0 : h1.peers.length ≤ n1 := by have := of_decide_eq_false hc1; omega
  refine Tx ?_
  refine cw_le (ay EStep 85 x1.1 x1.2.1 h1.h.l Uo) ?_
  refine ai ?_; rw [show (fl h1) = (⟨h1.h, h1.version, l1⟩ : Hub) by rw [← hf1, List.drop_of_length_le hge0]; simp only [eZ, Cf]]; exact Re ⟨x1.1, x1.2.2, x2.1, x2.2, γ2⟩ (Va Vn)
theorem lr (h : Hub) : ∀ (r : List Peer) (n : Nat) (l : List Peer), eZ h r n l = ⟨h.h, h.version, l⟩
 | [], _, _ => rfl
 | _ :: r, n, l => by
  have : l.set n (gt l n) = l := by
   by_cases h : n < l.length
   ·rw [gt_eq h]; exact List.set_getElem_self h
   ·exact List.set_eq_of_length_le (Nat.le_of_not_lt h)
  rw [eZ, this]; exact lr h r (n + 1) l
theorem qV (h : Hub) : fl h = h := lr h _ 0 h.peers
theorem lq (y1 : SlV) (y2 : SlV) (y3 : SlV) (h1 : Hub) : DoesG Tryz.prog 59 [.agg ⟨[y1.val h1.h.l.length, y2.val h1.h.t.length, .int .i64 h1.version, y3.val h1.peers.length]⟩] [RdL EStep y1 h1.h.l, RdL EPlace y2 h1.h.t, RdN NPeer y3 h1.peers] ⟨[], []⟩ (fun (X : SlV × SlV × SlV × Option Nat × (Nat → SlV)) => .agg ⟨[X.1.val h1.h.l.length, X.2.1.val h1.h.t.length, .int .i64 h1.version, X.2.2.1.val h1.peers.length]⟩) (fun X => [RdL EStep X.1 h1.h.l, RdL EPlace X.2.1 h1.h.t, am NPeer X.2.2.2.2 h1.peers]) (fun X => ⟨[], [ownL NPeer.E 101 X.2.2.1 X.2.2.2.1 (zipG X.2.2.2.2 0 h1.peers)]⟩) := by
 have := pA y1 y2 y3 h1
 rw [qV] at this
 exact this
def aM (r1 : Rec) : Int :=
 (bif (decide (r1.kind < 1) || decide (r1.kind > 3)) then 4 else (bif (r1.kind == 1) then (bif (((r1.who != 0) || (r1.life != 0)) || decide ((r1.roots.length : Int) > 0)) then 4 else (ck r1.o)) else (bif (((!(decide (r1.o = (⟨0, 0, 0, 0, 0, 0, 0⟩ : Op)))) || ((r1.kind == 3) && (r1.life != 0))) || ((r1.kind == 2) && decide ((r1.roots.length : Int) > 0))) then 4 else (bif ((decide (r1.who < 0) || decide (r1.who ≥ 3)) || ((r1.kind == 2) && (decide (r1.life < 1) || decide (r1.life > 50)))) then 3 else (bL r1.roots)))))
theorem fw (y1 : SlV) (r1 : Rec) : Does Tryz.prog 78 [.agg ⟨[.int .i64 r1.kind, .int .i64 r1.who, .int .i64 r1.life, y1.val r1.roots.length, .int .i64 r1.o.time, .int .i64 r1.o.who, .int .i64 r1.o.node, .int .i64 r1.o.parent, .int .i64 r1.o.name, .int .i64 r1.o.life, .int .i64 r1.o.seq]⟩] [RdL EInt y1 r1.roots] (fun (_ : Unit) => .int .i64 (aM r1)) (fun _ => []) := by
 refine bj aZ Tryz.func78 rfl Tryz.ntmps78 Tryz.results78 rfl inferInstance (fun _ => inferInstance) fun C => ?_
 refine Pc EInt y1 r1.roots 8 fun hlen1 => ?_
 refine Tx ?_
 refine Bx fun g1 => ?_
 refine Tx ?_
 refine Cd (b := (decide (r1.kind < 1) || decide (r1.kind > 3))) (fun hc1 => ?_) fun hc1 => ?_
 ·refine Tx ?_
  refine ai ?_; simp only [aM, hc1, Cf]; exact Re () (Vt Vn)
 ·refine Tx ?_
  refine Cd (b := (r1.kind == 1)) (fun hc2 => ?_) fun hc2 => ?_
  ·have hc2p := eq_of_beq hc2
   refine Tx ?_
   refine Cd (b := (((r1.who != 0) || (r1.life != 0)) || decide ((r1.roots.length : Int) > 0))) (fun hc3 => ?_) fun hc3 => ?_
   ·refine Tx ?_
    refine ai ?_; simp only [aM, hc1, hc2, hc3, Cf]; exact Re () (Vt Vn)
   ·refine Tx ?_
    refine Cl (ef r1.o) fun _ => ?_
    refine Tx ?_
    refine ai ?_; simp only [aM, hc1, hc2, hc3, Cf]; exact Re () (Vt Vn)
  ·have hc2p := ne_of_beq_false hc2
   refine Tx ?_
   refine rw_q rfl rfl rfl (q_neE rS (l9 r1.o (⟨0, 0, 0, 0, 0, 0, 0⟩ : Op)) rfl rfl Zf rfl Zf rfl rfl) ?_
   refine Tx ?_
   refine Cd (b := (((!(decide (r1.o = (⟨0, 0, 0, 0, 0, 0, 0⟩ : Op)))) || ((r1.kind == 3) && (r1.life != 0))) || ((r1.kind == 2) && decide ((r1.roots.length : Int) > 0)))) (fun hc4 => ?_) fun hc4 => ?_
   ·refine Tx ?_
    refine ai ?_; simp only [aM, hc1, hc2, hc4, Cf]; exact Re () (Vt Vn)
   ·refine Tx ?_
    refine Cd (b := ((decide (r1.who < 0) || decide (r1.who ≥ 3)) || ((r1.kind == 2) && (decide (r1.life < 1) || decide (r1.life > 50))))) (fun hc5 => ?_) fun hc5 => ?_
    ·refine Tx ?_
     refine ai ?_; simp only [aM, hc1, hc2, hc4, hc5, Cf]; exact Re () (Vt Vn)
    ·refine Tx ?_
     refine Cl (gb y1 r1.roots) fun _ => ?_
     refine Tx ?_
     refine ai ?_; simp only [aM, hc1, hc2, hc4, hc5, Cf]; exact Re () (Vt Vn)
def fC (x1 : Peer) (y1 : Peer) : Bool :=
 (((x1.life == y1.life) && (x1.seq == y1.seq)) && (decide (x1.roots = y1.roots)))
theorem nU (y2 : SlV) (x1 : Peer) (y3 : SlV) (y1 : Peer) : Does Tryz.prog 70 [.agg ⟨[.int .i64 x1.life, .int .i64 x1.seq, y2.val x1.roots.length]⟩, .agg ⟨[.int .i64 y1.life, .int .i64 y1.seq, y3.val y1.roots.length]⟩] [RdL EInt y2 x1.roots, RdL EInt y3 y1.roots] (fun (_ : Unit) => .bool (fC x1 y1)) (fun _ => []) := by
 refine bj aZ Tryz.func70 rfl Tryz.ntmps70 Tryz.results70 rfl inferInstance (fun _ => inferInstance) fun C => ?_
 refine Pc EInt y2 x1.roots 8 fun hlen1 => ?_
 refine Pc EInt y3 y1.roots 8 fun hlen2 => ?_
 refine Tx ?_
 refine Bx fun g1 => ?_
 refine Bx fun g2 => ?_
 refine Tx ?_
 refine dv (fun hG_ => (fun y1 a y2 b => dA y1 y2 a b) y2 x1.roots y3 y1.roots) Zf .sq (aG rfl rfl rfl) rfl rfl rfl Kr rfl Bt Sm ?_
 refine Tx ?_
 refine ai ?_; simp only [fC, Cf]; exact Re () (Vt Vn)
def bF (s2 : List Peer) (eq1 : Peer → Peer → Bool) : List Peer → Nat → Bool
 | [], n1 => true
 | pn1 :: rn1, n1 => (bif (!(eq1 pn1 (gt s2 n1))) then false else (bF s2 eq1 rn1 (n1 + 1)))
def bS (s1 : List Peer) (s2 : List Peer) (eq1 : Peer → Peer → Bool) : Bool :=
 (bif ((s1.length : Int) != (s2.length : Int)) then false else (bF s2 eq1 s1 0))
theorem iR (y1 : SlV) (s1 : List Peer) (y2 : SlV) (s2 : List Peer) (f1 : Nat) (caps1 : List Value) (pre1 : List Pred) [StabL pre1] (eq1 : Peer → Peer → Bool) (hfb1 : tab.fnb f1 = true) (hfn1 : ∀ (z0a_ : SlV) (a0_ : Peer) (z1a_ : SlV) (a1_ : Peer), Does Tryz.prog f1 ([.agg ⟨[.int .i64 a0_.life, .int .i64 a0_.seq, z0a_.val a0_.roots.length]⟩, .agg ⟨[.int .i64 a1_.life, .int .i64 a1_.seq, z1a_.val a1_.roots.length]⟩] ++ caps1) (RdL EInt z0a_ a0_.roots :: RdL EInt z1a_ a1_.roots :: pre1) (fun (_ : Unit) => .bool (eq1 a0_ a1_)) (fun _ => [])) : Does Tryz.prog 69 [y1.val s1.length, y2.val s2.length, .func (.func f1) #[] ⟨caps1⟩] (RdN NPeer y1 s1 :: RdN NPeer y2 s2 :: pre1) (fun (_ : Unit) => .bool (bS s1 s2 eq1)) (fun _ => []) := by
 refine bj aZ Tryz.func69 rfl Tryz.ntmps69 Tryz.results69 rfl inferInstance (fun _ => inferInstance) fun C => ?_
 refine dP (φ := s1.length * 40 ≤ 140737488355328) [RdN NPeer y1 s1] Sf (fun M w h => (allF1 h).len) fun hlen1 => ?_
 refine dP (φ := s2.length * 40 ≤ 140737488355328) [RdN NPeer y2 s2] Sf (fun M w h => (allF1 h).len) fun hlen2 => ?_
 refine Tx ?_
 refine Cd (b := ((s1.length : Int) != (s2.length : Int))) (fun hc1 => ?_) fun hc1 => ?_
 ·have hc1p := bne_iff_ne.1 hc1
  refine Tx ?_
  have hr1 : (bS s1 s2 eq1) = false := by simp only [bS, hc1, Cf]
  refine ai ?_
  rw [hr1]
  exact ⟨(), _, (.cons (.tmp rfl) .nil), rfl, Sf, .nil _, .nil _⟩
 ·have hc1p := ae hc1
  refine Tx ?_
  (repeat refine ao ?_); refine Lp [1,2,6,15,16] [] (fun (n1 : Nat) => (⟨[(17, .v (.int .i64 (n1 : Int)))], [], [], [], (n1 ≤ s1.length) ∧ (bF s2 eq1 (s1.drop n1) n1) = (bS s1 s2 eq1), s1.length - n1⟩ : Ls)) 0 (Sc (Sc (Sc (Sc (Sc Sn))))) (.nil) ⟨Nat.zero_le _, (by simp only [bS, hc1, Cf] : (bS s1 s2 eq1) = (bF s2 eq1 s1 0)).symm⟩ Le5 ?_
  rintro n1 ⟨hkn1, hf1⟩
  simp only [List.cons_append, List.nil_append]
  refine Tx ?_
  refine Cd (b := decide ((n1 : Int) < (s1.length : Int))) (fun hc2 => ?_) fun hc2 => ?_
  ·have hlt0 : n1 < s1.length := Int.ofNat_lt.1 (of_decide_eq_true hc2)
   refine Tx ?_
   refine fj NPeer (X := y1) (l := s1) Mm fun (γ1 : Nat → SlV) => ?_
   refine rw_q rfl rfl rfl (dw NPeer γ1 n1 rfl rfl Zf rfl Zf rfl rfl rfl Mm rfl Zf (fun _ => by first | assumption | omega)) ?_
   refine rw_q rfl rfl rfl (q_is (v' := .agg ⟨[.int .i64 (gt s1 n1).life, .int .i64 (gt s1 n1).seq, (γ1 n1).val (gt s1 n1).roots.length]⟩) (fP NPeer γ1 rfl rfl Zf rfl rfl Mm (fun _ => by first | assumption | omega)) rfl) ?_
   refine aI (F := RdL EInt (γ1 n1) (gt s1 n1).roots) [am NPeer γ1 s1] Sf (fun M w h => (allF1 h) n1 Zc _ (.head _)) ?_
   refine Al fun g1 => ?_
   refine Tx ?_
   refine fj NPeer (X := y2) (l := s2) Mm fun (γ2 : Nat → SlV) => ?_
   refine rw_q rfl rfl rfl (dw NPeer γ2 n1 rfl rfl Zf rfl Zf rfl rfl rfl Mm rfl Zf (fun _ => by first | assumption | omega)) ?_
   refine rw_q rfl rfl rfl (q_is (v' := .agg ⟨[.int .i64 (gt s2 n1).life, .int .i64 (gt s2 n1).seq, (γ2 n1).val (gt s2 n1).roots.length]⟩) (fP NPeer γ2 rfl rfl Zf rfl rfl Mm (fun _ => by first | assumption | omega)) rfl) ?_
   refine aI (F := RdL EInt (γ2 n1) (gt s2 n1).roots) [am NPeer γ2 s2] Sf (fun M w h => (allF1 h) n1 Zc _ (.head _)) ?_
   refine Al fun g2 => ?_
   refine Tx ?_
   refine gg (hfn1 (γ1 n1) (gt s1 n1) (γ2 n1) (gt s2 n1)) .sq (ac rfl) rfl rfl rfl rfl rfl (by assumption) rfl rfl rfl Sf ?_
   intro _
   refine Tx ?_
   refine Cd (b := (!(eq1 (gt s1 n1) (gt s2 n1)))) (fun hc3 => ?_) fun hc3 => ?_
   ·refine Tx ?_
    have hr2 : (bS s1 s2 eq1) = false := by rw [← hf1, aE hlt0]; simp only [bF, hc3, Cf]
    refine ai ?_
    rw [hr2]
    exact ⟨(), _, (.cons (.tmp rfl) .nil), rfl, Sf, .nil _, .nil _⟩
   ·refine Tx ?_
    refine rw_q rfl rfl rfl (q_add rfl rfl Zf rfl Zf Zo) ?_
    refine Tx ?_
    refine ⟨(n1 + 1), ⟨hlt0, (by rw [← hf1, aE hlt0]; simp only [bF, hc3, Cf] : (bS s1 s2 eq1) = (bF s2 eq1 (s1.drop (n1 + 1)) (n1 + 1))).symm⟩, (by simp only []; omega), Le5⟩
  ·have hge0 : s1.length ≤ n1 := by have := of_decide_eq_false hc2; omega
   refine Tx ?_
   have hr3 : (bS s1 s2 eq1) = true := by rw [← hf1, List.drop_of_length_le hge0]; simp only [bF, Cf]
   refine ai ?_
   rw [hr3]
   exact ⟨(), _, (.cons (.tmp rfl) .nil), rfl, Sf, .nil _, .nil _⟩
def fT (a1 : Hub) (b1 : Hub) : Bool :=
 (((dS a1.h b1.h) && (a1.version == b1.version)) && (bS a1.peers b1.peers fC))
theorem lZ (y1 : SlV) (y2 : SlV) (y3 : SlV) (a1 : Hub) (y4 : SlV) (y5 : SlV) (y6 : SlV) (b1 : Hub) : Does Tryz.prog 44 [.agg ⟨[y1.val a1.h.l.length, y2.val a1.h.t.length, .int .i64 a1.version, y3.val a1.peers.length]⟩, .agg ⟨[y4.val b1.h.l.length, y5.val b1.h.t.length, .int .i64 b1.version, y6.val b1.peers.length]⟩] [RdL EStep y1 a1.h.l, RdL EPlace y2 a1.h.t, RdN NPeer y3 a1.peers, RdL EStep y4 b1.h.l, RdL EPlace y5 b1.h.t, RdN NPeer y6 b1.peers] (fun (_ : Unit) => .bool (fT a1 b1)) (fun _ => []) := by
 refine bj aZ Tryz.func44 rfl Tryz.ntmps44 Tryz.results44 rfl inferInstance (fun _ => inferInstance) fun C => ?_
 refine Pc EStep y1 a1.h.l 88 fun hlen1 => ?_
 refine Pc EPlace y2 a1.h.t 24 fun hlen2 => ?_
 refine Pn NPeer y3 a1.peers 40 fun hlen3 => ?_
 refine Pc EStep y4 b1.h.l 88 fun hlen4 => ?_
 refine Pc EPlace y5 b1.h.t 24 fun hlen5 => ?_
 refine Pn NPeer y6 b1.peers 40 fun hlen6 => ?_
 refine Tx ?_
 refine Bx fun g1 => ?_
 refine Bx fun g2 => ?_
 refine Tx ?_
 refine Cl (gv y1 y2 a1.h y4 y5 b1.h) fun _ => ?_
 refine Tx ?_
 refine dv (fun hG_ => iR y3 a1.peers y6 b1.peers _ _ _ fC Kr (fun z0a_ a0_ z1a_ a1_ => nU z0a_ a0_ z1a_ a1_)) Zf .sq (aG rfl rfl rfl) rfl rfl rfl Kr rfl Bt Sm ?_
 refine Tx ?_
 refine ai ?_; simp only [fT, Cf]; exact Re () (Vt Vn)
def bs (h1 : Hub) (who1 : Int) : View × Int :=
 (bif ((cu h1) != 0) then ((⟨[], [], []⟩ : View), (cu h1)) else (bif (decide (who1 < 0) || decide (who1 ≥ 3)) then ((⟨[], [], []⟩ : View), 5) else ((bW h1.h.t (gt h1.peers who1.toNat).roots).1, (bW h1.h.t (gt h1.peers who1.toNat).roots).2)))
theorem j5 (y1 : SlV) (y2 : SlV) (y3 : SlV) (h1 : Hub) (who1 : Int) : Does Tryz.prog 115 [.agg ⟨[y1.val h1.h.l.length, y2.val h1.h.t.length, .int .i64 h1.version, y3.val h1.peers.length]⟩, .int .i64 who1] [RdL EStep y1 h1.h.l, RdL EPlace y2 h1.h.t, RdN NPeer y3 h1.peers] (fun (X : SlV × SlV × SlV) => .tuple #[.agg ⟨[X.1.val (bs h1 who1).1.roots.length, X.2.1.val (bs h1 who1).1.known.length, X.2.2.val (bs h1 who1).1.way.length]⟩, .int .i64 (bs h1 who1).2]) (fun X => [RdL EInt X.1 (bs h1 who1).1.roots, RdL EPlace X.2.1 (bs h1 who1).1.known, RdL EPlace X.2.2 (bs h1 who1).1.way]) := by
 refine bj aZ Tryz.func115 rfl Tryz.ntmps115 Tryz.results115 rfl inferInstance (fun _ => inferInstance) fun C => ?_
 refine Pc EStep y1 h1.h.l 88 fun hlen1 => ?_
 refine Pc EPlace y2 h1.h.t 24 fun hlen2 => ?_
 refine Pn NPeer y3 h1.peers 40 fun hlen3 => ?_
 refine Tx ?_
 refine Bx fun g1 => ?_
 refine Al fun g2 => ?_
 refine Tx ?_
 refine Cl (lu y1 y2 y3 h1) fun _ => ?_
 refine Tx ?_
 refine Cd (b := ((cu h1) != 0)) (fun hc1 => ?_) fun hc1 => ?_
 ·have hc1p := bne_iff_ne.1 hc1
  refine Tx ?_
  refine Fc EInt ?_
  refine Fc EPlace ?_
  refine ai ?_; simp only [bs, hc1, Cf]; exact Re ⟨(⟨none, 0⟩ : SlV), (⟨none, 0⟩ : SlV), (⟨none, 0⟩ : SlV)⟩ (Va (Vt Vn))
 ·have hc1p := ae hc1
  have hpl := fD (ae hc1)
  refine Tx ?_
  refine Cd (b := (decide (who1 < 0) || decide (who1 ≥ 3))) (fun hc2 => ?_) fun hc2 => ?_
  ·refine Tx ?_
   refine Fc EInt ?_
   refine Fc EPlace ?_
   refine ai ?_; simp only [bs, hc1, hc2, Cf]; exact Re ⟨(⟨none, 0⟩ : SlV), (⟨none, 0⟩ : SlV), (⟨none, 0⟩ : SlV)⟩ (Va (Vt Vn))
  ·have hwr := hc2
   simp only [Bool.or_eq_false_iff, decide_eq_false_iff_not] at hwr
   refine Tx ?_
   (repeat refine ao ?_); refine au (fun j => match j with | 12 => some [g2] | _ => some []) ?_
   refine Rb 0 rfl Qp ?_
   refine Rb 1 rfl Qp ?_
   refine Rb 2 rfl (q_ldP rfl rfl Zf rfl Mm rfl) ?_
   refine Rb 3 rfl Qp ?_
   refine Rb 4 rfl Q1 ?_
   refine Rb 5 rfl Qp ?_
   refine fj NPeer (X := y3) (l := h1.peers) Mm fun (γ1 : Nat → SlV) => ?_
   refine Rb 6 rfl (dw NPeer γ1 who1.toNat rfl rfl Zf rfl Zf rfl rfl rfl Mm rfl Zo (fun _ => by first | assumption | omega)) ?_
   refine Rb 7 rfl (q_fae rfl rfl Zf rfl rfl) ?_
   refine Rb 8 rfl (kH NPeer γ1 (v := (γ1 who1.toNat).val (gt h1.peers who1.toNat).roots.length) rfl rfl Zf rfl rfl Mm (fun _ => by first | assumption | omega) rfl) ?_
   refine aI (F := RdL EInt (γ1 who1.toNat) (gt h1.peers who1.toNat).roots) [am NPeer γ1 h1.peers] Sm (fun M w h => (allF1 h) who1.toNat Zc _ (.head _)) ?_
   refine ap 9 Kr ?_
   refine cJ (gE y2 h1.h.t (γ1 who1.toNat) (gt h1.peers who1.toNat).roots) (.an rfl rfl) (ac rfl) rfl rfl rfl Kr rfl rfl Sm ?_
   intro x1
   refine Pr EInt x1.1 (bW h1.h.t (gt h1.peers who1.toNat).roots).1.roots 8 fun hlen4 => ?_
   refine Pr EPlace x1.2.1 (bW h1.h.t (gt h1.peers who1.toNat).roots).1.known 24 fun hlen5 => ?_
   refine Pr EPlace x1.2.2 (bW h1.h.t (gt h1.peers who1.toNat).roots).1.way 24 fun hlen6 => ?_
   refine Ra 10 rfl Qp ?_
   refine Ra 11 rfl Qp ?_
   refine ap 12 Kr ?_
   refine cY (.an rfl rfl) (.inr (by simp)) (ac rfl) rfl rfl rfl rfl rfl rfl rfl rfl rfl Ub rfl ?_
   refine Ra 13 rfl Qp ?_
   refine bn Kr ?_
   (repeat refine ao ?_)
   refine ai ?_; simp only [bs, hc1, hc2, Cf]; exact Re ⟨x1.1, x1.2.1, x1.2.2⟩ (Va (Vt Vn))
def b8  : Hub :=
 (⟨(⟨[], []⟩ : History), 0, [(⟨0, 0, ([] : List Int)⟩ : Peer), (⟨0, 0, ([] : List Int)⟩ : Peer), (⟨0, 0, ([] : List Int)⟩ : Peer)]⟩ : Hub)
theorem iV  : Does Tryz.prog 40 [] [] (fun (X : SlV × SlV × SlV) => .agg ⟨[X.1.val b8.h.l.length, X.2.1.val b8.h.t.length, .int .i64 b8.version, X.2.2.val b8.peers.length]⟩) (fun X => [RdL EStep X.1 b8.h.l, RdL EPlace X.2.1 b8.h.t, RdN NPeer X.2.2 b8.peers]) := by
 refine bj aZ Tryz.func40 rfl Tryz.ntmps40 Tryz.results40 rfl inferInstance (fun _ => inferInstance) fun C => ?_
 refine Tx ?_
 refine Al fun g1 => ?_
 refine Tx ?_
 refine lA NPeer.E (zipG (fun _ => (⟨none, 0⟩ : SlV)) 0 [(⟨0, 0, ([] : List Int)⟩ : Peer), (⟨0, 0, ([] : List Int)⟩ : Peer), (⟨0, 0, ([] : List Int)⟩ : Peer)]) .sq (ac rfl) rfl rfl rfl rfl rfl rfl rfl rfl rfl rfl rfl rfl rfl rfl rfl rfl rfl fun x1 x1b => ?_
 refine Fr EInt ?_
 refine aI (F := am NPeer (fun _ => (⟨none, 0⟩ : SlV)) [(⟨0, 0, ([] : List Int)⟩ : Peer), (⟨0, 0, ([] : List Int)⟩ : Peer), (⟨0, 0, ([] : List Int)⟩ : Peer)]) [RdL EInt (⟨none, 0⟩ : SlV) ([] : List Int)] Sm (fun M w h => am.const NPeer (by intro a ha; simp only [List.mem_cons, List.not_mem_nil, or_false, or_self] at ha; subst ha; exact da Sm h)) ?_
 refine Tx ?_
 refine Fc EStep ?_
 refine Fc EPlace ?_
 refine cw_le (ay NPeer.E 101 x1 x1b (zipG (fun _ => (⟨none, 0⟩ : SlV)) 0 [(⟨0, 0, ([] : List Int)⟩ : Peer), (⟨0, 0, ([] : List Int)⟩ : Peer), (⟨0, 0, ([] : List Int)⟩ : Peer)]) Uo) ?_
 refine cS (F := RdN NPeer x1 [(⟨0, 0, ([] : List Int)⟩ : Peer), (⟨0, 0, ([] : List Int)⟩ : Peer), (⟨0, 0, ([] : List Int)⟩ : Peer)]) [RdG NPeer x1 (fun _ => (⟨none, 0⟩ : SlV)) [(⟨0, 0, ([] : List Int)⟩ : Peer), (⟨0, 0, ([] : List Int)⟩ : Peer), (⟨0, 0, ([] : List Int)⟩ : Peer)], am NPeer (fun _ => (⟨none, 0⟩ : SlV)) [(⟨0, 0, ([] : List Int)⟩ : Peer), (⟨0, 0, ([] : List Int)⟩ : Peer), (⟨0, 0, ([] : List Int)⟩ : Peer)]] Sm (fun M w h => RdN.ofG NPeer (h _ (.head _)) (h _ (.tail _ (.head _)))) ?_
 refine ai ?_; simp only [b8, Cf]; exact Re ⟨(⟨none, 0⟩ : SlV), (⟨none, 0⟩ : SlV), x1⟩ (Va Vn)
end Go.Proofs.YtpkaloknohpleaaGreatDoor

namespace Go.Proofs.YtpkaloknohpleaaGreatDoor.Fw
open Go
def spl (c : UInt8) : Str → List Str
 | [] => [[]]
 | b :: r => bif b == c then [] :: spl c r else match spl c r with | [] => [[b]] | h :: t => (b :: h) :: t
def cutc (c : UInt8) : Str → Str × Str × Bool
 | [] => ([], [], false)
 | b :: r => bif b == c then ([], r, true) else (b :: (cutc c r).1, (cutc c r).2.1, (cutc c r).2.2)
theorem idx1 (c : UInt8) : ∀ s : Str, (Lib.index s [c] = -1 ∧ c ∉ s) ∨ ∃ p r, s = p ++ c :: r ∧ c ∉ p ∧ Lib.index s [c] = (p.length : Int)
 | [] => .inl ⟨rfl, by simp⟩
 | b :: l => by
  by_cases h : b = c
  ·subst h
   exact .inr ⟨[], l, rfl, by simp, by simp [Lib.index]⟩
  ·have hp : ([c] : Str).isPrefixOf (b :: l) = false := by simp [List.isPrefixOf, Ne.symm h]
   rcases idx1 c l with ⟨h1, h2⟩ | ⟨p, r, h1, h2, h3⟩
   ·exact .inl ⟨by rw [Lib.index, hp, h1]; rfl, by simp [Ne.symm h, h2]⟩
   ·refine .inr ⟨b :: p, r, by rw [h1]; rfl, by simp [Ne.symm h, h2], ?_⟩
    rw [Lib.index, hp, h3]
    have : ((p.length : Int) == -1) = false := by rw [beq_eq_false_iff_ne]; omega
    simp [this]
theorem ru {c : UInt8} : ∀ {s : Str}, c ∉ s → spl c s = [s]
 | [], _ => rfl
 | b :: r, h => by
  have h1 : (b == c) = false := by simp only [List.mem_cons, not_or] at h; simpa using Ne.symm h.1
  rw [spl, h1, cond_false, ru (by simp only [List.mem_cons, not_or] at h; exact h.2)]
theorem ph {c : UInt8} (r : Str) : ∀ {p : Str}, c ∉ p → spl c (p ++ c :: r) = p :: spl c r
 | [], _ => by simp [spl]
 | b :: p, h => by
  have h1 : (b == c) = false := by simp only [List.mem_cons, not_or] at h; simpa using Ne.symm h.1
  rw [List.cons_append, spl, h1, cond_false, ph r (by simp only [List.mem_cons, not_or] at h; exact h.2)]
theorem q7 {c : UInt8} : ∀ {s : Str}, c ∉ s → cutc c s = (s, [], false)
 | [], _ => rfl
 | b :: r, h => by
  have h1 : (b == c) = false := by simp only [List.mem_cons, not_or] at h; simpa using Ne.symm h.1
  rw [cutc, h1, cond_false, q7 (by simp only [List.mem_cons, not_or] at h; exact h.2)]
theorem pF {c : UInt8} (r : Str) : ∀ {p : Str}, c ∉ p → cutc c (p ++ c :: r) = (p, r, true)
 | [], _ => by simp [cutc]
 | b :: p, h => by
  have h1 : (b == c) = false := by simp only [List.mem_cons, not_or] at h; simpa using Ne.symm h.1
  rw [List.cons_append, cutc, h1, cond_false, pF r (by simp only [List.mem_cons, not_or] at h; exact h.2)]
theorem at_c (c : UInt8) (s : Str) : c ∉ s ∨ ∃ p r, s = p ++ c :: r ∧ c ∉ p := by
 rcases idx1 c s with ⟨_, h⟩ | ⟨p, r, h1, h2, _⟩
 ·exact .inl h
 ·exact .inr ⟨p, r, h1, h2⟩
theorem uM (c : UInt8) (s : Str) : Lib.cut s [c] = cutc c s := by
 unfold Lib.cut
 rcases idx1 c s with ⟨h1, h2⟩ | ⟨p, r, h1, h2, h3⟩
 ·rw [h1, if_neg (by omega), q7 h2]
 ·rw [h3, if_pos (by omega), h1, pF r h2]
  simp
theorem oO (c : UInt8) : ∀ (n : Nat) (s : Str), s.length ≤ n → Lib.splitK [c] 0 (Lib.count s [c]) s = spl c s
 | n, s, hn => by
  rcases idx1 c s with ⟨h1, h2⟩ | ⟨p, r, h1, h2, h3⟩
  ·rw [Lib.count_miss h1, ru h2]; rfl
  ·have hr : s.drop (p.length + ([c] : Str).length) = r := by rw [h1]; simp
   rw [Lib.count_hit (by simp) h3, hr, Nat.add_comm 1, Lib.splitK, h3]
   have : ((p.length : Int) == -1) = false := by rw [beq_eq_false_iff_ne]; omega
   rw [this]
   simp only [Int.toNat_natCast, hr]
   cases n with
   | zero => rw [h1] at hn; simp at hn
   | succ n =>
    rw [oO c n r (by rw [h1] at hn; simp at hn; omega), h1, ph r h2]
    simp
theorem sj (c : UInt8) (s : Str) : (Lib.splitB ⟨#[c]⟩ 0 (Lib.countB ⟨s.toArray⟩ ⟨#[c]⟩) ⟨s.toArray⟩).map Value.string = (spl c s).map sV := by
 have h := Lib.splitB_data ⟨#[c]⟩ 0 (Lib.countB ⟨s.toArray⟩ ⟨#[c]⟩) ⟨s.toArray⟩
 have h2 := oO c s.length s (Nat.le_refl _)
 rw [show Lib.splitK (ByteArray.mk #[c]).data.toList 0 (Lib.countB ⟨s.toArray⟩ ⟨#[c]⟩) (ByteArray.mk s.toArray).data.toList = spl c s from h2] at h
 rw [← h, List.map_map]
 refine List.map_congr_left fun b _ => ?_
 simp [sV]
theorem qN (c : UInt8) : ∀ s : Str, 0 < (spl c s).length ∧ (spl c s).length ≤ s.length + 1
 | [] => by simp [spl]
 | b :: r => by
  have ih := qN c r
  rw [spl]
  cases b == c with
  | true => simp only [cond_true, List.length_cons]; omega
  | false =>
   simp only [cond_false]
   cases h : spl c r with
   | nil => simp
   | cons a t => rw [h] at ih; simp at ih ⊢; omega
theorem jH {c : UInt8} : ∀ {s t : Str}, t ∈ spl c s → t.length ≤ s.length
 | [], t, h => by simp [spl] at h; simp [h]
 | b :: r, t, h => by
  rw [spl] at h
  cases hb : b == c with
  | true =>
   rw [hb, cond_true] at h
   rcases List.mem_cons.1 h with rfl | h
   ·simp
   ·have := jH h; simp; omega
  | false =>
   rw [hb, cond_false] at h
   cases hs : spl c r with
   | nil => rw [hs] at h; simp at h; simp [h]
   | cons a q =>
    rw [hs] at h
    rcases List.mem_cons.1 h with rfl | h
    ·have := jH (c := c) (s := r) (t := a) (by rw [hs]; exact .head _); simp; omega
    ·have := jH (c := c) (s := r) (t := t) (by rw [hs]; exact .tail _ h); simp; omega
theorem rU (c : UInt8) : ∀ s : Str, (cutc c s).1.length ≤ s.length ∧ (cutc c s).2.1.length ≤ s.length
 | [] => by simp [cutc]
 | b :: r => by
  have := rU c r
  rw [cutc]
  cases b == c with
  | true => simp
  | false => simp only [cond_false, List.length_cons]; omega
theorem pE (c : UInt8) : ∀ s : Str, (cutc c s).2.2 = true → (cutc c s).1.length + (cutc c s).2.1.length + 1 = s.length
 | [], h => by simp [cutc] at h
 | b :: r, h => by
  have ih := pE c r
  rw [cutc] at h ⊢
  cases hb : b == c with
  | true => simp
  | false => rw [hb] at h; simp only [cond_false, List.length_cons] at h ⊢; have := ih h; omega
def atv (s : Str) : Int := match Lib.atoiAll s with | .ok v => v | .range => Lib.atoiSat s | _ => 0
def ate (s : Str) : Bool := match Lib.atoiAll s with | .ok _ => false | _ => true
theorem sG (s : Str) : -9223372036854775808 ≤ atv s ∧ atv s ≤ 9223372036854775807 := by
 unfold atv
 cases h : Lib.atoiAll s with
 | ok v => exact Lib.atoiAll_bounds h
 | range => simp only [Lib.atoiSat]; split <;> omega
 | _ => simp
end Go.Proofs.YtpkaloknohpleaaGreatDoor.Fw

namespace Go.Proofs.YtpkaloknohpleaaGreatDoor.Fw
open Go Go.RowKit
structure LibW (P : Program) (w : World) : Prop where
 len : ∃ g m, P.globalNamed "internal/bytealg.MaxLen" = some g ∧ w.cell? ⟨g, 0, none⟩ = some (.int .i64 m)
 tab : Lib.TabIs P w "internal/strconv.uint64pow10" .u64 Lib.pow10Tab
 syn : ∃ tp p, w.var? P "strconv.ErrSyntax" = some #[.iface tp p]
 rng : ∃ tp p, w.var? P "strconv.ErrRange" = some #[.iface tp p]
def j0 : List String := ["internal/bytealg.MaxLen", "internal/strconv.uint64pow10", "strconv.ErrSyntax", "strconv.ErrRange"]
def LibP (P : Program) : Pred := fun M w => (∀ n ∈ j0, ∀ g, P.globalNamed n = some g → g < w.heap.size ∧ ¬ M g) ∧ LibW P w
theorem var_eq {P : Program} {w w' : World} {n : String} (h : ∀ g, P.globalNamed n = some g → w'.heap[g]? = w.heap[g]?) : w'.var? P n = w.var? P n := by
 unfold World.var?
 cases hg : P.globalNamed n with
 | none => rfl
 | some g => simp only [Option.bind_some, h g hg]
instance (P : Program) : Stab (LibP P) where
 st M M' w w' h hx hM := by
  obtain ⟨h1, h2⟩ := h
  have hh : ∀ n ∈ j0, ∀ g, P.globalNamed n = some g → w'.heap[g]? = w.heap[g]? := fun n hn g hg => hx.2 g (h1 n hn g hg).1 (h1 n hn g hg).2
  have hv := fun n hn => var_eq (P := P) (w := w) (w' := w') (n := n) (hh n hn)
  refine ⟨fun n hn g hg => ⟨Nat.lt_of_lt_of_le (h1 n hn g hg).1 hx.1, fun hm => (h1 n hn g hg).2 (hM g (h1 n hn g hg).1 hm)⟩, ?_, ?_, ?_, ?_⟩
  ·obtain ⟨g, m, hg, hc⟩ := h2.len
   exact ⟨g, m, hg, (World.cell?_of_block (hh _ (by simp [j0]) g hg)).trans hc⟩
  ·unfold Lib.TabIs; rw [hv _ (by simp [j0])]; exact h2.tab
  ·rw [hv _ (by simp [j0])]; exact h2.syn
  ·rw [hv _ (by simp [j0])]; exact h2.rng
theorem vU {P : Program} {w : World} (h : LibW P w) : LibP P (fun _ => False) w := by
 refine ⟨fun n hn g hg => ⟨?_, fun h => h⟩, h⟩
 have hv : ∀ {cs}, w.var? P n = some cs → g < w.heap.size := fun {cs} h => by
  unfold World.var? at h
  rw [hg] at h
  rcases Nat.lt_or_ge g w.heap.size with h' | h'
  ·exact h'
  ·simp [Array.getElem?_eq_none h'] at h
 simp only [j0, List.mem_cons, List.not_mem_nil, or_false] at hn
 rcases hn with rfl | rfl | rfl | rfl
 ·obtain ⟨g', m, hg', hc⟩ := h.len
  rw [hg'] at hg
  cases hg
  rcases Nat.lt_or_ge g w.heap.size with h' | h'
  ·exact h'
  ·simp [World.cell?, Array.getElem?_eq_none h'] at hc
 ·exact hv h.tab
 ·obtain ⟨_, _, h1⟩ := h.syn; exact hv h1
 ·obtain ⟨_, _, h1⟩ := h.rng; exact hv h1
theorem nj {P : Program} {f : FuncId} {args : List Value} {pre : List Pred} {X : Type} {val : X → Value} {post : X → List Pred} (hst : ∀ x, StabL (post x))
  (h : ∀ (M : Nat → Prop) (w : World), (∀ b, M b → b < w.heap.size) → AllF pre M w → Calls P f args.toArray w (fun e w' => ∃ x, e = .returned (val x) ∧ Below w.heap.size w w' ∧ AllF (post x) M w')) :
  Does P f args pre val post where
 st := hst
 ok C hB hw := by
  refine (h (Mset C ⟨0, [], [], [], pre⟩) C.w0 (fun b hb => uj hw hb) (fun F hF => (hw.fa F hF).2)).mono fun e w' ⟨x, he, hb, hp⟩ => ⟨x, he, ?_⟩
  have hg := hw.grow hb
  exact ⟨hg.be, hg.bl, hg.ow, hg.nd, fun F hF => ⟨(hst x).st F hF, hp F hF⟩⟩
theorem rb {w : World} (n : Nat) : Below w.heap.size w (w.drewN n) := ⟨rfl, rfl, rfl, Nat.le_refl _, fun _ _ => rfl⟩
theorem rc (w : World) (e : TypeId) (s : ByteArray) : Below w.heap.size w (Lib.bytesWorld w e s) := by
 refine ⟨?_, ?_, ?_, by rw [Lib.bytesWorld_size]; omega, fun k hk => Lib.bytesWorld_at_old w e _ k hk⟩ <;> rfl
theorem re (w : World) (o : Obj) : Below w.heap.size w (w.alloc o) := ⟨rfl, rfl, rfl, by simp, fun k hk => heap_alloc_old w o k hk⟩
theorem td {M : Nat → Prop} {w : World} (hM : ∀ b, M b → b < w.heap.size) (l : List Str) (t : TypeId) (hl : l.length * 16 ≤ 140737488355328) :
  RdL EStr ⟨some ⟨w.heap.size, 0, none⟩, l.length⟩ l M (w.alloc (.cells (l.map sV).toArray t)) := by
 refine ⟨Nat.le_refl _, by show l.length ≤ _; omega, hl, fun _ => ⟨_, rfl, by simp, fun hm => Nat.lt_irrefl _ (hM _ hm), fun i hi j v hv => ?_⟩⟩
 have hj : j = 0 := by
  obtain ⟨hlt, _⟩ := List.getElem?_eq_some_iff.1 hv
  simp [EStr] at hlt
  exact hlt
 subst hj
 simp only [EStr, List.getElem?_cons_zero, Option.some.injEq] at hv
 subst hv
 rw [gB]
 have h0 := heap_alloc_new w (.cells (l.map sV).toArray t)
 simp only [EStr, World.cell?, h0]
 simp [hi]
end Go.Proofs.YtpkaloknohpleaaGreatDoor.Fw

namespace Go.Proofs.YtpkaloknohpleaaGreatDoor.Fw
open Go Go.RowKit
section
variable {P : Program} {T : Tab} {C : Cx} {ops : Array Oper} {o : Oper} {r r' : RS} {s : St} {Q : Post} {N : Nat} {SL : Slots} {BL : List Blk} {OW : List Own} {FA : List Pred} {c : Code}
theorem pT (l : Str) : Lib.strCells ⟨l.toArray⟩ = l.flatMap EByte.enc := by
 show (l.map fun b => Value.int .u8 b.toNat) = l.flatMap fun b => [yV b]
 induction l with
 | nil => rfl
 | cons a r ih => rw [List.map_cons, List.flatMap_cons, ih]; rfl
theorem s7 {t u ty e : TypeId} {i : TypeInfo} (ht : P.underlying t = some (.slice e)) (hu : P.underlying u = some .string) (hi : P.info? e = some i) (w : World) {A : Option Addr} {n cap : Nat} (hn : n ≤ cap) {b : ByteArray} (hb : b.size = 0) :
  (Builtin.append_ #[t, u] ty #[.slice A n cap, .string b]).run P w = .ok (.slice A n cap) w := by
 have hx : b.data = #[] := Array.eq_empty_of_size_eq_zero hb
 cases A <;> simp [Builtin.append_, run_underlying ht, run_underlying hu, sizeOf, typeInfo, hi, Builtin.lenOf, Builtin.firstCells, hb, hn, storeCells, hx]
theorem uB {t u ty : Nat} {q : Own} {z : List Value} (hT : TabOk T P) (ht : T.slc t = some q.e) (hu : P.underlying u = some .string) {agg : Bool} (hz : T.siz q.e = some (q.esz, agg)) (hzz : T.zer q.e = some z) (hzl : z.length = 1) (hby : T.byt q.e = some q.by_) (hes : q.esz = 1) (hb1 : q.by_ = 1)
  {w : World} (hw : WOk C ⟨N, SL, BL, OW, FA⟩ w) (hq : OwnOk C w q) (l : Str) (hb : q.n + l.length ≤ 140737488355328) :
  ∃ A' c' b' w', (Builtin.append_ #[t, u] ty #[q.v, sV l]).run P w = .ok (.slice A' (q.n + l.length) c') w' ∧ OwnOk C w' ⟨.slice A' (q.n + l.length) c', b', q.e, q.esz, q.by_, q.n + l.length, q.xs ++ l.flatMap EByte.enc⟩ ∧ w.grownBy w' q.b ∧ (b' = q.b ∨ b' = none ∨ b' = some w.heap.size) := by
 obtain ⟨qv, qb, qe, qs, qby, qn, qx⟩ := q
 simp only at ht hz hzz hby hes hb1 hb hq ⊢
 subst hes; subst hb1
 have hut := hT.slc _ _ ht
 obtain ⟨ti, d, q1, q2, q3, q4⟩ := hT.siz _ _ _ hz
 obtain ⟨ti', hi', hby'⟩ := hT.byt _ _ hby
 obtain ⟨ti'', zv, hi'', hz'', hzc⟩ := hT.zer _ _ hzz
 rw [q1] at hi' hi''
 cases hi'; cases hi''
 have hzs : zv.cells.size = 1 := by rw [← hzl, ← hzc]; simp
 have hsz := mn l
 have hsc := pT l
 have hfl : (l.flatMap EByte.enc).length = l.length := by rw [← hsc, Lib.strCells_length, hsz]
 obtain ⟨hl', hn', hbb⟩ := hq
 simp only at hl' hn' hbb
 rw [Nat.mul_one] at hl'
 have e1 : (Array.map (fun b => Value.int .u8 b.toNat) (ByteArray.mk l.toArray).data) = (Lib.strCells ⟨l.toArray⟩).toArray := by
  apply Array.ext'
  simp [Lib.strCells]
 have grown : ∀ (old : Nat), OwnOk C (w.drew.alloc (.cells (qx.toArray ++ (l.flatMap EByte.enc).toArray ++ Builtin.zeroCells zv.cells (grownCap w (qn + l.length) old qe - (qn + l.length))) qe)) ⟨.slice (some ⟨w.heap.size, 0, none⟩) (qn + l.length) (grownCap w (qn + l.length) old qe), some w.heap.size, qe, 1, 1, qn + l.length, qx ++ l.flatMap EByte.enc⟩ := by
  intro old
  have hge := grownCap_ge w (qn + l.length) old qe
  have hcm : grownCap w (qn + l.length) old qe ≤ maxLen := grownCap_le_maxLen w (qn + l.length) old qe (by simp only [maxLen]; omega)
  refine ⟨by simp only [List.length_append, hl', hfl, Nat.mul_one], ⟨(by show qn + l.length ≤ _; omega), (by show (qn + l.length) * 1 ≤ _; omega)⟩, .inl hw.be.size, _, _, rfl, heap_alloc_new w.drew _, hge, by simpa [maxLen] using hcm, ?_, ?_⟩
  ·simp only [Array.size_append, List.size_toArray, size_zeroCells, hzs, hl', hfl]
   omega
  ·simp only [Array.toList_append, List.append_assoc, Nat.mul_one]
   rw [← List.append_assoc, show qn + l.length = (qx ++ l.flatMap EByte.enc).length by rw [List.length_append, hl', hfl]]
   exact List.take_left
 have hgr : ∀ (o : Obj) (row : Option Nat), w.grownBy (w.drew.alloc o) row := fun o row => ⟨rfl, rfl, rfl, by simp, fun k hk _ => heap_alloc_old w.drew _ k hk⟩
 have hnil : l.length = 0 → l = [] := fun h => List.eq_nil_of_length_eq_zero h
 cases qb with
 | none =>
  simp only at hbb
  obtain ⟨h0, A, rfl⟩ := hbb
  subst h0
  have hxs : qx = [] := List.eq_nil_of_length_eq_zero hl'
  subst hxs
  by_cases hm : l.length = 0
  ·have := hnil hm
   subst this
   exact ⟨A, 0, none, w, s7 hut hu q1 w (Nat.le_refl _) hsz, ⟨rfl, ⟨Nat.zero_le _, Nat.zero_le _⟩, rfl, A, rfl⟩, ⟨rfl, rfl, rfl, Nat.le_refl _, fun _ _ _ => rfl⟩, .inl rfl⟩
  ·have hg := grown 0
   cases A with
   | none =>
    have hr := run_append_nil_string (P := P) w t u ty qe ti zv hut hu q1 hz'' ⟨l.toArray⟩ (by rw [hsz]; omega) (by rw [hsz]; omega) (by rw [hby', hsz]; omega)
    rw [e1, hsc, hsz] at hr
    simp only [Nat.zero_add, List.nil_append, Array.empty_append] at hg ⊢
    exact ⟨_, _, some w.heap.size, _, hr, hg, hgr _ _, .inr (.inr rfl)⟩
   | some a =>
    have hr := Lib.run_append_grow_string (P := P) w t u ty qe ti zv hut hu q1 hz'' a 0 0 [] (by simp) (by simp) ⟨l.toArray⟩ (by rw [hsz]; omega) (by rw [hsz]; omega) (by rw [hby', hsz]; exact growslice_fits (by omega) (by omega))
    rw [hsc, hsz] at hr
    exact ⟨_, _, some w.heap.size, _, hr, hg, hgr _ _, .inr (.inr rfl)⟩
 | some g =>
  simp only at hbb
  obtain ⟨hg, cap, cur, rfl, hh, hnc, hcap, hcs, htake⟩ := hbb
  rw [Nat.mul_one] at hcs htake
  by_cases hroom : qn + l.length ≤ cap
  ·have hr := Lib.run_append_room_string (P := P) w t u ty qe ti hut hu q1 q2 g qn cap cur hh ⟨l.toArray⟩ (by rw [hsz]; exact hroom) (by rw [hsz]; omega)
   rw [hsc, hsz] at hr
   refine ⟨_, _, some g, _, hr, ⟨by simp only [List.length_append, hl', hfl, Nat.mul_one], ⟨(by show qn + l.length ≤ _; omega), (by show (qn + l.length) * 1 ≤ _; omega)⟩, hg, cap, _, rfl, setRow_heap w g cur _ qe _ hh, hroom, hcap, ?_, ?_⟩, ⟨rfl, rfl, rfl, by simp, fun k _ hk => setRow_other w g k _ (fun e => hk (by simp [e]))⟩, .inl rfl⟩
   ·simp only [List.size_toArray, List.length_append, List.length_take, List.length_drop, Array.length_toList, hfl]
    omega
   ·simp only [Nat.mul_one]
    rw [htake, show qn + l.length = (qx ++ l.flatMap EByte.enc).length by rw [List.length_append, hl', hfl]]
    exact List.take_left
  ·have holds : ∀ j u, qx[j]? = some u → w.cell? ((⟨g, 0, none⟩ : Addr).add j) = some u := fun j u hj => by
    rw [gB, Nat.zero_add]
    simp only [World.cell?, hh]
    have hjl := (List.getElem?_eq_some_iff.1 hj).1
    rw [← htake, List.getElem?_take, if_pos (by omega), Array.getElem?_toList] at hj
    exact hj
   have hr := Lib.run_append_grow_string (P := P) w t u ty qe ti zv hut hu q1 hz'' ⟨g, 0, none⟩ qn cap qx (by rw [q2]; omega) holds ⟨l.toArray⟩ (by rw [hsz]; omega) (by rw [hsz]; omega) (by rw [hby', hsz]; exact growslice_fits (by omega) (by omega))
   rw [hsc, hsz] at hr
   exact ⟨_, _, some w.heap.size, _, hr, grown cap, hgr _ _, .inr (.inr rfl)⟩
theorem kY (l m : Str) {e : TypeId} {X : SlV} {b : Option Nat} {d t u : Nat} {x y : Operand} {g0 g1 : Bool} {z : List Value} {agg : Bool} {ow' : SlV → Option Nat → List Own} {D : List Nat} (hf : Front ops r o D r') (hbD : ∀ g, b = some g → (∃ l, r = .sq l) ∨ g ∈ D) (hg : Guard ops SL o true) (hd : o.dst = some d) (hn : Nat.blt d N = true)
  (ho : o.op = .call ⟨.builtin .append, ⟨[x, y]⟩, ⟨[t, u]⟩⟩) (hx : ev SL x = some (g0, X.val l.length)) (hg0 : g0 = true) (hy : ev SL y = some (g1, sV m)) (hg1 : g1 = true)
  (hut : P.underlying u = some .string) (hu : ∀ (X' : SlV) b', UpdO OW (ownL EByte e X b l) [ownL EByte e X' b' (l ++ m)] (ow' X' b'))
  (ht : T.slc t = some e) (hz : T.siz e = some (1, agg)) (hzz : T.zer e = some z) (hzl : z.length = 1) (hby : T.byt e = some 1)
  (hb : l.length + m.length ≤ 140737488355328)
  (h : ∀ (X' : SlV) (b' : Option Nat), RW P T C ops r' ⟨N, (d, .v (X'.val (l ++ m).length)) :: SL, BL, ow' X' b', FA⟩ Q) : RW P T C ops r ⟨N, SL, BL, OW, FA⟩ Q := by
 have key : Loud P T C ⟨N, SL, BL, OW, FA⟩ o b.toList (fun s' => ∃ (X : SlV) (b' : Option Nat), s' = ⟨N, (d, .v (X.val (l ++ m).length)) :: SL, BL, ow' X b', FA⟩) := by
  intro hT a w hrep
  refine Oper.wp_mono ?_ (lU (D := b.toList) hd hn (K := fun u bl ow fa => ∃ (X : SlV) (b' : Option Nat), u = X.val (l ++ m).length ∧ bl = BL ∧ ow = ow' X b' ∧ fa = FA) ?_ hT a w hrep)
  ·rintro a' w' ⟨s', ⟨u, bl, ow, fa, ⟨X, b', e1, e2, e3, e4⟩, e5⟩, h2, h3⟩
   subst e1; subst e2; subst e3; subst e4
   exact ⟨s', ⟨X, b', e5⟩, h2, h3⟩
  ·intro hT a w hrep
   have hm : ownL EByte e X b l ∈ OW := by obtain ⟨l', r, e, _⟩ := (hu ⟨none, 0⟩ none).spec; rw [e]; simp
   have hq := hrep.wo.ow _ hm
   obtain ⟨A', c', b', w', hrun, ho', hgr, hbb⟩ := uB (ty := o.type) hT (q := ownL EByte e X b l) ht hut hz hzz hzl hby rfl rfl hrep.wo hq m hb
   simp only at hrun ho' hgr hbb
   have e1 : (l ++ m).length = l.length + m.length := List.length_append
   have e2 : (l ++ m).flatMap EByte.enc = l.flatMap EByte.enc ++ m.flatMap EByte.enc := List.flatMap_append
   have hu' := hu ⟨A', c'⟩ b'
   rw [ownL, ownL, e1, e2] at hu'
   refine ⟨.slice A' (l.length + m.length) c', w', BL, ow' ⟨A', c'⟩ b', FA, ?_, hrep.wo.swapO hu' ho' hgr hbb, ⟨hgr.size, fun k hk hn => hgr.block k hk fun e => hn (by rw [← e]; simp)⟩, ⟨A', c'⟩, b', by rw [e1]; rfl, rfl, rfl, rfl⟩
   simp only [execOp, ho, resolve, invoke, builtin, Sem.run_bind, Sem.run_pure, Result.andThen_ok, List.map_toArray, List.map_cons, List.map_nil, ev_ok hrep.sl hx hg0, ev_ok hrep.sl hy hg1, hrun]
 cases hf with
 | sq => exact mM hg key (fun s' ⟨X, b', e⟩ => by subst e; exact h X b')
 | lo _ hi hDD => exact rw_l (.lo b.toList hi hDD) hg key (fun s' ⟨X, b', e⟩ => by subst e; exact h X b')
 | an hi hDD =>
  refine rw_l (.an hi hDD) hg (fun hT a w hrep => Oper.wp_mono (fun a' w' ⟨s', h1, h2, h3⟩ => ⟨s', h1, h2, h3.mono fun k hk => ?_⟩) (key hT a w hrep)) (fun s' ⟨X, b', e⟩ => by subst e; exact h X b')
  rcases hbD k (by simpa using hk) with ⟨_, e⟩ | e
  ·cases e
  ·exact e
end
end Go.Proofs.YtpkaloknohpleaaGreatDoor.Fw

namespace Go.Proofs.YtpkaloknohpleaaGreatDoor.Fw
open Go Go.Lib
theorem jW {k : Nat} (h : k < 256) : (UInt8.ofNat k).toNat = k := by simp [UInt8.toNat_ofNat']; omega
theorem n7 : ∀ (u : Nat), ∀ c ∈ decDigits u, 48 ≤ c.toNat ∧ c.toNat ≤ 57 := by
 intro u
 induction u using Nat.strongRecOn with
 | _ u ih =>
  intro c hc
  rw [decDigits] at hc
  split at hc
  ·rename_i h
   simp only [List.mem_singleton] at hc
   subst hc
   rw [jW (by omega)]; omega
  ·rename_i h
   rcases List.mem_append.1 hc with hc | hc
   ·exact ih _ (by omega) c hc
   ·simp only [List.mem_singleton] at hc
    subst hc
    rw [jW (by omega)]; omega
theorem tQ (u : Nat) : decDigits u ≠ [] := by
 rw [decDigits]; split <;> simp
theorem qa : ∀ (l : Str) (acc v : Nat) (r : Str), parseUint10 acc l = .ok v → parseUint10 acc (l ++ r) = parseUint10 v r
 | [], acc, v, r, h => by simp only [parseUint10, NumEnd.ok.injEq] at h; subst h; rfl
 | c :: l, acc, v, r, h => by
  rw [List.cons_append]
  rw [parseUint10] at h ⊢
  split at h
  ·rename_i h1
   rw [if_pos h1]
   split at h
   ·cases h
   ·rename_i h2
    rw [if_neg h2]
    split at h
    ·cases h
    ·rename_i h3
     rw [if_neg h3]
     exact qa l _ v r h
  ·cases h
theorem p9 : ∀ (u : Nat), u < 18446744073709551616 → parseUint10 0 (decDigits u) = .ok u := by
 intro u
 induction u using Nat.strongRecOn with
 | _ u ih =>
  intro hu
  rw [decDigits]
  split
  ·rename_i h
   rw [parseUint10, jW (by omega), if_pos (by omega), if_neg (by omega), if_neg (by omega), parseUint10]
   congr 1; omega
  ·rename_i h
   rw [qa _ _ _ _ (ih (u / 10) (by omega) (by omega)), parseUint10, jW (by omega), if_pos (by omega), if_neg (by omega), if_neg (by omega), parseUint10]
   congr 1; omega
theorem qC {n : Int} (h : -9223372036854775808 ≤ n ∧ n ≤ 9223372036854775807) : atoiAll (itoa n) = .ok n := by
 unfold itoa
 split
 ·rename_i hn
  have hp := p9 n.natAbs (by omega)
  have hm : parseMag (decDigits n.natAbs) = .ok n.natAbs := by rw [parseMag, if_neg (tQ _)]; exact hp
  rw [atoiAll_minus, hm]
  simp only [signed]
  rw [if_neg (by omega)]
  congr 1; omega
 ·rename_i hn
  have hp := p9 n.toNat (by omega)
  have hd := n7 n.toNat
  have hm : parseMag (decDigits n.toNat) = .ok n.toNat := by rw [parseMag, if_neg (tQ _)]; exact hp
  cases hc : decDigits n.toNat with
  | nil => exact absurd hc (tQ _)
  | cons c r =>
   have hcd := hd c (by rw [hc]; exact .head _)
   rw [hc] at hm
   rw [atoiAll_plain c r (by omega) (by omega), hm]
   simp only [signless]
   rw [if_neg (by omega)]
   congr 1; omega
theorem uT {n : Int} (h : -9223372036854775808 ≤ n ∧ n ≤ 9223372036854775807) : ate (itoa n) = false := by rw [ate, qC h]
theorem uR {n : Int} (h : -9223372036854775808 ≤ n ∧ n ≤ 9223372036854775807) : atv (itoa n) = n := by rw [atv, qC h]
theorem tI {n : Int} {c : UInt8} (h : c.toNat < 45) : c ∉ itoa n := by
 unfold itoa
 intro hc
 split at hc
 ·rcases List.mem_cons.1 hc with rfl | hc
  ·exact absurd h (by decide)
  ·have := n7 _ c hc; omega
 ·have := n7 _ c hc; omega
def glue (c : UInt8) (l : List Str) : Str := l.flatMap (fun t => c :: t)
theorem rv {c : UInt8} : ∀ (w : Str) (l : List Str), c ∉ w → (∀ t ∈ l, c ∉ t) → spl c (w ++ glue c l) = w :: l
 | w, [], hw, _ => by simp only [glue, List.flatMap_nil, List.append_nil]; exact ru hw
 | w, t :: l, hw, hl => by
  have e : w ++ glue c (t :: l) = w ++ c :: (t ++ glue c l) := by simp [glue]
  rw [e, ph _ hw, rv t l (hl t (.head _)) (fun u hu => hl u (.tail _ hu))]
theorem rM (c : UInt8) : ∀ (n : Nat) (s : Str), s.length ≤ n → ∃ w l, spl c s = w :: l ∧ s = w ++ glue c l
 | n, s, hn => by
  rcases at_c c s with h | ⟨p, r, h1, h2⟩
  ·exact ⟨s, [], ru h, by simp [glue]⟩
  ·cases n with
   | zero => rw [h1] at hn; simp at hn
   | succ n =>
    obtain ⟨w, l, h3, h4⟩ := rM c n r (by rw [h1] at hn; simp at hn; omega)
    refine ⟨p, w :: l, by rw [h1, ph r h2, h3], ?_⟩
    rw [h1]
    conv => lhs; rw [h4]
    simp [glue]
end Go.Proofs.YtpkaloknohpleaaGreatDoor.Fw
