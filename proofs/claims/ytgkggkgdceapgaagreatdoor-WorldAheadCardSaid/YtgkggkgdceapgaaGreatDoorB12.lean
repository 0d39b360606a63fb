/- Part of this claim. No condition. -/
import Derived.Test.YtgkggkgdceapgaaGreatDoorB4
import Derived.Test.YtgkggkgdceapgaaGreatDoorB3
import Derived.Test.YtgkggkgdceapgaaGreatDoorB11
import Derived.Test.YtgkggkgdceapgaaGreatDoorB5
import Derived.Test.YtgkggkgdceapgaaGreatDoorB9
set_option linter.unusedVariables false
set_option linter.unusedSimpArgs false
set_option maxHeartbeats 2000000
namespace Go.Proofs.YtgkggkgdceapgaaGreatDoor
open Go Go.Proofs.YtgkggkgdceapgaaGreatDoor.Fw Go.Proofs
attribute [local irreducible] RdL RdN VarP LibP RW CW
abbrev Errno := Int
def cC (s2 : List Int) : List Int → Nat → Bool
 | [], n1 => true
 | pn1 :: rn1, n1 => (bif (pn1 != (gt s2 n1)) then false else (cC s2 rn1 (n1 + 1)))
def dq (s1 : List Int) (s2 : List Int) : Bool :=
 (bif ((s1.length : Int) != (s2.length : Int)) then false else (cC s2 s1 0))
theorem j8 (y1 : SlV) (s1 : List Int) (y2 : SlV) (s2 : List Int) : Does Tryz.prog 12 [y1.val s1.length, y2.val s2.length] [RdL EInt y1 s1, RdL EInt y2 s2] (fun (_ : Unit) => .bool (dq s1 s2)) (fun _ => []) := by
 refine bd aV Tryz.func12 rfl Tryz.ntmps12 Tryz.results12 rfl inferInstance (fun _ => inferInstance) fun C => ?_
 refine Pc EInt y1 s1 8 fun hlen1 => ?_
 refine Pc EInt y2 s2 8 fun hlen2 => ?_
 refine Tx ?_
 refine Cd (b := ((s1.length : Int) != (s2.length : Int))) (fun hc1 => ?_) fun hc1 => ?_
 ·have hc1p := bne_iff_ne.1 hc1
  refine Tx ?_
  refine ak ?_; simp only [dq, hc1, Cf]; exact Re () (Vt Vn)
 ·have hc1p := ag hc1
  refine Tx ?_
  (repeat refine ar ?_); refine Lp [0,1,4,12] [] (fun (n1 : Nat) => (⟨[(13, .v (.int .i64 (n1 : Int)))], [], [], [], (n1 ≤ s1.length) ∧ (cC s2 (s1.drop n1) n1) = (dq s1 s2), s1.length - n1⟩ : Ls)) 0 (Sc (Sc (Sc (Sc Sn)))) (.nil) ⟨Nat.zero_le _, (by simp only [dq, hc1, Cf] : (dq s1 s2) = (cC s2 s1 0)).symm⟩ Le4 ?_
  rintro n1 ⟨hkn1, hf1⟩
  simp only [List.cons_append, List.nil_append]
  refine Tx ?_
  refine Cd (b := decide ((n1 : Int) < (s1.length : Int))) (fun hc2 => ?_) fun hc2 => ?_
  ·have hlt0 : n1 < s1.length := Int.ofNat_lt.1 (of_decide_eq_true hc2)
   refine Tx ?_
   (repeat refine ar ?_); refine aw (fun _ => some []) ?_
   refine Rb 0 rfl Qp ?_
   refine Rb 1 rfl Qp ?_
   refine Rb 2 rfl (q_idx EInt n1 rfl rfl Zf rfl Zf rfl rfl rfl Mm rfl Zf (fun _ => by first | assumption | omega)) ?_
   refine Ra 3 rfl (q_le1 EInt rfl rfl Zf rfl rfl Mm (fun _ => by first | assumption | omega) rfl) ?_
   refine Rb 4 rfl Qp ?_
   refine Rb 5 rfl Qp ?_
   refine Rb 6 rfl (q_idx EInt n1 rfl rfl Zf rfl Zf rfl rfl rfl Mm rfl Zf (fun _ => by first | assumption | omega)) ?_
   refine Ra 7 rfl (q_le1 EInt rfl rfl Zf rfl rfl Mm (fun _ => by first | assumption | omega) rfl) ?_
   refine Ra 8 rfl Qp ?_
   refine bj Kr ?_
   (repeat refine ar ?_)
   refine Cd (b := ((gt s1 n1) != (gt s2 n1))) (fun hc3 => ?_) fun hc3 => ?_
   ·have hc3p := bne_iff_ne.1 hc3
    refine Tx ?_
    refine ak ?_; rw [show (dq s1 s2) = false by rw [← hf1, aI hlt0]; simp only [cC, hc3, Cf]]; exact Re () (Vt Vn)
   ·have hc3p := ag hc3
    refine Tx ?_
    refine rw_q rfl rfl rfl (q_add rfl rfl Zf rfl Zf Zo) ?_
    refine Tx ?_
    refine ⟨(n1 + 1), ⟨hlt0, (by rw [← hf1, aI hlt0]; simp only [cC, hc3, Cf] : (dq s1 s2) = (cC s2 (s1.drop (n1 + 1)) (n1 + 1))).symm⟩, (by simp only []; omega), Le4⟩
  ·have hge0 : s1.length ≤ n1 := by have := of_decide_eq_false hc2; omega
   refine Tx ?_
   refine ak ?_; rw [show (dq s1 s2) = true by rw [← hf1, List.drop_of_length_le hge0]; simp only [cC, Cf]]; exact Re () (Vt Vn)
theorem kZ (a b : List Errno) : dq a b = decide (a = b) := by
 have key : ∀ (l : List Errno) (k : Nat), l.length + k = b.length → cC b l k = decide (l = b.drop k) := by
  intro l
  induction l with
  | nil => intro k hk; rw [cC, List.drop_of_length_le (by simp at hk; omega)]; simp
  | cons p r ih =>
   intro k hk
   simp only [List.length_cons] at hk
   rw [cC, ih (k + 1) (by omega), aI (by omega : k < b.length)]
   by_cases h : p = gt b k <;> simp [h]
 rw [dq]
 by_cases h : a.length = b.length
 ·rw [key a 0 (by omega)]; simp [h]
 ·have : a ≠ b := fun e => h (by rw [e])
  simp [this, Int.ofNat_inj, h]
theorem jH (y1 y2 : SlV) (a b : List Errno) : Does Tryz.prog 12 [y1.val a.length, y2.val b.length] [RdL EInt y1 a, RdL EInt y2 b] (fun (_ : Unit) => .bool (decide (a = b))) (fun _ => []) := by
 have := j8 y1 a y2 b
 rw [kZ] at this
 exact this
theorem kK (y : SlV) (l : List Errno) (n : Int) (hy : y = ⟨none, 0⟩ ∧ l = []) (hn : 0 ≤ n ∧ n * 8 ≤ 140737488355328) : DoesG Tryz.prog 34 [y.val l.length, .int .i64 n] [RdL EInt y l] ⟨[], []⟩ (fun (X : SlV × Option Nat) => X.1.val ([] : List Errno).length) (fun _ => []) (fun X => ⟨[], [ownL EInt 40 X.1 X.2 []]⟩) := by
 obtain ⟨hy1, hy2⟩ := hy
 subst hy1; subst hy2
 obtain ⟨k, rfl⟩ : ∃ k : Nat, n = k := ⟨n.toNat, by omega⟩
 refine cF aV Tryz.func34 rfl Tryz.ntmps34 Tryz.results34 rfl inferInstance (fun _ => inferInstance) fun C => ?_
 refine cw_le (fk EInt 40) ?_
 refine Tx ?_
 refine Cd (b := decide ((k : Int) < 0)) (fun hc => ?_) fun hc => ?_
 ·exact absurd (of_decide_eq_true hc) (by omega)
 ·refine Tx ?_
  refine rw_q rfl rfl rfl (q_cap rfl rfl Zf rfl) ?_
  refine Tx ?_
  refine rw_q rfl rfl rfl (q_is (v' := .int .i64 0) (q_sub rfl rfl Zf rfl Zf (fun _ => by decide)) rfl) ?_
  refine rw_q rfl rfl rfl (q_is (v' := .int .i64 (k : Int)) (q_sub rfl rfl Zf rfl Zf Zo) (by simp)) ?_
  refine Tx ?_
  refine Cd (b := decide ((k : Int) > 0)) (fun hc1 => ?_) fun hc1 => ?_
  ·have hk := of_decide_eq_true hc1
   refine Tx ?_
   refine rw_q rfl rfl rfl (q_cap rfl rfl Zf rfl) ?_
   refine rw_q rfl rfl rfl (o5 (h := 0) rfl rfl Zf rfl Zf rfl rfl Zf (fun _ => Nat.le_refl _)) ?_
   refine Rp rfl rfl rfl rfl ?_
   refine o3 (n := k) (e := 40) (by_ := 8) .sq (ae rfl) rfl rfl rfl rfl rfl rfl rfl rfl und_3 (fun _ _ _ => .here _ _ _) rfl rfl rfl rfl rfl rfl (by omega) (by omega) (by omega) fun x1 b1 zs => ?_
   refine Tx ?_
   refine pE (k := 0) .sq (ae rfl) rfl rfl rfl rfl rfl rfl rfl rfl rfl (.here _ _ _) rfl (Nat.zero_le _) ?_
   refine Tx ?_
   (repeat refine ar ?_); refine ak ?_
   exact ⟨(x1, b1), _, (.cons (.tmp rfl) .nil), rfl, .nil _, .nil _, Sp⟩
  ·refine Tx ?_
   (repeat refine ar ?_); refine ak ?_
   exact ⟨(⟨none, 0⟩, none), _, (.cons (.tmp rfl) .nil), rfl, .nil _, .nil _, Sp⟩
def cm  : List (List Int) → (List Int) → (List Int)
 | [], newslice1 => newslice1
 | pn2 :: rn2, newslice1 => (cm rn2 (newslice1 ++ pn2))
def cZ (slices1 : List (List Int)) : List (List Int) → Nat → (List Int)
 | [], size1 => (cm slices1 ([] : List Errno))
 | pn1 :: rn1, size1 => (bif decide (((size1 : Int) + (pn1.length : Int)) < 0) then [] else (cZ slices1 rn1 (size1 + pn1.length)))
def cJ (slices1 : List (List Int)) : List Int :=
 (cZ slices1 slices1 0)
theorem jL (y1 : SlV) (slices1 : List (List Int)) (hct : slices1.flatten.length * 8 ≤ 140737488355328) : DoesG Tryz.prog 13 [y1.val slices1.length] [RdN NInts y1 slices1] ⟨[], []⟩ (fun (X : SlV × Option Nat) => X.1.val (cJ slices1).length) (fun X => []) (fun X => ⟨[], [ownL EInt 40 X.1 X.2 (cJ slices1)]⟩) := by
 refine cF aV Tryz.func13 rfl Tryz.ntmps13 Tryz.results13 rfl inferInstance (fun _ => inferInstance) fun C => ?_
 refine Pn NInts y1 slices1 24 fun hlen1 => ?_
 refine Tx ?_
 (repeat refine ar ?_); refine Lp [0,2,9,10] [] (fun (i_ : Nat × Nat) => match i_ with | ⟨size1, n1⟩ => (⟨[(3, .v (.int .i64 (size1 : Int))), (11, .v (.int .i64 (n1 : Int)))], [], [], [], (n1 ≤ slices1.length) ∧ (size1 = ((slices1.take n1).flatten.length : Int)) ∧ (cZ slices1 (slices1.drop n1) size1) = (cJ slices1), slices1.length - n1⟩ : Ls)) ⟨0, 0⟩ (Sc (Sc (Sc (Sc Sn)))) (.nil) ⟨Nat.zero_le _, (by simp), (by simp only [cJ, Cf] : (cJ slices1) = (cZ slices1 slices1 0)).symm⟩ Le4 ?_
 rintro ⟨size1, n1⟩ ⟨hkn1, hsz, hf1⟩
 simp only [List.cons_append, List.nil_append]
 refine Tx ?_
 refine Cd (b := decide ((n1 : Int) < (slices1.length : Int))) (fun hc1 => ?_) fun hc1 => ?_
 ·have hlt0 : n1 < slices1.length := Int.ofNat_lt.1 (of_decide_eq_true hc1)
  refine Tx ?_
  refine eY NInts (X := y1) (l := slices1) Mm fun (γ1 : Nat → SlV) => ?_
  refine rw_q rfl rfl rfl (dv NInts γ1 n1 rfl rfl Zf rfl Zf rfl rfl rfl Mm rfl Zf (fun _ => by first | assumption | omega)) ?_
  refine rw_q rfl rfl rfl (iw NInts γ1 (v := (γ1 n1).val (gt slices1 n1).length) rfl rfl Zf rfl rfl Mm (fun _ => by first | assumption | omega) rfl) ?_
  refine ay (F := RdL EInt (γ1 n1) (gt slices1 n1)) [ao NInts γ1 slices1] Sm (fun M w h => (allF1 h) n1 Zc _ (.head _)) ?_
  refine Tx ?_
  refine rw_q rfl rfl rfl (q_add rfl rfl Zf rfl Zf (fun _ => by have := (jq slices1 hlt0).2; omega)) ?_
  refine Tx ?_
  refine Cd (b := decide (((size1 : Int) + ((gt slices1 n1).length : Int)) < 0)) (fun hc2 => ?_) fun hc2 => ?_
  ·have hc2p := of_decide_eq_true hc2
   exact absurd (of_decide_eq_true hc2) (by omega)
  ·have hc2p := of_decide_eq_false hc2
   refine Tx ?_
   refine rw_q rfl rfl rfl (q_add rfl rfl Zf rfl Zf Zo) ?_
   refine Tx ?_
   refine ⟨⟨(size1 + (gt slices1 n1).length), (n1 + 1)⟩, ⟨hlt0, (by rw [(jq slices1 hlt0).1, List.length_append]; simp only [hsz]; omega), (by rw [← hf1, aI hlt0]; simp only [cZ, hc2, Cf] : (cJ slices1) = (cZ slices1 (slices1.drop (n1 + 1)) (size1 + (gt slices1 n1).length))).symm⟩, (by simp only []; omega), Le4⟩
 ·have hge0 : slices1.length ≤ n1 := by have := of_decide_eq_false hc1; omega
  refine Tx ?_
  refine Fr EInt ?_
  refine Cg (kK (⟨none, 0⟩ : SlV) ([] : List Int) (size1 : Int) ⟨rfl, rfl⟩ (by have h_ : (slices1.take n1).flatten.length ≤ slices1.flatten.length := (by rw [List.take_of_length_le hge0]; exact Nat.le_refl _); omega)) fun x1 => ?_
  refine Tx ?_
  (repeat refine ar ?_); refine Lp [2,25,26] [] (fun (i_ : List Int × SlV × Option Nat × Nat) => match i_ with | ⟨newslice1, x2, x2b, n2⟩ => (⟨[(6, .v (x2.val newslice1.length)), (27, .v (.int .i64 (n2 : Int)))], [], [ownL EInt 40 x2 x2b newslice1], [], (n2 ≤ slices1.length) ∧ (newslice1.length = (slices1.take n2).flatten.length) ∧ (cm (slices1.drop n2) newslice1) = (cJ slices1), slices1.length - n2⟩ : Ls)) ⟨([] : List Errno), x1.1, x1.2, 0⟩ (Sc (Sc (Sc Sn))) (.nil) ⟨Nat.zero_le _, (by simp), (by rw [← hf1, List.drop_of_length_le hge0]; simp only [cZ, Cf] : (cJ slices1) = (cm slices1 ([] : List Errno))).symm⟩ Le4 ?_
  rintro ⟨newslice1, x2, x2b, n2⟩ ⟨hkn2, hnl, hf2⟩
  simp only [List.cons_append, List.nil_append]
  refine Tx ?_
  refine Cd (b := decide ((n2 : Int) < (slices1.length : Int))) (fun hc3 => ?_) fun hc3 => ?_
  ·have hlt1 : n2 < slices1.length := Int.ofNat_lt.1 (of_decide_eq_true hc3)
   refine Tx ?_
   refine eY NInts (X := y1) (l := slices1) Mm fun (γ2 : Nat → SlV) => ?_
   refine rw_q rfl rfl rfl (dv NInts γ2 n2 rfl rfl Zf rfl Zf rfl rfl rfl Mm rfl Zf (fun _ => by first | assumption | omega)) ?_
   refine rw_q rfl rfl rfl (iw NInts γ2 (v := (γ2 n2).val (gt slices1 n2).length) rfl rfl Zf rfl rfl Mm (fun _ => by first | assumption | omega) rfl) ?_
   refine ay (F := RdL EInt (γ2 n2) (gt slices1 n2)) [ao NInts γ2 slices1] Sm (fun M w h => (allF1 h) n2 Zc _ (.head _)) ?_
   refine Tx ?_
   refine cg EInt newslice1 (gt slices1 n2) (b := x2b) .sq (fun _ _ => .inl ⟨_, rfl⟩) (ae rfl) rfl rfl rfl rfl rfl rfl rfl (fun _ _ => Uo) rfl rfl rfl rfl rfl rfl rfl (fE Mm) (by have := (jq slices1 hlt1).2; show (_ + _) * 8 ≤ _; omega) fun x3 x3b => ?_
   refine Tx ?_
   refine rw_q rfl rfl rfl (q_add rfl rfl Zf rfl Zf Zo) ?_
   refine Tx ?_
   refine ⟨⟨(newslice1 ++ (gt slices1 n2)), x3, x3b, (n2 + 1)⟩, ⟨hlt1, (by rw [(jq slices1 hlt1).1]; simp only [List.length_append]; omega), (by rw [← hf2, aI hlt1]; simp only [cm, Cf] : (cJ slices1) = (cm (slices1.drop (n2 + 1)) (newslice1 ++ (gt slices1 n2)))).symm⟩, (by simp only []; omega), Le4⟩
  ·have hge1 : slices1.length ≤ n2 := by have := of_decide_eq_false hc3; omega
   refine Tx ?_
   refine ak ?_; rw [show (cJ slices1) = newslice1 by rw [← hf2, List.drop_of_length_le hge1]; simp only [cm, Cf]]; exact Re ⟨x2, x2b⟩ (Vt Vn)
theorem kO (ls : List (List Errno)) : cJ ls = ls.flatten := by
 have h1 : ∀ (l : List (List Errno)) (acc : List Errno), cm l acc = acc ++ l.flatten := by
  intro l
  induction l with
  | nil => intro acc; simp [cm]
  | cons a r ih => intro acc; rw [cm, ih]; simp
 have h0 : ∀ (l : List (List Errno)) (k : Nat), cZ ls l k = cm ls [] := by
  intro l
  induction l with
  | nil => intro k; rfl
  | cons a r ih =>
   intro k
   have : decide (((k : Int) + (a.length : Int)) < 0) = false := by simp; omega
   rw [cZ, this, cond_false, ih]
 rw [cJ, h0, h1, List.nil_append]
theorem jz (y1 : SlV) (ls : List (List Errno)) (hct : ls.flatten.length * 8 ≤ 140737488355328) : DoesG Tryz.prog 13 [y1.val ls.length] [RdN NInts y1 ls] ⟨[], []⟩ (fun (X : SlV × Option Nat) => X.1.val ls.flatten.length) (fun _ => []) (fun X => ⟨[], [ownL EInt 40 X.1 X.2 ls.flatten]⟩) := by
 have := jL y1 ls hct
 rw [kO] at this
 exact this
def dr (v1 : Int) : List Int → Nat → Int
 | [], n1 => (-1)
 | pn1 :: rn1, n1 => (bif (v1 == pn1) then (n1 : Int) else (dr v1 rn1 (n1 + 1)))
def bu (s1 : List Int) (v1 : Int) : Int :=
 (dr v1 s1 0)
theorem j4 (y1 : SlV) (s1 : List Int) (v1 : Int) : Does Tryz.prog 29 [y1.val s1.length, .int .i64 v1] [RdL EInt y1 s1] (fun (_ : Unit) => .int .i64 (bu s1 v1)) (fun _ => []) := by
 refine bd aV Tryz.func29 rfl Tryz.ntmps29 Tryz.results29 rfl inferInstance (fun _ => inferInstance) fun C => ?_
 refine Pc EInt y1 s1 8 fun hlen1 => ?_
 refine Tx ?_
 (repeat refine ar ?_); refine Lp [0,1,4,7] [] (fun (n1 : Nat) => (⟨[(8, .v (.int .i64 (n1 : Int)))], [], [], [], (n1 ≤ s1.length) ∧ (dr v1 (s1.drop n1) n1) = (bu s1 v1), s1.length - n1⟩ : Ls)) 0 (Sc (Sc (Sc (Sc Sn)))) (.nil) ⟨Nat.zero_le _, (by simp only [bu, Cf] : (bu s1 v1) = (dr v1 s1 0)).symm⟩ Le4 ?_
 rintro n1 ⟨hkn1, hf1⟩
 simp only [List.cons_append, List.nil_append]
 refine Tx ?_
 refine Cd (b := decide ((n1 : Int) < (s1.length : Int))) (fun hc1 => ?_) fun hc1 => ?_
 ·have hlt0 : n1 < s1.length := Int.ofNat_lt.1 (of_decide_eq_true hc1)
  refine Tx ?_
  refine rw_q rfl rfl rfl (q_idx EInt n1 rfl rfl Zf rfl Zf rfl rfl rfl Mm rfl Zf (fun _ => by first | assumption | omega)) ?_
  refine rw_q rfl rfl rfl (q_le1 EInt rfl rfl Zf rfl rfl Mm (fun _ => by first | assumption | omega) rfl) ?_
  refine Tx ?_
  refine Cd (b := (v1 == (gt s1 n1))) (fun hc2 => ?_) fun hc2 => ?_
  ·have hc2p := eq_of_beq hc2
   refine Tx ?_
   refine ak ?_; rw [show (bu s1 v1) = (n1 : Int) by rw [← hf1, aI hlt0]; simp only [dr, hc2, Cf]]; exact Re () (Vt Vn)
  ·have hc2p := ne_of_beq_false hc2
   refine Tx ?_
   refine rw_q rfl rfl rfl (q_add rfl rfl Zf rfl Zf Zo) ?_
   refine Tx ?_
   refine ⟨(n1 + 1), ⟨hlt0, (by rw [← hf1, aI hlt0]; simp only [dr, hc2, Cf] : (bu s1 v1) = (dr v1 (s1.drop (n1 + 1)) (n1 + 1))).symm⟩, (by simp only []; omega), Le4⟩
 ·have hge0 : s1.length ≤ n1 := by have := of_decide_eq_false hc1; omega
  refine Tx ?_
  refine ak ?_; rw [show (bu s1 v1) = (-1) by rw [← hf1, List.drop_of_length_le hge0]; simp only [dr, Cf]]; exact Re () (Vt Vn)
def cQ (f1 : Int → Bool) : List Int → Nat → Int
 | [], n1 => (-1)
 | pn1 :: rn1, n1 => (bif (f1 pn1) then (n1 : Int) else (cQ f1 rn1 (n1 + 1)))
def cX (s1 : List Int) (f1 : Int → Bool) : Int :=
 (cQ f1 s1 0)
theorem iT (y1 : SlV) (s1 : List Int) (f2 : Nat) (caps1 : List Value) (pre1 : List Pred) [StabL pre1] (f1 : Int → Bool) (hfb1 : tab.fnb f2 = true) (hfn1 : ∀ (a0_ : Int), Does Tryz.prog f2 ([.int .i64 a0_] ++ caps1) pre1 (fun (_ : Unit) => .bool (f1 a0_)) (fun _ => [])) : Does Tryz.prog 61 [y1.val s1.length, .func (.func f2) #[] ⟨caps1⟩] (RdL EInt y1 s1 :: pre1) (fun (_ : Unit) => .int .i64 (cX s1 f1)) (fun _ => []) := by
 refine bd aV Tryz.func61 rfl Tryz.ntmps61 Tryz.results61 rfl inferInstance (fun _ => inferInstance) fun C => ?_
 refine ec (φ := s1.length * 8 ≤ 140737488355328) [RdL EInt y1 s1] Sf (fun M w h => (allF1 h).len) fun hlen1 => ?_
 refine Tx ?_
 (repeat refine ar ?_); refine Lp [0,1,4,7] [] (fun (n1 : Nat) => (⟨[(8, .v (.int .i64 (n1 : Int)))], [], [], [], (n1 ≤ s1.length) ∧ (cQ f1 (s1.drop n1) n1) = (cX s1 f1), s1.length - n1⟩ : Ls)) 0 (Sc (Sc (Sc (Sc Sn)))) (.nil) ⟨Nat.zero_le _, (by simp only [cX, Cf] : (cX s1 f1) = (cQ f1 s1 0)).symm⟩ Le5 ?_
 rintro n1 ⟨hkn1, hf1⟩
 simp only [List.cons_append, List.nil_append]
 refine Tx ?_
 refine Cd (b := decide ((n1 : Int) < (s1.length : Int))) (fun hc1 => ?_) fun hc1 => ?_
 ·have hlt0 : n1 < s1.length := Int.ofNat_lt.1 (of_decide_eq_true hc1)
  refine Tx ?_
  refine rw_q rfl rfl rfl (q_idx EInt n1 rfl rfl Zf rfl Zf rfl rfl rfl Mm rfl Zf (fun _ => by first | assumption | omega)) ?_
  refine rw_q rfl rfl rfl (q_le1 EInt rfl rfl Zf rfl rfl Mm (fun _ => by first | assumption | omega) rfl) ?_
  refine em (hfn1 (gt s1 n1)) .sq (ae rfl) rfl rfl rfl rfl rfl (by assumption) rfl rfl rfl Sf ?_
  intro _
  refine er ?_
  (repeat refine ar ?_)
  refine Cd (b := (f1 (gt s1 n1))) (fun hc2 => ?_) fun hc2 => ?_
  ·refine Tx ?_
   have hr1 : (cX s1 f1) = (n1 : Int) := by rw [← hf1, aI hlt0]; simp only [cQ, hc2, Cf]
   refine ak ?_
   rw [hr1]
   exact ⟨(), _, (.cons (.tmp rfl) .nil), rfl, Sf, .nil _, .nil _⟩
  ·refine Tx ?_
   refine rw_q rfl rfl rfl (q_add rfl rfl Zf rfl Zf Zo) ?_
   refine Tx ?_
   refine ⟨(n1 + 1), ⟨hlt0, (by rw [← hf1, aI hlt0]; simp only [cQ, hc2, Cf] : (cX s1 f1) = (cQ f1 (s1.drop (n1 + 1)) (n1 + 1))).symm⟩, (by simp only []; omega), Le5⟩
 ·have hge0 : s1.length ≤ n1 := by have := of_decide_eq_false hc1; omega
  refine Tx ?_
  have hr2 : (cX s1 f1) = (-1) := by rw [← hf1, List.drop_of_length_le hge0]; simp only [cQ, Cf]
  refine ak ?_
  rw [hr2]
  exact ⟨(), _, (.cons (.tmp rfl) .nil), rfl, Sf, .nil _, .nil _⟩
def aY (s1 : List Int) (f1 : Int → Bool) : Bool :=
 decide ((cX s1 f1) ≥ 0)
theorem ia (y1 : SlV) (s1 : List Int) (f2 : Nat) (caps1 : List Value) (pre1 : List Pred) [StabL pre1] (f1 : Int → Bool) (hfb1 : tab.fnb f2 = true) (hfn1 : ∀ (a0_ : Int), Does Tryz.prog f2 ([.int .i64 a0_] ++ caps1) pre1 (fun (_ : Unit) => .bool (f1 a0_)) (fun _ => [])) : Does Tryz.prog 30 [y1.val s1.length, .func (.func f2) #[] ⟨caps1⟩] (RdL EInt y1 s1 :: pre1) (fun (_ : Unit) => .bool (aY s1 f1)) (fun _ => []) := by
 refine bd aV Tryz.func30 rfl Tryz.ntmps30 Tryz.results30 rfl inferInstance (fun _ => inferInstance) fun C => ?_
 refine ec (φ := s1.length * 8 ≤ 140737488355328) [RdL EInt y1 s1] Sf (fun M w h => (allF1 h).len) fun hlen1 => ?_
 refine Tx ?_
 refine cR (iT y1 s1 _ _ _ f1 (by assumption) hfn1) .sq (ae rfl) rfl rfl rfl Kr rfl rfl Sf ?_
 intro _
 refine Tx ?_
 have hr1 : (aY s1 f1) = decide ((cX s1 f1) ≥ 0) := by simp only [aY, Cf]
 refine ak ?_
 rw [hr1]
 exact ⟨(), _, (.cons (.tmp rfl) .nil), rfl, Sf, .nil _, .nil _⟩
def ct  : List Client → Nat → Int
 | [], n1 => 0
 | pn1 :: rn1, n1 => (bif ((aZ pn1 (n1 : Int)) != 0) then (aZ pn1 (n1 : Int)) else (ct rn1 (n1 + 1)))
def aF (w1 : Wld) : Int :=
 (bif ((w1.c.length : Int) != 3) then 4 else (bif ((bM w1.mail) != 0) then (bM w1.mail) else (bif ((aH w1.d).2.2 != 0) then (aH w1.d).2.2 else (bif (w1.up && decide ((w1.d.wait.length : Int) > 0)) then 4 else (bif (!w1.up) then (bif ((aN ([] : List Rec)).2 != 0) then (aN ([] : List Rec)).2 else (bif (!(fv (aN ([] : List Rec)).1 w1.h)) then 4 else (ct w1.c 0))) else (bif ((aN (aH w1.d).2.1).2 != 0) then (aN (aH w1.d).2.1).2 else (bif (!(fv (aN (aH w1.d).2.1).1 w1.h)) then 4 else (ct w1.c 0))))))))
theorem fA (y1 : SlV) (y2 : SlV) (y3 : SlV) (y4 : SlV) (y5 : SlV) (y6 : SlV) (y7 : SlV) (w1 : Wld) : Does Tryz.prog 15 [.agg ⟨[y1.val w1.h.h.l.length, y2.val w1.h.h.t.length, .int .i64 w1.h.version, y3.val w1.h.peers.length, y4.val w1.d.safe.length, y5.val w1.d.wait.length, .bool w1.up, y6.val w1.c.length, y7.val w1.mail.length]⟩] [RdL EStep y1 w1.h.h.l, RdL EPlace y2 w1.h.h.t, RdN NPeer y3 w1.h.peers, RdL EByte y4 w1.d.safe, RdL EByte y5 w1.d.wait, RdN NClient y6 w1.c, RdN NMail y7 w1.mail, LibP Tryz.prog] (fun (_ : Unit) => .int .i64 (aF w1)) (fun _ => []) := by
 refine bd aV Tryz.func15 rfl Tryz.ntmps15 Tryz.results15 rfl inferInstance (fun _ => inferInstance) fun C => ?_
 refine Pc EStep y1 w1.h.h.l 88 fun hlen1 => ?_
 refine Pc EPlace y2 w1.h.h.t 24 fun hlen2 => ?_
 refine Pn NPeer y3 w1.h.peers 40 fun hlen3 => ?_
 refine Pc EByte y4 w1.d.safe 1 fun hlen4 => ?_
 refine Pc EByte y5 w1.d.wait 1 fun hlen5 => ?_
 refine Pn NClient y6 w1.c 128 fun hlen6 => ?_
 refine Pn NMail y7 w1.mail 280 fun hlen7 => ?_
 refine Tx ?_
 refine Bx fun g1 => ?_
 refine Tx ?_
 refine Cd (b := ((w1.c.length : Int) != 3)) (fun hc1 => ?_) fun hc1 => ?_
 ·have hc1p := bne_iff_ne.1 hc1
  refine Tx ?_
  refine ak ?_; simp only [aF, hc1, Cf]; exact Re () (Vt Vn)
 ·have hc1p := ag hc1
  refine Tx ?_
  refine Cl (gf y7 w1.mail) fun _ => ?_
  refine Tx ?_
  refine Cd (b := ((bM w1.mail) != 0)) (fun hc2 => ?_) fun hc2 => ?_
  ·have hc2p := bne_iff_ne.1 hc2
   refine Tx ?_
   refine ak ?_; simp only [aF, hc1, hc2, Cf]; exact Re () (Vt Vn)
  ·have hc2p := ag hc2
   refine Tx ?_
   refine Cl (gX y4 y5 w1.d) fun x1 => ?_
   refine Tx ?_
   refine Al fun g2 => ?_
   refine Tx ?_
   refine Cd (b := ((aH w1.d).2.2 != 0)) (fun hc3 => ?_) fun hc3 => ?_
   ·have hc3p := bne_iff_ne.1 hc3
    refine Tx ?_
    refine ak ?_; simp only [aF, hc1, hc2, hc3, Cf]; exact Re () (Vt Vn)
   ·have hc3p := ag hc3
    refine Tx ?_
    refine Cd (b := (w1.up && decide ((w1.d.wait.length : Int) > 0))) (fun hc4 => ?_) fun hc4 => ?_
    ·refine Tx ?_
     refine ak ?_; simp only [aF, hc1, hc2, hc3, hc4, Cf]; exact Re () (Vt Vn)
    ·refine Tx ?_
     refine Cd (b := (!w1.up)) (fun hc5 => ?_) fun hc5 => ?_
     ·refine Tx ?_
      refine ay (F := RdN NRec ⟨none, 0⟩ ([] : List Rec)) [] (.nil _) (fun M w _ => RdN.nil _ M w) ?_
      refine Cl (gK (⟨none, 0⟩ : SlV) ([] : List Rec)) fun x2 => ?_
      refine Tx ?_
      refine Al fun g3 => ?_
      refine Tx ?_
      refine Cd (b := ((aN ([] : List Rec)).2 != 0)) (fun hc6 => ?_) fun hc6 => ?_
      ·have hc6p := bne_iff_ne.1 hc6
       refine Tx ?_
       refine ak ?_; simp only [aF, hc1, hc2, hc3, hc4, hc5, hc6, Cf]; exact Re () (Vt Vn)
      ·have hc6p := ag hc6
       refine Tx ?_
       refine Cl (iI x2.1 x2.2.1 x2.2.2 (aN ([] : List Rec)).1 y1 y2 y3 w1.h) fun _ => ?_
       generalize hS1 : (fv (aN ([] : List Rec)).1 w1.h) = S1
       refine Tx ?_
       refine Cd (b := (!S1)) (fun hc7 => ?_) fun hc7 => ?_
       ·refine Tx ?_
        refine ak ?_; simp only [aF, hc1, hc2, hc3, hc4, hc5, hc6, hS1, hc7, Cf]; exact Re () (Vt Vn)
       ·refine Tx ?_
        (repeat refine ar ?_); refine Lp [2,57,58] [true, true, true] (fun (n1 : Nat) => (⟨[(59, .v (.int .i64 (n1 : Int)))], [], [], [], (n1 ≤ w1.c.length) ∧ (ct (w1.c.drop n1) n1) = (aF w1), w1.c.length - n1⟩ : Ls)) 0 (Sc (Sc (Sc Sn))) (.keep (.keep (.keep (.nil)))) ⟨Nat.zero_le _, (by simp only [aF, hc1, hc2, hc3, hc4, hc5, hc6, hS1, hc7, Cf] : (aF w1) = (ct w1.c 0)).symm⟩ Le4 ?_
        rintro n1 ⟨hkn1, hf1⟩
        simp only [List.cons_append, List.nil_append]
        refine Tx ?_
        refine Cd (b := decide ((n1 : Int) < (w1.c.length : Int))) (fun hc8 => ?_) fun hc8 => ?_
        ·have hlt0 : n1 < w1.c.length := Int.ofNat_lt.1 (of_decide_eq_true hc8)
         refine Tx ?_
         refine eY NClient (X := y6) (l := w1.c) Mm fun (γ1 : Nat → SlV × SlV × SlV × SlV) => ?_
         refine rw_q rfl rfl rfl (dv NClient γ1 n1 rfl rfl Zf rfl Zf rfl rfl rfl Mm rfl Zf (fun _ => by first | assumption | omega)) ?_
         refine rw_q rfl rfl rfl (q_is (v' := .agg ⟨[.int .i64 (gt w1.c n1).life, .int .i64 (gt w1.c n1).time, .int .i64 (gt w1.c n1).seq, (γ1 n1).1.val (gt w1.c n1).pending.length, .int .i64 (gt w1.c n1).version, (γ1 n1).2.1.val (gt w1.c n1).v.roots.length, (γ1 n1).2.2.1.val (gt w1.c n1).v.known.length, (γ1 n1).2.2.2.val (gt w1.c n1).v.way.length]⟩) (fK NClient γ1 rfl rfl Zf rfl rfl Mm (fun _ => by first | assumption | omega)) rfl) ?_
         refine ay (F := RdL EOp (γ1 n1).1 (gt w1.c n1).pending) [ao NClient γ1 w1.c] Sm (fun M w h => (allF1 h) n1 Zc _ (.head _)) ?_
         refine ay (F := RdL EInt (γ1 n1).2.1 (gt w1.c n1).v.roots) [ao NClient γ1 w1.c] Sm (fun M w h => (allF1 h) n1 Zc _ (.tail _ (.head _))) ?_
         refine ay (F := RdL EPlace (γ1 n1).2.2.1 (gt w1.c n1).v.known) [ao NClient γ1 w1.c] Sm (fun M w h => (allF1 h) n1 Zc _ (.tail _ (.tail _ (.head _)))) ?_
         refine ay (F := RdL EPlace (γ1 n1).2.2.2 (gt w1.c n1).v.way) [ao NClient γ1 w1.c] Sm (fun M w h => (allF1 h) n1 Zc _ (.tail _ (.tail _ (.tail _ (.head _))))) ?_
         refine Al fun g4 => ?_
         refine Tx ?_
         refine Cl (fl (γ1 n1).1 (γ1 n1).2.1 (γ1 n1).2.2.1 (γ1 n1).2.2.2 (gt w1.c n1) (n1 : Int)) fun _ => ?_
         generalize hS2 : (aZ (gt w1.c n1) (n1 : Int)) = S2
         refine Tx ?_
         refine Cd (b := (S2 != 0)) (fun hc9 => ?_) fun hc9 => ?_
         ·have hc9p := bne_iff_ne.1 hc9
          refine Tx ?_
          refine ak ?_; rw [show (aF w1) = S2 by rw [← hf1, aI hlt0]; simp only [ct, hS2, hc9, Cf]]; exact Re () (Vt Vn)
         ·have hc9p := ag hc9
          refine Tx ?_
          refine rw_q rfl rfl rfl (q_add rfl rfl Zf rfl Zf Zo) ?_
          refine Tx ?_
          refine ⟨(n1 + 1), ⟨hlt0, (by rw [← hf1, aI hlt0]; simp only [ct, hS2, hc9, Cf] : (aF w1) = (ct (w1.c.drop (n1 + 1)) (n1 + 1))).symm⟩, (by simp only []; omega), Le4⟩
        ·have hge0 : w1.c.length ≤ n1 := by have := of_decide_eq_false hc8; omega
         refine Tx ?_
         refine ak ?_; rw [show (aF w1) = 0 by rw [← hf1, List.drop_of_length_le hge0]; simp only [ct, Cf]]; exact Re () (Vt Vn)
     ·refine Tx ?_
      refine Cl (gK x1.2.2 (aH w1.d).2.1) fun x3 => ?_
      generalize hS3 : (aN (aH w1.d).2.1) = S3
      refine Tx ?_
      refine Al fun g5 => ?_
      refine Tx ?_
      refine Cd (b := (S3.2 != 0)) (fun hc10 => ?_) fun hc10 => ?_
      ·have hc10p := bne_iff_ne.1 hc10
       refine Tx ?_
       refine ak ?_; simp only [aF, hc1, hc2, hc3, hc4, hc5, hS3, hc10, Cf]; exact Re () (Vt Vn)
      ·have hc10p := ag hc10
       refine Tx ?_
       refine Cl (iI x3.1 x3.2.1 x3.2.2 S3.1 y1 y2 y3 w1.h) fun _ => ?_
       refine Tx ?_
       refine Cd (b := (!(fv S3.1 w1.h))) (fun hc11 => ?_) fun hc11 => ?_
       ·refine Tx ?_
        refine ak ?_; simp only [aF, hc1, hc2, hc3, hc4, hc5, hS3, hc10, hc11, Cf]; exact Re () (Vt Vn)
       ·refine Tx ?_
        (repeat refine ar ?_); refine Lp [2,57,58] [true, true, true] (fun (n2 : Nat) => (⟨[(59, .v (.int .i64 (n2 : Int)))], [], [], [], (n2 ≤ w1.c.length) ∧ (ct (w1.c.drop n2) n2) = (aF w1), w1.c.length - n2⟩ : Ls)) 0 (Sc (Sc (Sc Sn))) (.keep (.keep (.keep (.nil)))) ⟨Nat.zero_le _, (by simp only [aF, hc1, hc2, hc3, hc4, hc5, hS3, hc10, hc11, Cf] : (aF w1) = (ct w1.c 0)).symm⟩ Le4 ?_
        rintro n2 ⟨hkn2, hf2⟩
        simp only [List.cons_append, List.nil_append]
        refine Tx ?_
        refine Cd (b := decide ((n2 : Int) < (w1.c.length : Int))) (fun hc12 => ?_) fun hc12 => ?_
        ·have hlt0 : n2 < w1.c.length := Int.ofNat_lt.1 (of_decide_eq_true hc12)
         refine Tx ?_
         refine eY NClient (X := y6) (l := w1.c) Mm fun (γ2 : Nat → SlV × SlV × SlV × SlV) => ?_
         refine rw_q rfl rfl rfl (dv NClient γ2 n2 rfl rfl Zf rfl Zf rfl rfl rfl Mm rfl Zf (fun _ => by first | assumption | omega)) ?_
         refine rw_q rfl rfl rfl (q_is (v' := .agg ⟨[.int .i64 (gt w1.c n2).life, .int .i64 (gt w1.c n2).time, .int .i64 (gt w1.c n2).seq, (γ2 n2).1.val (gt w1.c n2).pending.length, .int .i64 (gt w1.c n2).version, (γ2 n2).2.1.val (gt w1.c n2).v.roots.length, (γ2 n2).2.2.1.val (gt w1.c n2).v.known.length, (γ2 n2).2.2.2.val (gt w1.c n2).v.way.length]⟩) (fK NClient γ2 rfl rfl Zf rfl rfl Mm (fun _ => by first | assumption | omega)) rfl) ?_
         refine ay (F := RdL EOp (γ2 n2).1 (gt w1.c n2).pending) [ao NClient γ2 w1.c] Sm (fun M w h => (allF1 h) n2 Zc _ (.head _)) ?_
         refine ay (F := RdL EInt (γ2 n2).2.1 (gt w1.c n2).v.roots) [ao NClient γ2 w1.c] Sm (fun M w h => (allF1 h) n2 Zc _ (.tail _ (.head _))) ?_
         refine ay (F := RdL EPlace (γ2 n2).2.2.1 (gt w1.c n2).v.known) [ao NClient γ2 w1.c] Sm (fun M w h => (allF1 h) n2 Zc _ (.tail _ (.tail _ (.head _)))) ?_
         refine ay (F := RdL EPlace (γ2 n2).2.2.2 (gt w1.c n2).v.way) [ao NClient γ2 w1.c] Sm (fun M w h => (allF1 h) n2 Zc _ (.tail _ (.tail _ (.tail _ (.head _))))) ?_
         refine Al fun g6 => ?_
         refine Tx ?_
         refine Cl (fl (γ2 n2).1 (γ2 n2).2.1 (γ2 n2).2.2.1 (γ2 n2).2.2.2 (gt w1.c n2) (n2 : Int)) fun _ => ?_
         generalize hS4 : (aZ (gt w1.c n2) (n2 : Int)) = S4
         refine Tx ?_
         refine Cd (b := (S4 != 0)) (fun hc13 => ?_) fun hc13 => ?_
         ·have hc13p := bne_iff_ne.1 hc13
          refine Tx ?_
          refine ak ?_; rw [show (aF w1) = S4 by rw [← hf2, aI hlt0]; simp only [ct, hS4, hc13, Cf]]; exact Re () (Vt Vn)
         ·have hc13p := ag hc13
          refine Tx ?_
          refine rw_q rfl rfl rfl (q_add rfl rfl Zf rfl Zf Zo) ?_
          refine Tx ?_
          refine ⟨(n2 + 1), ⟨hlt0, (by rw [← hf2, aI hlt0]; simp only [ct, hS4, hc13, Cf] : (aF w1) = (ct (w1.c.drop (n2 + 1)) (n2 + 1))).symm⟩, (by simp only []; omega), Le4⟩
        ·have hge0 : w1.c.length ≤ n2 := by have := of_decide_eq_false hc12; omega
         refine Tx ?_
         refine ak ?_; rw [show (aF w1) = 0 by rw [← hf2, List.drop_of_length_le hge0]; simp only [ct, Cf]]; exact Re () (Vt Vn)
def ba (w1 : Wld) (r1 : Rec) : Int × Wld :=
 (bif ((d8 w1.h r1).2 != 0) then ((d8 w1.h r1).2, w1) else (bif ((dR w1.d r1).2 != 0) then ((dR w1.d r1).2, w1) else (bif ((eT (dR w1.d r1).1).2 != 0) then ((eT (dR w1.d r1).1).2, w1) else (0, (⟨(d8 w1.h r1).1, (eT (dR w1.d r1).1).1, w1.up, w1.c, w1.mail⟩ : Wld)))))
theorem ij (c1 : Nat) (y1 : SlV) (y2 : SlV) (y3 : SlV) (y4 : SlV) (y5 : SlV) (y6 : SlV) (y6b : Option Nat) (γ1 : Nat → SlV × SlV × SlV × SlV) (y7 : SlV) (w1 : Wld) (y8 : SlV) (r1 : Rec) : DoesG Tryz.prog 83 [.pointer (some ⟨c1, 0, none⟩), .agg ⟨[.int .i64 r1.kind, .int .i64 r1.who, .int .i64 r1.life, y8.val r1.roots.length, .int .i64 r1.o.time, .int .i64 r1.o.who, .int .i64 r1.o.node, .int .i64 r1.o.parent, .int .i64 r1.o.name, .int .i64 r1.o.life, .int .i64 r1.o.seq]⟩] [RdL EStep y1 w1.h.h.l, RdL EPlace y2 w1.h.h.t, RdN NPeer y3 w1.h.peers, RdL EByte y4 w1.d.safe, RdL EByte y5 w1.d.wait, ao NClient γ1 w1.c, RdN NMail y7 w1.mail, RdL EInt y8 r1.roots, LibP Tryz.prog] ⟨[⟨c1, 37, [y1.val w1.h.h.l.length, y2.val w1.h.h.t.length, .int .i64 w1.h.version, y3.val w1.h.peers.length, y4.val w1.d.safe.length, y5.val w1.d.wait.length, .bool w1.up, y6.val w1.c.length, y7.val w1.mail.length]⟩], [ownL NClient.E 60 y6 y6b (zipG γ1 0 w1.c)]⟩ (fun (X : SlV × SlV × SlV × SlV × SlV × SlV × Option Nat × (Nat → SlV × SlV × SlV × SlV) × SlV) => .int .i64 (ba w1 r1).1) (fun X => [RdL EStep X.1 (ba w1 r1).2.h.h.l, RdL EPlace X.2.1 (ba w1 r1).2.h.h.t, RdN NPeer X.2.2.1 (ba w1 r1).2.h.peers, RdL EByte X.2.2.2.1 (ba w1 r1).2.d.safe, RdL EByte X.2.2.2.2.1 (ba w1 r1).2.d.wait, ao NClient X.2.2.2.2.2.2.2.1 (ba w1 r1).2.c, RdN NMail X.2.2.2.2.2.2.2.2 (ba w1 r1).2.mail]) (fun X => ⟨[⟨c1, 37, [X.1.val (ba w1 r1).2.h.h.l.length, X.2.1.val (ba w1 r1).2.h.h.t.length, .int .i64 (ba w1 r1).2.h.version, X.2.2.1.val (ba w1 r1).2.h.peers.length, X.2.2.2.1.val (ba w1 r1).2.d.safe.length, X.2.2.2.2.1.val (ba w1 r1).2.d.wait.length, .bool (ba w1 r1).2.up, X.2.2.2.2.2.1.val (ba w1 r1).2.c.length, X.2.2.2.2.2.2.2.2.val (ba w1 r1).2.mail.length]⟩], [ownL NClient.E 60 X.2.2.2.2.2.1 X.2.2.2.2.2.2.1 (zipG X.2.2.2.2.2.2.2.1 0 (ba w1 r1).2.c)]⟩) := by
 refine cF aV Tryz.func83 rfl Tryz.ntmps83 Tryz.results83 rfl inferInstance (fun _ => inferInstance) fun C => ?_
 refine Pc EInt y8 r1.roots 8 fun hlen1 => ?_
 refine Tx ?_
 refine Bx fun g1 => ?_
 refine Tx ?_
 refine ge [0, 3, 4] [true, true] (fun (i_ : Nat × SlV × SlV × SlV) => match i_ with | ⟨g2, x1, x2, x3⟩ => [(5, .v (.pointer (some ⟨g2, 0, none⟩))), (6, .v (.int .i64 (d8 w1.h r1).2))]) (fun (i_ : Nat × SlV × SlV × SlV) => match i_ with | ⟨g2, x1, x2, x3⟩ => [⟨g2, 30, [x1.val (d8 w1.h r1).1.h.l.length, x2.val (d8 w1.h r1).1.h.t.length, .int .i64 (d8 w1.h r1).1.version, x3.val (d8 w1.h r1).1.peers.length]⟩]) (fun (i_ : Nat × SlV × SlV × SlV) => match i_ with | ⟨g2, x1, x2, x3⟩ => [ownL NClient.E 60 y6 y6b (zipG γ1 0 w1.c)]) (fun (i_ : Nat × SlV × SlV × SlV) => match i_ with | ⟨g2, x1, x2, x3⟩ => [RdL EStep x1 (d8 w1.h r1).1.h.l, RdL EPlace x2 (d8 w1.h r1).1.h.t, RdN NPeer x3 (d8 w1.h r1).1.peers]) (fun _ => True) (.cons rfl (.cons rfl (.cons rfl (.nil _)))) (.keep (.keep (.nil))) ?_ ?_
 ·refine aw (fun j => match j with | 10 => none | _ => some []) ?_
  refine Rb 0 rfl Qp ?_
  refine Rb 1 rfl Qp ?_
  refine Rb 2 rfl Qp ?_
  refine Rb 3 rfl (q_ldP rfl rfl Zf rfl Mm rfl) ?_
  refine Rb 4 rfl (q_ldA rfl rfl Zf rfl Mm rfl) ?_
  refine fF 5 9 Kr ?_ ?_
  ·refine cR (mj y1 y2 y3 w1.h y8 r1) (.an rfl rfl) (ae rfl) rfl rfl rfl Kr rfl rfl Sm ?_
   intro x4
   refine Ra 6 rfl Qp ?_
   refine Ra 7 rfl Qp ?_
   refine ra_p (.an (i := 8) (js := [9, 10]) rfl Kr Kr Kr Kr) rfl rfl rfl (q_pev rfl Zf) ?_
   refine av 9 Kr ?_
   refine dh (.an rfl rfl) (ae rfl) rfl rfl rfl rfl fun g3 => ?_
   refine av 10 Kr ?_
   refine di (.lo [g3] rfl rfl) (.inr (by simp)) (ae rfl) rfl rfl rfl rfl rfl rfl rfl rfl rfl Ub rfl ?_
   refine Ra 11 rfl Qp ?_
   refine bj Kr ?_
   refine ⟨⟨g3, x4.1, x4.2.1, x4.2.2⟩, trivial, Le4⟩
  ·refine dh (.an rfl rfl) (ae rfl) rfl rfl rfl rfl fun g4 => ?_
   refine av 5 Kr ?_
   refine cR (mj y1 y2 y3 w1.h y8 r1) (.an rfl rfl) (ae rfl) rfl rfl rfl Kr rfl rfl Sm ?_
   intro x5
   refine Ra 6 rfl Qp ?_
   refine Ra 7 rfl Qp ?_
   refine ra_p (.an (i := 8) (js := [10]) rfl Kr Kr Kr Kr) rfl rfl rfl (q_pev rfl Zf) ?_
   refine av 10 Kr ?_
   refine di (.lo [g4] rfl rfl) (.inr (by simp)) (ae rfl) rfl rfl rfl rfl rfl rfl rfl rfl rfl Ub rfl ?_
   refine Ra 11 rfl Qp ?_
   refine bj Kr ?_
   refine ⟨⟨g4, x5.1, x5.2.1, x5.2.2⟩, trivial, Le4⟩
 ·rintro ⟨g2, x1, x2, x3⟩ -
  simp only [List.cons_append, List.nil_append]
  refine Tx ?_
  refine Cd (b := ((d8 w1.h r1).2 != 0)) (fun hc1 => ?_) fun hc1 => ?_
  ·have hc1p := bne_iff_ne.1 hc1
   refine Tx ?_
   refine ak ?_; simp only [ba, hc1, Cf]; exact Re ⟨y1, y2, y3, y4, y5, y6, y6b, γ1, y7⟩ (Vt Vn)
  ·have hc1p := ag hc1
   refine Tx ?_
   refine ge [0, 4, 5] [true, true, true] (fun (i_ : Nat × SlV × SlV) => match i_ with | ⟨g5, x6, x7⟩ => [(6, .v (.int .i64 (dR w1.d r1).2)), (7, .v (.pointer (some ⟨g5, 0, none⟩)))]) (fun (i_ : Nat × SlV × SlV) => match i_ with | ⟨g5, x6, x7⟩ => [⟨g5, 33, [x6.val (dR w1.d r1).1.safe.length, x7.val (dR w1.d r1).1.wait.length]⟩]) (fun (i_ : Nat × SlV × SlV) => match i_ with | ⟨g5, x6, x7⟩ => [ownL NClient.E 60 y6 y6b (zipG γ1 0 w1.c)]) (fun (i_ : Nat × SlV × SlV) => match i_ with | ⟨g5, x6, x7⟩ => [RdL EByte x6 (dR w1.d r1).1.safe, RdL EByte x7 (dR w1.d r1).1.wait]) (fun _ => True) (.cons rfl (.cons rfl (.cons rfl (.nil _)))) (.keep (.keep (.keep (.nil)))) ?_ ?_
   ·refine aw (fun j => match j with | 10 => none | _ => some []) ?_
    refine Rb 0 rfl Qp ?_
    refine Rb 1 rfl Qp ?_
    refine Rb 2 rfl Qp ?_
    refine Rb 3 rfl (q_ldP rfl rfl Zf rfl Mm rfl) ?_
    refine Rb 4 rfl (q_ldA rfl rfl Zf rfl Mm rfl) ?_
    refine fF 5 9 Kr ?_ ?_
    ·refine cR (mt y4 y5 w1.d y8 r1) (.an rfl rfl) (ae rfl) rfl rfl rfl Kr rfl rfl Sm ?_
     intro x8
     refine Ra 6 rfl Qp ?_
     refine Ra 7 rfl Qp ?_
     refine ra_p (.an (i := 8) (js := [9, 10]) rfl Kr Kr Kr Kr) rfl rfl rfl (q_pev rfl Zf) ?_
     refine av 9 Kr ?_
     refine dh (.an rfl rfl) (ae rfl) rfl rfl rfl rfl fun g6 => ?_
     refine av 10 Kr ?_
     refine di (.lo [g6] rfl rfl) (.inr (by simp)) (ae rfl) rfl rfl rfl rfl rfl rfl rfl rfl rfl Ub rfl ?_
     refine Ra 11 rfl Qp ?_
     refine bj Kr ?_
     refine ⟨⟨g6, x8.1, x8.2⟩, trivial, Le4⟩
    ·refine dh (.an rfl rfl) (ae rfl) rfl rfl rfl rfl fun g7 => ?_
     refine av 5 Kr ?_
     refine cR (mt y4 y5 w1.d y8 r1) (.an rfl rfl) (ae rfl) rfl rfl rfl Kr rfl rfl Sm ?_
     intro x9
     refine Ra 6 rfl Qp ?_
     refine Ra 7 rfl Qp ?_
     refine ra_p (.an (i := 8) (js := [10]) rfl Kr Kr Kr Kr) rfl rfl rfl (q_pev rfl Zf) ?_
     refine av 10 Kr ?_
     refine di (.lo [g7] rfl rfl) (.inr (by simp)) (ae rfl) rfl rfl rfl rfl rfl rfl rfl rfl rfl Ub rfl ?_
     refine Ra 11 rfl Qp ?_
     refine bj Kr ?_
     refine ⟨⟨g7, x9.1, x9.2⟩, trivial, Le4⟩
   ·rintro ⟨g5, x6, x7⟩ -
    simp only [List.cons_append, List.nil_append]
    refine Tx ?_
    refine Cd (b := ((dR w1.d r1).2 != 0)) (fun hc2 => ?_) fun hc2 => ?_
    ·have hc2p := bne_iff_ne.1 hc2
     refine Tx ?_
     refine ak ?_; simp only [ba, hc1, hc2, Cf]; exact Re ⟨y1, y2, y3, y4, y5, y6, y6b, γ1, y7⟩ (Vt Vn)
    ·have hc2p := ag hc2
     refine Tx ?_
     refine Cl (oU x6 x7 (dR w1.d r1).1) fun x10 => ?_
     generalize hS1 : (eT (dR w1.d r1).1) = S1
     refine Tx ?_
     refine Cd (b := (S1.2 != 0)) (fun hc3 => ?_) fun hc3 => ?_
     ·have hc3p := bne_iff_ne.1 hc3
      refine Tx ?_
      refine ak ?_; simp only [ba, hc1, hc2, hS1, hc3, Cf]; exact Re ⟨y1, y2, y3, y4, y5, y6, y6b, γ1, y7⟩ (Vt Vn)
     ·have hc3p := ag hc3
      refine Tx ?_
      (repeat refine ar ?_); refine aw (fun j => match j with | 6 => none | 9 => none | _ => some []) ?_
      refine Ra 0 rfl Qp ?_
      refine ra_p (.an (i := 1) (js := [2, 3, 4, 5, 6]) rfl Kr Kr Kr Kr) rfl rfl rfl (q_pev rfl Zf) ?_
      refine Ra 2 rfl (q_ldA rfl rfl Zf rfl Mm rfl) ?_
      refine Rb 4 rfl Qp ?_
      refine Ra 5 rfl Qp ?_
      refine fF 3 6 Kr ?_ ?_
      ·refine tQ rfl rfl rfl rfl (q_ldA rfl rfl Zf rfl Mm rfl) ?_
       refine av 6 Kr ?_
       refine fo (.lo [c1] rfl rfl) (.inr (by simp)) (ae rfl) rfl rfl rfl rfl rfl rfl rfl rfl rfl Ub rfl ?_
       refine Rb 7 rfl Qp ?_
       refine Ra 8 rfl Qp ?_
       refine av 9 Kr ?_
       refine fo (.lo [c1] rfl rfl) (.inr (by simp)) (ae rfl) rfl rfl rfl rfl rfl rfl rfl rfl rfl Ub rfl ?_
       refine bj Kr ?_
       refine Tx ?_
       refine ak ?_; simp only [ba, hc1, hc2, hS1, hc3, Cf]; exact Re ⟨x1, x2, x3, x10.1, x10.2, y6, y6b, γ1, y7⟩ (Vt Vn)
      ·refine fo (.lo [c1] rfl rfl) (.inr (by simp)) (ae rfl) rfl rfl rfl rfl rfl rfl rfl rfl rfl Ub rfl ?_
       refine Ra 3 rfl (q_ldA rfl rfl Zf rfl Mm rfl) ?_
       refine Rb 7 rfl Qp ?_
       refine Ra 8 rfl Qp ?_
       refine av 9 Kr ?_
       refine fo (.lo [c1] rfl rfl) (.inr (by simp)) (ae rfl) rfl rfl rfl rfl rfl rfl rfl rfl rfl Ub rfl ?_
       refine bj Kr ?_
       refine Tx ?_
       refine ak ?_; simp only [ba, hc1, hc2, hS1, hc3, Cf]; exact Re ⟨x1, x2, x3, x10.1, x10.2, y6, y6b, γ1, y7⟩ (Vt Vn)
def cn (w1 : Wld) (m1 : Mail) : Wld :=
 (bif ((es w1.mail m1).2 == 0) then (⟨w1.h, w1.d, w1.up, w1.c, (es w1.mail m1).1⟩ : Wld) else w1)
theorem gD (c1 : Nat) (y1 : SlV) (y2 : SlV) (y3 : SlV) (y4 : SlV) (y5 : SlV) (y6 : SlV) (y6b : Option Nat) (γ1 : Nat → SlV × SlV × SlV × SlV) (y7 : SlV) (w1 : Wld) (y8 : SlV) (y9 : SlV) (y10 : SlV) (y11 : SlV) (y12 : SlV) (y13 : SlV) (y14 : SlV) (m1 : Mail) : DoesG Tryz.prog 85 [.pointer (some ⟨c1, 0, none⟩), .agg ⟨[.int .i64 m1.kind, .int .i64 m1.who, .int .i64 m1.life, .int .i64 m1.seq, .int .i64 m1.time, .int .i64 m1.version, .int .i64 m1.frm, .int .i64 m1.o.time, .int .i64 m1.o.who, .int .i64 m1.o.node, .int .i64 m1.o.parent, .int .i64 m1.o.name, .int .i64 m1.o.life, .int .i64 m1.o.seq, y8.val m1.v.roots.length, y9.val m1.v.known.length, y10.val m1.v.way.length, y11.val m1.d.gone.length, y12.val m1.d.here.length, y13.val m1.d.wayGone.length, y14.val m1.d.wayHere.length]⟩] [RdL EStep y1 w1.h.h.l, RdL EPlace y2 w1.h.h.t, RdN NPeer y3 w1.h.peers, RdL EByte y4 w1.d.safe, RdL EByte y5 w1.d.wait, ao NClient γ1 w1.c, RdN NMail y7 w1.mail, RdL EInt y8 m1.v.roots, RdL EPlace y9 m1.v.known, RdL EPlace y10 m1.v.way, RdL EInt y11 m1.d.gone, RdL EPlace y12 m1.d.here, RdL EInt y13 m1.d.wayGone, RdL EPlace y14 m1.d.wayHere, LibP Tryz.prog] ⟨[⟨c1, 37, [y1.val w1.h.h.l.length, y2.val w1.h.h.t.length, .int .i64 w1.h.version, y3.val w1.h.peers.length, y4.val w1.d.safe.length, y5.val w1.d.wait.length, .bool w1.up, y6.val w1.c.length, y7.val w1.mail.length]⟩], [ownL NClient.E 60 y6 y6b (zipG γ1 0 w1.c)]⟩ (fun (X : SlV × SlV × SlV × SlV × SlV × SlV × Option Nat × (Nat → SlV × SlV × SlV × SlV) × SlV) => .tuple #[]) (fun X => [RdL EStep X.1 (cn w1 m1).h.h.l, RdL EPlace X.2.1 (cn w1 m1).h.h.t, RdN NPeer X.2.2.1 (cn w1 m1).h.peers, RdL EByte X.2.2.2.1 (cn w1 m1).d.safe, RdL EByte X.2.2.2.2.1 (cn w1 m1).d.wait, ao NClient X.2.2.2.2.2.2.2.1 (cn w1 m1).c, RdN NMail X.2.2.2.2.2.2.2.2 (cn w1 m1).mail]) (fun X => ⟨[⟨c1, 37, [X.1.val (cn w1 m1).h.h.l.length, X.2.1.val (cn w1 m1).h.h.t.length, .int .i64 (cn w1 m1).h.version, X.2.2.1.val (cn w1 m1).h.peers.length, X.2.2.2.1.val (cn w1 m1).d.safe.length, X.2.2.2.2.1.val (cn w1 m1).d.wait.length, .bool (cn w1 m1).up, X.2.2.2.2.2.1.val (cn w1 m1).c.length, X.2.2.2.2.2.2.2.2.val (cn w1 m1).mail.length]⟩], [ownL NClient.E 60 X.2.2.2.2.2.1 X.2.2.2.2.2.2.1 (zipG X.2.2.2.2.2.2.2.1 0 (cn w1 m1).c)]⟩) := by
 refine cF aV Tryz.func85 rfl Tryz.ntmps85 Tryz.results85 rfl inferInstance (fun _ => inferInstance) fun C => ?_
 refine Pc EInt y8 m1.v.roots 8 fun hlen1 => ?_
 refine Pc EPlace y9 m1.v.known 24 fun hlen2 => ?_
 refine Pc EPlace y10 m1.v.way 24 fun hlen3 => ?_
 refine Pc EInt y11 m1.d.gone 8 fun hlen4 => ?_
 refine Pc EPlace y12 m1.d.here 24 fun hlen5 => ?_
 refine Pc EInt y13 m1.d.wayGone 8 fun hlen6 => ?_
 refine Pc EPlace y14 m1.d.wayHere 24 fun hlen7 => ?_
 refine Tx ?_
 refine Bx fun g1 => ?_
 refine er ?_
 (repeat refine ar ?_); refine aw (fun _ => some []) ?_
 refine Rb 0 rfl Qp ?_
 refine Rb 1 rfl Qp ?_
 refine Rb 2 rfl Qp ?_
 refine Rb 3 rfl Q1 ?_
 refine Rb 4 rfl (q_ldA rfl rfl Zf rfl Mm rfl) ?_
 refine av 5 Kr ?_
 refine cR (pu y7 w1.mail y8 y9 y10 y11 y12 y13 y14 m1) (.an rfl rfl) (ae rfl) rfl rfl rfl Kr rfl rfl Sm ?_
 intro x1
 refine Ra 6 rfl Qp ?_
 refine Ra 7 rfl Qp ?_
 refine Ra 8 rfl Qp ?_
 refine Ra 9 rfl Qp ?_
 refine Ra 10 rfl Qp ?_
 refine bj Kr ?_
 refine Tx ?_
 refine Cd (b := ((es w1.mail m1).2 == 0)) (fun hc1 => ?_) fun hc1 => ?_
 ·have hc1p := eq_of_beq hc1
  refine Tx ?_
  have hr1 : (cn w1 m1) = (⟨w1.h, w1.d, w1.up, w1.c, (es w1.mail m1).1⟩ : Wld) := by simp only [cn, hc1, Cf]
  rw [hr1]
  exact ⟨⟨y1, y2, y3, y4, y5, y6, y6b, γ1, x1⟩, _, .nil, rfl, Sm, Sp, Sp⟩
 ·have hc1p := ne_of_beq_false hc1
  refine Tx ?_
  have hr2 : (cn w1 m1) = w1 := by simp only [cn, hc1, Cf]
  rw [hr2]
  exact ⟨⟨y1, y2, y3, y4, y5, y6, y6b, γ1, y7⟩, _, .nil, rfl, Sm, Sp, Sp⟩
def ew (h1 : Hub) : Int :=
 (bif decide ((h1.h.l.length : Int) > 0) then (gt h1.h.l (h1.h.l.length - 1)).o.time else 0)
theorem kn (y1 : SlV) (y2 : SlV) (y3 : SlV) (h1 : Hub) : Does Tryz.prog 105 [.agg ⟨[y1.val h1.h.l.length, y2.val h1.h.t.length, .int .i64 h1.version, y3.val h1.peers.length]⟩] [RdL EStep y1 h1.h.l, RdL EPlace y2 h1.h.t, RdN NPeer y3 h1.peers] (fun (_ : Unit) => .int .i64 (ew h1)) (fun _ => []) := by
 refine bd aV Tryz.func105 rfl Tryz.ntmps105 Tryz.results105 rfl inferInstance (fun _ => inferInstance) fun C => ?_
 refine Pc EStep y1 h1.h.l 88 fun hlen1 => ?_
 refine Pc EPlace y2 h1.h.t 24 fun hlen2 => ?_
 refine Pn NPeer y3 h1.peers 40 fun hlen3 => ?_
 refine Tx ?_
 refine Bx fun g1 => ?_
 refine Tx ?_
 refine Cd (b := decide ((h1.h.l.length : Int) > 0)) (fun hc1 => ?_) fun hc1 => ?_
 ·have hc1p := of_decide_eq_true hc1
  refine Tx ?_
  refine rw_q rfl rfl rfl (q_sub rfl rfl Zf rfl Zf Zo) ?_
  refine rw_q rfl rfl rfl (q_idx EStep (h1.h.l.length - 1) rfl rfl Zf rfl Zf rfl rfl rfl Mm rfl Zo (fun _ => by first | assumption | omega)) ?_
  refine rw_q rfl rfl rfl (q_fae rfl rfl Zf rfl rfl) ?_
  refine rw_q rfl rfl rfl (q_fae rfl rfl Zf rfl rfl) ?_
  refine rw_q rfl rfl rfl (q_fae rfl rfl Zf rfl rfl) ?_
  refine rw_q rfl rfl rfl (q_le1 EStep rfl rfl Zf rfl rfl Mm (fun _ => by first | assumption | omega) rfl) ?_
  refine Tx ?_
  refine ak ?_; simp only [ew, hc1, Cf]; exact Re () (Vt Vn)
 ·have hc1p := of_decide_eq_false hc1
  refine Tx ?_
  refine ak ?_; simp only [ew, hc1, Cf]; exact Re () (Vt Vn)
def cf (w1 : Wld) (x1 : Happening) : Int × Wld :=
 (bif ((bH w1.h x1.who).2 != 0) then ((bH w1.h x1.who).2, w1) else (bif ((gt w1.h.peers x1.who.toNat).life == 0) then (7, w1) else (bif (x1.kind == 4) then (bif (decide (x1.n < 0) || decide (x1.n ≥ w1.h.version)) then (3, w1) else (bif ((aH w1.d).2.2 != 0) then ((aH w1.d).2.2, w1) else (bif ((aN ((aH w1.d).2.1.take x1.n.toNat)).2 != 0) then ((aN ((aH w1.d).2.1.take x1.n.toNat)).2, w1) else (bif (((gt (aN ((aH w1.d).2.1.take x1.n.toNat)).1.peers x1.who.toNat).life != (gt w1.h.peers x1.who.toNat).life) || (!(decide ((gt (aN ((aH w1.d).2.1.take x1.n.toNat)).1.peers x1.who.toNat).roots = (gt w1.h.peers x1.who.toNat).roots)))) then (7, w1) else (bif ((bH (aN ((aH w1.d).2.1.take x1.n.toNat)).1 x1.who).2 != 0) then ((bH (aN ((aH w1.d).2.1.take x1.n.toNat)).1 x1.who).2, w1) else (bif ((dI (bH (aN ((aH w1.d).2.1.take x1.n.toNat)).1 x1.who).1 (bH w1.h x1.who).1).2 != 0) then ((dI (bH (aN ((aH w1.d).2.1.take x1.n.toNat)).1 x1.who).1 (bH w1.h x1.who).1).2, w1) else (0, (cn w1 (⟨3, x1.who, (gt w1.h.peers x1.who.toNat).life, (gt w1.h.peers x1.who.toNat).seq, (ew w1.h), w1.h.version, x1.n, (⟨0, 0, 0, 0, 0, 0, 0⟩ : Op), (⟨[], [], []⟩ : View), (dI (bH (aN ((aH w1.d).2.1.take x1.n.toNat)).1 x1.who).1 (bH w1.h x1.who).1).1⟩ : Mail))))))))) else (0, (cn w1 (⟨2, x1.who, (gt w1.h.peers x1.who.toNat).life, (gt w1.h.peers x1.who.toNat).seq, (ew w1.h), w1.h.version, 0, (⟨0, 0, 0, 0, 0, 0, 0⟩ : Op), (bH w1.h x1.who).1, (⟨[], [], [], []⟩ : Delta)⟩ : Mail))))))
theorem nC (c1 : Nat) (y1 : SlV) (y2 : SlV) (y3 : SlV) (y4 : SlV) (y5 : SlV) (y6 : SlV) (y6b : Option Nat) (γ1 : Nat → SlV × SlV × SlV × SlV) (y7 : SlV) (w1 : Wld) (y8 : SlV) (x1 : Happening) (hv : w1.h.version ≤ ((aH w1.d).2.1.length : Int)) : DoesG Tryz.prog 87 [.pointer (some ⟨c1, 0, none⟩), .agg ⟨[.int .i64 x1.kind, .int .i64 x1.who, .int .i64 x1.n, .int .i64 x1.node, .int .i64 x1.parent, .int .i64 x1.name, y8.val x1.roots.length]⟩] [RdL EStep y1 w1.h.h.l, RdL EPlace y2 w1.h.h.t, RdN NPeer y3 w1.h.peers, RdL EByte y4 w1.d.safe, RdL EByte y5 w1.d.wait, ao NClient γ1 w1.c, RdN NMail y7 w1.mail, RdL EInt y8 x1.roots, LibP Tryz.prog] ⟨[⟨c1, 37, [y1.val w1.h.h.l.length, y2.val w1.h.h.t.length, .int .i64 w1.h.version, y3.val w1.h.peers.length, y4.val w1.d.safe.length, y5.val w1.d.wait.length, .bool w1.up, y6.val w1.c.length, y7.val w1.mail.length]⟩], [ownL NClient.E 60 y6 y6b (zipG γ1 0 w1.c)]⟩ (fun (X : SlV × SlV × SlV × SlV × SlV × SlV × Option Nat × (Nat → SlV × SlV × SlV × SlV) × SlV) => .int .i64 (cf w1 x1).1) (fun X => [RdL EStep X.1 (cf w1 x1).2.h.h.l, RdL EPlace X.2.1 (cf w1 x1).2.h.h.t, RdN NPeer X.2.2.1 (cf w1 x1).2.h.peers, RdL EByte X.2.2.2.1 (cf w1 x1).2.d.safe, RdL EByte X.2.2.2.2.1 (cf w1 x1).2.d.wait, ao NClient X.2.2.2.2.2.2.2.1 (cf w1 x1).2.c, RdN NMail X.2.2.2.2.2.2.2.2 (cf w1 x1).2.mail]) (fun X => ⟨[⟨c1, 37, [X.1.val (cf w1 x1).2.h.h.l.length, X.2.1.val (cf w1 x1).2.h.h.t.length, .int .i64 (cf w1 x1).2.h.version, X.2.2.1.val (cf w1 x1).2.h.peers.length, X.2.2.2.1.val (cf w1 x1).2.d.safe.length, X.2.2.2.2.1.val (cf w1 x1).2.d.wait.length, .bool (cf w1 x1).2.up, X.2.2.2.2.2.1.val (cf w1 x1).2.c.length, X.2.2.2.2.2.2.2.2.val (cf w1 x1).2.mail.length]⟩], [ownL NClient.E 60 X.2.2.2.2.2.1 X.2.2.2.2.2.2.1 (zipG X.2.2.2.2.2.2.2.1 0 (cf w1 x1).2.c)]⟩) := by
 refine cF aV Tryz.func87 rfl Tryz.ntmps87 Tryz.results87 rfl inferInstance (fun _ => inferInstance) fun C => ?_
 refine Pc EInt y8 x1.roots 8 fun hlen1 => ?_
 refine Tx ?_
 refine Bx fun g1 => ?_
 refine Tx ?_
 refine ge [0, 3, 4] [true, true] (fun (i_ : Nat × SlV × SlV × SlV) => match i_ with | ⟨g2, x2, x3, x4⟩ => [(5, .v (.pointer (some ⟨g2, 0, none⟩))), (6, .v (.int .i64 (bH w1.h x1.who).2))]) (fun (i_ : Nat × SlV × SlV × SlV) => match i_ with | ⟨g2, x2, x3, x4⟩ => [⟨g2, 58, [x2.val (bH w1.h x1.who).1.roots.length, x3.val (bH w1.h x1.who).1.known.length, x4.val (bH w1.h x1.who).1.way.length]⟩]) (fun (i_ : Nat × SlV × SlV × SlV) => match i_ with | ⟨g2, x2, x3, x4⟩ => [ownL NClient.E 60 y6 y6b (zipG γ1 0 w1.c)]) (fun (i_ : Nat × SlV × SlV × SlV) => match i_ with | ⟨g2, x2, x3, x4⟩ => [RdL EInt x2 (bH w1.h x1.who).1.roots, RdL EPlace x3 (bH w1.h x1.who).1.known, RdL EPlace x4 (bH w1.h x1.who).1.way]) (fun _ => True) (.cons rfl (.cons rfl (.cons rfl (.nil _)))) (.keep (.keep (.nil))) ?_ ?_
 ·refine aw (fun j => match j with | 11 => none | _ => some []) ?_
  refine Rb 0 rfl Qp ?_
  refine Rb 1 rfl Qp ?_
  refine Rb 2 rfl Qp ?_
  refine Rb 3 rfl (q_ldP rfl rfl Zf rfl Mm rfl) ?_
  refine Rb 4 rfl Qp ?_
  refine Rb 5 rfl Q1 ?_
  refine fF 6 10 Kr ?_ ?_
  ·refine cR (ko y1 y2 y3 w1.h x1.who) (.an rfl rfl) (ae rfl) rfl rfl rfl Kr rfl rfl Sm ?_
   intro x5
   refine Ra 7 rfl Qp ?_
   refine Ra 8 rfl Qp ?_
   refine ra_p (.an (i := 9) (js := [10, 11]) rfl Kr Kr Kr Kr) rfl rfl rfl (q_pev rfl Zf) ?_
   refine av 10 Kr ?_
   refine dh (.an rfl rfl) (ae rfl) rfl rfl rfl rfl fun g3 => ?_
   refine av 11 Kr ?_
   refine di (.lo [g3] rfl rfl) (.inr (by simp)) (ae rfl) rfl rfl rfl rfl rfl rfl rfl rfl rfl Ub rfl ?_
   refine Ra 12 rfl Qp ?_
   refine bj Kr ?_
   refine ⟨⟨g3, x5.1, x5.2.1, x5.2.2⟩, trivial, Le4⟩
  ·refine dh (.an rfl rfl) (ae rfl) rfl rfl rfl rfl fun g4 => ?_
   refine av 6 Kr ?_
   refine cR (ko y1 y2 y3 w1.h x1.who) (.an rfl rfl) (ae rfl) rfl rfl rfl Kr rfl rfl Sm ?_
   intro x6
   refine Ra 7 rfl Qp ?_
   refine Ra 8 rfl Qp ?_
   refine ra_p (.an (i := 9) (js := [11]) rfl Kr Kr Kr Kr) rfl rfl rfl (q_pev rfl Zf) ?_
   refine av 11 Kr ?_
   refine di (.lo [g4] rfl rfl) (.inr (by simp)) (ae rfl) rfl rfl rfl rfl rfl rfl rfl rfl rfl Ub rfl ?_
   refine Ra 12 rfl Qp ?_
   refine bj Kr ?_
   refine ⟨⟨g4, x6.1, x6.2.1, x6.2.2⟩, trivial, Le4⟩
 ·rintro ⟨g2, x2, x3, x4⟩ -
  simp only [List.cons_append, List.nil_append]
  refine Tx ?_
  refine Cd (b := ((bH w1.h x1.who).2 != 0)) (fun hc1 => ?_) fun hc1 => ?_
  ·have hc1p := bne_iff_ne.1 hc1
   refine Tx ?_
   refine ak ?_; simp only [cf, hc1, Cf]; exact Re ⟨y1, y2, y3, y4, y5, y6, y6b, γ1, y7⟩ (Vt Vn)
  ·have hc1p := ag hc1
   have hse := rh (ag hc1)
   refine Tx ?_
   (repeat refine ar ?_); refine aw (fun j => match j with | 10 => none | _ => some []) ?_
   refine Rb 0 rfl Qp ?_
   refine Rb 1 rfl Qp ?_
   refine Rb 2 rfl Qp ?_
   refine Rb 3 rfl Qp ?_
   refine Rb 4 rfl Q1 ?_
   refine Rb 5 rfl Qp ?_
   refine Rb 6 rfl Q1 ?_
   refine eY NPeer (X := y3) (l := w1.h.peers) Mm fun (γ2 : Nat → SlV) => ?_
   refine Ra 7 rfl (dv NPeer γ2 x1.who.toNat rfl rfl Zf rfl Zf rfl rfl rfl Mm rfl Zo (fun _ => by first | assumption | omega)) ?_
   refine Ra 8 rfl (q_is (v' := .agg ⟨[.int .i64 (gt w1.h.peers x1.who.toNat).life, .int .i64 (gt w1.h.peers x1.who.toNat).seq, (γ2 x1.who.toNat).val (gt w1.h.peers x1.who.toNat).roots.length]⟩) (fK NPeer γ2 rfl rfl Zf rfl rfl Mm (fun _ => by first | assumption | omega)) rfl) ?_
   refine ay (F := RdL EInt (γ2 x1.who.toNat) (gt w1.h.peers x1.who.toNat).roots) [ao NPeer γ2 w1.h.peers] Sm (fun M w h => (allF1 h) x1.who.toNat Zc _ (.head _)) ?_
   refine av 9 Kr ?_
   refine dh (.an rfl rfl) (ae rfl) rfl rfl rfl rfl fun g5 => ?_
   refine av 10 Kr ?_
   refine di (.lo [g5] rfl rfl) (.inr (by simp)) (ae rfl) rfl rfl rfl rfl rfl rfl rfl rfl rfl Ub rfl ?_
   refine bj Kr ?_
   refine Tx ?_
   refine Cd (b := ((gt w1.h.peers x1.who.toNat).life == 0)) (fun hc2 => ?_) fun hc2 => ?_
   ·have hc2p := eq_of_beq hc2
    refine Tx ?_
    refine ak ?_; simp only [cf, hc1, hc2, Cf]; exact Re ⟨y1, y2, y3, y4, y5, y6, y6b, γ1, y7⟩ (Vt Vn)
   ·have hc2p := ne_of_beq_false hc2
    refine Tx ?_
    refine ge [0, 3, 4, 5, 7] [true, true, true, true] (fun (g6 : Nat) => [(8, .v (.pointer (some ⟨g6, 0, none⟩)))]) (fun (g6 : Nat) => [⟨g6, 69, [.int .i64 2, .int .i64 x1.who, .int .i64 (gt w1.h.peers x1.who.toNat).life, .int .i64 (gt w1.h.peers x1.who.toNat).seq, .int .i64 (ew w1.h), .int .i64 w1.h.version, .int .i64 0, .int .i64 0, .int .i64 0, .int .i64 0, .int .i64 0, .int .i64 0, .int .i64 0, .int .i64 0, x2.val (bH w1.h x1.who).1.roots.length, x3.val (bH w1.h x1.who).1.known.length, x4.val (bH w1.h x1.who).1.way.length, .slice none 0 0, .slice none 0 0, .slice none 0 0, .slice none 0 0]⟩]) (fun (g6 : Nat) => [ownL NClient.E 60 y6 y6b (zipG γ1 0 w1.c)]) (fun (g6 : Nat) => [RdL EInt x2 (bH w1.h x1.who).1.roots, RdL EPlace x3 (bH w1.h x1.who).1.known, RdL EPlace x4 (bH w1.h x1.who).1.way]) (fun _ => True) (.cons rfl (.cons rfl (.cons rfl (.cons rfl (.cons rfl (.nil _)))))) (.keep (.keep (.keep (.keep (.nil))))) ?_ ?_
    ·refine aw (fun j => match j with | 19 => none | _ => some []) ?_
     refine Rb 0 rfl Qp ?_
     refine Ra 1 rfl Q1 ?_
     refine Rb 2 rfl Qp ?_
     refine Ra 3 rfl Q1 ?_
     refine Rb 4 rfl Qp ?_
     refine Ra 5 rfl Q1 ?_
     refine Rb 6 rfl Qp ?_
     refine Rb 7 rfl Qp ?_
     refine Rb 8 rfl Qp ?_
     refine Rb 9 rfl (q_ldP rfl rfl Zf rfl Mm rfl) ?_
     refine Rb 11 rfl Qp ?_
     refine Rb 12 rfl Qp ?_
     refine Rb 13 rfl Qp ?_
     refine Rb 14 rfl Qp ?_
     refine Ra 15 rfl Q1 ?_
     refine Ra 16 rfl (q_ldA rfl rfl Zf rfl Mm rfl) ?_
     refine fF 10 18 Kr ?_ ?_
     ·refine cR (kn y1 y2 y3 w1.h) (.an rfl rfl) (ae rfl) rfl rfl rfl Kr rfl rfl Sm ?_
      intro _
      refine Ra 17 rfl Qp ?_
      refine av 18 Kr ?_
      refine dh (.an rfl rfl) (ae rfl) rfl rfl rfl rfl fun g7 => ?_
      refine av 19 Kr ?_
      refine di (.lo [g7] rfl rfl) (.inr (by simp)) (ae rfl) rfl rfl rfl rfl rfl rfl rfl rfl rfl Ub rfl ?_
      refine bj Kr ?_
      refine ⟨g7, trivial, Le4⟩
     ·refine dh (.an rfl rfl) (ae rfl) rfl rfl rfl rfl fun g8 => ?_
      refine av 10 Kr ?_
      refine cR (kn y1 y2 y3 w1.h) (.an rfl rfl) (ae rfl) rfl rfl rfl Kr rfl rfl Sm ?_
      intro _
      refine Ra 17 rfl Qp ?_
      refine av 19 Kr ?_
      refine di (.lo [g8] rfl rfl) (.inr (by simp)) (ae rfl) rfl rfl rfl rfl rfl rfl rfl rfl rfl Ub rfl ?_
      refine bj Kr ?_
      refine ⟨g8, trivial, Le4⟩
    ·rintro g6 -
     simp only [List.cons_append, List.nil_append]
     refine Tx ?_
     refine Cd (b := (x1.kind == 4)) (fun hc3 => ?_) fun hc3 => ?_
     ·have hc3p := eq_of_beq hc3
      (repeat refine ar ?_); refine aw (fun _ => some []) ?_
      refine Rb 0 rfl Qp ?_
      refine Rb 1 rfl Q1 ?_
      refine Rb 2 rfl Qp ?_
      refine Ra 3 rfl Qp ?_
      refine Gb 4 rfl (aD rfl rfl rfl) (q_pev rfl Bt) ?_
      refine Gb 5 rfl (aD rfl rfl rfl) (q_ld1 rfl rfl Bt rfl Mm rfl) ?_
      refine Gb 6 rfl (aD rfl rfl rfl) (q_pev rfl Bt) ?_
      refine Gb 7 rfl (aD rfl rfl rfl) (q_pev rfl Bt) ?_
      refine Gb 8 rfl (aD rfl rfl rfl) (q_pev rfl Bt) ?_
      refine Gb 9 rfl (aD rfl rfl rfl) (q_pev rfl Bt) ?_
      refine Gb 10 rfl (aD rfl rfl rfl) (q_ld1 rfl rfl Bt rfl Mm rfl) ?_
      refine Ga 11 rfl (aD rfl rfl rfl) (q_pev rfl Bt) ?_
      refine Ra 12 rfl (q_pev rfl Bt) ?_
      refine bj Kr ?_
      (repeat refine ar ?_)
      refine Cd (b := (decide (x1.n < 0) || decide (x1.n ≥ w1.h.version))) (fun hc4 => ?_) fun hc4 => ?_
      ·refine Tx ?_
       refine ak ?_; simp only [cf, hc1, hc2, hc3, hc4, Cf]; exact Re ⟨y1, y2, y3, y4, y5, y6, y6b, γ1, y7⟩ (Vt Vn)
      ·have hnr := hc4
       simp only [Bool.or_eq_false_iff, decide_eq_false_iff_not] at hnr
       refine Tx ?_
       refine Cl (gX y4 y5 w1.d) fun x7 => ?_
       refine Tx ?_
       refine Al fun g9 => ?_
       refine Tx ?_
       refine Cd (b := ((aH w1.d).2.2 != 0)) (fun hc5 => ?_) fun hc5 => ?_
       ·have hc5p := bne_iff_ne.1 hc5
        refine Tx ?_
        refine ak ?_; simp only [cf, hc1, hc2, hc3, hc4, hc5, Cf]; exact Re ⟨y1, y2, y3, y4, y5, y6, y6b, γ1, y7⟩ (Vt Vn)
       ·have hc5p := ag hc5
        refine Tx ?_
        refine rw_q rfl rfl rfl (pI NRec x1.n.toNat rfl rfl Zf rfl Zf rfl rfl Mm Zo Zo) ?_
        refine ay (F := RdN NRec x7.2.2 ((aH w1.d).2.1.take x1.n.toNat)) [RdN NRec x7.2.2 (aH w1.d).2.1] Sm (fun M w h => (allF1 h).take _) ?_
        refine Cl (gK x7.2.2 ((aH w1.d).2.1.take x1.n.toNat)) fun x8 => ?_
        generalize hS1 : (aN ((aH w1.d).2.1.take x1.n.toNat)) = S1
        refine Tx ?_
        refine Al fun g10 => ?_
        refine Tx ?_
        refine Cd (b := (S1.2 != 0)) (fun hc6 => ?_) fun hc6 => ?_
        ·have hc6p := bne_iff_ne.1 hc6
         refine Tx ?_
         refine ak ?_; simp only [cf, hc1, hc2, hc3, hc4, hc5, hS1, hc6, Cf]; exact Re ⟨y1, y2, y3, y4, y5, y6, y6b, γ1, y7⟩ (Vt Vn)
        ·have hc6p := ag hc6
         have hrp := (rA hS1 (ag hc6)).1.three
         refine Tx ?_
         (repeat refine ar ?_); refine aw (fun _ => some []) ?_
         refine Rb 0 rfl Qp ?_
         refine Rb 1 rfl Q1 ?_
         refine Rb 2 rfl Qp ?_
         refine Rb 3 rfl Q1 ?_
         refine eY NPeer (X := x8.2.2) (l := S1.1.peers) Mm fun (γ3 : Nat → SlV) => ?_
         refine Rb 4 rfl (dv NPeer γ3 x1.who.toNat rfl rfl Zf rfl Zf rfl rfl rfl Mm rfl Zo (fun _ => by first | assumption | omega)) ?_
         refine Rb 5 rfl (q_fae rfl rfl Zf rfl rfl) ?_
         refine Rb 6 rfl (iw NPeer γ3 (v := .int .i64 (gt S1.1.peers x1.who.toNat).life) rfl rfl Zf rfl rfl Mm (fun _ => by first | assumption | omega) rfl) ?_
         refine Rb 7 rfl Qp ?_
         refine Rb 8 rfl Q1 ?_
         refine Rb 9 rfl Qp ?_
         refine Ra 10 rfl Qp ?_
         refine Gb 11 rfl (aD rfl rfl rfl) (q_pev rfl Bt) ?_
         refine Gb 12 rfl (aD rfl rfl rfl) (q_ld1 rfl rfl Bt rfl Mm rfl) ?_
         refine Gb 13 rfl (aD rfl rfl rfl) (q_pev rfl Bt) ?_
         refine Gb 14 rfl (aD rfl rfl rfl) (q_ld1 rfl rfl Bt rfl Mm rfl) ?_
         refine Gb 15 rfl (aD rfl rfl rfl) (dv NPeer γ3 x1.who.toNat rfl rfl Bt rfl Bt rfl rfl rfl Mm rfl (by intro h; first | omega | rfl | (simp at h; omega)) (by first | (intro _; first | assumption | omega) | (intro h; simp at h; omega))) ?_
         refine Gb 16 rfl (aD rfl rfl rfl) (q_fae rfl rfl Bt rfl rfl) ?_
         refine Gb 17 rfl (aD rfl rfl rfl) (iw NPeer γ3 (v := (γ3 x1.who.toNat).val (gt S1.1.peers x1.who.toNat).roots.length) rfl rfl Bt rfl rfl Mm (by first | (intro _; first | assumption | omega) | (intro h; simp at h; omega)) rfl) ?_
         refine ay (F := RdL EInt (γ3 x1.who.toNat) (gt S1.1.peers x1.who.toNat).roots) [ao NPeer γ3 S1.1.peers] Sm (fun M w h => (allF1 h) x1.who.toNat Zc _ (.head _)) ?_
         refine Gb 18 rfl (aD rfl rfl rfl) (q_pev rfl Bt) ?_
         refine Gb 19 rfl (aD rfl rfl rfl) (q_ld1 rfl rfl Bt rfl Mm rfl) ?_
         refine av 20 Kr ?_
         refine c6 (fun hG_ => (fun y1 a y2 b => dS y1 y2 a b) (γ3 x1.who.toNat) (gt S1.1.peers x1.who.toNat).roots (γ2 x1.who.toNat) (gt w1.h.peers x1.who.toNat).roots) Zf (.an rfl rfl) (aD rfl rfl rfl) rfl rfl rfl Kr rfl Bt Sm ?_
         refine Ga 21 rfl (aD rfl rfl rfl) (q_pev rfl Bt) ?_
         refine Ra 22 rfl (q_pev rfl Bt) ?_
         refine bj Kr ?_
         (repeat refine ar ?_)
         refine Cd (b := (((gt S1.1.peers x1.who.toNat).life != (gt w1.h.peers x1.who.toNat).life) || (!(decide ((gt S1.1.peers x1.who.toNat).roots = (gt w1.h.peers x1.who.toNat).roots))))) (fun hc7 => ?_) fun hc7 => ?_
         ·refine Tx ?_
          refine ak ?_; simp only [cf, hc1, hc2, hc3, hc4, hc5, hS1, hc6, hc7, Cf]; exact Re ⟨y1, y2, y3, y4, y5, y6, y6b, γ1, y7⟩ (Vt Vn)
         ·refine Tx ?_
          refine Cl (ko x8.1 x8.2.1 x8.2.2 S1.1 x1.who) fun x9 => ?_
          refine Tx ?_
          refine Al fun g11 => ?_
          refine Tx ?_
          refine Cd (b := ((bH S1.1 x1.who).2 != 0)) (fun hc8 => ?_) fun hc8 => ?_
          ·have hc8p := bne_iff_ne.1 hc8
           refine Tx ?_
           refine ak ?_; simp only [cf, hc1, hc2, hc3, hc4, hc5, hS1, hc6, hc7, hc8, Cf]; exact Re ⟨y1, y2, y3, y4, y5, y6, y6b, γ1, y7⟩ (Vt Vn)
          ·have hc8p := ag hc8
           refine Tx ?_
           (repeat refine ar ?_); refine aw (fun j => match j with | 4 => some [g6] | 6 => some [g6] | 8 => some [g6] | _ => some []) ?_
           refine ra_q (.an (i := 0) (js := [2, 3, 4]) rfl Kr Kr Kr Kr) (.keep (.keep (.keep (.drop (bN.all _))))) (by intro g hg; simp at hg; simp [hg]) rfl rfl rfl (q_pev rfl Zf) ?_
           refine ra_q (.an (i := 1) (js := [2, 3, 4]) rfl Kr Kr Kr Kr) (.keep (.keep (.keep (.drop (bN.all _))))) (by intro g hg; simp at hg; simp [hg]) rfl rfl rfl (q_ld1 rfl rfl Zf rfl Mm rfl) ?_
           refine ra_q (.an (i := 2) (js := [3, 4, 5, 6]) rfl Kr Kr Kr Kr) (.keep (.keep (.keep (.drop (bN.all _))))) (by intro g hg; simp at hg; simp [hg]) rfl rfl rfl (q_pev rfl Zf) ?_
           refine Ra 3 rfl Qp ?_
           refine av 4 Kr ?_
           refine eS (.an rfl rfl) (.inr (by simp)) (ae rfl) rfl rfl rfl rfl rfl rfl rfl rfl rfl Ub rfl ?_
           refine Ra 5 rfl Qp ?_
           refine av 6 Kr ?_
           refine eS (.an rfl rfl) (.inr (by simp)) (ae rfl) rfl rfl rfl rfl rfl rfl rfl rfl rfl Ub rfl ?_
           refine Ra 7 rfl Qp ?_
           refine av 8 Kr ?_
           refine fo (.an rfl rfl) (.inr (by simp)) (ae rfl) rfl rfl rfl rfl rfl rfl rfl rfl rfl Ub rfl ?_
           refine bj Kr ?_
           refine Tx ?_
           refine Cl (pR x9.1 x9.2.1 x9.2.2 (bH S1.1 x1.who).1 x2 x3 x4 (bH w1.h x1.who).1) fun x10 => ?_
           generalize hS2 : (dI (bH S1.1 x1.who).1 (bH w1.h x1.who).1) = S2
           refine Tx ?_
           refine fo .sq (.inl ⟨_, rfl⟩) (ae rfl) rfl rfl rfl rfl rfl rfl rfl rfl rfl Ub rfl ?_
           refine Tx ?_
           refine Cd (b := (S2.2 != 0)) (fun hc9 => ?_) fun hc9 => ?_
           ·have hc9p := bne_iff_ne.1 hc9
            refine Tx ?_
            refine ak ?_; simp only [cf, hc1, hc2, hc3, hc4, hc5, hS1, hc6, hc7, hc8, hS2, hc9, Cf]; exact Re ⟨y1, y2, y3, y4, y5, y6, y6b, γ1, y7⟩ (Vt Vn)
           ·have hc9p := ag hc9
            refine Tx ?_
            refine Fr EInt ?_
            refine Fr EPlace ?_
            refine aX (gD c1 y1 y2 y3 y4 y5 y6 y6b γ1 y7 w1 (⟨none, 0⟩ : SlV) (⟨none, 0⟩ : SlV) (⟨none, 0⟩ : SlV) x10.1 x10.2.1 x10.2.2.1 x10.2.2.2 (⟨3, x1.who, (gt w1.h.peers x1.who.toNat).life, (gt w1.h.peers x1.who.toNat).seq, (ew w1.h), w1.h.version, x1.n, (⟨0, 0, 0, 0, 0, 0, 0⟩ : Op), (⟨[], [], []⟩ : View), S2.1⟩ : Mail)) .sq (.inl ⟨_, rfl⟩) (ae rfl) rfl rfl rfl Kr rfl rfl Sm Tk Tk ?_
            intro x11
            generalize hS3 : (cn w1 (⟨3, x1.who, (gt w1.h.peers x1.who.toNat).life, (gt w1.h.peers x1.who.toNat).seq, (ew w1.h), w1.h.version, x1.n, (⟨0, 0, 0, 0, 0, 0, 0⟩ : Op), (⟨[], [], []⟩ : View), S2.1⟩ : Mail)) = S3
            refine Tx ?_
            refine ak ?_; simp only [cf, hc1, hc2, hc3, hc4, hc5, hS1, hc6, hc7, hc8, hS2, hc9, hS3, Cf]; exact Re ⟨x11.1, x11.2.1, x11.2.2.1, x11.2.2.2.1, x11.2.2.2.2.1, x11.2.2.2.2.2.1, x11.2.2.2.2.2.2.1, x11.2.2.2.2.2.2.2.1, x11.2.2.2.2.2.2.2.2⟩ (Vt Vn)
     ·have hc3p := ne_of_beq_false hc3
      refine Tx ?_
      refine Fr EInt ?_
      refine Fr EPlace ?_
      refine aX (gD c1 y1 y2 y3 y4 y5 y6 y6b γ1 y7 w1 x2 x3 x4 (⟨none, 0⟩ : SlV) (⟨none, 0⟩ : SlV) (⟨none, 0⟩ : SlV) (⟨none, 0⟩ : SlV) (⟨2, x1.who, (gt w1.h.peers x1.who.toNat).life, (gt w1.h.peers x1.who.toNat).seq, (ew w1.h), w1.h.version, 0, (⟨0, 0, 0, 0, 0, 0, 0⟩ : Op), (bH w1.h x1.who).1, (⟨[], [], [], []⟩ : Delta)⟩ : Mail)) .sq (.inl ⟨_, rfl⟩) (ae rfl) rfl rfl rfl Kr rfl rfl Sm Tk Tk ?_
      intro x12
      generalize hS4 : (cn w1 (⟨2, x1.who, (gt w1.h.peers x1.who.toNat).life, (gt w1.h.peers x1.who.toNat).seq, (ew w1.h), w1.h.version, 0, (⟨0, 0, 0, 0, 0, 0, 0⟩ : Op), (bH w1.h x1.who).1, (⟨[], [], [], []⟩ : Delta)⟩ : Mail)) = S4
      refine Tx ?_
      refine ak ?_; simp only [cf, hc1, hc2, hc3, hS4, Cf]; exact Re ⟨x12.1, x12.2.1, x12.2.2.1, x12.2.2.2.1, x12.2.2.2.2.1, x12.2.2.2.2.2.1, x12.2.2.2.2.2.2.1, x12.2.2.2.2.2.2.2.1, x12.2.2.2.2.2.2.2.2⟩ (Vt Vn)
theorem pr (w : Wld) (r : Rec) : (ba w r).2.c = w.c := by
 unfold ba
 cases ((d8 w.h r).2 != 0) <;> cases ((dR w.d r).2 != 0) <;> cases ((eT (dR w.d r).1).2 != 0) <;> rfl
def cP (w1 : Wld) (who1 : Int) : Int × Wld :=
 (bif ((ba w1 (⟨2, who1, ((gt w1.h.peers who1.toNat).life + 1), ([] : List Int), (⟨0, 0, 0, 0, 0, 0, 0⟩ : Op)⟩ : Rec)).1 != 0) then ((ba w1 (⟨2, who1, ((gt w1.h.peers who1.toNat).life + 1), ([] : List Int), (⟨0, 0, 0, 0, 0, 0, 0⟩ : Op)⟩ : Rec)).1, (ba w1 (⟨2, who1, ((gt w1.h.peers who1.toNat).life + 1), ([] : List Int), (⟨0, 0, 0, 0, 0, 0, 0⟩ : Op)⟩ : Rec)).2) else (bif ((bV ((gt w1.h.peers who1.toNat).life + 1) (ew (ba w1 (⟨2, who1, ((gt w1.h.peers who1.toNat).life + 1), ([] : List Int), (⟨0, 0, 0, 0, 0, 0, 0⟩ : Op)⟩ : Rec)).2.h)).2 == 0) then ((bV ((gt w1.h.peers who1.toNat).life + 1) (ew (ba w1 (⟨2, who1, ((gt w1.h.peers who1.toNat).life + 1), ([] : List Int), (⟨0, 0, 0, 0, 0, 0, 0⟩ : Op)⟩ : Rec)).2.h)).2, (⟨(ba w1 (⟨2, who1, ((gt w1.h.peers who1.toNat).life + 1), ([] : List Int), (⟨0, 0, 0, 0, 0, 0, 0⟩ : Op)⟩ : Rec)).2.h, (ba w1 (⟨2, who1, ((gt w1.h.peers who1.toNat).life + 1), ([] : List Int), (⟨0, 0, 0, 0, 0, 0, 0⟩ : Op)⟩ : Rec)).2.d, (ba w1 (⟨2, who1, ((gt w1.h.peers who1.toNat).life + 1), ([] : List Int), (⟨0, 0, 0, 0, 0, 0, 0⟩ : Op)⟩ : Rec)).2.up, ((ba w1 (⟨2, who1, ((gt w1.h.peers who1.toNat).life + 1), ([] : List Int), (⟨0, 0, 0, 0, 0, 0, 0⟩ : Op)⟩ : Rec)).2.c.set who1.toNat (bV ((gt w1.h.peers who1.toNat).life + 1) (ew (ba w1 (⟨2, who1, ((gt w1.h.peers who1.toNat).life + 1), ([] : List Int), (⟨0, 0, 0, 0, 0, 0, 0⟩ : Op)⟩ : Rec)).2.h)).1), (ba w1 (⟨2, who1, ((gt w1.h.peers who1.toNat).life + 1), ([] : List Int), (⟨0, 0, 0, 0, 0, 0, 0⟩ : Op)⟩ : Rec)).2.mail⟩ : Wld)) else ((bV ((gt w1.h.peers who1.toNat).life + 1) (ew (ba w1 (⟨2, who1, ((gt w1.h.peers who1.toNat).life + 1), ([] : List Int), (⟨0, 0, 0, 0, 0, 0, 0⟩ : Op)⟩ : Rec)).2.h)).2, (ba w1 (⟨2, who1, ((gt w1.h.peers who1.toNat).life + 1), ([] : List Int), (⟨0, 0, 0, 0, 0, 0, 0⟩ : Op)⟩ : Rec)).2)))
theorem ni (c1 : Nat) (y1 : SlV) (y2 : SlV) (y3 : SlV) (y4 : SlV) (y5 : SlV) (y6 : SlV) (y6b : Option Nat) (γ1 : Nat → SlV × SlV × SlV × SlV) (y7 : SlV) (w1 : Wld) (who1 : Int) (hk : cN w1.h = 0) (hc : w1.c.length = 3) (hw : 0 ≤ who1 ∧ who1 < 3) : DoesG Tryz.prog 86 [.pointer (some ⟨c1, 0, none⟩), .int .i64 who1] [RdL EStep y1 w1.h.h.l, RdL EPlace y2 w1.h.h.t, RdN NPeer y3 w1.h.peers, RdL EByte y4 w1.d.safe, RdL EByte y5 w1.d.wait, ao NClient γ1 w1.c, RdN NMail y7 w1.mail, LibP Tryz.prog] ⟨[⟨c1, 37, [y1.val w1.h.h.l.length, y2.val w1.h.h.t.length, .int .i64 w1.h.version, y3.val w1.h.peers.length, y4.val w1.d.safe.length, y5.val w1.d.wait.length, .bool w1.up, y6.val w1.c.length, y7.val w1.mail.length]⟩], [ownL NClient.E 60 y6 y6b (zipG γ1 0 w1.c)]⟩ (fun (X : SlV × SlV × SlV × SlV × SlV × SlV × Option Nat × (Nat → SlV × SlV × SlV × SlV) × SlV) => .int .i64 (cP w1 who1).1) (fun X => [RdL EStep X.1 (cP w1 who1).2.h.h.l, RdL EPlace X.2.1 (cP w1 who1).2.h.h.t, RdN NPeer X.2.2.1 (cP w1 who1).2.h.peers, RdL EByte X.2.2.2.1 (cP w1 who1).2.d.safe, RdL EByte X.2.2.2.2.1 (cP w1 who1).2.d.wait, ao NClient X.2.2.2.2.2.2.2.1 (cP w1 who1).2.c, RdN NMail X.2.2.2.2.2.2.2.2 (cP w1 who1).2.mail]) (fun X => ⟨[⟨c1, 37, [X.1.val (cP w1 who1).2.h.h.l.length, X.2.1.val (cP w1 who1).2.h.h.t.length, .int .i64 (cP w1 who1).2.h.version, X.2.2.1.val (cP w1 who1).2.h.peers.length, X.2.2.2.1.val (cP w1 who1).2.d.safe.length, X.2.2.2.2.1.val (cP w1 who1).2.d.wait.length, .bool (cP w1 who1).2.up, X.2.2.2.2.2.1.val (cP w1 who1).2.c.length, X.2.2.2.2.2.2.2.2.val (cP w1 who1).2.mail.length]⟩], [ownL NClient.E 60 X.2.2.2.2.2.1 X.2.2.2.2.2.2.1 (zipG X.2.2.2.2.2.2.2.1 0 (cP w1 who1).2.c)]⟩) := by
 refine cF aV Tryz.func86 rfl Tryz.ntmps86 Tryz.results86 rfl inferInstance (fun _ => inferInstance) fun C => ?_
 have hpl := (fY hk).2.2.2
 have hlb := (mh hk (gt w1.h.peers who1.toNat) (i8 (by omega))).1
 refine Tx ?_
 refine eY NPeer (X := y3) (l := w1.h.peers) Mm fun (γ2 : Nat → SlV) => ?_
 refine rw_q rfl rfl rfl (dv NPeer γ2 who1.toNat rfl rfl Zf rfl Zf rfl rfl rfl Mm rfl Zo (fun _ => by first | assumption | omega)) ?_
 refine rw_q rfl rfl rfl (q_fae rfl rfl Zf rfl rfl) ?_
 refine rw_q rfl rfl rfl (iw NPeer γ2 (v := .int .i64 (gt w1.h.peers who1.toNat).life) rfl rfl Zf rfl rfl Mm (fun _ => by first | assumption | omega) rfl) ?_
 refine rw_q rfl rfl rfl (q_add rfl rfl Zf rfl Zf Zo) ?_
 refine Tx ?_
 refine Fr EInt ?_
 refine aX (ij c1 y1 y2 y3 y4 y5 y6 y6b γ1 y7 w1 (⟨none, 0⟩ : SlV) (⟨2, who1, ((gt w1.h.peers who1.toNat).life + 1), ([] : List Int), (⟨0, 0, 0, 0, 0, 0, 0⟩ : Op)⟩ : Rec)) .sq (.inl ⟨_, rfl⟩) (ae rfl) rfl rfl rfl Kr rfl rfl Sm Tk Tk ?_
 intro x1
 generalize hS1 : (ba w1 (⟨2, who1, ((gt w1.h.peers who1.toNat).life + 1), ([] : List Int), (⟨0, 0, 0, 0, 0, 0, 0⟩ : Op)⟩ : Rec)) = S1
 refine Tx ?_
 refine Cd (b := (S1.1 != 0)) (fun hc1 => ?_) fun hc1 => ?_
 ·have hc1p := bne_iff_ne.1 hc1
  refine Tx ?_
  refine ak ?_; simp only [cP, hS1, hc1, Cf]; exact Re ⟨x1.1, x1.2.1, x1.2.2.1, x1.2.2.2.1, x1.2.2.2.2.1, x1.2.2.2.2.2.1, x1.2.2.2.2.2.2.1, x1.2.2.2.2.2.2.2.1, x1.2.2.2.2.2.2.2.2⟩ (Vt Vn)
 ·have hc1p := ag hc1
  have hwc : S1.2.c.length = 3 := by rw [← hS1, pr]; exact hc
  refine Tx ?_
  refine Cl (kn x1.1 x1.2.1 x1.2.2.1 S1.2.h) fun _ => ?_
  refine Cl (mY ((gt w1.h.peers who1.toNat).life + 1) (ew S1.2.h)) fun x2 => ?_
  generalize hS2 : (bV ((gt w1.h.peers who1.toNat).life + 1) (ew S1.2.h)) = S2
  refine Tx ?_
  refine Al fun g1 => ?_
  refine Tx ?_
  refine Cd (b := (S2.2 == 0)) (fun hc2 => ?_) fun hc2 => ?_
  ·have hc2p := eq_of_beq hc2
   (repeat refine ar ?_); refine aw (fun j => match j with | 7 => none | _ => some []) ?_
   refine Rb 0 rfl Qp ?_
   refine Rb 1 rfl Qp ?_
   refine Ra 2 rfl Qp ?_
   refine Ra 3 rfl Q1 ?_
   refine Ra 4 rfl Qp ?_
   refine Ra 5 rfl (q_ldA rfl rfl Zf rfl Mm rfl) ?_
   refine rw_qO NClient.E (e := 60) (X := x1.2.2.2.2.2.1) (b := x1.2.2.2.2.2.2.1) (l := zipG x1.2.2.2.2.2.2.2.1 0 S1.2.c) Mm (.an (i := 6) (js := []) rfl Kr Kr Kr Kr) rfl rfl rfl (dv NClient x1.2.2.2.2.2.2.2.1 who1.toNat rfl rfl Zf rfl Zf rfl rfl rfl (.head _) rfl Zo Za) ?_
   refine av 7 Kr ?_
   refine gH NClient x1.2.2.2.2.2.2.2.1 S1.2.c who1.toNat 0 (x2.1, x2.2.1, x2.2.2.1, x2.2.2.2) S2.1 (e := 60) (X := x1.2.2.2.2.2.1) (b := x1.2.2.2.2.2.2.1) (.lo x1.2.2.2.2.2.2.1.toList rfl rfl) (.inr (fun g h => by simp [h])) (ae rfl) rfl rfl rfl rfl rfl rfl rfl rfl rfl rfl rfl Zb rfl Uo ?_
   refine ay (F := ao NClient (updG x1.2.2.2.2.2.2.2.1 who1.toNat (x2.1, x2.2.1, x2.2.2.1, x2.2.2.2)) (S1.2.c.set who1.toNat S2.1)) [ao NClient x1.2.2.2.2.2.2.2.1 S1.2.c, RdL EOp x2.1 S2.1.pending, RdL EInt x2.2.1 S2.1.v.roots, RdL EPlace x2.2.2.1 S2.1.v.known, RdL EPlace x2.2.2.2 S2.1.v.way] Sm (fun M w h => ao.upd NClient (h _ (.head _)) (cL Sm h)) ?_
   have hv1 : x1.2.2.2.2.2.1.val S1.2.c.length = x1.2.2.2.2.2.1.val (S1.2.c.set who1.toNat S2.1).length := congrArg (SlV.val x1.2.2.2.2.2.1) List.length_set.symm
   try rw [hv1]
   refine bj Kr ?_
   refine Tx ?_
   refine ak ?_; simp only [cP, hS1, hc1, hS2, hc2, Cf]; exact Re ⟨x1.1, x1.2.1, x1.2.2.1, x1.2.2.2.1, x1.2.2.2.2.1, x1.2.2.2.2.2.1, x1.2.2.2.2.2.2.1, (updG x1.2.2.2.2.2.2.2.1 who1.toNat (x2.1, x2.2.1, x2.2.2.1, x2.2.2.2)), x1.2.2.2.2.2.2.2.2⟩ (Vt Vn)
  ·have hc2p := ne_of_beq_false hc2
   refine Tx ?_
   refine ak ?_; simp only [cP, hS1, hc1, hS2, hc2, Cf]; exact Re ⟨x1.1, x1.2.1, x1.2.2.1, x1.2.2.2.1, x1.2.2.2.2.1, x1.2.2.2.2.2.1, x1.2.2.2.2.2.2.1, x1.2.2.2.2.2.2.2.1, x1.2.2.2.2.2.2.2.2⟩ (Vt Vn)
def bR (w1 : Wld) (x1 : Happening) : Int × Wld :=
 (bif ((aC w1.mail x1.n (x1.kind == 8)).2.2 != 0) then ((aC w1.mail x1.n (x1.kind == 8)).2.2, w1) else (bif ((aC w1.mail x1.n (x1.kind == 8)).2.1.kind != 1) then (bif ((aL (gt w1.c (aC w1.mail x1.n (x1.kind == 8)).2.1.who.toNat) (aC w1.mail x1.n (x1.kind == 8)).2.1.who (aC w1.mail x1.n (x1.kind == 8)).2.1).2 == 0) then ((aL (gt w1.c (aC w1.mail x1.n (x1.kind == 8)).2.1.who.toNat) (aC w1.mail x1.n (x1.kind == 8)).2.1.who (aC w1.mail x1.n (x1.kind == 8)).2.1).2, (⟨w1.h, w1.d, w1.up, (w1.c.set (aC w1.mail x1.n (x1.kind == 8)).2.1.who.toNat (aL (gt w1.c (aC w1.mail x1.n (x1.kind == 8)).2.1.who.toNat) (aC w1.mail x1.n (x1.kind == 8)).2.1.who (aC w1.mail x1.n (x1.kind == 8)).2.1).1), (aC w1.mail x1.n (x1.kind == 8)).1⟩ : Wld)) else ((aL (gt w1.c (aC w1.mail x1.n (x1.kind == 8)).2.1.who.toNat) (aC w1.mail x1.n (x1.kind == 8)).2.1.who (aC w1.mail x1.n (x1.kind == 8)).2.1).2, w1)) else (bif (!w1.up) then (7, w1) else (0, (ba (⟨w1.h, w1.d, w1.up, w1.c, (aC w1.mail x1.n (x1.kind == 8)).1⟩ : Wld) (⟨1, 0, 0, ([] : List Int), (aC w1.mail x1.n (x1.kind == 8)).2.1.o⟩ : Rec)).2))))
theorem kS (c1 : Nat) (y1 : SlV) (y2 : SlV) (y3 : SlV) (y4 : SlV) (y5 : SlV) (y6 : SlV) (y6b : Option Nat) (γ1 : Nat → SlV × SlV × SlV × SlV) (y7 : SlV) (w1 : Wld) (y8 : SlV) (x1 : Happening) (hc : w1.c.length = 3) : DoesG Tryz.prog 56 [.pointer (some ⟨c1, 0, none⟩), .agg ⟨[.int .i64 x1.kind, .int .i64 x1.who, .int .i64 x1.n, .int .i64 x1.node, .int .i64 x1.parent, .int .i64 x1.name, y8.val x1.roots.length]⟩] [RdL EStep y1 w1.h.h.l, RdL EPlace y2 w1.h.h.t, RdN NPeer y3 w1.h.peers, RdL EByte y4 w1.d.safe, RdL EByte y5 w1.d.wait, ao NClient γ1 w1.c, RdN NMail y7 w1.mail, RdL EInt y8 x1.roots, LibP Tryz.prog] ⟨[⟨c1, 37, [y1.val w1.h.h.l.length, y2.val w1.h.h.t.length, .int .i64 w1.h.version, y3.val w1.h.peers.length, y4.val w1.d.safe.length, y5.val w1.d.wait.length, .bool w1.up, y6.val w1.c.length, y7.val w1.mail.length]⟩], [ownL NClient.E 60 y6 y6b (zipG γ1 0 w1.c)]⟩ (fun (X : SlV × SlV × SlV × SlV × SlV × SlV × Option Nat × (Nat → SlV × SlV × SlV × SlV) × SlV) => .int .i64 (bR w1 x1).1) (fun X => [RdL EStep X.1 (bR w1 x1).2.h.h.l, RdL EPlace X.2.1 (bR w1 x1).2.h.h.t, RdN NPeer X.2.2.1 (bR w1 x1).2.h.peers, RdL EByte X.2.2.2.1 (bR w1 x1).2.d.safe, RdL EByte X.2.2.2.2.1 (bR w1 x1).2.d.wait, ao NClient X.2.2.2.2.2.2.2.1 (bR w1 x1).2.c, RdN NMail X.2.2.2.2.2.2.2.2 (bR w1 x1).2.mail]) (fun X => ⟨[⟨c1, 37, [X.1.val (bR w1 x1).2.h.h.l.length, X.2.1.val (bR w1 x1).2.h.h.t.length, .int .i64 (bR w1 x1).2.h.version, X.2.2.1.val (bR w1 x1).2.h.peers.length, X.2.2.2.1.val (bR w1 x1).2.d.safe.length, X.2.2.2.2.1.val (bR w1 x1).2.d.wait.length, .bool (bR w1 x1).2.up, X.2.2.2.2.2.1.val (bR w1 x1).2.c.length, X.2.2.2.2.2.2.2.2.val (bR w1 x1).2.mail.length]⟩], [ownL NClient.E 60 X.2.2.2.2.2.1 X.2.2.2.2.2.2.1 (zipG X.2.2.2.2.2.2.2.1 0 (bR w1 x1).2.c)]⟩) := by
 refine cF aV Tryz.func56 rfl Tryz.ntmps56 Tryz.results56 rfl inferInstance (fun _ => inferInstance) fun C => ?_
 refine Pc EInt y8 x1.roots 8 fun hlen1 => ?_
 refine Tx ?_
 refine Bx fun g1 => ?_
 refine Tx ?_
 refine ge [0, 4] [true, true] (fun (i_ : SlV × Nat × SlV × SlV × SlV × SlV × SlV × SlV × SlV) => match i_ with | ⟨x2, g2, x3, x4, x5, x6, x7, x8, x9⟩ => [(5, .v (x2.val (aC w1.mail x1.n (x1.kind == 8)).1.length)), (6, .v (.pointer (some ⟨g2, 0, none⟩))), (7, .v (.int .i64 (aC w1.mail x1.n (x1.kind == 8)).2.2))]) (fun (i_ : SlV × Nat × SlV × SlV × SlV × SlV × SlV × SlV × SlV) => match i_ with | ⟨x2, g2, x3, x4, x5, x6, x7, x8, x9⟩ => [⟨g2, 69, [.int .i64 (aC w1.mail x1.n (x1.kind == 8)).2.1.kind, .int .i64 (aC w1.mail x1.n (x1.kind == 8)).2.1.who, .int .i64 (aC w1.mail x1.n (x1.kind == 8)).2.1.life, .int .i64 (aC w1.mail x1.n (x1.kind == 8)).2.1.seq, .int .i64 (aC w1.mail x1.n (x1.kind == 8)).2.1.time, .int .i64 (aC w1.mail x1.n (x1.kind == 8)).2.1.version, .int .i64 (aC w1.mail x1.n (x1.kind == 8)).2.1.frm, .int .i64 (aC w1.mail x1.n (x1.kind == 8)).2.1.o.time, .int .i64 (aC w1.mail x1.n (x1.kind == 8)).2.1.o.who, .int .i64 (aC w1.mail x1.n (x1.kind == 8)).2.1.o.node, .int .i64 (aC w1.mail x1.n (x1.kind == 8)).2.1.o.parent, .int .i64 (aC w1.mail x1.n (x1.kind == 8)).2.1.o.name, .int .i64 (aC w1.mail x1.n (x1.kind == 8)).2.1.o.life, .int .i64 (aC w1.mail x1.n (x1.kind == 8)).2.1.o.seq, x3.val (aC w1.mail x1.n (x1.kind == 8)).2.1.v.roots.length, x4.val (aC w1.mail x1.n (x1.kind == 8)).2.1.v.known.length, x5.val (aC w1.mail x1.n (x1.kind == 8)).2.1.v.way.length, x6.val (aC w1.mail x1.n (x1.kind == 8)).2.1.d.gone.length, x7.val (aC w1.mail x1.n (x1.kind == 8)).2.1.d.here.length, x8.val (aC w1.mail x1.n (x1.kind == 8)).2.1.d.wayGone.length, x9.val (aC w1.mail x1.n (x1.kind == 8)).2.1.d.wayHere.length]⟩]) (fun (i_ : SlV × Nat × SlV × SlV × SlV × SlV × SlV × SlV × SlV) => match i_ with | ⟨x2, g2, x3, x4, x5, x6, x7, x8, x9⟩ => [ownL NClient.E 60 y6 y6b (zipG γ1 0 w1.c)]) (fun (i_ : SlV × Nat × SlV × SlV × SlV × SlV × SlV × SlV × SlV) => match i_ with | ⟨x2, g2, x3, x4, x5, x6, x7, x8, x9⟩ => [RdN NMail x2 (aC w1.mail x1.n (x1.kind == 8)).1, RdL EInt x3 (aC w1.mail x1.n (x1.kind == 8)).2.1.v.roots, RdL EPlace x4 (aC w1.mail x1.n (x1.kind == 8)).2.1.v.known, RdL EPlace x5 (aC w1.mail x1.n (x1.kind == 8)).2.1.v.way, RdL EInt x6 (aC w1.mail x1.n (x1.kind == 8)).2.1.d.gone, RdL EPlace x7 (aC w1.mail x1.n (x1.kind == 8)).2.1.d.here, RdL EInt x8 (aC w1.mail x1.n (x1.kind == 8)).2.1.d.wayGone, RdL EPlace x9 (aC w1.mail x1.n (x1.kind == 8)).2.1.d.wayHere]) (fun _ => True) (.cons rfl (.cons rfl (.nil _))) (.keep (.keep (.nil))) ?_ ?_
 ·refine aw (fun j => match j with | 16 => none | _ => some []) ?_
  refine Rb 0 rfl Qp ?_
  refine Rb 1 rfl Qp ?_
  refine Rb 2 rfl Qp ?_
  refine Rb 3 rfl Q1 ?_
  refine Rb 4 rfl Qp ?_
  refine Rb 5 rfl Q1 ?_
  refine Rb 6 rfl Qp ?_
  refine Rb 7 rfl Q1 ?_
  refine Rb 8 rfl Qp ?_
  refine fF 9 14 Kr ?_ ?_
  ·refine cR (iy y7 w1.mail x1.n (x1.kind == 8)) (.an rfl rfl) (ae rfl) rfl rfl rfl Kr rfl rfl Sm ?_
   intro x10
   refine Ra 10 rfl Qp ?_
   refine Ra 11 rfl Qp ?_
   refine Ra 12 rfl Qp ?_
   refine ra_p (.an (i := 13) (js := [14, 15, 16]) rfl Kr Kr Kr Kr) rfl rfl rfl (q_pev rfl Zf) ?_
   refine av 14 Kr ?_
   refine dh (.an rfl rfl) (ae rfl) rfl rfl rfl rfl fun g3 => ?_
   refine Ra 15 rfl Qp ?_
   refine av 16 Kr ?_
   refine di (.lo [g3] rfl rfl) (.inr (by simp)) (ae rfl) rfl rfl rfl rfl rfl rfl rfl rfl rfl Ub rfl ?_
   refine Ra 17 rfl Qp ?_
   refine bj Kr ?_
   refine ⟨⟨x10.1, g3, x10.2.1, x10.2.2.1, x10.2.2.2.1, x10.2.2.2.2.1, x10.2.2.2.2.2.1, x10.2.2.2.2.2.2.1, x10.2.2.2.2.2.2.2⟩, trivial, Le4⟩
  ·refine dh (.an rfl rfl) (ae rfl) rfl rfl rfl rfl fun g4 => ?_
   refine av 9 Kr ?_
   refine cR (iy y7 w1.mail x1.n (x1.kind == 8)) (.an rfl rfl) (ae rfl) rfl rfl rfl Kr rfl rfl Sm ?_
   intro x11
   refine Ra 10 rfl Qp ?_
   refine Ra 11 rfl Qp ?_
   refine Ra 12 rfl Qp ?_
   refine ra_p (.an (i := 13) (js := [15, 16]) rfl Kr Kr Kr Kr) rfl rfl rfl (q_pev rfl Zf) ?_
   refine Ra 15 rfl Qp ?_
   refine av 16 Kr ?_
   refine di (.lo [g4] rfl rfl) (.inr (by simp)) (ae rfl) rfl rfl rfl rfl rfl rfl rfl rfl rfl Ub rfl ?_
   refine Ra 17 rfl Qp ?_
   refine bj Kr ?_
   refine ⟨⟨x11.1, g4, x11.2.1, x11.2.2.1, x11.2.2.2.1, x11.2.2.2.2.1, x11.2.2.2.2.2.1, x11.2.2.2.2.2.2.1, x11.2.2.2.2.2.2.2⟩, trivial, Le4⟩
 ·rintro ⟨x2, g2, x3, x4, x5, x6, x7, x8, x9⟩ -
  simp only [List.cons_append, List.nil_append]
  generalize hS1 : (aC w1.mail x1.n (x1.kind == 8)) = S1
  refine Tx ?_
  refine Cd (b := (S1.2.2 != 0)) (fun hc1 => ?_) fun hc1 => ?_
  ·have hc1p := bne_iff_ne.1 hc1
   refine Tx ?_
   refine ak ?_; simp only [bR, hS1, hc1, Cf]; exact Re ⟨y1, y2, y3, y4, y5, y6, y6b, γ1, y7⟩ (Vt Vn)
  ·have hc1p := ag hc1
   have htw := uU hS1 (ag hc1)
   refine Tx ?_
   refine Cd (b := (S1.2.1.kind != 1)) (fun hc2 => ?_) fun hc2 => ?_
   ·have hc2p := bne_iff_ne.1 hc2
    (repeat refine ar ?_)
    refine ge [0, 4, 5, 6] [true, true, true] (fun (i_ : Nat × SlV × SlV × SlV × SlV) => match i_ with | ⟨g5, x12, x13, x14, x15⟩ => [(8, .v (.pointer (some ⟨g5, 0, none⟩))), (9, .v (.int .i64 (aL (gt w1.c S1.2.1.who.toNat) S1.2.1.who S1.2.1).2))]) (fun (i_ : Nat × SlV × SlV × SlV × SlV) => match i_ with | ⟨g5, x12, x13, x14, x15⟩ => [⟨g5, 60, [.int .i64 (aL (gt w1.c S1.2.1.who.toNat) S1.2.1.who S1.2.1).1.life, .int .i64 (aL (gt w1.c S1.2.1.who.toNat) S1.2.1.who S1.2.1).1.time, .int .i64 (aL (gt w1.c S1.2.1.who.toNat) S1.2.1.who S1.2.1).1.seq, x12.val (aL (gt w1.c S1.2.1.who.toNat) S1.2.1.who S1.2.1).1.pending.length, .int .i64 (aL (gt w1.c S1.2.1.who.toNat) S1.2.1.who S1.2.1).1.version, x13.val (aL (gt w1.c S1.2.1.who.toNat) S1.2.1.who S1.2.1).1.v.roots.length, x14.val (aL (gt w1.c S1.2.1.who.toNat) S1.2.1.who S1.2.1).1.v.known.length, x15.val (aL (gt w1.c S1.2.1.who.toNat) S1.2.1.who S1.2.1).1.v.way.length]⟩]) (fun (i_ : Nat × SlV × SlV × SlV × SlV) => match i_ with | ⟨g5, x12, x13, x14, x15⟩ => [ownL NClient.E 60 y6 y6b (zipG γ1 0 w1.c)]) (fun (i_ : Nat × SlV × SlV × SlV × SlV) => match i_ with | ⟨g5, x12, x13, x14, x15⟩ => [RdL EOp x12 (aL (gt w1.c S1.2.1.who.toNat) S1.2.1.who S1.2.1).1.pending, RdL EInt x13 (aL (gt w1.c S1.2.1.who.toNat) S1.2.1.who S1.2.1).1.v.roots, RdL EPlace x14 (aL (gt w1.c S1.2.1.who.toNat) S1.2.1.who S1.2.1).1.v.known, RdL EPlace x15 (aL (gt w1.c S1.2.1.who.toNat) S1.2.1.who S1.2.1).1.v.way]) (fun _ => True) (.cons rfl (.cons rfl (.cons rfl (.cons rfl (.nil _))))) (.keep (.keep (.keep (.nil)))) ?_ ?_
    ·refine aw (fun j => match j with | 16 => none | _ => some []) ?_
     refine Rb 0 rfl Qp ?_
     refine Rb 1 rfl Qp ?_
     refine Rb 2 rfl Qp ?_
     refine Rb 3 rfl Q1 ?_
     refine Rb 4 rfl Qp ?_
     refine Rb 5 rfl Q1 ?_
     refine rw_qO NClient.E (e := 60) (X := y6) (b := y6b) (l := zipG γ1 0 w1.c) Mm (.ab (i := 6) (js := [8, 9, 10, 15]) [7, 11, 12, 13, 14, 16, 17] rfl Kr Kr Kr Kr Kr) rfl rfl rfl (dv NClient γ1 S1.2.1.who.toNat rfl rfl Zf rfl Zf rfl rfl rfl (.head _) rfl Zo Za) ?_
     refine rw_qO NClient.E (e := 60) (X := y6) (b := y6b) (l := zipG γ1 0 w1.c) Mm (.ab (i := 7) (js := [8, 9, 10, 15]) [11, 12, 13, 14, 16, 17] rfl Kr Kr Kr Kr Kr) rfl rfl rfl (q_is (v' := .agg ⟨[.int .i64 (gt w1.c S1.2.1.who.toNat).life, .int .i64 (gt w1.c S1.2.1.who.toNat).time, .int .i64 (gt w1.c S1.2.1.who.toNat).seq, (γ1 S1.2.1.who.toNat).1.val (gt w1.c S1.2.1.who.toNat).pending.length, .int .i64 (gt w1.c S1.2.1.who.toNat).version, (γ1 S1.2.1.who.toNat).2.1.val (gt w1.c S1.2.1.who.toNat).v.roots.length, (γ1 S1.2.1.who.toNat).2.2.1.val (gt w1.c S1.2.1.who.toNat).v.known.length, (γ1 S1.2.1.who.toNat).2.2.2.val (gt w1.c S1.2.1.who.toNat).v.way.length]⟩) (fK NClient γ1 rfl rfl Zf rfl rfl (.head _) Za) rfl) ?_
     refine ay (F := RdL EOp (γ1 S1.2.1.who.toNat).1 (gt w1.c S1.2.1.who.toNat).pending) [ao NClient γ1 w1.c] Sm (fun M w h => (allF1 h) S1.2.1.who.toNat Zc _ (.head _)) ?_
     refine ay (F := RdL EInt (γ1 S1.2.1.who.toNat).2.1 (gt w1.c S1.2.1.who.toNat).v.roots) [ao NClient γ1 w1.c] Sm (fun M w h => (allF1 h) S1.2.1.who.toNat Zc _ (.tail _ (.head _))) ?_
     refine ay (F := RdL EPlace (γ1 S1.2.1.who.toNat).2.2.1 (gt w1.c S1.2.1.who.toNat).v.known) [ao NClient γ1 w1.c] Sm (fun M w h => (allF1 h) S1.2.1.who.toNat Zc _ (.tail _ (.tail _ (.head _)))) ?_
     refine ay (F := RdL EPlace (γ1 S1.2.1.who.toNat).2.2.2 (gt w1.c S1.2.1.who.toNat).v.way) [ao NClient γ1 w1.c] Sm (fun M w h => (allF1 h) S1.2.1.who.toNat Zc _ (.tail _ (.tail _ (.tail _ (.head _))))) ?_
     refine Rb 8 rfl Qp ?_
     refine Rb 9 rfl Q1 ?_
     refine Rb 10 rfl (q_ldA rfl rfl Zf rfl Mm rfl) ?_
     refine fF 11 15 Kr ?_ ?_
     ·refine cR (kG (γ1 S1.2.1.who.toNat).1 (γ1 S1.2.1.who.toNat).2.1 (γ1 S1.2.1.who.toNat).2.2.1 (γ1 S1.2.1.who.toNat).2.2.2 (gt w1.c S1.2.1.who.toNat) S1.2.1.who x3 x4 x5 x6 x7 x8 x9 S1.2.1) (.an rfl rfl) (ae rfl) rfl rfl rfl Kr rfl rfl Sm ?_
      intro x16
      refine Ra 12 rfl Qp ?_
      refine Ra 13 rfl Qp ?_
      refine ra_p (.an (i := 14) (js := [15, 16]) rfl Kr Kr Kr Kr) rfl rfl rfl (q_pev rfl Zf) ?_
      refine av 15 Kr ?_
      refine dh (.an rfl rfl) (ae rfl) rfl rfl rfl rfl fun g6 => ?_
      refine av 16 Kr ?_
      refine di (.lo [g6] rfl rfl) (.inr (by simp)) (ae rfl) rfl rfl rfl rfl rfl rfl rfl rfl rfl Ub rfl ?_
      refine Ra 17 rfl Qp ?_
      refine bj Kr ?_
      refine ⟨⟨g6, x16.1, x16.2.1, x16.2.2.1, x16.2.2.2⟩, trivial, Le4⟩
     ·refine dh (.an rfl rfl) (ae rfl) rfl rfl rfl rfl fun g7 => ?_
      refine av 11 Kr ?_
      refine cR (kG (γ1 S1.2.1.who.toNat).1 (γ1 S1.2.1.who.toNat).2.1 (γ1 S1.2.1.who.toNat).2.2.1 (γ1 S1.2.1.who.toNat).2.2.2 (gt w1.c S1.2.1.who.toNat) S1.2.1.who x3 x4 x5 x6 x7 x8 x9 S1.2.1) (.an rfl rfl) (ae rfl) rfl rfl rfl Kr rfl rfl Sm ?_
      intro x17
      refine Ra 12 rfl Qp ?_
      refine Ra 13 rfl Qp ?_
      refine ra_p (.an (i := 14) (js := [16]) rfl Kr Kr Kr Kr) rfl rfl rfl (q_pev rfl Zf) ?_
      refine av 16 Kr ?_
      refine di (.lo [g7] rfl rfl) (.inr (by simp)) (ae rfl) rfl rfl rfl rfl rfl rfl rfl rfl rfl Ub rfl ?_
      refine Ra 17 rfl Qp ?_
      refine bj Kr ?_
      refine ⟨⟨g7, x17.1, x17.2.1, x17.2.2.1, x17.2.2.2⟩, trivial, Le4⟩
    ·rintro ⟨g5, x12, x13, x14, x15⟩ -
     simp only [List.cons_append, List.nil_append]
     generalize hS2 : (aL (gt w1.c S1.2.1.who.toNat) S1.2.1.who S1.2.1) = S2
     refine Tx ?_
     refine Cd (b := (S2.2 == 0)) (fun hc3 => ?_) fun hc3 => ?_
     ·have hc3p := eq_of_beq hc3
      (repeat refine ar ?_); refine aw (fun j => match j with | 10 => none | 13 => none | _ => some []) ?_
      refine Rb 0 rfl Qp ?_
      refine Rb 1 rfl Qp ?_
      refine Ra 2 rfl Qp ?_
      refine Ra 3 rfl Q1 ?_
      refine Ra 4 rfl Qp ?_
      refine Ra 5 rfl Q1 ?_
      refine ra_p (.an (i := 6) (js := [7, 8, 9, 10]) rfl Kr Kr Kr Kr) rfl rfl rfl (q_pev rfl Zf) ?_
      refine Ra 7 rfl (q_ldA rfl rfl Zf rfl Mm rfl) ?_
      refine ra_p (.an (i := 8) (js := [9, 10]) rfl Kr Kr Kr Kr) rfl rfl rfl (q_pev rfl Zf) ?_
      refine rw_qO NClient.E (e := 60) (X := y6) (b := y6b) (l := zipG γ1 0 w1.c) Mm (.an (i := 9) (js := []) rfl Kr Kr Kr Kr) rfl rfl rfl (dv NClient γ1 S1.2.1.who.toNat rfl rfl Zf rfl Zf rfl rfl rfl (.head _) rfl Zo Za) ?_
      refine av 10 Kr ?_
      refine gH NClient γ1 w1.c S1.2.1.who.toNat 0 (x12, x13, x14, x15) S2.1 (e := 60) (X := y6) (b := y6b) (.lo y6b.toList rfl rfl) (.inr (fun g h => by simp [h])) (ae rfl) rfl rfl rfl rfl rfl rfl rfl rfl rfl rfl rfl Zb rfl Uo ?_
      refine ay (F := ao NClient (updG γ1 S1.2.1.who.toNat (x12, x13, x14, x15)) (w1.c.set S1.2.1.who.toNat S2.1)) [ao NClient γ1 w1.c, RdL EOp x12 S2.1.pending, RdL EInt x13 S2.1.v.roots, RdL EPlace x14 S2.1.v.known, RdL EPlace x15 S2.1.v.way] Sm (fun M w h => ao.upd NClient (h _ (.head _)) (cL Sm h)) ?_
      have hv1 : y6.val w1.c.length = y6.val (w1.c.set S1.2.1.who.toNat S2.1).length := congrArg (SlV.val y6) List.length_set.symm
      try rw [hv1]
      refine Rb 11 rfl Qp ?_
      refine Ra 12 rfl Qp ?_
      refine av 13 Kr ?_
      refine eS (.lo [c1] rfl rfl) (.inr (by simp)) (ae rfl) rfl rfl rfl rfl rfl rfl rfl rfl rfl Ub rfl ?_
      refine bj Kr ?_
      refine Tx ?_
      refine ak ?_; simp only [bR, hS1, hc1, hc2, hS2, hc3, Cf]; exact Re ⟨y1, y2, y3, y4, y5, y6, y6b, (updG γ1 S1.2.1.who.toNat (x12, x13, x14, x15)), x2⟩ (Vt Vn)
     ·have hc3p := ne_of_beq_false hc3
      refine Tx ?_
      refine ak ?_; simp only [bR, hS1, hc1, hc2, hS2, hc3, Cf]; exact Re ⟨y1, y2, y3, y4, y5, y6, y6b, γ1, y7⟩ (Vt Vn)
   ·have hc2p := ag hc2
    refine Tx ?_
    refine Cd (b := (!w1.up)) (fun hc4 => ?_) fun hc4 => ?_
    ·refine Tx ?_
     refine ak ?_; simp only [bR, hS1, hc1, hc2, hc4, Cf]; exact Re ⟨y1, y2, y3, y4, y5, y6, y6b, γ1, y7⟩ (Vt Vn)
    ·refine Tx ?_
     refine Fr EInt ?_
     refine aX (ij c1 y1 y2 y3 y4 y5 y6 y6b γ1 x2 (⟨w1.h, w1.d, w1.up, w1.c, S1.1⟩ : Wld) (⟨none, 0⟩ : SlV) (⟨1, 0, 0, ([] : List Int), S1.2.1.o⟩ : Rec)) .sq (.inl ⟨_, rfl⟩) (ae rfl) rfl rfl rfl Kr rfl rfl Sm Tk Tk ?_
     intro x18
     generalize hS3 : (ba (⟨w1.h, w1.d, w1.up, w1.c, S1.1⟩ : Wld) (⟨1, 0, 0, ([] : List Int), S1.2.1.o⟩ : Rec)) = S3
     refine Tx ?_
     refine ak ?_; simp only [bR, hS1, hc1, hc2, hc4, hS3, Cf]; exact Re ⟨x18.1, x18.2.1, x18.2.2.1, x18.2.2.2.1, x18.2.2.2.2.1, x18.2.2.2.2.2.1, x18.2.2.2.2.2.2.1, x18.2.2.2.2.2.2.2.1, x18.2.2.2.2.2.2.2.2⟩ (Vt Vn)
def bI (w1 : Wld) (x1 : Happening) : Int × Wld :=
 (bif (w1.up == (x1.kind == 11)) then (7, w1) else (bif (x1.kind == 10) then (0, (⟨cq, w1.d, false, w1.c, w1.mail⟩ : Wld)) else (bif ((aH w1.d).2.2 != 0) then ((aH w1.d).2.2, w1) else (bif ((aN (aH w1.d).2.1).2 == 0) then ((aN (aH w1.d).2.1).2, (⟨(aN (aH w1.d).2.1).1, (aH w1.d).1, true, w1.c, w1.mail⟩ : Wld)) else ((aN (aH w1.d).2.1).2, w1)))))
theorem kv (c1 : Nat) (y1 : SlV) (y2 : SlV) (y3 : SlV) (y4 : SlV) (y5 : SlV) (y6 : SlV) (y6b : Option Nat) (γ1 : Nat → SlV × SlV × SlV × SlV) (y7 : SlV) (w1 : Wld) (y8 : SlV) (x1 : Happening) : DoesG Tryz.prog 58 [.pointer (some ⟨c1, 0, none⟩), .agg ⟨[.int .i64 x1.kind, .int .i64 x1.who, .int .i64 x1.n, .int .i64 x1.node, .int .i64 x1.parent, .int .i64 x1.name, y8.val x1.roots.length]⟩] [RdL EStep y1 w1.h.h.l, RdL EPlace y2 w1.h.h.t, RdN NPeer y3 w1.h.peers, RdL EByte y4 w1.d.safe, RdL EByte y5 w1.d.wait, ao NClient γ1 w1.c, RdN NMail y7 w1.mail, RdL EInt y8 x1.roots, LibP Tryz.prog] ⟨[⟨c1, 37, [y1.val w1.h.h.l.length, y2.val w1.h.h.t.length, .int .i64 w1.h.version, y3.val w1.h.peers.length, y4.val w1.d.safe.length, y5.val w1.d.wait.length, .bool w1.up, y6.val w1.c.length, y7.val w1.mail.length]⟩], [ownL NClient.E 60 y6 y6b (zipG γ1 0 w1.c)]⟩ (fun (X : SlV × SlV × SlV × SlV × SlV × SlV × Option Nat × (Nat → SlV × SlV × SlV × SlV) × SlV) => .int .i64 (bI w1 x1).1) (fun X => [RdL EStep X.1 (bI w1 x1).2.h.h.l, RdL EPlace X.2.1 (bI w1 x1).2.h.h.t, RdN NPeer X.2.2.1 (bI w1 x1).2.h.peers, RdL EByte X.2.2.2.1 (bI w1 x1).2.d.safe, RdL EByte X.2.2.2.2.1 (bI w1 x1).2.d.wait, ao NClient X.2.2.2.2.2.2.2.1 (bI w1 x1).2.c, RdN NMail X.2.2.2.2.2.2.2.2 (bI w1 x1).2.mail]) (fun X => ⟨[⟨c1, 37, [X.1.val (bI w1 x1).2.h.h.l.length, X.2.1.val (bI w1 x1).2.h.h.t.length, .int .i64 (bI w1 x1).2.h.version, X.2.2.1.val (bI w1 x1).2.h.peers.length, X.2.2.2.1.val (bI w1 x1).2.d.safe.length, X.2.2.2.2.1.val (bI w1 x1).2.d.wait.length, .bool (bI w1 x1).2.up, X.2.2.2.2.2.1.val (bI w1 x1).2.c.length, X.2.2.2.2.2.2.2.2.val (bI w1 x1).2.mail.length]⟩], [ownL NClient.E 60 X.2.2.2.2.2.1 X.2.2.2.2.2.2.1 (zipG X.2.2.2.2.2.2.2.1 0 (bI w1 x1).2.c)]⟩) := by
 refine cF aV Tryz.func58 rfl Tryz.ntmps58 Tryz.results58 rfl inferInstance (fun _ => inferInstance) fun C => ?_
 refine Pc EInt y8 x1.roots 8 fun hlen1 => ?_
 refine Tx ?_
 refine Bx fun g1 => ?_
 refine Tx ?_
 (repeat refine ar ?_); refine aw (fun _ => some []) ?_
 refine Rb 0 rfl Qp ?_
 refine Rb 1 rfl Qp ?_
 refine Rb 2 rfl Qp ?_
 refine Ra 3 rfl Q1 ?_
 refine Rb 4 rfl Qp ?_
 refine Rb 5 rfl Q1 ?_
 refine Ra 6 rfl Qp ?_
 refine Ra 7 rfl (q_eqb und_4 rfl rfl Zf rfl Zf) ?_
 refine bj Kr ?_
 (repeat refine ar ?_)
 refine Cd (b := (w1.up == (x1.kind == 11))) (fun hc1 => ?_) fun hc1 => ?_
 ·have hc1p := eq_of_beq hc1
  refine Tx ?_
  refine ak ?_; simp only [bI, hc1, Cf]; exact Re ⟨y1, y2, y3, y4, y5, y6, y6b, γ1, y7⟩ (Vt Vn)
 ·have hc1p := ne_of_beq_false hc1
  refine Tx ?_
  refine Cd (b := (x1.kind == 10)) (fun hc2 => ?_) fun hc2 => ?_
  ·have hc2p := eq_of_beq hc2
   refine Tx ?_
   refine Cl (jn ) fun x2 => ?_
   refine Tx ?_
   refine fo .sq (.inl ⟨_, rfl⟩) (ae rfl) rfl rfl rfl rfl rfl rfl rfl rfl rfl Ub rfl ?_
   refine Tx ?_
   refine ak ?_; simp only [bI, hc1, hc2, Cf]; exact Re ⟨x2.1, x2.2.1, x2.2.2, y4, y5, y6, y6b, γ1, y7⟩ (Vt Vn)
  ·have hc2p := ne_of_beq_false hc2
   refine Tx ?_
   refine Cl (gX y4 y5 w1.d) fun x3 => ?_
   refine Tx ?_
   refine Al fun g2 => ?_
   refine Tx ?_
   refine Cd (b := ((aH w1.d).2.2 != 0)) (fun hc3 => ?_) fun hc3 => ?_
   ·have hc3p := bne_iff_ne.1 hc3
    refine Tx ?_
    refine ak ?_; simp only [bI, hc1, hc2, hc3, Cf]; exact Re ⟨y1, y2, y3, y4, y5, y6, y6b, γ1, y7⟩ (Vt Vn)
   ·have hc3p := ag hc3
    refine Tx ?_
    refine Cl (gK x3.2.2 (aH w1.d).2.1) fun x4 => ?_
    generalize hS1 : (aN (aH w1.d).2.1) = S1
    refine Tx ?_
    refine Al fun g3 => ?_
    refine Tx ?_
    refine Cd (b := (S1.2 == 0)) (fun hc4 => ?_) fun hc4 => ?_
    ·have hc4p := eq_of_beq hc4
     (repeat refine ar ?_); refine aw (fun j => match j with | 7 => none | 10 => none | 13 => none | _ => some []) ?_
     refine Ra 0 rfl Qp ?_
     refine ra_p (.an (i := 1) (js := [2, 3, 4, 5, 6, 7]) rfl Kr Kr Kr Kr) rfl rfl rfl (q_pev rfl Zf) ?_
     refine ra_p (.an (i := 2) (js := [3, 4, 5, 6, 7, 8, 9, 10]) rfl Kr Kr Kr Kr) rfl rfl rfl (q_pev rfl Zf) ?_
     refine Ra 3 rfl (q_ldA rfl rfl Zf rfl Mm rfl) ?_
     refine Rb 5 rfl Qp ?_
     refine Ra 6 rfl Qp ?_
     refine fF 4 7 Kr ?_ ?_
     ·refine tQ rfl rfl rfl rfl (q_ldA rfl rfl Zf rfl Mm rfl) ?_
      refine av 7 Kr ?_
      refine fo (.lo [c1] rfl rfl) (.inr (by simp)) (ae rfl) rfl rfl rfl rfl rfl rfl rfl rfl rfl Ub rfl ?_
      refine Rb 8 rfl Qp ?_
      refine Ra 9 rfl Qp ?_
      refine av 10 Kr ?_
      refine fo (.lo [c1] rfl rfl) (.inr (by simp)) (ae rfl) rfl rfl rfl rfl rfl rfl rfl rfl rfl Ub rfl ?_
      refine Rb 11 rfl Qp ?_
      refine Ra 12 rfl Qp ?_
      refine av 13 Kr ?_
      refine eS (.lo [c1] rfl rfl) (.inr (by simp)) (ae rfl) rfl rfl rfl rfl rfl rfl rfl rfl rfl Ub rfl ?_
      refine bj Kr ?_
      refine Tx ?_
      refine ak ?_; simp only [bI, hc1, hc2, hc3, hS1, hc4, Cf]; exact Re ⟨x4.1, x4.2.1, x4.2.2, x3.1, x3.2.1, y6, y6b, γ1, y7⟩ (Vt Vn)
     ·refine fo (.lo [c1] rfl rfl) (.inr (by simp)) (ae rfl) rfl rfl rfl rfl rfl rfl rfl rfl rfl Ub rfl ?_
      refine Ra 4 rfl (q_ldA rfl rfl Zf rfl Mm rfl) ?_
      refine Rb 8 rfl Qp ?_
      refine Ra 9 rfl Qp ?_
      refine av 10 Kr ?_
      refine fo (.lo [c1] rfl rfl) (.inr (by simp)) (ae rfl) rfl rfl rfl rfl rfl rfl rfl rfl rfl Ub rfl ?_
      refine Rb 11 rfl Qp ?_
      refine Ra 12 rfl Qp ?_
      refine av 13 Kr ?_
      refine eS (.lo [c1] rfl rfl) (.inr (by simp)) (ae rfl) rfl rfl rfl rfl rfl rfl rfl rfl rfl Ub rfl ?_
      refine bj Kr ?_
      refine Tx ?_
      refine ak ?_; simp only [bI, hc1, hc2, hc3, hS1, hc4, Cf]; exact Re ⟨x4.1, x4.2.1, x4.2.2, x3.1, x3.2.1, y6, y6b, γ1, y7⟩ (Vt Vn)
    ·have hc4p := ne_of_beq_false hc4
     refine Tx ?_
     refine ak ?_; simp only [bI, hc1, hc2, hc3, hS1, hc4, Cf]; exact Re ⟨y1, y2, y3, y4, y5, y6, y6b, γ1, y7⟩ (Vt Vn)
def aM (w1 : Wld) (x1 : Happening) : Int × Wld :=
 (bif (decide (x1.who < 0) || decide (x1.who ≥ (w1.c.length : Int))) then (5, w1) else (bif (x1.kind == 1) then (bif ((bs (gt w1.c x1.who.toNat) x1.who x1.node x1.parent x1.name).2.2 != 0) then ((bs (gt w1.c x1.who.toNat) x1.who x1.node x1.parent x1.name).2.2, w1) else (0, (cn (⟨w1.h, w1.d, w1.up, (w1.c.set x1.who.toNat (bs (gt w1.c x1.who.toNat) x1.who x1.node x1.parent x1.name).1), w1.mail⟩ : Wld) (⟨1, x1.who, 0, 0, 0, 0, 0, (bs (gt w1.c x1.who.toNat) x1.who x1.node x1.parent x1.name).2.1, (⟨[], [], []⟩ : View), (⟨[], [], [], []⟩ : Delta)⟩ : Mail)))) else (bif (x1.kind == 2) then (bif (decide (x1.n < 0) || decide (x1.n ≥ ((gt w1.c x1.who.toNat).pending.length : Int))) then (5, w1) else (0, (cn w1 (⟨1, x1.who, 0, 0, 0, 0, 0, (gt (gt w1.c x1.who.toNat).pending x1.n.toNat), (⟨[], [], []⟩ : View), (⟨[], [], [], []⟩ : Delta)⟩ : Mail)))) else (bif (!w1.up) then (7, w1) else (bif (x1.kind == 6) then ((cP w1 x1.who).1, (cP w1 x1.who).2) else (bif (x1.kind == 5) then ((ba w1 (⟨3, x1.who, 0, x1.roots, (⟨0, 0, 0, 0, 0, 0, 0⟩ : Op)⟩ : Rec)).1, (ba w1 (⟨3, x1.who, 0, x1.roots, (⟨0, 0, 0, 0, 0, 0, 0⟩ : Op)⟩ : Rec)).2) else ((cf w1 x1).1, (cf w1 x1).2)))))))
theorem en (c1 : Nat) (y1 : SlV) (y2 : SlV) (y3 : SlV) (y4 : SlV) (y5 : SlV) (y6 : SlV) (y6b : Option Nat) (γ1 : Nat → SlV × SlV × SlV × SlV) (y7 : SlV) (w1 : Wld) (y8 : SlV) (x1 : Happening) (hk : cN w1.h = 0) (hc : w1.c.length = 3) (hv : w1.up = true → w1.h.version ≤ ((aH w1.d).2.1.length : Int)) : DoesG Tryz.prog 59 [.pointer (some ⟨c1, 0, none⟩), .agg ⟨[.int .i64 x1.kind, .int .i64 x1.who, .int .i64 x1.n, .int .i64 x1.node, .int .i64 x1.parent, .int .i64 x1.name, y8.val x1.roots.length]⟩] [RdL EStep y1 w1.h.h.l, RdL EPlace y2 w1.h.h.t, RdN NPeer y3 w1.h.peers, RdL EByte y4 w1.d.safe, RdL EByte y5 w1.d.wait, ao NClient γ1 w1.c, RdN NMail y7 w1.mail, RdL EInt y8 x1.roots, LibP Tryz.prog] ⟨[⟨c1, 37, [y1.val w1.h.h.l.length, y2.val w1.h.h.t.length, .int .i64 w1.h.version, y3.val w1.h.peers.length, y4.val w1.d.safe.length, y5.val w1.d.wait.length, .bool w1.up, y6.val w1.c.length, y7.val w1.mail.length]⟩], [ownL NClient.E 60 y6 y6b (zipG γ1 0 w1.c)]⟩ (fun (X : SlV × SlV × SlV × SlV × SlV × SlV × Option Nat × (Nat → SlV × SlV × SlV × SlV) × SlV) => .int .i64 (aM w1 x1).1) (fun X => [RdL EStep X.1 (aM w1 x1).2.h.h.l, RdL EPlace X.2.1 (aM w1 x1).2.h.h.t, RdN NPeer X.2.2.1 (aM w1 x1).2.h.peers, RdL EByte X.2.2.2.1 (aM w1 x1).2.d.safe, RdL EByte X.2.2.2.2.1 (aM w1 x1).2.d.wait, ao NClient X.2.2.2.2.2.2.2.1 (aM w1 x1).2.c, RdN NMail X.2.2.2.2.2.2.2.2 (aM w1 x1).2.mail]) (fun X => ⟨[⟨c1, 37, [X.1.val (aM w1 x1).2.h.h.l.length, X.2.1.val (aM w1 x1).2.h.h.t.length, .int .i64 (aM w1 x1).2.h.version, X.2.2.1.val (aM w1 x1).2.h.peers.length, X.2.2.2.1.val (aM w1 x1).2.d.safe.length, X.2.2.2.2.1.val (aM w1 x1).2.d.wait.length, .bool (aM w1 x1).2.up, X.2.2.2.2.2.1.val (aM w1 x1).2.c.length, X.2.2.2.2.2.2.2.2.val (aM w1 x1).2.mail.length]⟩], [ownL NClient.E 60 X.2.2.2.2.2.1 X.2.2.2.2.2.2.1 (zipG X.2.2.2.2.2.2.2.1 0 (aM w1 x1).2.c)]⟩) := by
 refine cF aV Tryz.func59 rfl Tryz.ntmps59 Tryz.results59 rfl inferInstance (fun _ => inferInstance) fun C => ?_
 refine Pc EInt y8 x1.roots 8 fun hlen1 => ?_
 refine Tx ?_
 refine Bx fun g1 => ?_
 refine Tx ?_
 (repeat refine ar ?_); refine aw (fun _ => some []) ?_
 refine Rb 0 rfl Qp ?_
 refine Rb 1 rfl Q1 ?_
 refine Rb 2 rfl Qp ?_
 refine Ra 3 rfl Qp ?_
 refine Gb 4 rfl (aD rfl rfl rfl) (q_pev rfl Bt) ?_
 refine Gb 5 rfl (aD rfl rfl rfl) (q_ld1 rfl rfl Bt rfl Mm rfl) ?_
 refine Gb 6 rfl (aD rfl rfl rfl) (q_pev rfl Bt) ?_
 refine Gb 7 rfl (aD rfl rfl rfl) (q_pev rfl Bt) ?_
 refine Gb 8 rfl (aD rfl rfl rfl) (q_pev rfl Bt) ?_
 refine Gb 9 rfl (aD rfl rfl rfl) (q_ld1 rfl rfl Bt rfl Mm rfl) ?_
 refine Gb 10 rfl (aD rfl rfl rfl) (q_pev rfl Bt) ?_
 refine Ga 11 rfl (aD rfl rfl rfl) (q_pev rfl Bt) ?_
 refine Ra 12 rfl (q_pev rfl Bt) ?_
 refine bj Kr ?_
 (repeat refine ar ?_)
 refine Cd (b := (decide (x1.who < 0) || decide (x1.who ≥ (w1.c.length : Int)))) (fun hc1 => ?_) fun hc1 => ?_
 ·refine Tx ?_
  refine ak ?_; simp only [aM, hc1, Cf]; exact Re ⟨y1, y2, y3, y4, y5, y6, y6b, γ1, y7⟩ (Vt Vn)
 ·have hwr := hc1
  simp only [Bool.or_eq_false_iff, decide_eq_false_iff_not] at hwr
  refine Tx ?_
  (repeat refine ar ?_); refine aw (fun j => match j with | 9 => none | _ => some []) ?_
  refine Rb 0 rfl Qp ?_
  refine Rb 1 rfl Qp ?_
  refine Rb 2 rfl Qp ?_
  refine Rb 3 rfl Q1 ?_
  refine Rb 4 rfl Qp ?_
  refine Rb 5 rfl Q1 ?_
  refine rw_qO NClient.E (e := 60) (X := y6) (b := y6b) (l := zipG γ1 0 w1.c) Mm (.an (i := 6) (js := [8]) rfl Kr Kr Kr Kr) rfl rfl rfl (dv NClient γ1 x1.who.toNat rfl rfl Zf rfl Zf rfl rfl rfl (.head _) rfl Zo Za) ?_
  refine rw_qO NClient.E (e := 60) (X := y6) (b := y6b) (l := zipG γ1 0 w1.c) Mm (.an (i := 7) (js := [8]) rfl Kr Kr Kr Kr) rfl rfl rfl (q_is (v' := .agg ⟨[.int .i64 (gt w1.c x1.who.toNat).life, .int .i64 (gt w1.c x1.who.toNat).time, .int .i64 (gt w1.c x1.who.toNat).seq, (γ1 x1.who.toNat).1.val (gt w1.c x1.who.toNat).pending.length, .int .i64 (gt w1.c x1.who.toNat).version, (γ1 x1.who.toNat).2.1.val (gt w1.c x1.who.toNat).v.roots.length, (γ1 x1.who.toNat).2.2.1.val (gt w1.c x1.who.toNat).v.known.length, (γ1 x1.who.toNat).2.2.2.val (gt w1.c x1.who.toNat).v.way.length]⟩) (fK NClient γ1 rfl rfl Zf rfl rfl (.head _) Za) rfl) ?_
  refine ay (F := RdL EOp (γ1 x1.who.toNat).1 (gt w1.c x1.who.toNat).pending) [ao NClient γ1 w1.c] Sm (fun M w h => (allF1 h) x1.who.toNat Zc _ (.head _)) ?_
  refine ay (F := RdL EInt (γ1 x1.who.toNat).2.1 (gt w1.c x1.who.toNat).v.roots) [ao NClient γ1 w1.c] Sm (fun M w h => (allF1 h) x1.who.toNat Zc _ (.tail _ (.head _))) ?_
  refine ay (F := RdL EPlace (γ1 x1.who.toNat).2.2.1 (gt w1.c x1.who.toNat).v.known) [ao NClient γ1 w1.c] Sm (fun M w h => (allF1 h) x1.who.toNat Zc _ (.tail _ (.tail _ (.head _)))) ?_
  refine ay (F := RdL EPlace (γ1 x1.who.toNat).2.2.2 (gt w1.c x1.who.toNat).v.way) [ao NClient γ1 w1.c] Sm (fun M w h => (allF1 h) x1.who.toNat Zc _ (.tail _ (.tail _ (.tail _ (.head _))))) ?_
  refine av 8 Kr ?_
  refine dh (.an rfl rfl) (ae rfl) rfl rfl rfl rfl fun g2 => ?_
  refine av 9 Kr ?_
  refine di (.lo [g2] rfl rfl) (.inr (by simp)) (ae rfl) rfl rfl rfl rfl rfl rfl rfl rfl rfl Ub rfl ?_
  refine bj Kr ?_
  refine Tx ?_
  refine Cd (b := (x1.kind == 1)) (fun hc2 => ?_) fun hc2 => ?_
  ·have hc2p := eq_of_beq hc2
   refine Tx ?_
   refine Cl (nq (γ1 x1.who.toNat).1 (γ1 x1.who.toNat).2.1 (γ1 x1.who.toNat).2.2.1 (γ1 x1.who.toNat).2.2.2 (gt w1.c x1.who.toNat) x1.who x1.node x1.parent x1.name) fun x2 => ?_
   generalize hS1 : (bs (gt w1.c x1.who.toNat) x1.who x1.node x1.parent x1.name) = S1
   refine Tx ?_
   refine Al fun g3 => ?_
   refine Al fun g4 => ?_
   refine Tx ?_
   refine Cd (b := (S1.2.2 != 0)) (fun hc3 => ?_) fun hc3 => ?_
   ·have hc3p := bne_iff_ne.1 hc3
    refine Tx ?_
    refine ak ?_; simp only [aM, hc1, hc2, hS1, hc3, Cf]; exact Re ⟨y1, y2, y3, y4, y5, y6, y6b, γ1, y7⟩ (Vt Vn)
   ·have hc3p := ag hc3
    refine Tx ?_
    (repeat refine ar ?_); refine aw (fun j => match j with | 8 => none | _ => some []) ?_
    refine Rb 0 rfl Qp ?_
    refine Rb 1 rfl Qp ?_
    refine Ra 2 rfl Qp ?_
    refine Ra 3 rfl Q1 ?_
    refine Ra 4 rfl Qp ?_
    refine Ra 5 rfl Q1 ?_
    refine Ra 6 rfl (q_ldA rfl rfl Zf rfl Mm rfl) ?_
    refine rw_qO NClient.E (e := 60) (X := y6) (b := y6b) (l := zipG γ1 0 w1.c) Mm (.an (i := 7) (js := []) rfl Kr Kr Kr Kr) rfl rfl rfl (dv NClient γ1 x1.who.toNat rfl rfl Zf rfl Zf rfl rfl rfl (.head _) rfl Zo Za) ?_
    refine av 8 Kr ?_
    refine gH NClient γ1 w1.c x1.who.toNat 0 (x2.1, x2.2.1, x2.2.2.1, x2.2.2.2) S1.1 (e := 60) (X := y6) (b := y6b) (.lo y6b.toList rfl rfl) (.inr (fun g h => by simp [h])) (ae rfl) rfl rfl rfl rfl rfl rfl rfl rfl rfl rfl rfl Zb rfl Uo ?_
    refine ay (F := ao NClient (updG γ1 x1.who.toNat (x2.1, x2.2.1, x2.2.2.1, x2.2.2.2)) (w1.c.set x1.who.toNat S1.1)) [ao NClient γ1 w1.c, RdL EOp x2.1 S1.1.pending, RdL EInt x2.2.1 S1.1.v.roots, RdL EPlace x2.2.2.1 S1.1.v.known, RdL EPlace x2.2.2.2 S1.1.v.way] Sm (fun M w h => ao.upd NClient (h _ (.head _)) (cL Sm h)) ?_
    have hv1 : y6.val w1.c.length = y6.val (w1.c.set x1.who.toNat S1.1).length := congrArg (SlV.val y6) List.length_set.symm
    try rw [hv1]
    refine bj Kr ?_
    refine Tx ?_
    refine Fr EInt ?_
    refine Fr EPlace ?_
    refine aX (gD c1 y1 y2 y3 y4 y5 y6 y6b (updG γ1 x1.who.toNat (x2.1, x2.2.1, x2.2.2.1, x2.2.2.2)) y7 (⟨w1.h, w1.d, w1.up, (w1.c.set x1.who.toNat S1.1), w1.mail⟩ : Wld) (⟨none, 0⟩ : SlV) (⟨none, 0⟩ : SlV) (⟨none, 0⟩ : SlV) (⟨none, 0⟩ : SlV) (⟨none, 0⟩ : SlV) (⟨none, 0⟩ : SlV) (⟨none, 0⟩ : SlV) (⟨1, x1.who, 0, 0, 0, 0, 0, S1.2.1, (⟨[], [], []⟩ : View), (⟨[], [], [], []⟩ : Delta)⟩ : Mail)) .sq (.inl ⟨_, rfl⟩) (ae rfl) rfl rfl rfl Kr rfl rfl Sm Tk Tk ?_
    intro x3
    generalize hS2 : (cn (⟨w1.h, w1.d, w1.up, (w1.c.set x1.who.toNat S1.1), w1.mail⟩ : Wld) (⟨1, x1.who, 0, 0, 0, 0, 0, S1.2.1, (⟨[], [], []⟩ : View), (⟨[], [], [], []⟩ : Delta)⟩ : Mail)) = S2
    refine Tx ?_
    refine ak ?_; simp only [aM, hc1, hc2, hS1, hc3, hS2, Cf]; exact Re ⟨x3.1, x3.2.1, x3.2.2.1, x3.2.2.2.1, x3.2.2.2.2.1, x3.2.2.2.2.2.1, x3.2.2.2.2.2.2.1, x3.2.2.2.2.2.2.2.1, x3.2.2.2.2.2.2.2.2⟩ (Vt Vn)
  ·have hc2p := ne_of_beq_false hc2
   refine Tx ?_
   refine Cd (b := (x1.kind == 2)) (fun hc4 => ?_) fun hc4 => ?_
   ·have hc4p := eq_of_beq hc4
    refine Tx ?_
    refine Cd (b := (decide (x1.n < 0) || decide (x1.n ≥ ((gt w1.c x1.who.toNat).pending.length : Int)))) (fun hc5 => ?_) fun hc5 => ?_
    ·refine Tx ?_
     refine ak ?_; simp only [aM, hc1, hc2, hc4, hc5, Cf]; exact Re ⟨y1, y2, y3, y4, y5, y6, y6b, γ1, y7⟩ (Vt Vn)
    ·have hnr := hc5
     simp only [Bool.or_eq_false_iff, decide_eq_false_iff_not] at hnr
     refine Tx ?_
     (repeat refine ar ?_); refine aw (fun j => match j with | 10 => none | _ => some []) ?_
     refine Ra 0 rfl Qp ?_
     refine Rb 1 rfl Qp ?_
     refine Rb 2 rfl Q1 ?_
     refine Rb 3 rfl Qp ?_
     refine Rb 4 rfl Q1 ?_
     refine Rb 5 rfl Qp ?_
     refine Rb 6 rfl Q1 ?_
     refine Rb 7 rfl (q_idx EOp x1.n.toNat rfl rfl Zf rfl Zf rfl rfl rfl Mm rfl Zo (fun _ => by first | assumption | omega)) ?_
     refine Rb 8 rfl (q_leA EOp rfl rfl Zf rfl rfl Mm (fun _ => by first | assumption | omega)) ?_
     refine Ra 9 rfl Qp ?_
     refine av 10 Kr ?_
     refine Fr EInt ?_
     refine Fr EPlace ?_
     refine aX (gD c1 y1 y2 y3 y4 y5 y6 y6b γ1 y7 w1 (⟨none, 0⟩ : SlV) (⟨none, 0⟩ : SlV) (⟨none, 0⟩ : SlV) (⟨none, 0⟩ : SlV) (⟨none, 0⟩ : SlV) (⟨none, 0⟩ : SlV) (⟨none, 0⟩ : SlV) (⟨1, x1.who, 0, 0, 0, 0, 0, (gt (gt w1.c x1.who.toNat).pending x1.n.toNat), (⟨[], [], []⟩ : View), (⟨[], [], [], []⟩ : Delta)⟩ : Mail)) (.lo _ rfl rfl) (.inr fun _ h => h) (ae rfl) rfl rfl rfl Kr rfl rfl Sm Tk Tk ?_
     intro x4
     generalize hS3 : (cn w1 (⟨1, x1.who, 0, 0, 0, 0, 0, (gt (gt w1.c x1.who.toNat).pending x1.n.toNat), (⟨[], [], []⟩ : View), (⟨[], [], [], []⟩ : Delta)⟩ : Mail)) = S3
     refine bj Kr ?_
     refine Tx ?_
     refine ak ?_; simp only [aM, hc1, hc2, hc4, hc5, hS3, Cf]; exact Re ⟨x4.1, x4.2.1, x4.2.2.1, x4.2.2.2.1, x4.2.2.2.2.1, x4.2.2.2.2.2.1, x4.2.2.2.2.2.2.1, x4.2.2.2.2.2.2.2.1, x4.2.2.2.2.2.2.2.2⟩ (Vt Vn)
   ·have hc4p := ne_of_beq_false hc4
    refine Tx ?_
    refine Cd (b := (!w1.up)) (fun hc6 => ?_) fun hc6 => ?_
    ·refine Tx ?_
     refine ak ?_; simp only [aM, hc1, hc2, hc4, hc6, Cf]; exact Re ⟨y1, y2, y3, y4, y5, y6, y6b, γ1, y7⟩ (Vt Vn)
    ·have hup : w1.up = true := (by simpa using hc6)
     refine Tx ?_
     refine Cd (b := (x1.kind == 6)) (fun hc7 => ?_) fun hc7 => ?_
     ·have hc7p := eq_of_beq hc7
      refine Tx ?_
      refine aX (ni c1 y1 y2 y3 y4 y5 y6 y6b γ1 y7 w1 x1.who Zc Zc Zc) .sq (.inl ⟨_, rfl⟩) (ae rfl) rfl rfl rfl Kr rfl rfl Sm Tk Tk ?_
      intro x5
      refine Tx ?_
      refine ak ?_; simp only [aM, hc1, hc2, hc4, hc6, hc7, Cf]; exact Re ⟨x5.1, x5.2.1, x5.2.2.1, x5.2.2.2.1, x5.2.2.2.2.1, x5.2.2.2.2.2.1, x5.2.2.2.2.2.2.1, x5.2.2.2.2.2.2.2.1, x5.2.2.2.2.2.2.2.2⟩ (Vt Vn)
     ·have hc7p := ne_of_beq_false hc7
      refine Tx ?_
      refine Cd (b := (x1.kind == 5)) (fun hc8 => ?_) fun hc8 => ?_
      ·have hc8p := eq_of_beq hc8
       refine Tx ?_
       refine aX (ij c1 y1 y2 y3 y4 y5 y6 y6b γ1 y7 w1 y8 (⟨3, x1.who, 0, x1.roots, (⟨0, 0, 0, 0, 0, 0, 0⟩ : Op)⟩ : Rec)) .sq (.inl ⟨_, rfl⟩) (ae rfl) rfl rfl rfl Kr rfl rfl Sm Tk Tk ?_
       intro x6
       generalize hS4 : (ba w1 (⟨3, x1.who, 0, x1.roots, (⟨0, 0, 0, 0, 0, 0, 0⟩ : Op)⟩ : Rec)) = S4
       refine Tx ?_
       refine ak ?_; simp only [aM, hc1, hc2, hc4, hc6, hc7, hc8, hS4, Cf]; exact Re ⟨x6.1, x6.2.1, x6.2.2.1, x6.2.2.2.1, x6.2.2.2.2.1, x6.2.2.2.2.2.1, x6.2.2.2.2.2.2.1, x6.2.2.2.2.2.2.2.1, x6.2.2.2.2.2.2.2.2⟩ (Vt Vn)
      ·have hc8p := ne_of_beq_false hc8
       refine Tx ?_
       refine aX (nC c1 y1 y2 y3 y4 y5 y6 y6b γ1 y7 w1 y8 x1 (hv (by assumption))) .sq (.inl ⟨_, rfl⟩) (ae rfl) rfl rfl rfl Kr rfl rfl Sm Tk Tk ?_
       intro x7
       refine Tx ?_
       refine ak ?_; simp only [aM, hc1, hc2, hc4, hc6, hc7, hc8, Cf]; exact Re ⟨x7.1, x7.2.1, x7.2.2.1, x7.2.2.2.1, x7.2.2.2.2.1, x7.2.2.2.2.2.1, x7.2.2.2.2.2.2.1, x7.2.2.2.2.2.2.2.1, x7.2.2.2.2.2.2.2.2⟩ (Vt Vn)
def aq (w1 : Wld) (x1 : Happening) : Int × Wld :=
 (bif (x1.kind == 7) then ((bR w1 x1).1, (bR w1 x1).2) else (bif (x1.kind == 8) then ((bR w1 x1).1, (bR w1 x1).2) else (bif (x1.kind == 9) then (bif ((aC w1.mail x1.n false).2.2 == 0) then ((aC w1.mail x1.n false).2.2, (⟨w1.h, w1.d, w1.up, w1.c, (aC w1.mail x1.n false).1⟩ : Wld)) else ((aC w1.mail x1.n false).2.2, w1)) else (bif (x1.kind == 10) then ((bI w1 x1).1, (bI w1 x1).2) else (bif (x1.kind == 11) then ((bI w1 x1).1, (bI w1 x1).2) else (bif (x1.kind == 1) then ((aM w1 x1).1, (aM w1 x1).2) else (bif (x1.kind == 2) then ((aM w1 x1).1, (aM w1 x1).2) else (bif (x1.kind == 3) then ((aM w1 x1).1, (aM w1 x1).2) else (bif (x1.kind == 4) then ((aM w1 x1).1, (aM w1 x1).2) else (bif (x1.kind == 5) then ((aM w1 x1).1, (aM w1 x1).2) else (bif (x1.kind == 6) then ((aM w1 x1).1, (aM w1 x1).2) else (4, w1))))))))))))
theorem jF (c1 : Nat) (y1 : SlV) (y2 : SlV) (y3 : SlV) (y4 : SlV) (y5 : SlV) (y6 : SlV) (y6b : Option Nat) (γ1 : Nat → SlV × SlV × SlV × SlV) (y7 : SlV) (w1 : Wld) (y8 : SlV) (x1 : Happening) (hk : cN w1.h = 0) (hc : w1.c.length = 3) (hv : w1.up = true → w1.h.version ≤ ((aH w1.d).2.1.length : Int)) : DoesG Tryz.prog 26 [.pointer (some ⟨c1, 0, none⟩), .agg ⟨[.int .i64 x1.kind, .int .i64 x1.who, .int .i64 x1.n, .int .i64 x1.node, .int .i64 x1.parent, .int .i64 x1.name, y8.val x1.roots.length]⟩] [RdL EStep y1 w1.h.h.l, RdL EPlace y2 w1.h.h.t, RdN NPeer y3 w1.h.peers, RdL EByte y4 w1.d.safe, RdL EByte y5 w1.d.wait, ao NClient γ1 w1.c, RdN NMail y7 w1.mail, RdL EInt y8 x1.roots, LibP Tryz.prog] ⟨[⟨c1, 37, [y1.val w1.h.h.l.length, y2.val w1.h.h.t.length, .int .i64 w1.h.version, y3.val w1.h.peers.length, y4.val w1.d.safe.length, y5.val w1.d.wait.length, .bool w1.up, y6.val w1.c.length, y7.val w1.mail.length]⟩], [ownL NClient.E 60 y6 y6b (zipG γ1 0 w1.c)]⟩ (fun (X : SlV × SlV × SlV × SlV × SlV × SlV × Option Nat × (Nat → SlV × SlV × SlV × SlV) × SlV) => .int .i64 (aq w1 x1).1) (fun X => [RdL EStep X.1 (aq w1 x1).2.h.h.l, RdL EPlace X.2.1 (aq w1 x1).2.h.h.t, RdN NPeer X.2.2.1 (aq w1 x1).2.h.peers, RdL EByte X.2.2.2.1 (aq w1 x1).2.d.safe, RdL EByte X.2.2.2.2.1 (aq w1 x1).2.d.wait, ao NClient X.2.2.2.2.2.2.2.1 (aq w1 x1).2.c, RdN NMail X.2.2.2.2.2.2.2.2 (aq w1 x1).2.mail]) (fun X => ⟨[⟨c1, 37, [X.1.val (aq w1 x1).2.h.h.l.length, X.2.1.val (aq w1 x1).2.h.h.t.length, .int .i64 (aq w1 x1).2.h.version, X.2.2.1.val (aq w1 x1).2.h.peers.length, X.2.2.2.1.val (aq w1 x1).2.d.safe.length, X.2.2.2.2.1.val (aq w1 x1).2.d.wait.length, .bool (aq w1 x1).2.up, X.2.2.2.2.2.1.val (aq w1 x1).2.c.length, X.2.2.2.2.2.2.2.2.val (aq w1 x1).2.mail.length]⟩], [ownL NClient.E 60 X.2.2.2.2.2.1 X.2.2.2.2.2.2.1 (zipG X.2.2.2.2.2.2.2.1 0 (aq w1 x1).2.c)]⟩) := by
 refine cF aV Tryz.func26 rfl Tryz.ntmps26 Tryz.results26 rfl inferInstance (fun _ => inferInstance) fun C => ?_
 refine Pc EInt y8 x1.roots 8 fun hlen1 => ?_
 refine Tx ?_
 refine Bx fun g1 => ?_
 refine Tx ?_
 refine Cd (b := (x1.kind == 7)) (fun hc1 => ?_) fun hc1 => ?_
 ·have hc1p := eq_of_beq hc1
  refine Tx ?_
  refine Cd (b := (x1.kind == 7)) (fun hc2 => ?_) fun hc2 => ?_
  ·refine Tx ?_
   refine aX (kS c1 y1 y2 y3 y4 y5 y6 y6b γ1 y7 w1 y8 x1 Zc) .sq (.inl ⟨_, rfl⟩) (ae rfl) rfl rfl rfl Kr rfl rfl Sm Tk Tk ?_
   intro x2
   refine Tx ?_
   refine ak ?_; simp only [aq, hc1, Cf]; exact Re ⟨x2.1, x2.2.1, x2.2.2.1, x2.2.2.2.1, x2.2.2.2.2.1, x2.2.2.2.2.2.1, x2.2.2.2.2.2.2.1, x2.2.2.2.2.2.2.2.1, x2.2.2.2.2.2.2.2.2⟩ (Vt Vn)
  ·exact Bool.noConfusion (hc2.symm.trans hc1)
 ·have hc1p := ne_of_beq_false hc1
  refine Tx ?_
  refine Cd (b := (x1.kind == 8)) (fun hc3 => ?_) fun hc3 => ?_
  ·have hc3p := eq_of_beq hc3
   refine Tx ?_
   refine aX (kS c1 y1 y2 y3 y4 y5 y6 y6b γ1 y7 w1 y8 x1 Zc) .sq (.inl ⟨_, rfl⟩) (ae rfl) rfl rfl rfl Kr rfl rfl Sm Tk Tk ?_
   intro x3
   refine Tx ?_
   refine ak ?_; simp only [aq, hc1, hc3, Cf]; exact Re ⟨x3.1, x3.2.1, x3.2.2.1, x3.2.2.2.1, x3.2.2.2.2.1, x3.2.2.2.2.2.1, x3.2.2.2.2.2.2.1, x3.2.2.2.2.2.2.2.1, x3.2.2.2.2.2.2.2.2⟩ (Vt Vn)
  ·have hc3p := ne_of_beq_false hc3
   refine Tx ?_
   refine Cd (b := (x1.kind == 9)) (fun hc4 => ?_) fun hc4 => ?_
   ·have hc4p := eq_of_beq hc4
    (repeat refine ar ?_)
    refine ge [0, 4] [true, true] (fun (x4 : SlV) => [(5, .v (x4.val (aC w1.mail x1.n false).1.length)), (7, .v (.int .i64 (aC w1.mail x1.n false).2.2))]) (fun (x4 : SlV) => []) (fun (x4 : SlV) => [ownL NClient.E 60 y6 y6b (zipG γ1 0 w1.c)]) (fun (x4 : SlV) => [RdN NMail x4 (aC w1.mail x1.n false).1]) (fun _ => True) (.cons rfl (.cons rfl (.nil _))) (.keep (.keep (.nil))) ?_ ?_
    ·refine aw (fun j => match j with | 13 => none | _ => some []) ?_
     refine Rb 0 rfl Qp ?_
     refine Rb 1 rfl Qp ?_
     refine Rb 2 rfl Qp ?_
     refine Rb 3 rfl Q1 ?_
     refine Rb 4 rfl Qp ?_
     refine Rb 5 rfl Q1 ?_
     refine fF 6 11 Kr ?_ ?_
     ·refine cR (iy y7 w1.mail x1.n false) (.an rfl rfl) (ae rfl) rfl rfl rfl Kr rfl rfl Sm ?_
      intro x5
      refine Ra 7 rfl Qp ?_
      refine Ra 8 rfl Qp ?_
      refine Ra 9 rfl Qp ?_
      refine ra_p (.an (i := 10) (js := [11, 12, 13]) rfl Kr Kr Kr Kr) rfl rfl rfl (q_pev rfl Zf) ?_
      refine av 11 Kr ?_
      refine dh (.an rfl rfl) (ae rfl) rfl rfl rfl rfl fun g2 => ?_
      refine Ra 12 rfl Qp ?_
      refine av 13 Kr ?_
      refine di (.lo [g2] rfl rfl) (.inr (by simp)) (ae rfl) rfl rfl rfl rfl rfl rfl rfl rfl rfl Ub rfl ?_
      refine Ra 14 rfl Qp ?_
      refine bj Kr ?_
      refine ⟨x5.1, trivial, Le4⟩
     ·refine dh (.an rfl rfl) (ae rfl) rfl rfl rfl rfl fun g3 => ?_
      refine av 6 Kr ?_
      refine cR (iy y7 w1.mail x1.n false) (.an rfl rfl) (ae rfl) rfl rfl rfl Kr rfl rfl Sm ?_
      intro x6
      refine Ra 7 rfl Qp ?_
      refine Ra 8 rfl Qp ?_
      refine Ra 9 rfl Qp ?_
      refine ra_p (.an (i := 10) (js := [12, 13]) rfl Kr Kr Kr Kr) rfl rfl rfl (q_pev rfl Zf) ?_
      refine Ra 12 rfl Qp ?_
      refine av 13 Kr ?_
      refine di (.lo [g3] rfl rfl) (.inr (by simp)) (ae rfl) rfl rfl rfl rfl rfl rfl rfl rfl rfl Ub rfl ?_
      refine Ra 14 rfl Qp ?_
      refine bj Kr ?_
      refine ⟨x6.1, trivial, Le4⟩
    ·rintro x4 -
     simp only [List.cons_append, List.nil_append]
     refine Tx ?_
     refine Cd (b := ((aC w1.mail x1.n false).2.2 == 0)) (fun hc5 => ?_) fun hc5 => ?_
     ·have hc5p := eq_of_beq hc5
      refine Tx ?_
      refine ak ?_; simp only [aq, hc1, hc3, hc4, hc5, Cf]; exact Re ⟨y1, y2, y3, y4, y5, y6, y6b, γ1, x4⟩ (Vt Vn)
     ·have hc5p := ne_of_beq_false hc5
      refine Tx ?_
      refine ak ?_; simp only [aq, hc1, hc3, hc4, hc5, Cf]; exact Re ⟨y1, y2, y3, y4, y5, y6, y6b, γ1, y7⟩ (Vt Vn)
   ·have hc4p := ne_of_beq_false hc4
    refine Tx ?_
    refine Cd (b := (x1.kind == 10)) (fun hc6 => ?_) fun hc6 => ?_
    ·have hc6p := eq_of_beq hc6
     refine Tx ?_
     refine Cd (b := (x1.kind == 10)) (fun hc7 => ?_) fun hc7 => ?_
     ·refine Tx ?_
      refine aX (kv c1 y1 y2 y3 y4 y5 y6 y6b γ1 y7 w1 y8 x1) .sq (.inl ⟨_, rfl⟩) (ae rfl) rfl rfl rfl Kr rfl rfl Sm Tk Tk ?_
      intro x7
      refine Tx ?_
      refine ak ?_; simp only [aq, hc1, hc3, hc4, hc6, Cf]; exact Re ⟨x7.1, x7.2.1, x7.2.2.1, x7.2.2.2.1, x7.2.2.2.2.1, x7.2.2.2.2.2.1, x7.2.2.2.2.2.2.1, x7.2.2.2.2.2.2.2.1, x7.2.2.2.2.2.2.2.2⟩ (Vt Vn)
     ·exact Bool.noConfusion (hc7.symm.trans hc6)
    ·have hc6p := ne_of_beq_false hc6
     refine Tx ?_
     refine Cd (b := (x1.kind == 11)) (fun hc8 => ?_) fun hc8 => ?_
     ·have hc8p := eq_of_beq hc8
      refine Tx ?_
      refine aX (kv c1 y1 y2 y3 y4 y5 y6 y6b γ1 y7 w1 y8 x1) .sq (.inl ⟨_, rfl⟩) (ae rfl) rfl rfl rfl Kr rfl rfl Sm Tk Tk ?_
      intro x8
      refine Tx ?_
      refine ak ?_; simp only [aq, hc1, hc3, hc4, hc6, hc8, Cf]; exact Re ⟨x8.1, x8.2.1, x8.2.2.1, x8.2.2.2.1, x8.2.2.2.2.1, x8.2.2.2.2.2.1, x8.2.2.2.2.2.2.1, x8.2.2.2.2.2.2.2.1, x8.2.2.2.2.2.2.2.2⟩ (Vt Vn)
     ·have hc8p := ne_of_beq_false hc8
      refine Tx ?_
      refine Cd (b := (x1.kind == 1)) (fun hc9 => ?_) fun hc9 => ?_
      ·have hc9p := eq_of_beq hc9
       refine Tx ?_
       refine Cd (b := (x1.kind == 1)) (fun hc10 => ?_) fun hc10 => ?_
       ·refine Tx ?_
        refine aX (en c1 y1 y2 y3 y4 y5 y6 y6b γ1 y7 w1 y8 x1 Zc Zc Zc) .sq (.inl ⟨_, rfl⟩) (ae rfl) rfl rfl rfl Kr rfl rfl Sm Tk Tk ?_
        intro x9
        refine Tx ?_
        refine ak ?_; simp only [aq, hc1, hc3, hc4, hc6, hc8, hc9, Cf]; exact Re ⟨x9.1, x9.2.1, x9.2.2.1, x9.2.2.2.1, x9.2.2.2.2.1, x9.2.2.2.2.2.1, x9.2.2.2.2.2.2.1, x9.2.2.2.2.2.2.2.1, x9.2.2.2.2.2.2.2.2⟩ (Vt Vn)
       ·exact Bool.noConfusion (hc10.symm.trans hc9)
      ·have hc9p := ne_of_beq_false hc9
       refine Tx ?_
       refine Cd (b := (x1.kind == 2)) (fun hc11 => ?_) fun hc11 => ?_
       ·have hc11p := eq_of_beq hc11
        refine Tx ?_
        refine Cd (b := (x1.kind == 2)) (fun hc12 => ?_) fun hc12 => ?_
        ·refine Tx ?_
         refine aX (en c1 y1 y2 y3 y4 y5 y6 y6b γ1 y7 w1 y8 x1 Zc Zc Zc) .sq (.inl ⟨_, rfl⟩) (ae rfl) rfl rfl rfl Kr rfl rfl Sm Tk Tk ?_
         intro x10
         refine Tx ?_
         refine ak ?_; simp only [aq, hc1, hc3, hc4, hc6, hc8, hc9, hc11, Cf]; exact Re ⟨x10.1, x10.2.1, x10.2.2.1, x10.2.2.2.1, x10.2.2.2.2.1, x10.2.2.2.2.2.1, x10.2.2.2.2.2.2.1, x10.2.2.2.2.2.2.2.1, x10.2.2.2.2.2.2.2.2⟩ (Vt Vn)
        ·exact Bool.noConfusion (hc12.symm.trans hc11)
       ·have hc11p := ne_of_beq_false hc11
        refine Tx ?_
        refine Cd (b := (x1.kind == 3)) (fun hc13 => ?_) fun hc13 => ?_
        ·have hc13p := eq_of_beq hc13
         refine Tx ?_
         refine Cd (b := (x1.kind == 3)) (fun hc14 => ?_) fun hc14 => ?_
         ·refine Tx ?_
          refine aX (en c1 y1 y2 y3 y4 y5 y6 y6b γ1 y7 w1 y8 x1 Zc Zc Zc) .sq (.inl ⟨_, rfl⟩) (ae rfl) rfl rfl rfl Kr rfl rfl Sm Tk Tk ?_
          intro x11
          refine Tx ?_
          refine ak ?_; simp only [aq, hc1, hc3, hc4, hc6, hc8, hc9, hc11, hc13, Cf]; exact Re ⟨x11.1, x11.2.1, x11.2.2.1, x11.2.2.2.1, x11.2.2.2.2.1, x11.2.2.2.2.2.1, x11.2.2.2.2.2.2.1, x11.2.2.2.2.2.2.2.1, x11.2.2.2.2.2.2.2.2⟩ (Vt Vn)
         ·exact Bool.noConfusion (hc14.symm.trans hc13)
        ·have hc13p := ne_of_beq_false hc13
         refine Tx ?_
         refine Cd (b := (x1.kind == 4)) (fun hc15 => ?_) fun hc15 => ?_
         ·have hc15p := eq_of_beq hc15
          refine Tx ?_
          refine Cd (b := (x1.kind == 4)) (fun hc16 => ?_) fun hc16 => ?_
          ·refine Tx ?_
           refine aX (en c1 y1 y2 y3 y4 y5 y6 y6b γ1 y7 w1 y8 x1 Zc Zc Zc) .sq (.inl ⟨_, rfl⟩) (ae rfl) rfl rfl rfl Kr rfl rfl Sm Tk Tk ?_
           intro x12
           refine Tx ?_
           refine ak ?_; simp only [aq, hc1, hc3, hc4, hc6, hc8, hc9, hc11, hc13, hc15, Cf]; exact Re ⟨x12.1, x12.2.1, x12.2.2.1, x12.2.2.2.1, x12.2.2.2.2.1, x12.2.2.2.2.2.1, x12.2.2.2.2.2.2.1, x12.2.2.2.2.2.2.2.1, x12.2.2.2.2.2.2.2.2⟩ (Vt Vn)
          ·exact Bool.noConfusion (hc16.symm.trans hc15)
         ·have hc15p := ne_of_beq_false hc15
          refine Tx ?_
          refine Cd (b := (x1.kind == 5)) (fun hc17 => ?_) fun hc17 => ?_
          ·have hc17p := eq_of_beq hc17
           refine Tx ?_
           refine Cd (b := (x1.kind == 5)) (fun hc18 => ?_) fun hc18 => ?_
           ·refine Tx ?_
            refine aX (en c1 y1 y2 y3 y4 y5 y6 y6b γ1 y7 w1 y8 x1 Zc Zc Zc) .sq (.inl ⟨_, rfl⟩) (ae rfl) rfl rfl rfl Kr rfl rfl Sm Tk Tk ?_
            intro x13
            refine Tx ?_
            refine ak ?_; simp only [aq, hc1, hc3, hc4, hc6, hc8, hc9, hc11, hc13, hc15, hc17, Cf]; exact Re ⟨x13.1, x13.2.1, x13.2.2.1, x13.2.2.2.1, x13.2.2.2.2.1, x13.2.2.2.2.2.1, x13.2.2.2.2.2.2.1, x13.2.2.2.2.2.2.2.1, x13.2.2.2.2.2.2.2.2⟩ (Vt Vn)
           ·exact Bool.noConfusion (hc18.symm.trans hc17)
          ·have hc17p := ne_of_beq_false hc17
           refine Tx ?_
           refine Cd (b := (x1.kind == 6)) (fun hc19 => ?_) fun hc19 => ?_
           ·have hc19p := eq_of_beq hc19
            refine Tx ?_
            refine aX (en c1 y1 y2 y3 y4 y5 y6 y6b γ1 y7 w1 y8 x1 Zc Zc Zc) .sq (.inl ⟨_, rfl⟩) (ae rfl) rfl rfl rfl Kr rfl rfl Sm Tk Tk ?_
            intro x14
            refine Tx ?_
            refine ak ?_; simp only [aq, hc1, hc3, hc4, hc6, hc8, hc9, hc11, hc13, hc15, hc17, hc19, Cf]; exact Re ⟨x14.1, x14.2.1, x14.2.2.1, x14.2.2.2.1, x14.2.2.2.2.1, x14.2.2.2.2.2.1, x14.2.2.2.2.2.2.1, x14.2.2.2.2.2.2.2.1, x14.2.2.2.2.2.2.2.2⟩ (Vt Vn)
           ·have hc19p := ne_of_beq_false hc19
            refine Tx ?_
            refine ak ?_; simp only [aq, hc1, hc3, hc4, hc6, hc8, hc9, hc11, hc13, hc15, hc17, hc19, Cf]; exact Re ⟨y1, y2, y3, y4, y5, y6, y6b, γ1, y7⟩ (Vt Vn)
end Go.Proofs.YtgkggkgdceapgaaGreatDoor

namespace Go.Proofs.YtgkggkgdceapgaaGreatDoor
open Go Go.Proofs.YtgkggkgdceapgaaGreatDoor.Fw Go.Proofs
def bz (l : List Rec) : Str := l.flatMap (fun r => jN r ++ [10])
theorem fN : bz [] = [] := rfl
theorem iG (r : Rec) (l : List Rec) : bz (r :: l) = jN r ++ 10 :: bz l := by simp [bz]
theorem fO (a b : List Rec) : bz (a ++ b) = bz a ++ bz b := by simp [bz]
theorem qr (l : List Rec) : l.length ≤ (bz l).length := by
 induction l with
 | nil => simp
 | cons r l ih => rw [iG]; simp only [List.length_append, List.length_cons]; omega
theorem wJ (r : Rec) : (10 : UInt8) ∉ wordOf r := by
 unfold wordOf
 cases (r.kind == 1) <;> cases (r.kind == 2) <;> simp
theorem uy : ∀ (l : List Int), (10 : UInt8) ∉ glue 32 (l.map Lib.itoa)
 | [] => by simp [glue]
 | n :: l => by
  have h1 : (10 : UInt8) ∉ Lib.itoa n := uv (by decide)
  have h2 := uy l
  simp only [glue, List.map_cons, List.flatMap_cons, List.mem_append, List.mem_cons] at h2 ⊢
  intro h
  rcases h with (h | h) | h
  ·exact absurd h (by decide)
  ·exact h1 h
  ·exact h2 h
theorem pr_nl (r : Rec) : (10 : UInt8) ∉ jN r := by
 intro h
 rcases List.mem_append.1 h with h | h
 ·exact wJ r h
 ·exact uy _ h
abbrev AllR (l : List Rec) : Prop := ∀ r ∈ l, aQ r = 0
theorem s8 {r : Rec} (hr : aQ r = 0) (s0 : Str) (most : Int) (f : Nat) (t : Str) (acc : List Rec) (h : (acc.length : Int) ≠ most) :
  bP s0 most (f + 1) (jN r ++ 10 :: t) acc = bP s0 most f t (acc ++ [r]) := by
 have h1 : ((jN r ++ 10 :: t) != ([] : Str)) = true := by simp
 have h2 : ((acc.length : Int) == most) = false := by simpa using h
 rw [bP]
 simp only [h1, pV t (pr_nl r), rC hr, h2, cond_true, cond_false, Bool.not_true, bne_self_eq_false]
theorem pc (s0 : Str) (most : Int) (t : Str) : ∀ (l acc : List Rec) (f : Nat), AllR l → ((acc.length + l.length : Nat) : Int) ≤ most →
  bP s0 most (f + l.length) (bz l ++ t) acc = bP s0 most f t (acc ++ l)
 | [], acc, f, _, _ => by simp [fN]
 | r :: l, acc, f, hl, hm => by
  simp only [List.length_cons] at hm
  have e : f + (r :: l).length = (f + l.length) + 1 := by simp only [List.length_cons]; omega
  rw [e, iG, List.append_assoc, List.cons_append, s8 (hl r (.head _)) s0 most _ _ _ (by omega),
   pc s0 most t l (acc ++ [r]) f (fun x hx => hl x (.tail _ hx)) (by simp only [List.length_append, List.length_cons, List.length_nil]; omega)]
  simp
theorem uo (s0 : Str) (most : Int) (f : Nat) {t : Str} (ht : (10 : UInt8) ∉ t) (acc : List Rec) :
  bP s0 most (f + 1) t acc = (acc, (s0.length : Int) - (t.length : Int), if t = [] then 0 else 8) := by
 rw [bP]
 by_cases h : t = []
 ·subst h
  simp
 ·have h1 : (t != ([] : Str)) = true := by simpa using h
  simp only [h1, rn ht, cond_true, Bool.not_false, if_neg h]
theorem rX (most : Int) {l : List Rec} (hl : AllR l) {t : Str} (ht : (10 : UInt8) ∉ t) (hm : (l.length : Int) ≤ most) :
  aB (bz l ++ t) most = (l, ((bz l).length : Int), if t = [] then 0 else 8) := by
 have hlen := qr l
 have e : (bz l ++ t).length + 1 = ((bz l).length - l.length + t.length + 1) + l.length := by simp only [List.length_append]; omega
 unfold aB
 rw [e, pc _ _ _ _ _ _ hl (by simpa using hm), uo _ _ _ ht]
 simp only [List.nil_append, List.length_append]
 congr 2
 omega
theorem od (most : Int) {l : List Rec} (hl : AllR l) (hm : (l.length : Int) ≤ most) :
  aB (bz l) most = (l, ((bz l).length : Int), 0) := by
 have := rX most hl (t := []) (by simp) hm
 simpa using this
theorem kq {a : List Rec} {w : Str} (ha : AllR a) (hn : a.length ≤ 60) (hl : (bz a).length + w.length ≤ 60000) : c8 ⟨bz a, w⟩ = 0 := by
 unfold c8
 have h : (decide (((bz a).length : Int) > 60000) || decide ((w.length : Int) > (60000 - ((bz a).length : Int)))) = false := by
  simp only [Bool.or_eq_false_iff, decide_eq_false_iff_not]; omega
 simp only [h, cond_false, od 60 ha (by omega)]
theorem pS {a b : List Rec} {t : Str} (ha : AllR a) (hb : AllR b) (hn : a.length + b.length ≤ 60) (ht : (10 : UInt8) ∉ t) (hl : (bz a).length + (bz b ++ t).length ≤ 60000) :
  aH ⟨bz a, bz b ++ t⟩ = (⟨bz (a ++ b), []⟩, a ++ b, 0) := by
 unfold aH
 have h2 : (bz b ++ t).take (bz b).length = bz b := by simp
 simp only [kq ha (by omega) hl, od 60 ha (by omega), rX (60 - (a.length : Int)) hb ht (by omega), bne_self_eq_false, cond_false, Int.toNat_natCast, h2, List.flatten_cons, List.flatten_nil, List.append_nil, fO]
theorem iY : ∀ {l : List Rec}, AllR l → (bz l).length ≤ 160 * l.length
 | [], _ => by simp [fN]
 | r :: l, h => by
  have h1 := lv (h r (.head _))
  have h2 := iY (fun x hx => h x (.tail r hx))
  rw [iG]
  simp only [List.length_append, List.length_cons]
  omega
theorem vU {a : List Rec} {q : Rec} (ha : AllR a) (hq : aQ q = 0) (hn : a.length < 60) : dR ⟨bz a, []⟩ q = (⟨bz a, bz [q]⟩, 0) := by
 have h1 := iY ha
 have h2 := lv hq
 have h3 : c8 ⟨bz a, []⟩ = 0 := kq ha (by omega) (by simp only [List.length_nil]; omega)
 unfold dR
 have h4 : decide ((((jN q).length : Int) + 1) > ((60000 - ((bz a).length : Int)) - (([] : List UInt8).length : Int))) = false := by
  simp only [List.length_nil, decide_eq_false_iff_not]; omega
 simp only [h3, sH, if_pos hq, bne_self_eq_false, cond_false, h4]
 simp [bz]
theorem uV {a b : List Rec} (ha : AllR a) (hb : AllR b) (hn : a.length + b.length ≤ 60) : eT ⟨bz a, bz b⟩ = (⟨bz (a ++ b), []⟩, 0) := by
 have h1 := iY ha
 have h2 := iY hb
 have hab : AllR (a ++ b) := fun x hx => (List.mem_append.1 hx).elim (ha x) (hb x)
 have h3 : c8 ⟨bz a, bz b⟩ = 0 := kq ha (by omega) (by omega)
 have h4 : c8 ⟨bz (a ++ b), []⟩ = 0 := kq hab (by rw [List.length_append]; omega) (by rw [fO, List.length_append, List.length_nil]; omega)
 unfold eT
 simp only [List.flatten_cons, List.flatten_nil, List.append_nil, ← fO, h3, h4, bne_self_eq_false, cond_false]
end Go.Proofs.YtgkggkgdceapgaaGreatDoor
