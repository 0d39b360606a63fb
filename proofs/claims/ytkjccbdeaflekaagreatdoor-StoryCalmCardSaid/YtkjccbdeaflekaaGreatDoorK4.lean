/- Part of this claim. No condition. -/
import Derived.Test.YtkjccbdeaflekaaGreatDoorK3
import Derived.Test.YtkjccbdeaflekaaGreatDoorK2
set_option linter.unusedVariables false
set_option linter.unusedSimpArgs false
set_option maxHeartbeats 2000000
namespace Go.Proofs.YtkjccbdeaflekaaGreatDoor
open Go Go.Proofs.YtkjccbdeaflekaaGreatDoor.Fw Go.Proofs
attribute [local irreducible] RW CW
theorem bX (x : SlV) (l : List Int) : DoesG Tryz.prog 117 [x.val l.length] [RdL EInt x l] ⟨[], []⟩ (fun (X : SlV × Option Nat) => X.1.val l.length) (fun _ => []) (fun X => ⟨[], [ownL EInt 3 X.1 X.2 l]⟩) := by
 refine Dq aK Tryz.func117 Tryz.ntmps117 Tryz.results117 fun C => ?_
 refine dx (φ := l.length * EInt.by_ ≤ 140737488355328) [RdL EInt x l] Sm (fun M w h => (allF1 h).len) fun hlen => ?_
 refine Sy Tz (jZ rfl rfl Zf rfl) ?_
 refine dD ?_
 (repeat refine aD ?_); refine ij rfl rfl (fun hc0 => ?_) (fun hc0 => ?_)
 ·refine dx [RdL EInt x l] Sm (fun M w h => (allF1 h).nil_of hc0) fun hnil => ?_
  subst hnil
  refine cw_le (eH EInt 3) ?_
  refine Tx ?_
  (repeat refine aD ?_); refine di ?_
  exact ⟨(⟨none, 0⟩, none), _, (.cons (.tmp rfl) .nil), rfl, .nil _, .nil _, Sp⟩
 ·refine Bl EInt [] fun x1 x1b => ?_
  refine Rp rfl rfl rfl rfl ?_
  refine Ap EInt 8 [] l x1b (hb := by simp only [List.length_nil, Nat.zero_add]; exact hlen) fun x2 x2b => ?_
  refine Tx ?_
  (repeat refine aD ?_); refine di ?_
  exact ⟨(x2, x2b), _, (.cons (.tmp rfl) .nil), rfl, .nil _, .nil _, Sp⟩
theorem ct (x : SlV) (l : List Place) : DoesG Tryz.prog 172 [x.val l.length] [RdL EPlace x l] ⟨[], []⟩ (fun (X : SlV × Option Nat) => X.1.val l.length) (fun _ => []) (fun X => ⟨[], [ownL EPlace 99 X.1 X.2 l]⟩) := by
 refine Dq aK Tryz.func172 Tryz.ntmps172 Tryz.results172 fun C => ?_
 refine dx (φ := l.length * EPlace.by_ ≤ 140737488355328) [RdL EPlace x l] Sm (fun M w h => (allF1 h).len) fun hlen => ?_
 refine Sy Tz (jZ rfl rfl Zf rfl) ?_
 refine dD ?_
 (repeat refine aD ?_); refine ij rfl rfl (fun hc0 => ?_) (fun hc0 => ?_)
 ·refine dx [RdL EPlace x l] Sm (fun M w h => (allF1 h).nil_of hc0) fun hnil => ?_
  subst hnil
  refine cw_le (eH EPlace 99) ?_
  refine Tx ?_
  (repeat refine aD ?_); refine di ?_
  exact ⟨(⟨none, 0⟩, none), _, (.cons (.tmp rfl) .nil), rfl, .nil _, .nil _, Sp⟩
 ·refine Bl EPlace [] fun x1 x1b => ?_
  refine Rp rfl rfl rfl rfl ?_
  refine Ap EPlace 24 [] l x1b (hb := by simp only [List.length_nil, Nat.zero_add]; exact hlen) fun x2 x2b => ?_
  refine Tx ?_
  (repeat refine aD ?_); refine di ?_
  exact ⟨(x2, x2b), _, (.cons (.tmp rfl) .nil), rfl, .nil _, .nil _, Sp⟩
theorem il (x : SlV) (l : List Op) : DoesG Tryz.prog 133 [x.val l.length] [RdL EOp x l] ⟨[], []⟩ (fun (X : SlV × Option Nat) => X.1.val l.length) (fun _ => []) (fun X => ⟨[], [ownL EOp 76 X.1 X.2 l]⟩) := by
 refine Dq aK Tryz.func133 Tryz.ntmps133 Tryz.results133 fun C => ?_
 refine dx (φ := l.length * EOp.by_ ≤ 140737488355328) [RdL EOp x l] Sm (fun M w h => (allF1 h).len) fun hlen => ?_
 refine Sy Tz (jZ rfl rfl Zf rfl) ?_
 refine dD ?_
 (repeat refine aD ?_); refine ij rfl rfl (fun hc0 => ?_) (fun hc0 => ?_)
 ·refine dx [RdL EOp x l] Sm (fun M w h => (allF1 h).nil_of hc0) fun hnil => ?_
  subst hnil
  refine cw_le (eH EOp 76) ?_
  refine Tx ?_
  (repeat refine aD ?_); refine di ?_
  exact ⟨(⟨none, 0⟩, none), _, (.cons (.tmp rfl) .nil), rfl, .nil _, .nil _, Sp⟩
 ·refine Bl EOp [] fun x1 x1b => ?_
  refine Rp rfl rfl rfl rfl ?_
  refine Ap EOp 56 [] l x1b (hb := by simp only [List.length_nil, Nat.zero_add]; exact hlen) fun x2 x2b => ?_
  refine Tx ?_
  (repeat refine aD ?_); refine di ?_
  exact ⟨(x2, x2b), _, (.cons (.tmp rfl) .nil), rfl, .nil _, .nil _, Sp⟩
theorem kE (x : SlV) (l : List Step) : DoesG Tryz.prog 170 [x.val l.length] [RdL EStep x l] ⟨[], []⟩ (fun (X : SlV × Option Nat) => X.1.val l.length) (fun _ => []) (fun X => ⟨[], [ownL EStep 157 X.1 X.2 l]⟩) := by
 refine Dq aK Tryz.func170 Tryz.ntmps170 Tryz.results170 fun C => ?_
 refine dx (φ := l.length * EStep.by_ ≤ 140737488355328) [RdL EStep x l] Sm (fun M w h => (allF1 h).len) fun hlen => ?_
 refine Sy Tz (jZ rfl rfl Zf rfl) ?_
 refine dD ?_
 (repeat refine aD ?_); refine ij rfl rfl (fun hc0 => ?_) (fun hc0 => ?_)
 ·refine dx [RdL EStep x l] Sm (fun M w h => (allF1 h).nil_of hc0) fun hnil => ?_
  subst hnil
  refine cw_le (eH EStep 157) ?_
  refine Tx ?_
  (repeat refine aD ?_); refine di ?_
  exact ⟨(⟨none, 0⟩, none), _, (.cons (.tmp rfl) .nil), rfl, .nil _, .nil _, Sp⟩
 ·refine Bl EStep [] fun x1 x1b => ?_
  refine Rp rfl rfl rfl rfl ?_
  refine Ap EStep 88 [] l x1b (hb := by simp only [List.length_nil, Nat.zero_add]; exact hlen) fun x2 x2b => ?_
  refine Tx ?_
  (repeat refine aD ?_); refine di ?_
  exact ⟨(x2, x2b), _, (.cons (.tmp rfl) .nil), rfl, .nil _, .nil _, Sp⟩
theorem nC {α : Type} [Inhabited α] (ls : List (List α)) {k : Nat} (h : k < ls.length) : (ls.take (k + 1)).flatten = (ls.take k).flatten ++ gt ls k ∧ (ls.take k).flatten.length + (gt ls k).length ≤ ls.flatten.length := by
 have h1 : (ls.take (k + 1)).flatten = (ls.take k).flatten ++ gt ls k := by
  rw [gt_eq h, ← List.take_append_getElem h, List.flatten_append]; simp only [List.flatten_cons, List.flatten_nil, List.append_nil]
 refine ⟨h1, ?_⟩
 have h2 : ls.flatten = (ls.take (k + 1)).flatten ++ (ls.drop (k + 1)).flatten := by rw [← List.flatten_append, List.take_append_drop]
 rw [h2, h1]; simp only [List.length_append]; omega
def c6 (s2 : List Int) : List Int → Nat → Bool
 | [], n1 => true
 | pn1 :: rn1, n1 => (bif (pn1 != (gt s2 n1)) then false else (c6 s2 rn1 (n1 + 1)))
def eY (s1 : List Int) (s2 : List Int) : Bool :=
 (bif ((s1.length : Int) != (s2.length : Int)) then false else (c6 s2 s1 0))
theorem kN (y1 : SlV) (s1 : List Int) (y2 : SlV) (s2 : List Int) : Does Tryz.prog 60 [y1.val s1.length, y2.val s2.length] [RdL EInt y1 s1, RdL EInt y2 s2] (fun (_ : Unit) => .bool (eY s1 s2)) (fun _ => []) := by
 refine Dp aK Tryz.func60 Tryz.ntmps60 Tryz.results60 fun C => ?_
 refine Pc EInt y1 s1 8 fun hlen1 => ?_
 refine Pc EInt y2 s2 8 fun hlen2 => ?_
 have hf := Ri (eY.eq_1 s1 s2)
 refine Cn hf (fun hc1 hc1p hf => ?_) fun hc1 hc1p hf => ?_
 ·exact Ru
 ·refine Lq Nat [0,1,4,12] [] (fun n1 => ⟨[(13, .v (.int .i64 (n1 : Int)))], [], [], [], (n1 ≤ s1.length) ∧ (c6 s2 (s1.drop n1) n1) = (eY s1 s2), s1.length - n1⟩) 0 ⟨Nat.zero_le _, hf.symm⟩ ?_
  rintro n1 ⟨hkn1, hf1⟩
  simp only [Lc]
  refine Cu (fun hlt0 => ?_) fun hge0 => ?_
  ·refine Tx ?_
   (repeat refine aD ?_); refine ap (fun _ => some []) ?_
   refine Dx [0,1] ?_
   refine Rb 2 rfl (Xi EInt n1) ?_
   refine Ra 3 rfl (X1 EInt) ?_
   refine Dx [4,5] ?_
   refine Rb 6 rfl (Xi EInt n1) ?_
   refine Ra 7 rfl (X1 EInt) ?_
   refine Ra 8 rfl Qp ?_
   refine Re0 ?_
   have hf := Ri hf1.symm
   rw [bd hlt0, c6] at hf
   refine Cn hf (fun hc3 hc3p hf => ?_) fun hc3 hc3p hf => ?_
   ·exact Ru
   ·refine Tt ?_
    refine ⟨(n1 + 1), ⟨hlt0, hf.symm⟩, Oo, Le4⟩
  ·have hf := Ri hf1.symm
   rw [List.drop_of_length_le hge0, c6] at hf
   exact Ru
theorem lO (a b : List Int) : eY a b = decide (a = b) := by
 have key : ∀ (l : List Int) (k : Nat), l.length + k = b.length → c6 b l k = decide (l = b.drop k) := by
  intro l
  induction l with
  | nil => intro k hk; rw [c6, List.drop_of_length_le (by simp at hk; omega)]; simp
  | cons p r ih =>
   intro k hk
   simp only [List.length_cons] at hk
   rw [c6, ih (k + 1) (by omega), bd (by omega : k < b.length)]
   by_cases h : p = gt b k <;> simp [h]
 rw [eY]
 by_cases h : a.length = b.length
 ·rw [key a 0 (by omega)]; simp [h]
 ·have : a ≠ b := fun e => h (by rw [e])
  simp [this, Int.ofNat_inj, h]
theorem dc (y1 y2 : SlV) (a b : List Int) : Does Tryz.prog 60 [y1.val a.length, y2.val b.length] [RdL EInt y1 a, RdL EInt y2 b] (fun (_ : Unit) => .bool (decide (a = b))) (fun _ => []) := by
 have := kN y1 a y2 b
 rw [lO] at this
 exact this
def cn (s2 : List Place) : List Place → Nat → Bool
 | [], n1 => true
 | pn1 :: rn1, n1 => (bif (!(decide (pn1 = (gt s2 n1)))) then false else (cn s2 rn1 (n1 + 1)))
def eo (s1 : List Place) (s2 : List Place) : Bool :=
 (bif ((s1.length : Int) != (s2.length : Int)) then false else (cn s2 s1 0))
theorem jT (y1 : SlV) (s1 : List Place) (y2 : SlV) (s2 : List Place) : Does Tryz.prog 41 [y1.val s1.length, y2.val s2.length] [RdL EPlace y1 s1, RdL EPlace y2 s2] (fun (_ : Unit) => .bool (eo s1 s2)) (fun _ => []) := by
 refine Dp aK Tryz.func41 Tryz.ntmps41 Tryz.results41 fun C => ?_
 refine Pc EPlace y1 s1 24 fun hlen1 => ?_
 refine Pc EPlace y2 s2 24 fun hlen2 => ?_
 have hf := Ri (eo.eq_1 s1 s2)
 refine Cn hf (fun hc1 hc1p hf => ?_) fun hc1 hc1p hf => ?_
 ·exact Ru
 ·refine Lq Nat [0,1,4,12] [] (fun n1 => ⟨[(13, .v (.int .i64 (n1 : Int)))], [], [], [], (n1 ≤ s1.length) ∧ (cn s2 (s1.drop n1) n1) = (eo s1 s2), s1.length - n1⟩) 0 ⟨Nat.zero_le _, hf.symm⟩ ?_
  rintro n1 ⟨hkn1, hf1⟩
  simp only [Lc]
  refine Cu (fun hlt0 => ?_) fun hge0 => ?_
  ·refine Tx ?_
   (repeat refine aD ?_); refine ap (fun _ => some []) ?_
   refine Dx [0,1] ?_
   refine Rb 2 rfl (Xi EPlace n1) ?_
   refine Ra 3 rfl (Xa EPlace) ?_
   refine Dx [4,5] ?_
   refine Rb 6 rfl (Xi EPlace n1) ?_
   refine Ra 7 rfl (Xa EPlace) ?_
   refine Ra 8 rfl (q_neE mp (jf (gt s1 n1) (gt s2 n1)) rfl rfl Zf rfl Zf rfl rfl) ?_
   refine Re0 ?_
   have hf := Ri hf1.symm
   rw [bd hlt0, cn] at hf
   refine Ch hf (fun hc3 hf => ?_) fun hc3 hf => ?_
   ·exact Ru
   ·refine Tt ?_
    refine ⟨(n1 + 1), ⟨hlt0, hf.symm⟩, Oo, Le4⟩
  ·have hf := Ri hf1.symm
   rw [List.drop_of_length_le hge0, cn] at hf
   exact Ru
theorem kM (a b : List Place) : eo a b = decide (a = b) := by
 have key : ∀ (l : List Place) (k : Nat), l.length + k = b.length → cn b l k = decide (l = b.drop k) := by
  intro l
  induction l with
  | nil => intro k hk; rw [cn, List.drop_of_length_le (by simp at hk; omega)]; simp
  | cons p r ih =>
   intro k hk
   simp only [List.length_cons] at hk
   rw [cn, ih (k + 1) (by omega), bd (by omega : k < b.length)]
   by_cases h : p = gt b k <;> simp [h]
 rw [eo]
 by_cases h : a.length = b.length
 ·rw [key a 0 (by omega)]; simp [h]
 ·have : a ≠ b := fun e => h (by rw [e])
  simp [this, Int.ofNat_inj, h]
theorem dl (y1 y2 : SlV) (a b : List Place) : Does Tryz.prog 41 [y1.val a.length, y2.val b.length] [RdL EPlace y1 a, RdL EPlace y2 b] (fun (_ : Unit) => .bool (decide (a = b))) (fun _ => []) := by
 have := jT y1 a y2 b
 rw [kM] at this
 exact this
def cF (s2 : List Step) : List Step → Nat → Bool
 | [], n1 => true
 | pn1 :: rn1, n1 => (bif (!(decide (pn1 = (gt s2 n1)))) then false else (cF s2 rn1 (n1 + 1)))
def eF (s1 : List Step) (s2 : List Step) : Bool :=
 (bif ((s1.length : Int) != (s2.length : Int)) then false else (cF s2 s1 0))
theorem kA (y1 : SlV) (s1 : List Step) (y2 : SlV) (s2 : List Step) : Does Tryz.prog 143 [y1.val s1.length, y2.val s2.length] [RdL EStep y1 s1, RdL EStep y2 s2] (fun (_ : Unit) => .bool (eF s1 s2)) (fun _ => []) := by
 refine Dp aK Tryz.func143 Tryz.ntmps143 Tryz.results143 fun C => ?_
 refine Pc EStep y1 s1 88 fun hlen1 => ?_
 refine Pc EStep y2 s2 88 fun hlen2 => ?_
 have hf := Ri (eF.eq_1 s1 s2)
 refine Cn hf (fun hc1 hc1p hf => ?_) fun hc1 hc1p hf => ?_
 ·exact Ru
 ·refine Lq Nat [0,1,4,12] [] (fun n1 => ⟨[(13, .v (.int .i64 (n1 : Int)))], [], [], [], (n1 ≤ s1.length) ∧ (cF s2 (s1.drop n1) n1) = (eF s1 s2), s1.length - n1⟩) 0 ⟨Nat.zero_le _, hf.symm⟩ ?_
  rintro n1 ⟨hkn1, hf1⟩
  simp only [Lc]
  refine Cu (fun hlt0 => ?_) fun hge0 => ?_
  ·refine Tx ?_
   (repeat refine aD ?_); refine ap (fun _ => some []) ?_
   refine Dx [0,1] ?_
   refine Rb 2 rfl (Xi EStep n1) ?_
   refine Ra 3 rfl (Xa EStep) ?_
   refine Dx [4,5] ?_
   refine Rb 6 rfl (Xi EStep n1) ?_
   refine Ra 7 rfl (Xa EStep) ?_
   refine Ra 8 rfl (q_neE vG (rK (gt s1 n1) (gt s2 n1)) rfl rfl Zf rfl Zf rfl rfl) ?_
   refine Re0 ?_
   have hf := Ri hf1.symm
   rw [bd hlt0, cF] at hf
   refine Ch hf (fun hc3 hf => ?_) fun hc3 hf => ?_
   ·exact Ru
   ·refine Tt ?_
    refine ⟨(n1 + 1), ⟨hlt0, hf.symm⟩, Oo, Le4⟩
  ·have hf := Ri hf1.symm
   rw [List.drop_of_length_le hge0, cF] at hf
   exact Ru
theorem lB (a b : List Step) : eF a b = decide (a = b) := by
 have key : ∀ (l : List Step) (k : Nat), l.length + k = b.length → cF b l k = decide (l = b.drop k) := by
  intro l
  induction l with
  | nil => intro k hk; rw [cF, List.drop_of_length_le (by simp at hk; omega)]; simp
  | cons p r ih =>
   intro k hk
   simp only [List.length_cons] at hk
   rw [cF, ih (k + 1) (by omega), bd (by omega : k < b.length)]
   by_cases h : p = gt b k <;> simp [h]
 rw [eF]
 by_cases h : a.length = b.length
 ·rw [key a 0 (by omega)]; simp [h]
 ·have : a ≠ b := fun e => h (by rw [e])
  simp [this, Int.ofNat_inj, h]
theorem jS (y1 y2 : SlV) (a b : List Step) : Does Tryz.prog 143 [y1.val a.length, y2.val b.length] [RdL EStep y1 a, RdL EStep y2 b] (fun (_ : Unit) => .bool (decide (a = b))) (fun _ => []) := by
 have := kA y1 a y2 b
 rw [lB] at this
 exact this
def fg (p1 : Place) : Int :=
 (bif (((((decide (p1.node < 1) || decide (p1.node ≥ 16)) || decide (p1.parent < 0)) || decide (p1.parent > 16)) || decide (p1.name < 0)) || decide (p1.name > 99)) then 3 else 0)
theorem nQ (p1 : Place) : Does Tryz.prog 159 [.agg ⟨cP p1⟩] [] (fun (_ : Unit) => .int .i64 (fg p1)) (fun _ => []) := by
 refine Dp aK Tryz.func159 Tryz.ntmps159 Tryz.results159 fun C => ?_
 refine BxT fun g1 => ?_
 have hf := Ri (fg.eq_1 p1)
 refine Ch hf (fun hc1 hf => ?_) fun hc1 hf => ?_
 ·exact Ru
 ·exact Ru
def fw (node1 : Int) : List Place → Place
 | [] => (⟨0, 0, 0⟩ : Place)
 | pn1 :: rn1 => (bif (pn1.node == node1) then pn1 else (fw node1 rn1))
def cm (t1 : List Place) (node1 : Int) : Place :=
 (fw node1 t1)
theorem ew (y1 : SlV) (t1 : List Place) (node1 : Int) : Does Tryz.prog 195 [.agg ⟨[y1.val t1.length]⟩, .int .i64 node1] [RdL EPlace y1 t1] (fun (_ : Unit) => .agg ⟨cP (cm t1 node1)⟩) (fun _ => []) := by
 refine Dp aK Tryz.func195 Tryz.ntmps195 Tryz.results195 fun C => ?_
 refine Pc EPlace y1 t1 24 fun hlen1 => ?_
 refine BxT fun g1 => ?_
 refine AlT fun g2 => ?_
 refine Lq Nat [1,4,8,9] [true, true] (fun n1 => ⟨[(10, .v (.int .i64 (n1 : Int)))], [], [], [], (n1 ≤ t1.length) ∧ (fw node1 (t1.drop n1)) = (cm t1 node1), t1.length - n1⟩) 0 ⟨Nat.zero_le _, (by simp only [cm, Cf] : (cm t1 node1) = (fw node1 t1)).symm⟩ ?_
 rintro n1 ⟨hkn1, hf1⟩
 simp only [Lc]
 refine Cu (fun hlt0 => ?_) fun hge0 => ?_
 ·refine Sy Tz (Xi EPlace n1) ?_
  refine Sq (Xa EPlace) ?_
  refine AlT fun g3 => ?_
  have hf := Ri hf1.symm
  rw [bd hlt0, fw] at hf
  refine Ce hf (fun hc2 hc2p hf => ?_) fun hc2 hc2p hf => ?_
  ·exact Ru
  ·refine Tt ?_
   refine ⟨(n1 + 1), ⟨hlt0, hf.symm⟩, Oo, Le4⟩
 ·have hf := Ri hf1.symm
  rw [List.drop_of_length_le hge0, fw] at hf
  exact Ru
def d6 (t1 : List Place) (top1 : Int) : Nat → Int → Bool
 | 0, node2 => false
 | fn1 + 1, node2 => (bif (node2 == top1) then true else (bif ((cm t1 node2).node == 0) then false else (d6 t1 top1 fn1 (cm t1 node2).parent)))
def eu (t1 : List Place) (node1 : Int) (top1 : Int) : Bool :=
 (d6 t1 top1 ((t1.length + 1) - 0) node1)
theorem f6 (y1 : SlV) (t1 : List Place) (node1 : Int) (top1 : Int) : Does Tryz.prog 160 [.agg ⟨[y1.val t1.length]⟩, .int .i64 node1, .int .i64 top1] [RdL EPlace y1 t1] (fun (_ : Unit) => .bool (eu t1 node1 top1)) (fun _ => []) := by
 refine Dp aK Tryz.func160 Tryz.ntmps160 Tryz.results160 fun C => ?_
 refine Pc EPlace y1 t1 24 fun hlen1 => ?_
 refine BxT fun g1 => ?_
 refine Lq (Int × Nat) [2,3,6,11] [true] (fun ⟨node2, n1⟩ => ⟨[(1, .v (.int .i64 node2)), (12, .v (.int .i64 (n1 : Int)))], [], [], [], (n1 ≤ (t1.length + 1)) ∧ (d6 t1 top1 ((t1.length + 1) - n1) node2) = (eu t1 node1 top1), (t1.length + 1) - n1⟩) ⟨node1, 0⟩ ⟨(Nat.zero_le _), (by simp only [eu, Cf] : (eu t1 node1 top1) = (d6 t1 top1 ((t1.length + 1) - 0) node1)).symm⟩ ?_
 rintro ⟨node2, n1⟩ ⟨hkn1, hf1⟩
 simp only [Lc]
 refine Cd' (fun hc1 => ?_) fun hc1 => ?_
 ·have hlt0 : n1 < (t1.length + 1) := by have := of_decide_eq_true hc1; omega
  have hlt0_ : (t1.length + 1) - n1 = ((t1.length + 1) - (n1 + 1)) + 1 := by omega
  have hf := Ri hf1.symm
  rw [hlt0_, d6] at hf
  refine Ce hf (fun hc2 hc2p hf => ?_) fun hc2 hc2p hf => ?_
  ·exact Ru
  ·refine Ck (ew y1 t1 node2) fun _ => ?_
   refine AlT fun g2 => ?_
   refine Ce hf (fun hc3 hc3p hf => ?_) fun hc3 hc3p hf => ?_
   ·exact Ru
   ·refine Tt ?_
    refine ⟨⟨(cm t1 node2).parent, (n1 + 1)⟩, ⟨hlt0, hf.symm⟩, Oo, Le4⟩
 ·have hge0 : (t1.length + 1) ≤ n1 := by have := of_decide_eq_false hc1; omega
  have hge0_ : (t1.length + 1) - n1 = 0 := by omega
  have hf := Ri hf1.symm
  rw [hge0_, d6] at hf
  exact Ru
def dH (t1 : List Place) : List Place → Int
 | [] => 0
 | pn2 :: rn2 => (bif (eu t1 pn2.parent pn2.node) then 4 else (dH t1 rn2))
def dq (t1 : List Place) : List Place → Nat → Int
 | [], n1 => (dH t1 t1)
 | pn1 :: rn1, n1 => (bif ((fg pn1) != 0) then (fg pn1) else (bif (decide ((n1 : Int) > 0) && decide ((gt t1 (n1 - 1)).node ≥ pn1.node)) then 6 else (dq t1 rn1 (n1 + 1))))
def bL (t1 : List Place) : Int :=
 (dq t1 t1 0)
theorem ee (y1 : SlV) (t1 : List Place) : Does Tryz.prog 115 [.agg ⟨[y1.val t1.length]⟩] [RdL EPlace y1 t1] (fun (_ : Unit) => .int .i64 (bL t1)) (fun _ => []) := by
 refine Dp aK Tryz.func115 Tryz.ntmps115 Tryz.results115 fun C => ?_
 refine Pc EPlace y1 t1 24 fun hlen1 => ?_
 refine BxT fun g1 => ?_
 refine Lq Nat [1,2,9,10] [true] (fun n1 => ⟨[(11, .v (.int .i64 (n1 : Int)))], [], [], [], (n1 ≤ t1.length) ∧ (dq t1 (t1.drop n1) n1) = (bL t1), t1.length - n1⟩) 0 ⟨Nat.zero_le _, (by simp only [bL, Cf] : (bL t1) = (dq t1 t1 0)).symm⟩ ?_
 rintro n1 ⟨hkn1, hf1⟩
 simp only [Lc]
 refine Cu (fun hlt0 => ?_) fun hge0 => ?_
 ·refine Sy Tz (Xi EPlace n1) ?_
  refine Sq (Xa EPlace) ?_
  refine AlT fun g2 => ?_
  refine Ck (nQ (gt t1 n1)) fun _ => ?_
  have hf := Ri hf1.symm
  rw [bd hlt0, dq] at hf
  refine Cn hf (fun hc2 hc2p hf => ?_) fun hc2 hc2p hf => ?_
  ·exact Ru
  ·refine Tx ?_
   (repeat refine aD ?_); refine ap (fun _ => some []) ?_
   refine Dx (.range 7) ?_
   refine Gb 7 rfl Gz (Xi EPlace (n1 - 1)) ?_
   refine Gb 8 rfl Gz Xf ?_
   refine Gb 9 rfl Gz (X1 EPlace) ?_
   refine Dx [10,11,12,13] ?_
   refine Re0 ?_
   refine Ch hf (fun hc3 hf => ?_) fun hc3 hf => ?_
   ·exact Ru
   ·refine Tt ?_
    refine ⟨(n1 + 1), ⟨hlt0, hf.symm⟩, Oo, Le4⟩
 ·refine Lq Nat [1,2,37,38] [true] (fun n2 => ⟨[(39, .v (.int .i64 (n2 : Int)))], [], [], [], (n2 ≤ t1.length) ∧ (dH t1 (t1.drop n2)) = (bL t1), t1.length - n2⟩) 0 ⟨Nat.zero_le _, (by rw [← hf1, List.drop_of_length_le hge0]; simp only [dq, Cf] : (bL t1) = (dH t1 t1)).symm⟩ ?_
  rintro n2 ⟨hkn2, hf2⟩
  simp only [Lc]
  refine Cu (fun hlt1 => ?_) fun hge1 => ?_
  ·refine Sy Tz (Xi EPlace n2) ?_
   refine Sq (Xa EPlace) ?_
   refine AlT fun g3 => ?_
   refine Ck (f6 y1 t1 (gt t1 n2).parent (gt t1 n2).node) fun _ => ?_
   refine dD ?_
   have hf := Ri hf2.symm
   rw [bd hlt1, dH] at hf
   refine Ch hf (fun hc5 hf => ?_) fun hc5 hf => ?_
   ·exact Ru
   ·refine Tt ?_
    refine ⟨(n2 + 1), ⟨hlt1, hf.symm⟩, Oo, Le4⟩
  ·have hf := Ri hf2.symm
   rw [List.drop_of_length_le hge1, dH] at hf
   exact Ru
def fT (t1 : List Place) : List Place :=
 t1
theorem jl (y1 : SlV) (t1 : List Place) : DoesG Tryz.prog 171 [.agg ⟨[y1.val t1.length]⟩] [RdL EPlace y1 t1] ⟨[], []⟩ (fun (X : SlV × Option Nat) => .agg ⟨[X.1.val (fT t1).length]⟩) (fun X => []) (fun X => ⟨[], [ownL EPlace 99 X.1 X.2 (fT t1)]⟩) := by
 refine Dq aK Tryz.func171 Tryz.ntmps171 Tryz.results171 fun C => ?_
 refine Pc EPlace y1 t1 24 fun hlen1 => ?_
 refine BxT fun g1 => ?_
 refine AlT fun g2 => ?_
 refine Cm (ct y1 t1) fun x1 => ?_
 have hf := Ri (fT.eq_1 t1)
 refine Rx ?_; exact Re ⟨x1.1, x1.2⟩ Rv
def dj (p1 : Place) : List Place → Bool → (List Place) → (List Place)
 | [], done1, p2 => (bif (!done1) then (p2 ++ [p1]) else p2)
 | pn1 :: rn1, done1, p2 => (bif ((!done1) && decide (pn1.node ≥ p1.node)) then (bif (pn1.node != p1.node) then (dj p1 rn1 true ((p2 ++ [p1]) ++ [pn1])) else (dj p1 rn1 true (p2 ++ [p1]))) else (bif (pn1.node != p1.node) then (dj p1 rn1 done1 (p2 ++ [pn1])) else (dj p1 rn1 done1 p2)))
def cg (t1 : List Place) (p1 : Place) : List Place :=
 (dj p1 t1 (decide (p1.parent < 0)) [])
theorem fI (y1 : SlV) (t1 : List Place) (p1 : Place) (hl : t1.length ≤ 1000000) : Does Tryz.prog 194 [.agg ⟨[y1.val t1.length]⟩, .agg ⟨cP p1⟩] [RdL EPlace y1 t1] (fun (X : SlV) => .agg ⟨[X.val (cg t1 p1).length]⟩) (fun X => [RdL EPlace X (cg t1 p1)]) := by
 refine Dp aK Tryz.func194 Tryz.ntmps194 Tryz.results194 fun C => ?_
 refine Pc EPlace y1 t1 24 fun hlen1 => ?_
 refine BxT fun g1 => ?_
 refine BxT fun g2 => ?_
 refine AlT fun g3 => ?_
 refine AlT fun g4 => ?_
 refine Tx ?_
 (repeat refine aD ?_); refine Lp [3,4,5,13,14] [false, true, true, true] (fun (i_ : Bool × Nat × List Place × SlV × Option Nat) => match i_ with | ⟨done1, n1, p2, x1, x1b⟩ => (⟨[(6, .v (.bool done1)), (15, .v (.int .i64 (n1 : Int)))], [⟨g4, 25, [x1.val p2.length]⟩], [ownL EPlace 99 x1 x1b p2], [], (n1 ≤ t1.length) ∧ (p2.length ≤ 2 * n1) ∧ (dj p1 (t1.drop n1) done1 p2) = (cg t1 p1), t1.length - n1⟩ : Ls)) ⟨decide (p1.parent < 0), 0, [], ⟨none, 0⟩, none⟩ (Sc (Sc (Sc (Sc (Sc Sn))))) (.drop (.keep (.keep (.keep (.nil))))) ⟨Nat.zero_le _, (by first | exact Nat.le_refl _ | exact Nat.zero_le _ | omega), (by simp only [cg, Cf] : (cg t1 p1) = (dj p1 t1 (decide (p1.parent < 0)) [])).symm⟩ (Le.trans (eH EPlace 99) Le4) ?_
 rintro ⟨done1, n1, p2, x1, x1b⟩ ⟨hkn1, hp2, hf1⟩
 simp only [Lc]
 refine Cu (fun hlt0 => ?_) fun hge0 => ?_
 ·refine Sy Tz (Xi EPlace n1) ?_
  refine Sq (Xa EPlace) ?_
  refine AlT fun g5 => ?_
  have hf := Ri hf1.symm
  rw [bd hlt0, dj] at hf
  refine Ch hf (fun hc2 hf => ?_) fun hc2 hf => ?_
  ·refine Bl EPlace [p1] fun x2 x2b => ?_
   refine Ap EPlace 24 p2 [p1] x1b fun x3 x3b => ?_
   refine Cn hf (fun hc3 hc3p hf => ?_) fun hc3 hc3p hf => ?_
   ·refine Bl EPlace [(gt t1 n1)] fun x4 x4b => ?_
    refine Ap EPlace 24 (p2 ++ [p1]) [(gt t1 n1)] x3b fun x5 x5b => ?_
    refine Tt ?_
    refine ⟨⟨true, (n1 + 1), ((p2 ++ [p1]) ++ [(gt t1 n1)]), x5, x5b⟩, ⟨hlt0, Zl, hf.symm⟩, Oo, Le4⟩
   ·refine Tt ?_
    refine ⟨⟨true, (n1 + 1), (p2 ++ [p1]), x3, x3b⟩, ⟨hlt0, Zl, hf.symm⟩, Oo, Le4⟩
  ·refine Cn hf (fun hc4 hc4p hf => ?_) fun hc4 hc4p hf => ?_
   ·refine Bl EPlace [(gt t1 n1)] fun x6 x6b => ?_
    refine Ap EPlace 24 p2 [(gt t1 n1)] x1b fun x7 x7b => ?_
    refine Tt ?_
    refine ⟨⟨done1, (n1 + 1), (p2 ++ [(gt t1 n1)]), x7, x7b⟩, ⟨hlt0, Zl, hf.symm⟩, Oo, Le4⟩
   ·refine Tt ?_
    refine ⟨⟨done1, (n1 + 1), p2, x1, x1b⟩, ⟨hlt0, Zl, hf.symm⟩, Oo, Le4⟩
 ·have hf := Ri hf1.symm
  rw [List.drop_of_length_le hge0, dj] at hf
  refine Ch hf (fun hc5 hf => ?_) fun hc5 hf => ?_
  ·refine Bl EPlace [p1] fun x8 x8b => ?_
   refine Ap EPlace 24 p2 [p1] x1b fun x9 x9b => ?_
   refine Tx ?_
   refine cw_le (ar EPlace 99 x9 x9b (p2 ++ [p1]) Uo) ?_
   refine Rx ?_; exact Re x9 Rv
  ·refine Tx ?_
   refine cw_le (ar EPlace 99 x1 x1b p2 Uo) ?_
   refine Rx ?_; exact Re x1 Rv
def co (o1 : Op) : Int :=
 (bif (((((((((((((decide (o1.time < 1) || decide (o1.time > 10000)) || decide (o1.who < 0)) || decide (o1.who ≥ 3)) || decide (o1.node < 1)) || decide (o1.node ≥ 16)) || decide (o1.parent < 0)) || decide (o1.parent > 16)) || decide (o1.name < 0)) || decide (o1.name > 99)) || decide (o1.life < 1)) || decide (o1.life > 50)) || decide (o1.seq < 1)) || decide (o1.seq > 30)) then 3 else 0)
theorem dN (o1 : Op) : Does Tryz.prog 113 [.agg ⟨cO o1⟩] [] (fun (_ : Unit) => .int .i64 (co o1)) (fun _ => []) := by
 refine Dp aK Tryz.func113 Tryz.ntmps113 Tryz.results113 fun C => ?_
 refine BxT fun g1 => ?_
 have hf := Ri (co.eq_1 o1)
 refine Ch hf (fun hc1 hf => ?_) fun hc1 hf => ?_
 ·exact Ru
 ·exact Ru
def ge (a1 : Stamp) (b1 : Stamp) : Bool :=
 (decide (a1.time < b1.time) || ((a1.time == b1.time) && decide (a1.who < b1.who)))
theorem ie (a1 : Stamp) (b1 : Stamp) : Does Tryz.prog 215 [.agg ⟨cT a1⟩, .agg ⟨cT b1⟩] [] (fun (_ : Unit) => .bool (ge a1 b1)) (fun _ => []) := by
 refine Dp aK Tryz.func215 Tryz.ntmps215 Tryz.results215 fun C => ?_
 refine BxT fun g1 => ?_
 refine BxT fun g2 => ?_
 have hf := Ri (ge.eq_1 a1 b1)
 exact Ru
end Go.Proofs.YtkjccbdeaflekaaGreatDoor

namespace Go.Proofs.YtkjccbdeaflekaaGreatDoor
open Go Go.Proofs.YtkjccbdeaflekaaGreatDoor.Fw Go.Proofs
theorem sr {p : Place} (h : fg p = 0) : 1 ≤ p.node ∧ p.node < 16 ∧ 0 ≤ p.parent ∧ p.parent ≤ 16 ∧ 0 ≤ p.name ∧ p.name ≤ 99 := by
 unfold fg at h
 cases hb : (((((decide (p.node < 1) || decide (p.node ≥ 16)) || decide (p.parent < 0)) || decide (p.parent > 16)) || decide (p.name < 0)) || decide (p.name > 99)) with
 | true => rw [hb] at h; simp at h
 | false => simp at hb; omega
theorem kq (t : List Place) : ∀ (r : List Place) (k : Nat), r = t.drop k → dq t r k = 0 →
  (∀ i, k ≤ i → i < t.length → fg (gt t i) = 0) ∧ (∀ i, k ≤ i → i < t.length → 0 < i → (gt t (i - 1)).node < (gt t i).node) ∧ dH t t = 0
 | [], k, hr, h => by
  have : t.length ≤ k := by have := congrArg List.length hr; simp at this; omega
  exact ⟨fun i h1 h2 => by omega, fun i h1 h2 => by omega, h⟩
 | p :: r, k, hr, h => by
  have hk : k < t.length := by have := congrArg List.length hr; simp at this; omega
  rw [bd hk] at hr
  obtain ⟨rfl, hr'⟩ := List.cons.inj hr
  rw [dq] at h
  cases h1 : (fg (gt t k) != 0) with
  | true => rw [h1, cond_true] at h; rw [h] at h1; simp at h1
  | false =>
   rw [h1, cond_false] at h
   cases h2 : (decide ((k : Int) > 0) && decide ((gt t (k - 1)).node ≥ (gt t k).node)) with
   | true => rw [h2] at h; simp at h
   | false =>
    rw [h2, cond_false] at h
    obtain ⟨ha, hb, hc⟩ := kq t r (k + 1) hr' h
    refine ⟨fun i hi hl => ?_, fun i hi hl hp => ?_, hc⟩
    ·by_cases he : i = k
     ·subst he; simpa using h1
     ·exact ha i (by omega) hl
    ·by_cases he : i = k
     ·subst he
      have : (0 : Int) < (i : Int) := by omega
      simp [this] at h2
      omega
     ·exact hb i (by omega) hl hp
theorem pz {t : List Place} (h : bL t = 0) : (∀ i, i < t.length → fg (gt t i) = 0) ∧ (∀ i, i < t.length → 0 < i → (gt t (i - 1)).node < (gt t i).node) ∧ dH t t = 0 := by
 obtain ⟨a, b, c⟩ := kq t t 0 rfl h
 exact ⟨fun i hi => a i (Nat.zero_le _) hi, fun i hi hp => b i (Nat.zero_le _) hi hp, c⟩
theorem k6 {t : List Place} (h : bL t = 0) : t.length ≤ 15 := by
 obtain ⟨ha, hb, _⟩ := pz h
 have key : ∀ i, i < t.length → (i : Int) + 1 ≤ (gt t i).node := by
  intro i
  induction i with
  | zero => intro hi; have := (sr (ha 0 hi)).1; omega
  | succ i ih =>
   intro hi
   have h1 := ih (by omega)
   have h2 := hb (i + 1) hi (by omega)
   simp at h2
   omega
 by_cases hl : t.length ≤ 15
 ·exact hl
 ·have h1 := key 15 (by omega)
  have h2 := sr (ha 15 (by omega))
  omega
theorem pB (t : List Place) (h : bL t = 0) : t.length ≤ 1000000 := Nat.le_trans (k6 h) (by omega)
end Go.Proofs.YtkjccbdeaflekaaGreatDoor

set_option maxHeartbeats 2000000
namespace Go.Proofs.YtkjccbdeaflekaaGreatDoor
open Go Go.Proofs.YtkjccbdeaflekaaGreatDoor.Fw Go.Proofs
attribute [local irreducible] RW CW
def dV (t1 : List Place) (o1 : Op) : (List Place) × Step × Int :=
 (bif ((bL t1) != 0) then (([] : List Place), (⟨(⟨0, 0, 0, 0, 0, 0, 0⟩ : Op), false, (⟨0, 0, 0⟩ : Place)⟩ : Step), (bL t1)) else (bif ((co o1) != 0) then (([] : List Place), (⟨(⟨0, 0, 0, 0, 0, 0, 0⟩ : Op), false, (⟨0, 0, 0⟩ : Place)⟩ : Step), (co o1)) else (bif (eu t1 o1.parent o1.node) then ((fT t1), (⟨o1, false, (cm t1 o1.node)⟩ : Step), 0) else ((cg t1 (⟨o1.node, o1.parent, o1.name⟩ : Place)), (⟨o1, true, (cm t1 o1.node)⟩ : Step), 0))))
theorem m8 (y1 : SlV) (t1 : List Place) (o1 : Op) : Does Tryz.prog 218 [.agg ⟨[y1.val t1.length]⟩, .agg ⟨cO o1⟩] [RdL EPlace y1 t1] (fun (X : SlV) => .tuple #[.agg ⟨[X.val (dV t1 o1).1.length]⟩, .agg ⟨cS (dV t1 o1).2.1⟩, .int .i64 (dV t1 o1).2.2]) (fun X => [RdL EPlace X (dV t1 o1).1]) := by
 refine Dp aK Tryz.func218 Tryz.ntmps218 Tryz.results218 fun C => ?_
 refine Pc EPlace y1 t1 24 fun hlen1 => ?_
 refine BxT fun g1 => ?_
 refine BxT fun g2 => ?_
 refine AlT fun g3 => ?_
 refine AlT fun g4 => ?_
 refine Ck (ee y1 t1) fun _ => ?_
 have hf := Ri (dV.eq_1 t1 o1)
 refine Cn hf (fun hc1 hc1p hf => ?_) fun hc1 hc1p hf => ?_
 ·refine Tx ?_
  refine Fc EPlace ?_
  refine Rx ?_; exact Re Z0 (Va (Va (Vt Vn)))
 ·refine Ck (dN o1) fun _ => ?_
  refine Cn hf (fun hc2 hc2p hf => ?_) fun hc2 hc2p hf => ?_
  ·refine Tx ?_
   refine Fc EPlace ?_
   refine Rx ?_; exact Re Z0 (Va (Va (Vt Vn)))
  ·refine Tx ?_
   refine pV [2, 3, 4, 5, 6] [true, true, true, true] (fun (g5 : Nat) => [(9, .v (.pointer (some ⟨g5, 0, none⟩)))]) (fun (g5 : Nat) => [⟨g5, 157, [.int .i64 o1.time, .int .i64 o1.who, .int .i64 o1.node, .int .i64 o1.parent, .int .i64 o1.name, .int .i64 o1.life, .int .i64 o1.seq, .bool false, .int .i64 (cm t1 o1.node).node, .int .i64 (cm t1 o1.node).parent, .int .i64 (cm t1 o1.node).name]⟩]) (fun (g5 : Nat) => []) (fun (g5 : Nat) => []) (fun _ => True) (.cons rfl (.cons rfl (.cons rfl (.cons rfl (.cons rfl (.nil _)))))) (.keep (.keep (.keep (.keep (.nil))))) ?_ ?_
   ·refine ap (fun j => match j with | 7 => none | _ => some []) ?_
    refine Dx [0,1,2,3] ?_
    refine Rw 4 6 ?_ ?_
    ·refine Ck (ew y1 t1 o1.node) fun _ => ?_
     refine Ra 5 rfl Qp ?_
     refine Rn 6 ?_
     refine cw (.an rfl rfl) (al rfl) rfl rfl rfl rfl fun g6 => ?_
     refine Rn 7 ?_
     refine Wa ?_
     refine Re0 ?_
     refine ⟨g6, trivial, Le4⟩
    ·refine cw (.an rfl rfl) (al rfl) rfl rfl rfl rfl fun g7 => ?_
     refine Rn 4 ?_
     refine Ck (ew y1 t1 o1.node) fun _ => ?_
     refine Ra 5 rfl Qp ?_
     refine Rn 7 ?_
     refine Wa ?_
     refine Re0 ?_
     refine ⟨g7, trivial, Le4⟩
   ·rintro g5 -
    simp only [Lc]
    refine Ck (f6 y1 t1 o1.parent o1.node) fun _ => ?_
    refine dD ?_
    refine Ch hf (fun hc3 hf => ?_) fun hc3 hf => ?_
    ·(repeat refine aD ?_); refine ap (fun j => match j with | 3 => some [g3] | 4 => some [g4] | _ => some []) ?_
     refine Ra 0 rfl XA ?_
     refine Rq (Fa 2 [1,3]) (.keep (.keep (.drop Sa))) XA ?_
     refine Rn 1 ?_
     refine Cm (jl y1 t1) fun x1 => ?_
     refine Rn 3 ?_
     refine Wa ?_
     refine Rn 4 ?_
     refine Wa ?_
     refine Ra 5 rfl Qp ?_
     refine Re0 ?_
     (repeat refine aD ?_)
     refine cw_le (ar EPlace 99 x1.1 x1.2 (fT t1) Uo) ?_
     refine Rx ?_; exact Re x1.1 Rv
    ·refine Tx ?_
     (repeat refine aD ?_); refine ap (fun j => match j with | 10 => some [g3] | 11 => some [g4] | _ => some []) ?_
     refine Dx (.range 8) ?_
     refine Rq (Fa 9 [8,10]) (.keep (.keep (.drop Sa))) XA ?_
     refine Rn 8 ?_
     refine Ck (fI y1 t1 (⟨o1.node, o1.parent, o1.name⟩ : Place) (pB t1 (by first | assumption | simpa using hc1))) fun x2 => ?_
     refine Pr EPlace x2 (cg t1 (⟨o1.node, o1.parent, o1.name⟩ : Place)) 24 fun hlen2 => ?_
     refine Rn 10 ?_
     refine Wa ?_
     refine Rn 11 ?_
     refine Wa ?_
     refine Ra 12 rfl Qp ?_
     refine Re0 ?_
     refine Rx ?_; exact Re x2 Rv
def cu (t1 : List Place) (s1 : Step) : (List Place) × Int :=
 (bif ((bL t1) != 0) then (([] : List Place), (bL t1)) else (bif ((co s1.o) != 0) then (([] : List Place), (co s1.o)) else (bif (!s1.did) then ((fT t1), 0) else (bif (s1.was.node == 0) then (bif ((s1.o.node != s1.o.node) || (!(decide ((cm t1 s1.o.node) = (⟨s1.o.node, s1.o.parent, s1.o.name⟩ : Place))))) then (([] : List Place), 4) else (bif ((bL (cg t1 (⟨s1.o.node, (-1), 0⟩ : Place))) != 0) then (([] : List Place), (bL (cg t1 (⟨s1.o.node, (-1), 0⟩ : Place)))) else ((cg t1 (⟨s1.o.node, (-1), 0⟩ : Place)), 0))) else (bif ((s1.was.node != s1.o.node) || (!(decide ((cm t1 s1.o.node) = (⟨s1.o.node, s1.o.parent, s1.o.name⟩ : Place))))) then (([] : List Place), 4) else (bif ((bL (cg t1 s1.was)) != 0) then (([] : List Place), (bL (cg t1 s1.was))) else ((cg t1 s1.was), 0)))))))
theorem lG (y1 : SlV) (t1 : List Place) (s1 : Step) : Does Tryz.prog 216 [.agg ⟨[y1.val t1.length]⟩, .agg ⟨cS s1⟩] [RdL EPlace y1 t1] (fun (X : SlV) => .tuple #[.agg ⟨[X.val (cu t1 s1).1.length]⟩, .int .i64 (cu t1 s1).2]) (fun X => [RdL EPlace X (cu t1 s1).1]) := by
 refine Dp aK Tryz.func216 Tryz.ntmps216 Tryz.results216 fun C => ?_
 refine Pc EPlace y1 t1 24 fun hlen1 => ?_
 refine BxT fun g1 => ?_
 refine BxT fun g2 => ?_
 refine AlT fun g3 => ?_
 refine Ck (ee y1 t1) fun _ => ?_
 have hf := Ri (cu.eq_1 t1 s1)
 refine Cn hf (fun hc1 hc1p hf => ?_) fun hc1 hc1p hf => ?_
 ·refine Tx ?_
  refine Fc EPlace ?_
  refine Rx ?_; exact Re Z0 (Va (Vt Vn))
 ·refine Ck (dN s1.o) fun _ => ?_
  refine Cn hf (fun hc2 hc2p hf => ?_) fun hc2 hc2p hf => ?_
  ·refine Tx ?_
   refine Fc EPlace ?_
   refine Rx ?_; exact Re Z0 (Va (Vt Vn))
  ·refine Ch hf (fun hc3 hf => ?_) fun hc3 hf => ?_
   ·refine Cm (jl y1 t1) fun x1 => ?_
    refine Tx ?_
    refine cw_le (ar EPlace 99 x1.1 x1.2 (fT t1) Uo) ?_
    refine Rx ?_; exact Re x1.1 Rv
   ·refine AlT fun g4 => ?_
    refine Ce hf (fun hc4 hc4p hf => ?_) fun hc4 hc4p hf => ?_
    ·refine AlT fun g5 => ?_
     refine Tx ?_
     (repeat refine aD ?_); refine ap (fun _ => some []) ?_
     refine Dx [0,1,2,3,4,5,6,7,8,9,10,12] ?_
     refine Rn 11 ?_
     refine Cy (fun hG_ => ew y1 t1 s1.o.node) ?_
     refine Ga 13 rfl Gz (q_neE mp (jf (cm t1 s1.o.node) (⟨s1.o.node, s1.o.parent, s1.o.name⟩ : Place)) rfl rfl Bt rfl Bt rfl rfl) ?_
     refine Ra 14 rfl Xv ?_
     refine Re0 ?_
     refine Ch hf (fun hc5 hf => ?_) fun hc5 hf => ?_
     ·refine Tx ?_
      refine Fc EPlace ?_
      refine Rx ?_; exact Re Z0 (Va (Vt Vn))
     ·refine Ck (fI y1 t1 (⟨s1.o.node, (-1), 0⟩ : Place) (pB t1 (by first | assumption | simpa using hc1))) fun x2 => ?_
      refine Pr EPlace x2 (cg t1 (⟨s1.o.node, (-1), 0⟩ : Place)) 24 fun hlen2 => ?_
      refine Ck (ee x2 (cg t1 (⟨s1.o.node, (-1), 0⟩ : Place))) fun _ => ?_
      refine Cn hf (fun hc6 hc6p hf => ?_) fun hc6 hc6p hf => ?_
      ·refine Tx ?_
       refine Fc EPlace ?_
       refine Rx ?_; exact Re Z0 (Va (Vt Vn))
      ·refine Rx ?_; exact Re x2 Rv
    ·refine AlT fun g6 => ?_
     refine Tx ?_
     (repeat refine aD ?_); refine ap (fun _ => some []) ?_
     refine Dx [0,1,2,3,4,5,6,7,8,9,10,12] ?_
     refine Rn 11 ?_
     refine Cy (fun hG_ => ew y1 t1 s1.o.node) ?_
     refine Ga 13 rfl Gz (q_neE mp (jf (cm t1 s1.o.node) (⟨s1.o.node, s1.o.parent, s1.o.name⟩ : Place)) rfl rfl Bt rfl Bt rfl rfl) ?_
     refine Ra 14 rfl Xv ?_
     refine Re0 ?_
     refine Ch hf (fun hc7 hf => ?_) fun hc7 hf => ?_
     ·refine Tx ?_
      refine Fc EPlace ?_
      refine Rx ?_; exact Re Z0 (Va (Vt Vn))
     ·refine Ck (fI y1 t1 s1.was (pB t1 (by first | assumption | simpa using hc1))) fun x3 => ?_
      refine Pr EPlace x3 (cg t1 s1.was) 24 fun hlen3 => ?_
      refine Ck (ee x3 (cg t1 s1.was)) fun _ => ?_
      refine Cn hf (fun hc8 hc8p hf => ?_) fun hc8 hc8p hf => ?_
      ·refine Tx ?_
       refine Fc EPlace ?_
       refine Rx ?_; exact Re Z0 (Va (Vt Vn))
      ·refine Rx ?_; exact Re x3 Rv
def bW (f1 : Int → Bool) : List Int → Nat → Int
 | [], n1 => (-1)
 | pn1 :: rn1, n1 => (bif (f1 pn1) then (n1 : Int) else (bW f1 rn1 (n1 + 1)))
def dW (s1 : List Int) (f1 : Int → Bool) : Int :=
 (bW f1 s1 0)
theorem jm (y1 : SlV) (s1 : List Int) (f2 : Nat) (caps1 : List Value) (pre1 : List Pred) [StabL pre1] (f1 : Int → Bool) (hfb1 : tab.fnb f2 = true) (hfn1 : ∀ (a0_ : Int), Does Tryz.prog f2 ([.int .i64 a0_] ++ caps1) pre1 (fun (_ : Unit) => .bool (f1 a0_)) (fun _ => [])) : Does Tryz.prog 196 [y1.val s1.length, .func (.func f2) #[] ⟨caps1⟩] (RdL EInt y1 s1 :: pre1) (fun (_ : Unit) => .int .i64 (dW s1 f1)) (fun _ => []) := by
 refine Dp aK Tryz.func196 Tryz.ntmps196 Tryz.results196 fun C => ?_
 refine dx (φ := s1.length * 8 ≤ 140737488355328) [RdL EInt y1 s1] Sf (fun M w h => (allF1 h).len) fun hlen1 => ?_
 refine Lq Nat [0,1,4,7] [] (fun n1 => ⟨[(8, .v (.int .i64 (n1 : Int)))], [], [], [], (n1 ≤ s1.length) ∧ (bW f1 (s1.drop n1) n1) = (dW s1 f1), s1.length - n1⟩) 0 ⟨Nat.zero_le _, (by simp only [dW, Cf] : (dW s1 f1) = (bW f1 s1 0)).symm⟩ ?_
 rintro n1 ⟨hkn1, hf1⟩
 simp only [Lc]
 refine Cu (fun hlt0 => ?_) fun hge0 => ?_
 ·refine Sy Tz (Xi EInt n1) ?_
  refine Sq (X1 EInt) ?_
  refine gv (hfn1 (gt s1 n1)) .sq (al rfl) rfl rfl rfl rfl rfl (by assumption) rfl rfl rfl Sf ?_
  intro _
  refine dD ?_
  have hf := Ri hf1.symm
  rw [bd hlt0, bW] at hf
  refine Ch hf (fun hc2 hf => ?_) fun hc2 hf => ?_
  ·refine Tx ?_
   refine di ?_
   rw [hf.to]
   exact ⟨(), _, (.cons (.tmp rfl) .nil), rfl, Sf, .nil _, .nil _⟩
  ·refine Tt ?_
   refine ⟨(n1 + 1), ⟨hlt0, hf.symm⟩, Oo, Le5⟩
 ·refine Tx ?_
  have hf := Ri hf1.symm
  rw [List.drop_of_length_le hge0, bW] at hf
  refine di ?_
  rw [hf.to]
  exact ⟨(), _, (.cons (.tmp rfl) .nil), rfl, Sf, .nil _, .nil _⟩
def eP (s1 : List Int) (f1 : Int → Bool) : Bool :=
 decide ((dW s1 f1) ≥ 0)
theorem iu (y1 : SlV) (s1 : List Int) (f2 : Nat) (caps1 : List Value) (pre1 : List Pred) [StabL pre1] (f1 : Int → Bool) (hfb1 : tab.fnb f2 = true) (hfn1 : ∀ (a0_ : Int), Does Tryz.prog f2 ([.int .i64 a0_] ++ caps1) pre1 (fun (_ : Unit) => .bool (f1 a0_)) (fun _ => [])) : Does Tryz.prog 161 [y1.val s1.length, .func (.func f2) #[] ⟨caps1⟩] (RdL EInt y1 s1 :: pre1) (fun (_ : Unit) => .bool (eP s1 f1)) (fun _ => []) := by
 refine Dp aK Tryz.func161 Tryz.ntmps161 Tryz.results161 fun C => ?_
 refine dx (φ := s1.length * 8 ≤ 140737488355328) [RdL EInt y1 s1] Sf (fun M w h => (allF1 h).len) fun hlen1 => ?_
 refine Ck (jm y1 s1 _ _ _ f1 (by assumption) hfn1) fun _ => ?_
 refine Tx ?_
 have hf := Ri (eP.eq_1 s1 f1)
 refine di ?_
 rw [hf.to]
 exact ⟨(), _, (.cons (.tmp rfl) .nil), rfl, Sf, .nil _, .nil _⟩
theorem i8 (s : List Int) (f : Int → Bool) : eP s f = s.any f := by
 have key : ∀ (l : List Int) (k : Nat), decide (bW f l k ≥ 0) = l.any f := by
  intro l
  induction l with
  | nil => intro k; rfl
  | cons p r ih =>
   intro k
   rw [bW, List.any_cons]
   cases f p with
   | true => simp only [cond_true, Bool.true_or, decide_eq_true_eq]; omega
   | false => rw [cond_false, ih, Bool.false_or]
 exact key s 0
theorem eZ (y1 : SlV) (s1 : List Int) (f1 : Nat) (caps1 : List Value) (pre1 : List Pred) [StabL pre1] (p1 : Int → Bool) (hfb1 : tab.fnb f1 = true) (hfn1 : ∀ (a0_ : Int), Does Tryz.prog f1 ([.int .i64 a0_] ++ caps1) pre1 (fun (_ : Unit) => .bool (p1 a0_)) (fun _ => [])) :
  Does Tryz.prog 161 [y1.val s1.length, .func (.func f1) #[] ⟨caps1⟩] (RdL EInt y1 s1 :: pre1) (fun (_ : Unit) => .bool (s1.any p1)) (fun (_ : Unit) => []) := by
 have := iu y1 s1 f1 caps1 pre1 p1 hfb1 hfn1
 rw [i8] at this
 exact this
def dG (l1 : List Int) : List Int → Nat → Int
 | [], n1 => 0
 | pn1 :: rn1, n1 => (bif (decide (pn1 < 0) || decide (pn1 > 16)) then 5 else (bif (decide ((n1 : Int) > 0) && decide ((gt l1 (n1 - 1)) ≥ pn1)) then 6 else (dG l1 rn1 (n1 + 1))))
def bF (l1 : List Int) : Int :=
 (bif decide ((l1.length : Int) > 4) then 2 else (dG l1 l1 0))
theorem gr (y1 : SlV) (l1 : List Int) : Does Tryz.prog 116 [y1.val l1.length] [RdL EInt y1 l1] (fun (_ : Unit) => .int .i64 (bF l1)) (fun _ => []) := by
 refine Dp aK Tryz.func116 Tryz.ntmps116 Tryz.results116 fun C => ?_
 refine Pc EInt y1 l1 8 fun hlen1 => ?_
 have hf := Ri (bF.eq_1 l1)
 refine Cp hf (fun hc1 hc1p hf => ?_) fun hc1 hc1p hf => ?_
 ·exact Ru
 ·refine Lq Nat [0,2,8,9] [] (fun n1 => ⟨[(10, .v (.int .i64 (n1 : Int)))], [], [], [], (n1 ≤ l1.length) ∧ (dG l1 (l1.drop n1) n1) = (bF l1), l1.length - n1⟩) 0 ⟨Nat.zero_le _, hf.symm⟩ ?_
  rintro n1 ⟨hkn1, hf1⟩
  simp only [Lc]
  refine Cu (fun hlt0 => ?_) fun hge0 => ?_
  ·refine Sy Tz (Xi EInt n1) ?_
   refine Sq (X1 EInt) ?_
   have hf := Ri hf1.symm
   rw [bd hlt0, dG] at hf
   refine Ch hf (fun hc3 hf => ?_) fun hc3 hf => ?_
   ·exact Ru
   ·refine Tx ?_
    refine Sg Gz Xm ?_
    refine Sg Gz (Xi EInt (n1 - 1)) ?_
    refine Sg Gz (X1 EInt) ?_
    refine Ch hf (fun hc4 hf => ?_) fun hc4 hf => ?_
    ·exact Ru
    ·refine Tt ?_
     refine ⟨(n1 + 1), ⟨hlt0, hf.symm⟩, Oo, Le4⟩
  ·have hf := Ri hf1.symm
   rw [List.drop_of_length_le hge0, dG] at hf
   exact Ru
def gO (r1 : Int) (t1 : List Place) (node1 : Int) : Bool :=
 (eu t1 node1 r1)
theorem mE (r1 : Int) (c1 : Nat) (y1 : SlV) (t1 : List Place) (c2 : Nat) (node1 : Int) : Does Tryz.prog 162 [.int .i64 r1, .pointer (some ⟨c1, 0, none⟩), .pointer (some ⟨c2, 0, none⟩)] [VarP c1 [y1.val t1.length], RdL EPlace y1 t1, VarP c2 [.int .i64 node1]] (fun (_ : Unit) => .bool (gO r1 t1 node1)) (fun _ => []) := by
 refine Dp aK Tryz.func162 Tryz.ntmps162 Tryz.results162 fun C => ?_
 refine Ck (f6 y1 t1 node1 r1) fun _ => ?_
 have hf := Ri (gO.eq_1 r1 t1 node1)
 exact Ru
def gP (r1 : Int) (node1 : Int) (t1 : List Place) : Bool :=
 ((r1 != node1) && (eu t1 r1 node1))
theorem mG (r1 : Int) (c1 : Nat) (node1 : Int) (c2 : Nat) (y1 : SlV) (t1 : List Place) : Does Tryz.prog 163 [.int .i64 r1, .pointer (some ⟨c1, 0, none⟩), .pointer (some ⟨c2, 0, none⟩)] [VarP c1 [.int .i64 node1], VarP c2 [y1.val t1.length], RdL EPlace y1 t1] (fun (_ : Unit) => .bool (gP r1 node1 t1)) (fun _ => []) := by
 refine Dp aK Tryz.func163 Tryz.ntmps163 Tryz.results163 fun C => ?_
 refine Tx ?_
 refine Sg Gz (q_lfA rfl rfl Bt rfl Mm rfl) ?_
 refine Tx ?_
 refine Sg Gz (q_lf1 rfl rfl Bt rfl Mm rfl) ?_
 refine Cy (fun hG_ => f6 y1 t1 r1 node1) ?_
 have hf := Ri (gP.eq_1 r1 node1 t1)
 exact Ru
def cX (t1 : List Place) (node1 : Int) (roots1 : List Int) : Bool :=
 (roots1.any (fun a0_ => gO a0_ t1 node1))
theorem nM (y1 : SlV) (t1 : List Place) (node1 : Int) (y2 : SlV) (roots1 : List Int) : Does Tryz.prog 118 [.agg ⟨[y1.val t1.length]⟩, .int .i64 node1, y2.val roots1.length] [RdL EPlace y1 t1, RdL EInt y2 roots1] (fun (_ : Unit) => .bool (cX t1 node1 roots1)) (fun _ => []) := by
 refine Dp aK Tryz.func118 Tryz.ntmps118 Tryz.results118 fun C => ?_
 refine Pc EPlace y1 t1 24 fun hlen1 => ?_
 refine Pc EInt y2 roots1 8 fun hlen2 => ?_
 refine BxT fun g1 => ?_
 refine ua (cs := [_]) .sq (al rfl) rfl rfl rfl rfl rfl rfl fun g2 => ?_
 refine Tx ?_
 refine rw_le (od (g := g1) Pk) ?_
 refine rw_le (od (g := g2) Pk) ?_
 refine Ck (eZ y2 roots1 _ _ _ (fun a0_ => gO a0_ t1 node1) Kr (fun a0_ => mE a0_ g1 y1 t1 g2 node1)) fun _ => ?_
 have hf := Ri (cX.eq_1 t1 node1 roots1)
 exact Ru
def dy (t1 : List Place) (node1 : Int) (roots1 : List Int) : Bool :=
 (roots1.any (fun a0_ => gP a0_ node1 t1))
theorem nN (y1 : SlV) (t1 : List Place) (node1 : Int) (y2 : SlV) (roots1 : List Int) : Does Tryz.prog 119 [.agg ⟨[y1.val t1.length]⟩, .int .i64 node1, y2.val roots1.length] [RdL EPlace y1 t1, RdL EInt y2 roots1] (fun (_ : Unit) => .bool (dy t1 node1 roots1)) (fun _ => []) := by
 refine Dp aK Tryz.func119 Tryz.ntmps119 Tryz.results119 fun C => ?_
 refine Pc EPlace y1 t1 24 fun hlen1 => ?_
 refine Pc EInt y2 roots1 8 fun hlen2 => ?_
 refine BxT fun g1 => ?_
 refine ua (cs := [_]) .sq (al rfl) rfl rfl rfl rfl rfl rfl fun g2 => ?_
 refine Tx ?_
 refine rw_le (od (g := g2) Pk) ?_
 refine rw_le (od (g := g1) Pk) ?_
 refine Ck (eZ y2 roots1 _ _ _ (fun a0_ => gP a0_ node1 t1) Kr (fun a0_ => mG a0_ g2 node1 g1 y1 t1)) fun _ => ?_
 have hf := Ri (dy.eq_1 t1 node1 roots1)
 exact Ru
def ff (t1 : List Place) (roots1 : List Int) : List Place → (List Place) → (List Place) → (View × Int)
 | [], known1, way1 => ((⟨roots1, known1, way1⟩ : View), 0)
 | pn1 :: rn1, known1, way1 => (bif (cX t1 pn1.node roots1) then (ff t1 roots1 rn1 (known1 ++ [pn1]) way1) else (bif (dy t1 pn1.node roots1) then (ff t1 roots1 rn1 known1 (way1 ++ [pn1])) else (ff t1 roots1 rn1 known1 way1)))
def bR (t1 : List Place) (roots1 : List Int) : View × Int :=
 (bif ((bL t1) != 0) then ((⟨[], [], []⟩ : View), (bL t1)) else (bif ((bF roots1) != 0) then ((⟨[], [], []⟩ : View), (bF roots1)) else (ff t1 roots1 t1 [] [])))
theorem gQ (y1 : SlV) (t1 : List Place) (y2 : SlV) (roots1 : List Int) : Does Tryz.prog 72 [.agg ⟨[y1.val t1.length]⟩, y2.val roots1.length] [RdL EPlace y1 t1, RdL EInt y2 roots1] (fun (X : SlV × SlV × SlV) => .tuple #[.agg ⟨cV X.1 X.2.1 X.2.2 (bR t1 roots1).1⟩, .int .i64 (bR t1 roots1).2]) (fun X => [RdL EInt X.1 (bR t1 roots1).1.roots, RdL EPlace X.2.1 (bR t1 roots1).1.known, RdL EPlace X.2.2 (bR t1 roots1).1.way]) := by
 refine Dp aK Tryz.func72 Tryz.ntmps72 Tryz.results72 fun C => ?_
 refine Pc EPlace y1 t1 24 fun hlen1 => ?_
 refine Pc EInt y2 roots1 8 fun hlen2 => ?_
 refine BxT fun g1 => ?_
 refine AlT fun g2 => ?_
 refine Ck (ee y1 t1) fun _ => ?_
 have hf := Ri (bR.eq_1 t1 roots1)
 refine Cn hf (fun hc1 hc1p hf => ?_) fun hc1 hc1p hf => ?_
 ·refine Tx ?_
  refine Fc EInt ?_
  refine Fc EPlace ?_
  refine Rx ?_; exact Re ⟨Z0, Z0, Z0⟩ Rv
 ·refine Ck (gr y2 roots1) fun _ => ?_
  refine Cn hf (fun hc2 hc2p hf => ?_) fun hc2 hc2p hf => ?_
  ·refine Tx ?_
   refine Fc EInt ?_
   refine Fc EPlace ?_
   refine Rx ?_; exact Re ⟨Z0, Z0, Z0⟩ Rv
  ·refine Cm (bX y2 roots1) fun x1 => ?_
   refine Rp rfl rfl rfl rfl ?_
   refine AlT fun g3 => ?_
   refine Tx ?_
   (repeat refine aD ?_); refine Lp [1,2,4,5,8,27,28] [false, true, true] (fun (i_ : Nat × List Place × SlV × Option Nat × List Place × SlV × Option Nat) => match i_ with | ⟨n1, known1, x2, x2b, way1, x3, x3b⟩ => (⟨[(29, .v (.int .i64 (n1 : Int)))], [⟨g3, 61, [x1.1.val roots1.length, x2.val known1.length, x3.val way1.length]⟩], [ownL EInt 3 x1.1 x1.2 roots1, ownL EPlace 99 x2 x2b known1, ownL EPlace 99 x3 x3b way1], [], (n1 ≤ t1.length) ∧ (known1.length ≤ n1) ∧ (way1.length ≤ n1) ∧ (ff t1 roots1 (t1.drop n1) known1 way1) = (bR t1 roots1), t1.length - n1⟩ : Ls)) ⟨0, [], ⟨none, 0⟩, none, [], ⟨none, 0⟩, none⟩ (Sc (Sc (Sc (Sc (Sc (Sc (Sc Sn))))))) (.drop (.keep (.keep (.nil)))) ⟨Nat.zero_le _, (by first | exact Nat.le_refl _ | exact Nat.zero_le _ | omega), (by first | exact Nat.le_refl _ | exact Nat.zero_le _ | omega), hf.symm⟩ (Le.trans (eH EPlace 99) (Le.trans (eH EPlace 99) Le4)) ?_
   rintro ⟨n1, known1, x2, x2b, way1, x3, x3b⟩ ⟨hkn1, hknown1, hway1, hf1⟩
   simp only [Lc]
   refine Cu (fun hlt0 => ?_) fun hge0 => ?_
   ·refine Sy Tz (Xi EPlace n1) ?_
    refine Sq (Xa EPlace) ?_
    refine AlT fun g4 => ?_
    refine Ck (nM y1 t1 (gt t1 n1).node y2 roots1) fun _ => ?_
    refine dD ?_
    have hf := Ri hf1.symm
    rw [bd hlt0, ff] at hf
    refine Ch hf (fun hc4 hf => ?_) fun hc4 hf => ?_
    ·refine Bl EPlace [(gt t1 n1)] fun x4 x4b => ?_
     refine Ap EPlace 24 known1 [(gt t1 n1)] x2b fun x5 x5b => ?_
     refine Tt ?_
     refine ⟨⟨(n1 + 1), (known1 ++ [(gt t1 n1)]), x5, x5b, way1, x3, x3b⟩, ⟨hlt0, Zl, Zl, hf.symm⟩, Oo, Le4⟩
    ·refine Ck (nN y1 t1 (gt t1 n1).node y2 roots1) fun _ => ?_
     refine dD ?_
     refine Ch hf (fun hc5 hf => ?_) fun hc5 hf => ?_
     ·refine Bl EPlace [(gt t1 n1)] fun x6 x6b => ?_
      refine Ap EPlace 24 way1 [(gt t1 n1)] x3b fun x7 x7b => ?_
      refine Tt ?_
      refine ⟨⟨(n1 + 1), known1, x2, x2b, (way1 ++ [(gt t1 n1)]), x7, x7b⟩, ⟨hlt0, Zl, Zl, hf.symm⟩, Oo, Le4⟩
     ·refine Tt ?_
      refine ⟨⟨(n1 + 1), known1, x2, x2b, way1, x3, x3b⟩, ⟨hlt0, Zl, Zl, hf.symm⟩, Oo, Le4⟩
   ·refine Tx ?_
    refine cw_le (ar EInt 3 x1.1 x1.2 roots1 Uo) ?_
    refine cw_le (ar EPlace 99 x2 x2b known1 Uo) ?_
    refine cw_le (ar EPlace 99 x3 x3b way1 Uo) ?_
    have hf := Ri hf1.symm
    rw [List.drop_of_length_le hge0, ff] at hf
    refine Rx ?_; exact Re ⟨x1.1, x2, x3⟩ Rv
def eW (a1 : View) (b1 : View) : Bool :=
 (((decide (a1.roots = b1.roots)) && (decide (a1.known = b1.known))) && (decide (a1.way = b1.way)))
theorem jk (y1 : SlV) (y2 : SlV) (y3 : SlV) (a1 : View) (y4 : SlV) (y5 : SlV) (y6 : SlV) (b1 : View) : Does Tryz.prog 24 [.agg ⟨cV y1 y2 y3 a1⟩, .agg ⟨cV y4 y5 y6 b1⟩] [RdL EInt y1 a1.roots, RdL EPlace y2 a1.known, RdL EPlace y3 a1.way, RdL EInt y4 b1.roots, RdL EPlace y5 b1.known, RdL EPlace y6 b1.way] (fun (_ : Unit) => .bool (eW a1 b1)) (fun _ => []) := by
 refine Dp aK Tryz.func24 Tryz.ntmps24 Tryz.results24 fun C => ?_
 refine Pc EInt y1 a1.roots 8 fun hlen1 => ?_
 refine Pc EPlace y2 a1.known 24 fun hlen2 => ?_
 refine Pc EPlace y3 a1.way 24 fun hlen3 => ?_
 refine Pc EInt y4 b1.roots 8 fun hlen4 => ?_
 refine Pc EPlace y5 b1.known 24 fun hlen5 => ?_
 refine Pc EPlace y6 b1.way 24 fun hlen6 => ?_
 refine BxT fun g1 => ?_
 refine BxT fun g2 => ?_
 refine Ck ((fun y1 a y2 b => dc y1 y2 a b) y1 a1.roots y4 b1.roots) fun _ => ?_
 refine Cy (fun hG_ => (fun y1 a y2 b => dl y1 y2 a b) y2 a1.known y5 b1.known) ?_
 refine Cy (fun hG_ => (fun y1 a y2 b => dl y1 y2 a b) y3 a1.way y6 b1.way) ?_
 have hf := Ri (eW.eq_1 a1 b1)
 exact Ru
theorem iQ (p : Place) : ∀ (l : List Place) (d : Bool) (acc : List Place), (dj p l d acc).length ≤ acc.length + l.length + (bif d then 0 else 1)
 | [], d, acc => by rw [dj]; cases d <;> simp
 | q :: r, d, acc => by
  rw [dj]
  cases h1 : (!d && decide (q.node ≥ p.node)) with
  | true =>
   have hd : d = false := by cases d; rfl; simp at h1
   subst hd
   cases (q.node != p.node) with
   | true => simp only [cond_true]; have := iQ p r true ((acc ++ [p]) ++ [q]); simp at this ⊢; omega
   | false => simp only [cond_true, cond_false]; have := iQ p r true (acc ++ [p]); simp at this ⊢; omega
  | false =>
   cases (q.node != p.node) with
   | true => simp only [cond_true, cond_false]; have := iQ p r d (acc ++ [q]); simp at this ⊢; omega
   | false => simp only [cond_false]; have := iQ p r d acc; simp at this ⊢; omega
theorem pK (l : List Place) (p : Place) : (cg l p).length ≤ l.length + 1 := by
 have := iQ p l (decide (p.parent < 0)) []
 unfold cg
 generalize decide (p.parent < 0) = d at *
 cases d <;> simp at this ⊢ <;> omega
def eO  : List Place → (List Place) → (List Place)
 | [], p1 => p1
 | pn1 :: rn1, p1 => (eO rn1 (cg p1 pn1))
def bN (v1 : View) : List Place :=
 (eO v1.way v1.known)
theorem l6 (y1 : SlV) (y2 : SlV) (y3 : SlV) (v1 : View) (hk1 : v1.known.length ≤ 1000) (hw1 : v1.way.length ≤ 1000) : Does Tryz.prog 157 [.agg ⟨cV y1 y2 y3 v1⟩] [RdL EInt y1 v1.roots, RdL EPlace y2 v1.known, RdL EPlace y3 v1.way] (fun (X : SlV) => .agg ⟨[X.val (bN v1).length]⟩) (fun X => [RdL EPlace X (bN v1)]) := by
 refine Dp aK Tryz.func157 Tryz.ntmps157 Tryz.results157 fun C => ?_
 refine Pc EInt y1 v1.roots 8 fun hlen1 => ?_
 refine Pc EPlace y2 v1.known 24 fun hlen2 => ?_
 refine Pc EPlace y3 v1.way 24 fun hlen3 => ?_
 refine BxT fun g1 => ?_
 refine AlT fun g2 => ?_
 refine Cm (ct y2 v1.known) fun x1 => ?_
 refine Rp rfl rfl rfl rfl ?_
 refine AlT fun g3 => ?_
 refine Tx ?_
 (repeat refine aD ?_); refine Lp [2,3,11,12] [false, true, true] (fun (i_ : Nat × List Place × SlV) => match i_ with | ⟨n1, p1, x2⟩ => (⟨[(13, .v (.int .i64 (n1 : Int)))], [⟨g3, 25, [x2.val p1.length]⟩], [], [RdL EPlace x2 p1], (n1 ≤ v1.way.length) ∧ (p1.length ≤ v1.known.length + n1) ∧ (eO (v1.way.drop n1) p1) = (bN v1), v1.way.length - n1⟩ : Ls)) ⟨0, v1.known, x1.1⟩ (Sc (Sc (Sc (Sc Sn)))) (.drop (.keep (.keep (.nil)))) ⟨Nat.zero_le _, (by simp), (by simp only [bN, Cf] : (bN v1) = (eO v1.way v1.known)).symm⟩ (Le.trans (ar EPlace 99 x1.1 x1.2 v1.known Uo) Le4) ?_
 rintro ⟨n1, p1, x2⟩ ⟨hkn1, hpb, hf1⟩
 simp only [Lc]
 refine Cu (fun hlt0 => ?_) fun hge0 => ?_
 ·refine Sy Tz (Xi EPlace n1) ?_
  refine Sq (Xa EPlace) ?_
  refine AlT fun g4 => ?_
  refine Ck (fI x2 p1 (gt v1.way n1) (by omega)) fun x3 => ?_
  refine Pr EPlace x3 (cg p1 (gt v1.way n1)) 24 fun hlen4 => ?_
  refine Tt ?_
  refine ⟨⟨(n1 + 1), (cg p1 (gt v1.way n1)), x3⟩, ⟨hlt0, (by have := pK p1 (gt v1.way n1); simp only []; omega), (by rw [← hf1, bd hlt0]; simp only [eO, Cf] : (bN v1) = (eO (v1.way.drop (n1 + 1)) (cg p1 (gt v1.way n1)))).symm⟩, Oo, Le4⟩
 ·have hf := Ri hf1.symm
  rw [List.drop_of_length_le hge0, eO] at hf
  refine Rx ?_; exact Re x2 Rv
def fr (v1 : View) : Int :=
 (bif (((bR (bN v1) v1.roots).2 == 0) && (!(eW (bR (bN v1) v1.roots).1 v1))) then 4 else (bR (bN v1) v1.roots).2)
def fu (v1 : View) : Int :=
 (bif ((bL v1.way) != 0) then (bL v1.way) else (fr v1))
def fv (v1 : View) : Int :=
 (bif ((bL v1.known) != 0) then (bL v1.known) else (fu v1))
def bz (v1 : View) : Int :=
 (bif ((bF v1.roots) != 0) then (bF v1.roots) else (fv v1))
theorem eD (y1 : SlV) (y2 : SlV) (y3 : SlV) (v1 : View) : Does Tryz.prog 112 [.agg ⟨cV y1 y2 y3 v1⟩] [RdL EInt y1 v1.roots, RdL EPlace y2 v1.known, RdL EPlace y3 v1.way] (fun (_ : Unit) => .int .i64 (bz v1)) (fun _ => []) := by
 refine Dp aK Tryz.func112 Tryz.ntmps112 Tryz.results112 fun C => ?_
 refine Pc EInt y1 v1.roots 8 fun hlen1 => ?_
 refine Pc EPlace y2 v1.known 24 fun hlen2 => ?_
 refine Pc EPlace y3 v1.way 24 fun hlen3 => ?_
 refine BxT fun g1 => ?_
 refine Ck (gr y1 v1.roots) fun _ => ?_
 have hf := Ri (bz.eq_1 v1)
 refine Cn hf (fun hc1 hc1p hf => ?_) fun hc1 hc1p hf => ?_
 ·exact Ru
 ·refine Sy Tz (lm rfl rfl Zf rfl rfl rfl rfl) ?_
  refine Lq Nat [1,2,19] [true] (fun n1 => ⟨[(20, .v (.int .i64 (n1 : Int)))], [], [], [], (n1 ≤ 2) ∧ (1 ≤ n1 → bL v1.known = 0) ∧ (2 ≤ n1 → bL v1.way = 0) ∧ (match n1 with | 0 => (fv v1) | 1 => (fu v1) | _ => (fr v1)) = (bz v1), 2 - n1⟩) 0 ⟨Nat.zero_le _, (fun h => absurd h (by omega)), (fun h => absurd h (by omega)), hf.symm⟩ ?_
  rintro n1 ⟨hkn1, hi1, hi2, hf1⟩
  simp only [Lc]
  have hkn13 : n1 = 0 ∨ n1 = 1 ∨ n1 = 2 := by omega
  rcases hkn13 with rfl | rfl | rfl
  ·have hf1 : (fv v1) = (bz v1) := hf1
   refine Cd' (fun hc2 => ?_) fun hc2 => ?_
   ·refine Sy Tz (q_ixL 0 rfl rfl Zf rfl Zf rfl rfl rfl rfl rfl) ?_
    refine Ck (ee y2 v1.known) fun _ => ?_
    have hf := Ri hf1.symm
    rw [fv] at hf
    refine Cn hf (fun hc3 hc3p hf => ?_) fun hc3 hc3p hf => ?_
    ·exact Ru
    ·have hck := ai hc3
     refine Tt ?_
     refine ⟨1, ⟨by omega, (fun _ => by first | exact hck | exact hi1 (by omega) | omega), (fun _ => by first | exact hck | omega), hf.symm⟩, (show 2 - 1 < 2 - 0 by decide), Le4⟩
   ·exact Bool.noConfusion (hc2.symm.trans (decide_eq_true (by decide)))
  ·have hf1 : (fu v1) = (bz v1) := hf1
   refine Cd' (fun hc4 => ?_) fun hc4 => ?_
   ·refine Sy Tz (q_ixL 1 rfl rfl Zf rfl Zf rfl rfl rfl rfl rfl) ?_
    refine Ck (ee y3 v1.way) fun _ => ?_
    have hf := Ri hf1.symm
    rw [fu] at hf
    refine Cn hf (fun hc5 hc5p hf => ?_) fun hc5 hc5p hf => ?_
    ·exact Ru
    ·have hck := ai hc5
     refine Tt ?_
     refine ⟨2, ⟨by omega, (fun _ => by first | exact hck | exact hi1 (by omega) | omega), (fun _ => by first | exact hck | omega), hf.symm⟩, (show 2 - 2 < 2 - 1 by decide), Le4⟩
   ·exact Bool.noConfusion (hc4.symm.trans (decide_eq_true (by decide)))
  ·have hf1 : (fr v1) = (bz v1) := hf1
   refine Cd' (fun hc6 => ?_) fun hc6 => ?_
   ·exact Bool.noConfusion (hc6.symm.trans (decide_eq_false (by decide)))
   ·refine Tx ?_
    refine Jn (Nat × SlV × SlV × SlV) [1, 2] [true] (fun ⟨g2, x1, x2, x3⟩ => ⟨[(7, .v (.pointer (some ⟨g2, 0, none⟩))), (8, .v (.int .i64 (bR (bN v1) v1.roots).2))], [⟨g2, 61, cV x1 x2 x3 (bR (bN v1) v1.roots).1⟩], [], [RdL EInt x1 (bR (bN v1) v1.roots).1.roots, RdL EPlace x2 (bR (bN v1) v1.roots).1.known, RdL EPlace x3 (bR (bN v1) v1.roots).1.way], True, 0⟩) ?_ ?_
    ·refine ap (fun j => match j with | 9 => none | _ => some []) ?_
     refine Dx [0,2,3] ?_
     refine Rw 1 8 ?_ ?_
     ·refine Ck (l6 y1 y2 y3 v1 (Nat.le_trans (k6 (hi1 (by omega))) (by omega)) (Nat.le_trans (k6 (hi2 (by omega))) (by omega))) fun x4 => ?_
      refine Pr EPlace x4 (bN v1) 24 fun hlen4 => ?_
      refine Rw 4 8 ?_ ?_
      ·refine Ck (gQ x4 (bN v1) y1 v1.roots) fun x5 => ?_
       refine Pr EInt x5.1 (bR (bN v1) v1.roots).1.roots 8 fun hlen5 => ?_
       refine Pr EPlace x5.2.1 (bR (bN v1) v1.roots).1.known 24 fun hlen6 => ?_
       refine Pr EPlace x5.2.2 (bR (bN v1) v1.roots).1.way 24 fun hlen7 => ?_
       refine Dx [5,6] ?_
       refine ra_p (Fa 7 [8,9]) rfl rfl rfl Xv ?_
       refine Rn 8 ?_
       refine cw (.an rfl rfl) (al rfl) rfl rfl rfl rfl fun g3 => ?_
       refine Rn 9 ?_
       refine Wa ?_
       refine Ra 10 rfl Qp ?_
       refine Re0 ?_
       refine ⟨⟨g3, x5.1, x5.2.1, x5.2.2⟩, trivial, Le4⟩
      ·refine cw (.an rfl rfl) (al rfl) rfl rfl rfl rfl fun g4 => ?_
       refine Rn 4 ?_
       refine Ck (gQ x4 (bN v1) y1 v1.roots) fun x6 => ?_
       refine Pr EInt x6.1 (bR (bN v1) v1.roots).1.roots 8 fun hlen8 => ?_
       refine Pr EPlace x6.2.1 (bR (bN v1) v1.roots).1.known 24 fun hlen9 => ?_
       refine Pr EPlace x6.2.2 (bR (bN v1) v1.roots).1.way 24 fun hlen10 => ?_
       refine Dx [5,6] ?_
       refine ra_p (Fa 7 [9]) rfl rfl rfl Xv ?_
       refine Rn 9 ?_
       refine Wa ?_
       refine Ra 10 rfl Qp ?_
       refine Re0 ?_
       refine ⟨⟨g4, x6.1, x6.2.1, x6.2.2⟩, trivial, Le4⟩
     ·refine cw (.an rfl rfl) (al rfl) rfl rfl rfl rfl fun g5 => ?_
      refine Rn 1 ?_
      refine Ck (l6 y1 y2 y3 v1 (Nat.le_trans (k6 (hi1 (by omega))) (by omega)) (Nat.le_trans (k6 (hi2 (by omega))) (by omega))) fun x7 => ?_
      refine Pr EPlace x7 (bN v1) 24 fun hlen11 => ?_
      refine Rn 4 ?_
      refine Ck (gQ x7 (bN v1) y1 v1.roots) fun x8 => ?_
      refine Pr EInt x8.1 (bR (bN v1) v1.roots).1.roots 8 fun hlen12 => ?_
      refine Pr EPlace x8.2.1 (bR (bN v1) v1.roots).1.known 24 fun hlen13 => ?_
      refine Pr EPlace x8.2.2 (bR (bN v1) v1.roots).1.way 24 fun hlen14 => ?_
      refine Dx [5,6] ?_
      refine ra_p (Fa 7 [9]) rfl rfl rfl Xv ?_
      refine Rn 9 ?_
      refine Wa ?_
      refine Ra 10 rfl Qp ?_
      refine Re0 ?_
      refine ⟨⟨g5, x8.1, x8.2.1, x8.2.2⟩, trivial, Le4⟩
    ·rintro ⟨g2, x1, x2, x3⟩ -
     simp only [Lc]
     refine Cy (fun hG_ => jk x1 x2 x3 (bR (bN v1) v1.roots).1 y1 y2 y3 v1) ?_
     have hf := Ri hf1.symm
     rw [fr] at hf
     refine Ch hf (fun hc7 hf => ?_) fun hc7 hf => ?_
     ·exact Ru
     ·exact Ru
def cq (v1 : Int) : List Int → Nat → Int
 | [], n1 => (-1)
 | pn1 :: rn1, n1 => (bif (v1 == pn1) then (n1 : Int) else (cq v1 rn1 (n1 + 1)))
def eX (s1 : List Int) (v1 : Int) : Int :=
 (cq v1 s1 0)
theorem kL (y1 : SlV) (s1 : List Int) (v1 : Int) : Does Tryz.prog 127 [y1.val s1.length, .int .i64 v1] [RdL EInt y1 s1] (fun (_ : Unit) => .int .i64 (eX s1 v1)) (fun _ => []) := by
 refine Dp aK Tryz.func127 Tryz.ntmps127 Tryz.results127 fun C => ?_
 refine Pc EInt y1 s1 8 fun hlen1 => ?_
 refine Lq Nat [0,1,4,7] [] (fun n1 => ⟨[(8, .v (.int .i64 (n1 : Int)))], [], [], [], (n1 ≤ s1.length) ∧ (cq v1 (s1.drop n1) n1) = (eX s1 v1), s1.length - n1⟩) 0 ⟨Nat.zero_le _, (by simp only [eX, Cf] : (eX s1 v1) = (cq v1 s1 0)).symm⟩ ?_
 rintro n1 ⟨hkn1, hf1⟩
 simp only [Lc]
 refine Cu (fun hlt0 => ?_) fun hge0 => ?_
 ·refine Sy Tz (Xi EInt n1) ?_
  refine Sq (X1 EInt) ?_
  have hf := Ri hf1.symm
  rw [bd hlt0, cq] at hf
  refine Ce hf (fun hc2 hc2p hf => ?_) fun hc2 hc2p hf => ?_
  ·exact Ru
  ·refine Tt ?_
   refine ⟨(n1 + 1), ⟨hlt0, hf.symm⟩, Oo, Le4⟩
 ·have hf := Ri hf1.symm
  rw [List.drop_of_length_le hge0, cq] at hf
  exact Ru
def f9 (s1 : List Int) (v1 : Int) : Bool :=
 decide ((eX s1 v1) ≥ 0)
theorem jy (y1 : SlV) (s1 : List Int) (v1 : Int) : Does Tryz.prog 79 [y1.val s1.length, .int .i64 v1] [RdL EInt y1 s1] (fun (_ : Unit) => .bool (f9 s1 v1)) (fun _ => []) := by
 refine Dp aK Tryz.func79 Tryz.ntmps79 Tryz.results79 fun C => ?_
 refine Pc EInt y1 s1 8 fun hlen1 => ?_
 refine Ck (kL y1 s1 v1) fun _ => ?_
 have hf := Ri (f9.eq_1 s1 v1)
 exact Ru
def ez (n1 : Int) (from1 : Int) (to1 : Int) : Bool :=
 (decide (from1 ≤ n1) && decide (n1 ≤ to1))
theorem kC (s : List Int) (v : Int) : f9 s v = decide (v ∈ s) := by
 have key : ∀ (l : List Int) (k : Nat), decide (cq v l k ≥ 0) = decide (v ∈ l) := by
  intro l
  induction l with
  | nil => intro k; simp [cq]
  | cons p r ih =>
   intro k
   rw [cq]
   by_cases h : v = p
   ·first | (simp [h]; done) | (simp [h]; omega)
   ·have : (v == p) = false := by simpa using h
    rw [this, cond_false, ih]; simp [h]
 exact key s 0
theorem fV (y1 : SlV) (s1 : List Int) (v1 : Int) : Does Tryz.prog 79 [y1.val s1.length, .int .i64 v1] [RdL EInt y1 s1] (fun (_ : Unit) => .bool (decide (v1 ∈ s1))) (fun _ => []) := by
 have := jy y1 s1 v1
 rw [kC] at this
 exact this
def fc  : Int :=
 0
def dv (d1 : Delta) : List Place → Nat → Int
 | [], n5 => (fc)
 | pn5 :: rn5, n5 => (bif (((((decide (pn5.node < 1) || decide (pn5.node ≥ 16)) || decide (pn5.parent < 0)) || decide (pn5.parent > 16)) || decide (pn5.name < 0)) || decide (pn5.name > 99)) then 3 else (bif ((decide ((n5 : Int) > 0) && decide ((gt d1.wayHere (n5 - 1)).node ≥ pn5.node)) || (decide (pn5.node ∈ d1.wayGone))) then 6 else (dv d1 rn5 (n5 + 1))))
def eh (d1 : Delta) : List Int → Nat → Int
 | [], n4 => (dv d1 d1.wayHere 0)
 | pn4 :: rn4, n4 => (bif (decide (pn4 < 1) || decide (pn4 ≥ 16)) then 5 else (bif (decide ((n4 : Int) > 0) && decide ((gt d1.wayGone (n4 - 1)) ≥ pn4)) then 6 else (eh d1 rn4 (n4 + 1))))
def dA (d1 : Delta) : Int :=
 (bif (decide ((d1.wayGone.length : Int) > 16) || decide ((d1.wayHere.length : Int) > 16)) then 2 else (eh d1 d1.wayGone 0))
def dw (d1 : Delta) : List Place → Nat → Int
 | [], n3 => (dA d1)
 | pn3 :: rn3, n3 => (bif (((((decide (pn3.node < 1) || decide (pn3.node ≥ 16)) || decide (pn3.parent < 0)) || decide (pn3.parent > 16)) || decide (pn3.name < 0)) || decide (pn3.name > 99)) then 3 else (bif ((decide ((n3 : Int) > 0) && decide ((gt d1.here (n3 - 1)).node ≥ pn3.node)) || (decide (pn3.node ∈ d1.gone))) then 6 else (dw d1 rn3 (n3 + 1))))
def ei (d1 : Delta) : List Int → Nat → Int
 | [], n2 => (dw d1 d1.here 0)
 | pn2 :: rn2, n2 => (bif (decide (pn2 < 1) || decide (pn2 ≥ 16)) then 5 else (bif (decide ((n2 : Int) > 0) && decide ((gt d1.gone (n2 - 1)) ≥ pn2)) then 6 else (ei d1 rn2 (n2 + 1))))
def ek (d1 : Delta) : Int :=
 (bif (decide ((d1.gone.length : Int) > 16) || decide ((d1.here.length : Int) > 16)) then 2 else (ei d1 d1.gone 0))
def bG (d1 : Delta) : Int :=
 (ek d1)
theorem ii (y1 : SlV) (y2 : SlV) (y3 : SlV) (y4 : SlV) (d1 : Delta) : Does Tryz.prog 152 [.agg ⟨cD y1 y2 y3 y4 d1⟩] [RdL EInt y1 d1.gone, RdL EPlace y2 d1.here, RdL EInt y3 d1.wayGone, RdL EPlace y4 d1.wayHere] (fun (_ : Unit) => .int .i64 (bG d1)) (fun _ => []) := by
 refine Dp aK Tryz.func152 Tryz.ntmps152 Tryz.results152 fun C => ?_
 refine Pc EInt y1 d1.gone 8 fun hlen1 => ?_
 refine Pc EPlace y2 d1.here 24 fun hlen2 => ?_
 refine Pc EInt y3 d1.wayGone 8 fun hlen3 => ?_
 refine Pc EPlace y4 d1.wayHere 24 fun hlen4 => ?_
 refine BxT fun g1 => ?_
 refine Sy Tz (lm rfl rfl Zf rfl rfl rfl rfl) ?_
 refine Lq Nat [1,2,14] [true] (fun n1 => ⟨[(15, .v (.int .i64 (n1 : Int)))], [], [], [], (n1 ≤ 2) ∧ (match n1 with | 0 => (ek d1) | 1 => (dA d1) | _ => fc) = (bG d1), 2 - n1⟩) 0 ⟨Nat.zero_le _, (by simp only [bG, Cf] : (bG d1) = (ek d1)).symm⟩ ?_
 rintro n1 ⟨hkn1, hf1⟩
 simp only [Lc]
 have hkn13 : n1 = 0 ∨ n1 = 1 ∨ n1 = 2 := by omega
 rcases hkn13 with rfl | rfl | rfl
 ·have hf1 : (ek d1) = (bG d1) := hf1
  refine Cd' (fun hc1 => ?_) fun hc1 => ?_
  ·refine Sy Tz (q_ixL 0 rfl rfl Zf rfl Zf rfl rfl rfl rfl rfl) ?_
   refine Sy Tz (lm rfl rfl Zf rfl rfl rfl rfl) ?_
   refine Rp rfl rfl rfl rfl ?_
   refine Sq (q_ixL 0 rfl rfl Zf rfl Zf rfl rfl rfl rfl rfl) ?_
   have hf := Ri hf1.symm
   rw [ek] at hf
   refine Ch hf (fun hc2 hf => ?_) fun hc2 hf => ?_
   ·exact Ru
   ·refine Lq Nat [1,2,3,4,5,14,15,16,17,18,19,20,21,22,23,24,25,26,27,28,29,33,34,35] [true] (fun n2 => ⟨[(36, .v (.int .i64 (n2 : Int)))], [], [], [], (n2 ≤ d1.gone.length) ∧ (ei d1 (d1.gone.drop n2) n2) = (bG d1), d1.gone.length - n2⟩) 0 ⟨Nat.zero_le _, hf.symm⟩ ?_
    rintro n2 ⟨hkn2, hf2⟩
    simp only [Lc]
    refine Cu (fun hlt1 => ?_) fun hge1 => ?_
    ·refine Sy Tz (Xi EInt n2) ?_
     refine Sq (X1 EInt) ?_
     have hf := Ri hf2.symm
     rw [bd hlt1, ei] at hf
     refine Ch hf (fun hc4 hf => ?_) fun hc4 hf => ?_
     ·exact Ru
     ·refine Tx ?_
      refine Sg Gz Xm ?_
      refine Sg Gz (Xi EInt (n2 - 1)) ?_
      refine Sg Gz (X1 EInt) ?_
      refine Ch hf (fun hc5 hf => ?_) fun hc5 hf => ?_
      ·exact Ru
      ·refine Tt ?_
       refine ⟨(n2 + 1), ⟨hlt1, hf.symm⟩, Oo, Le4⟩
    ·refine Lq Nat [1,2,3,4,5,14,15,16,17,18,19,20,21,22,23,24,25,26,27,28,29,33,34,35,36,37,59,60] [true] (fun n3 => ⟨[(61, .v (.int .i64 (n3 : Int)))], [], [], [], (n3 ≤ d1.here.length) ∧ (dw d1 (d1.here.drop n3) n3) = (bG d1), d1.here.length - n3⟩) 0 ⟨Nat.zero_le _, (by rw [← hf2, List.drop_of_length_le hge1]; simp only [ei, Cf] : (bG d1) = (dw d1 d1.here 0)).symm⟩ ?_
     rintro n3 ⟨hkn3, hf3⟩
     simp only [Lc]
     refine Cu (fun hlt2 => ?_) fun hge2 => ?_
     ·refine Sy Tz (Xi EPlace n3) ?_
      refine Sq (Xa EPlace) ?_
      refine AlT fun g2 => ?_
      have hf := Ri hf3.symm
      rw [bd hlt2, dw] at hf
      refine Ch hf (fun hc7 hf => ?_) fun hc7 hf => ?_
      ·exact Ru
      ·refine Tx ?_
       (repeat refine aD ?_); refine ap (fun _ => some []) ?_
       refine Dx (.range 6) ?_
       refine Gb 6 rfl Gz (Xi EPlace (n3 - 1)) ?_
       refine Gb 7 rfl Gz Xf ?_
       refine Gb 8 rfl Gz (X1 EPlace) ?_
       refine Dx (.range' 9 8) ?_
       refine Rn 17 ?_
       refine Cy (fun hG_ => fV y1 d1.gone (gt d1.here n3).node) ?_
       refine Ra 18 rfl Xv ?_
       refine Re0 ?_
       refine Ch hf (fun hc8 hf => ?_) fun hc8 hf => ?_
       ·exact Ru
       ·refine Tt ?_
        refine ⟨(n3 + 1), ⟨hlt2, hf.symm⟩, Oo, Le4⟩
     ·refine Tt ?_
      refine ⟨1, ⟨by omega, (by rw [← hf3, List.drop_of_length_le hge2]; simp only [dw, Cf] : (bG d1) = (dA d1)).symm⟩, (show 2 - 1 < 2 - 0 by decide), Le4⟩
  ·exact Bool.noConfusion (hc1.symm.trans (decide_eq_true (by decide)))
 ·have hf1 : (dA d1) = (bG d1) := hf1
  refine Cd' (fun hc9 => ?_) fun hc9 => ?_
  ·refine Sy Tz (q_ixL 1 rfl rfl Zf rfl Zf rfl rfl rfl rfl rfl) ?_
   refine Sy Tz (lm rfl rfl Zf rfl rfl rfl rfl) ?_
   refine Rp rfl rfl rfl rfl ?_
   refine Sq (q_ixL 1 rfl rfl Zf rfl Zf rfl rfl rfl rfl rfl) ?_
   have hf := Ri hf1.symm
   rw [dA] at hf
   refine Ch hf (fun hc10 hf => ?_) fun hc10 hf => ?_
   ·exact Ru
   ·refine Lq Nat [1,2,3,4,5,14,15,16,17,18,19,20,21,22,23,24,25,26,27,28,29,33,34,35] [true] (fun n4 => ⟨[(36, .v (.int .i64 (n4 : Int)))], [], [], [], (n4 ≤ d1.wayGone.length) ∧ (eh d1 (d1.wayGone.drop n4) n4) = (bG d1), d1.wayGone.length - n4⟩) 0 ⟨Nat.zero_le _, hf.symm⟩ ?_
    rintro n4 ⟨hkn4, hf4⟩
    simp only [Lc]
    refine Cu (fun hlt1 => ?_) fun hge1 => ?_
    ·refine Sy Tz (Xi EInt n4) ?_
     refine Sq (X1 EInt) ?_
     have hf := Ri hf4.symm
     rw [bd hlt1, eh] at hf
     refine Ch hf (fun hc12 hf => ?_) fun hc12 hf => ?_
     ·exact Ru
     ·refine Tx ?_
      refine Sg Gz Xm ?_
      refine Sg Gz (Xi EInt (n4 - 1)) ?_
      refine Sg Gz (X1 EInt) ?_
      refine Ch hf (fun hc13 hf => ?_) fun hc13 hf => ?_
      ·exact Ru
      ·refine Tt ?_
       refine ⟨(n4 + 1), ⟨hlt1, hf.symm⟩, Oo, Le4⟩
    ·refine Lq Nat [1,2,3,4,5,14,15,16,17,18,19,20,21,22,23,24,25,26,27,28,29,33,34,35,36,37,59,60] [true] (fun n5 => ⟨[(61, .v (.int .i64 (n5 : Int)))], [], [], [], (n5 ≤ d1.wayHere.length) ∧ (dv d1 (d1.wayHere.drop n5) n5) = (bG d1), d1.wayHere.length - n5⟩) 0 ⟨Nat.zero_le _, (by rw [← hf4, List.drop_of_length_le hge1]; simp only [eh, Cf] : (bG d1) = (dv d1 d1.wayHere 0)).symm⟩ ?_
     rintro n5 ⟨hkn5, hf5⟩
     simp only [Lc]
     refine Cu (fun hlt2 => ?_) fun hge2 => ?_
     ·refine Sy Tz (Xi EPlace n5) ?_
      refine Sq (Xa EPlace) ?_
      refine AlT fun g3 => ?_
      have hf := Ri hf5.symm
      rw [bd hlt2, dv] at hf
      refine Ch hf (fun hc15 hf => ?_) fun hc15 hf => ?_
      ·exact Ru
      ·refine Tx ?_
       (repeat refine aD ?_); refine ap (fun _ => some []) ?_
       refine Dx (.range 6) ?_
       refine Gb 6 rfl Gz (Xi EPlace (n5 - 1)) ?_
       refine Gb 7 rfl Gz Xf ?_
       refine Gb 8 rfl Gz (X1 EPlace) ?_
       refine Dx (.range' 9 8) ?_
       refine Rn 17 ?_
       refine Cy (fun hG_ => fV y3 d1.wayGone (gt d1.wayHere n5).node) ?_
       refine Ra 18 rfl Xv ?_
       refine Re0 ?_
       refine Ch hf (fun hc16 hf => ?_) fun hc16 hf => ?_
       ·exact Ru
       ·refine Tt ?_
        refine ⟨(n5 + 1), ⟨hlt2, hf.symm⟩, Oo, Le4⟩
     ·refine Tt ?_
      refine ⟨2, ⟨by omega, (by rw [← hf5, List.drop_of_length_le hge2]; simp only [dv, Cf] : (bG d1) = fc).symm⟩, (show 2 - 2 < 2 - 1 by decide), Le4⟩
  ·exact Bool.noConfusion (hc9.symm.trans (decide_eq_true (by decide)))
 ·have hf1 : fc = (bG d1) := hf1
  refine Cd' (fun hc17 => ?_) fun hc17 => ?_
  ·exact Bool.noConfusion (hc17.symm.trans (decide_eq_false (by decide)))
  ·have hf := Ri hf1.symm
   rw [fc] at hf
   exact Ru
def jM (a1 : Delta) (b1 : Delta) : Bool :=
 ((((decide (a1.gone = b1.gone)) && (decide (a1.here = b1.here))) && (decide (a1.wayGone = b1.wayGone))) && (decide (a1.wayHere = b1.wayHere)))
theorem ot (y1 : SlV) (y2 : SlV) (y3 : SlV) (y4 : SlV) (a1 : Delta) (y5 : SlV) (y6 : SlV) (y7 : SlV) (y8 : SlV) (b1 : Delta) : Does Tryz.prog 158 [.agg ⟨cD y1 y2 y3 y4 a1⟩, .agg ⟨cD y5 y6 y7 y8 b1⟩] [RdL EInt y1 a1.gone, RdL EPlace y2 a1.here, RdL EInt y3 a1.wayGone, RdL EPlace y4 a1.wayHere, RdL EInt y5 b1.gone, RdL EPlace y6 b1.here, RdL EInt y7 b1.wayGone, RdL EPlace y8 b1.wayHere] (fun (_ : Unit) => .bool (jM a1 b1)) (fun _ => []) := by
 refine Dp aK Tryz.func158 Tryz.ntmps158 Tryz.results158 fun C => ?_
 refine Pc EInt y1 a1.gone 8 fun hlen1 => ?_
 refine Pc EPlace y2 a1.here 24 fun hlen2 => ?_
 refine Pc EInt y3 a1.wayGone 8 fun hlen3 => ?_
 refine Pc EPlace y4 a1.wayHere 24 fun hlen4 => ?_
 refine Pc EInt y5 b1.gone 8 fun hlen5 => ?_
 refine Pc EPlace y6 b1.here 24 fun hlen6 => ?_
 refine Pc EInt y7 b1.wayGone 8 fun hlen7 => ?_
 refine Pc EPlace y8 b1.wayHere 24 fun hlen8 => ?_
 refine BxT fun g1 => ?_
 refine BxT fun g2 => ?_
 refine Ck ((fun y1 a y2 b => dc y1 y2 a b) y1 a1.gone y5 b1.gone) fun _ => ?_
 refine Cy (fun hG_ => (fun y1 a y2 b => dl y1 y2 a b) y2 a1.here y6 b1.here) ?_
 refine Cy (fun hG_ => (fun y1 a y2 b => dc y1 y2 a b) y3 a1.wayGone y7 b1.wayGone) ?_
 refine Cy (fun hG_ => (fun y1 a y2 b => dl y1 y2 a b) y4 a1.wayHere y8 b1.wayHere) ?_
 have hf := Ri (jM.eq_1 a1 b1)
 exact Ru
end Go.Proofs.YtkjccbdeaflekaaGreatDoor

namespace Go.Proofs.YtkjccbdeaflekaaGreatDoor
open Go Go.Proofs.YtkjccbdeaflekaaGreatDoor.Fw Go.Proofs
def find : List Place → Int → Place
 | [], _ => ⟨0, 0, 0⟩
 | p :: r, n => bif p.node == n then p else find r n
def place (p : Place) : Int := bif (decide (p.node < 1) || decide (p.node ≥ 16) || decide (p.parent < 0) || decide (p.parent > 16) || decide (p.name < 0) || decide (p.name > 99)) then 3 else 0
def lN (l : List Place) (top : Int) : Nat → Int → Bool
 | 0, _ => false
 | k + 1, nd => bif nd == top then true else bif (find l nd).node == 0 then false else lN l top k (find l nd).parent
def stands (l : List Place) (nd top : Int) : Bool := lN l top (l.length + 1) nd
def chk1 (l : List Place) : Nat → Nat → Int
 | 0, _ => 0
 | f + 1, k => bif place (gt l k) != 0 then place (gt l k) else bif (decide ((k : Int) > 0) && decide ((gt l (k - 1)).node ≥ (gt l k).node)) then 6 else chk1 l f (k + 1)
def chk2 (t : List Place) : List Place → Int
 | [] => 0
 | p :: r => bif stands t p.parent p.node then 4 else chk2 t r
def db (l : List Place) : Int := bif chk1 l l.length 0 != 0 then chk1 l l.length 0 else chk2 l l
def put (p : Place) : Bool → List Place → List Place
 | d, [] => bif !d then [p] else []
 | d, q :: r => bif (!d && decide (q.node ≥ p.node)) then p :: (bif q.node != p.node then q :: put p true r else put p true r) else (bif q.node != p.node then q :: put p d r else put p d r)
def putT (l : List Place) (p : Place) : List Place := put p (decide (p.parent < 0)) l
def under (l : List Place) (nd top : Int) : Bool × Int := bif db l != 0 then (false, db l) else bif (decide (nd < 0) || decide (nd > 16) || decide (top < 0) || decide (top > 16)) then (false, 5) else (stands l nd top, 0)
def chkO (o : Op) : Int := bif (decide (o.time < 1) || decide (o.time > 10000) || decide (o.who < 0) || decide (o.who ≥ 3) || decide (o.node < 1) || decide (o.node ≥ 16) || decide (o.parent < 0) || decide (o.parent > 16) || decide (o.name < 0) || decide (o.name > 99) || decide (o.life < 1) || decide (o.life > 50) || decide (o.seq < 1) || decide (o.seq > 30)) then 3 else 0
def eL (l : List Place) (o : Op) : List Place × Step × Int :=
 bif db l != 0 then ([], default, db l) else bif chkO o != 0 then ([], default, chkO o) else
 bif stands l o.parent o.node then (l, ⟨o, false, find l o.node⟩, 0) else (putT l ⟨o.node, o.parent, o.name⟩, ⟨o, true, find l o.node⟩, 0)
def wasOf (s : Step) : Place := bif s.was.node == 0 then ⟨s.o.node, -1, 0⟩ else s.was
def ma (l : List Place) (s : Step) : List Place × Int :=
 bif db l != 0 then ([], db l) else bif chkO s.o != 0 then ([], chkO s.o) else bif !s.did then (l, 0) else
 bif ((wasOf s).node != s.o.node || find l s.o.node != ⟨s.o.node, s.o.parent, s.o.name⟩) then ([], 4) else
 bif db (putT l (wasOf s)) != 0 then ([], db (putT l (wasOf s))) else (putT l (wasOf s), 0)
theorem rO (l : List Place) : ∀ (f k : Nat), k + f = l.length → chk1 l f k = 0 → (∀ i, k ≤ i → i < l.length → place (gt l i) = 0) ∧ ∀ i, k ≤ i → i < l.length → 0 < i → (gt l (i - 1)).node < (gt l i).node
 | 0, k, h, _ => ⟨fun i h1 h2 => by omega, fun i h1 h2 => by omega⟩
 | f + 1, k, h, hc => by
  rw [chk1] at hc
  cases h1 : place (gt l k) != 0 with
  | true => rw [h1, cond_true] at hc; simp [hc] at h1
  | false =>
   rw [h1, cond_false] at hc
   cases h2 : (decide ((k : Int) > 0) && decide ((gt l (k - 1)).node ≥ (gt l k).node)) with
   | true => rw [h2, cond_true] at hc; cases hc
   | false =>
    rw [h2, cond_false] at hc
    obtain ⟨ha, hb⟩ := rO l f (k + 1) (by omega) hc
    refine ⟨fun i hi hlt => ?_, fun i hi hlt hp => ?_⟩
    ·rcases Nat.eq_or_lt_of_le hi with rfl | hi
     ·simpa using h1
     ·exact ha i hi hlt
    ·rcases Nat.eq_or_lt_of_le hi with rfl | hi
     ·simp only [Bool.and_eq_false_iff, decide_eq_false_iff_not] at h2
      rcases h2 with h2 | h2 <;> omega
     ·exact hb i hi hlt hp
theorem sN {l : List Place} (h : db l = 0) : chk1 l l.length 0 = 0 := by
 unfold db at h
 cases h1 : chk1 l l.length 0 != 0 with
 | true => rw [h1, cond_true] at h; exact h
 | false => simpa using h1
theorem nX {p : Place} (h : place p = 0) : 1 ≤ p.node ∧ p.node < 16 ∧ 0 ≤ p.parent ∧ p.parent ≤ 16 ∧ 0 ≤ p.name ∧ p.name ≤ 99 := by
 unfold place at h
 generalize hb : (decide (p.node < 1) || decide (p.node ≥ 16) || decide (p.parent < 0) || decide (p.parent > 16) || decide (p.name < 0) || decide (p.name > 99)) = b at h
 cases b with
 | true => simp at h
 | false => simp only [Bool.or_eq_false_iff, decide_eq_false_iff_not] at hb; omega
theorem ly {l : List Place} (h : db l = 0) : l.length ≤ 15 := by
 obtain ⟨ha, hb⟩ := rO l l.length 0 (by omega) (sN h)
 have key : ∀ i, i < l.length → (i : Int) + 1 ≤ (gt l i).node := by
  intro i
  induction i with
  | zero => intro h0; have := (nX (ha 0 (by omega) h0)).1; simpa using this
  | succ i ih => intro hi; have := ih (by omega); have := hb (i + 1) (by omega) hi (by omega); simp at this; push_cast; omega
 apply Classical.byContradiction
 intro hn
 have h1 := key 15 (by omega)
 have h2 := (nX (ha 15 (by omega) (by omega))).2.1
 omega
end Go.Proofs.YtkjccbdeaflekaaGreatDoor

namespace Go.Proofs.YtkjccbdeaflekaaGreatDoor
open Go Go.Proofs.YtkjccbdeaflekaaGreatDoor.Fw
inductive Way (l : List Place) (ok : Int → Prop) : Int → Int → Nat → Prop
 | here (a : Int) : Way l ok a a 0
 | up {a b : Int} {k : Nat} (hok : ok a) (hn : (find l a).node ≠ 0) (h : Way l ok (find l a).parent b k) : Way l ok a b (k + 1)
theorem nR (l : List Place) (top : Int) : ∀ (f : Nat) (nd : Int), lN l top f nd = true ↔ ∃ k, k < f ∧ Way l (fun _ => True) nd top k
 | 0, nd => by simp [lN]
 | f + 1, nd => by
  rw [lN]
  by_cases h : nd = top
  ·subst h
   simp only [beq_self_eq_true, cond_true, true_iff]
   exact ⟨0, by omega, .here _⟩
  ·have hb : (nd == top) = false := by simpa using h
   rw [hb, cond_false]
   by_cases h0 : (find l nd).node = 0
   ·have : ((find l nd).node == 0) = true := by simpa using h0
    rw [this, cond_true]
    constructor
    ·intro h; cases h
    ·rintro ⟨k, _, hw⟩
     cases hw with
     | here => exact absurd rfl h
     | up _ hn _ => exact absurd h0 hn
   ·have : ((find l nd).node == 0) = false := by simpa using h0
    rw [this, cond_false, nR l top f]
    constructor
    ·rintro ⟨k, hk, hw⟩; exact ⟨k + 1, by omega, .up trivial h0 hw⟩
    ·rintro ⟨k, hk, hw⟩
     cases hw with
     | here => exact absurd rfl h
     | up _ _ hw => exact ⟨_, by omega, hw⟩
theorem Way.last {l : List Place} {ok : Int → Prop} (a : Int) {x b : Int} {k : Nat} (h : Way l ok x b k) :
  (∃ k', Way l (fun z => ok z ∧ z ≠ a) x b k') ∨ (ok a ∧ (find l a).node ≠ 0 ∧ ∃ k', Way l (fun z => ok z ∧ z ≠ a) (find l a).parent b k') := by
 induction h with
 | here x => exact .inl ⟨0, .here _⟩
 | @up x b k hok hn h ih =>
  rcases ih with ⟨k', hw⟩ | h2
  ·by_cases hx : x = a
   ·subst hx; exact .inr ⟨hok, hn, k', hw⟩
   ·exact .inl ⟨k' + 1, .up ⟨hok, hx⟩ hn hw⟩
  ·exact .inr h2
theorem Way.mono {l : List Place} {ok ok' : Int → Prop} (hm : ∀ z, ok z → ok' z) {a b : Int} {k : Nat} (h : Way l ok a b k) : Way l ok' a b k := by
 induction h with
 | here x => exact .here x
 | up hok hn _ ih => exact .up (hm _ hok) hn ih
theorem Way.short {l : List Place} : ∀ (m : Nat) (S : List Int), S.length ≤ m → ∀ {a b : Int} {k : Nat}, Way l (fun z => z ∈ S) a b k → ∃ k', k' ≤ m ∧ Way l (fun z => z ∈ S) a b k' := by
 intro m
 induction m with
 | zero =>
  intro S hS a b k h
  cases h with
  | here => exact ⟨0, Nat.le_refl _, .here _⟩
  | up hok _ _ =>
   have : S = [] := List.length_eq_zero_iff.1 (by omega)
   subst this; cases hok
 | succ m ih =>
  intro S hS a b k h
  rcases h.last a with ⟨k', hw⟩ | ⟨hok, hn, k', hw⟩
  ·cases hw with
   | here => exact ⟨0, by omega, .here _⟩
   | up hok _ _ => exact absurd rfl hok.2
  ·have hlt : (S.filter (· != a)).length < S.length := by
    apply Classical.byContradiction
    intro hge
    have := List.filter_eq_self.1 ((List.filter_sublist (p := (· != a)) (l := S)).eq_of_length_le (by omega)) a hok
    simp at this
   obtain ⟨k2, hk2, hw2⟩ := ih (S.filter (· != a)) (by omega) (hw.mono fun z hz => by simpa using hz)
   exact ⟨k2 + 1, by omega, .up hok hn (hw2.mono fun z hz => (List.mem_filter.1 hz).1)⟩
theorem jK {l : List Place} {a : Int} : (find l a).node ≠ 0 → (find l a).node = a ∧ find l a ∈ l := by
 induction l with
 | nil => intro h; exact absurd rfl h
 | cons p r ih =>
  intro h
  rw [find] at h ⊢
  cases hp : p.node == a with
  | true => rw [cond_true]; exact ⟨by simpa using hp, .head _⟩
  | false => rw [hp, cond_false] at h; rw [cond_false]; exact ⟨(ih h).1, .tail _ (ih h).2⟩
def Up (l : List Place) (a b : Int) : Prop := ∃ k, Way l (fun _ => True) a b k
theorem ju (l : List Place) (a b : Int) : stands l a b = true ↔ Up l a b := by
 unfold stands
 rw [nR]
 constructor
 ·rintro ⟨k, _, h⟩; exact ⟨k, h⟩
 ·rintro ⟨k, h⟩
  have h1 : ∀ {a b : Int} {k : Nat}, Way l (fun _ => True) a b k → Way l (fun z => z ∈ l.map (·.node)) a b k := by
   intro a b k h
   induction h with
   | here x => exact .here x
   | up _ hn _ ih =>
    obtain ⟨e, hm⟩ := jK hn
    exact .up (List.mem_map.2 ⟨_, hm, e⟩) hn ih
  obtain ⟨k', hk, hw⟩ := (h1 h).short (l := l) l.length (l.map (·.node)) (by simp)
  exact ⟨k', by omega, hw.mono fun _ _ => trivial⟩
theorem Up.refl (l : List Place) (a : Int) : Up l a a := ⟨0, .here a⟩
theorem Way.trans {l : List Place} {ok : Int → Prop} {a b c : Int} {k m : Nat} (h : Way l ok a b k) (h' : Way l ok b c m) : ∃ n, Way l ok a c n := by
 induction h with
 | here => exact ⟨m, h'⟩
 | up hok hn _ ih => obtain ⟨n, hw⟩ := ih h'; exact ⟨n + 1, .up hok hn hw⟩
theorem Up.trans {l : List Place} {a b c : Int} (h : Up l a b) (h' : Up l b c) : Up l a c := by
 obtain ⟨_, h⟩ := h
 obtain ⟨_, h'⟩ := h'
 exact h.trans h'
structure gF (l : List Place) : Prop where
 ok : ∀ p ∈ l, place p = 0
 up : l.Pairwise (fun a b => a.node < b.node)
 no : ∀ p ∈ l, ¬ Up l p.parent p.node
theorem qR (p : Place) (r : List Place) (i : Nat) : gt (p :: r) (i + 1) = gt r i := by simp [gt]
theorem n6 : ∀ (l : List Place), (∀ i, i + 1 < l.length → (gt l i).node < (gt l (i + 1)).node) → l.Pairwise (fun a b => a.node < b.node)
 | [], _ => .nil
 | [p], _ => by simp
 | p :: q :: r, h => by
  have h1 := n6 (q :: r) (fun i hi => by have := h (i + 1) (by simp at hi ⊢; omega); simpa [qR] using this)
  have h0 : p.node < q.node := by have := h 0 (by simp); simpa [gt] using this
  refine .cons (fun a ha => ?_) h1
  rcases List.mem_cons.1 ha with rfl | ha
  ·exact h0
  ·exact Int.lt_trans h0 (List.rel_of_pairwise_cons h1 ha)
theorem rJ : ∀ {l : List Place}, l.Pairwise (fun a b => a.node < b.node) → ∀ i, i + 1 < l.length → (gt l i).node < (gt l (i + 1)).node := by
 intro l h i hi
 rw [gt_eq (by omega), gt_eq hi]
 exact List.pairwise_iff_getElem.1 h i (i + 1) (by omega) hi (by omega)
theorem uU (l : List Place) (ha : ∀ i, i < l.length → place (gt l i) = 0) (hb : ∀ i, i + 1 < l.length → (gt l i).node < (gt l (i + 1)).node) : ∀ (f k : Nat), k + f = l.length → chk1 l f k = 0
 | 0, _, _ => rfl
 | f + 1, k, h => by
  rw [chk1, ha k (by omega)]
  have h2 : (decide ((k : Int) > 0) && decide ((gt l (k - 1)).node ≥ (gt l k).node)) = false := by
   cases k with
   | zero => simp
   | succ k => have := hb k (by omega); simp; omega
  rw [h2]
  exact uU l ha hb f (k + 1) (by omega)
theorem p4 (t : List Place) : ∀ (l : List Place), chk2 t l = 0 ↔ ∀ p ∈ l, ¬ Up t p.parent p.node
 | [] => by simp [chk2]
 | p :: r => by
  rw [chk2]
  cases h : stands t p.parent p.node with
  | true => simp only [cond_true, List.forall_mem_cons, (ju t _ _).1 h, not_true, false_and, iff_false]; decide
  | false =>
   have hn : ¬ Up t p.parent p.node := fun hu => by rw [(ju t _ _).2 hu] at h; cases h
   simp only [cond_false, List.forall_mem_cons, hn, not_false_eq_true, true_and, p4 t r]
theorem el (l : List Place) : db l = 0 ↔ gF l := by
 constructor
 ·intro h
  have h1 := sN h
  obtain ⟨ha, hb⟩ := rO l l.length 0 (by omega) h1
  have h2 : chk2 l l = 0 := by
   unfold db at h
   rw [h1] at h
   exact h
  refine ⟨fun p hp => ?_, n6 l fun i hi => by have := hb (i + 1) (by omega) hi (by omega); simpa using this, (p4 l l).1 h2⟩
  obtain ⟨i, hi, rfl⟩ := List.getElem_of_mem hp
  have := ha i (by omega) hi
  rwa [gt_eq hi] at this
 ·intro h
  have h1 : chk1 l l.length 0 = 0 := uU l (fun i hi => by rw [gt_eq hi]; exact h.ok _ (List.getElem_mem hi)) (rJ h.up) _ _ (by omega)
  unfold db
  rw [h1]
  exact (p4 l l).2 h.no
theorem mR (p : Place) (n : Int) : ∀ l : List Place, find (put p true l) n = bif n == p.node then ⟨0, 0, 0⟩ else find l n
 | [] => by simp [put, find]
 | q :: r => by
  have ih := mR p n r
  rw [put]
  simp only [Bool.not_true, Bool.false_and, cond_false]
  by_cases hq : q.node = p.node
  ·have : (q.node != p.node) = false := by simpa using hq
   rw [this, cond_false, ih, find]
   by_cases hn : n = p.node
   ·simp [hn]
   ·have h1 : (n == p.node) = false := by simpa using hn
    have h2 : (q.node == n) = false := by rw [hq]; simpa using Ne.symm hn
    rw [h1, h2]; rfl
  ·have : (q.node != p.node) = true := by simpa using hq
   rw [this, cond_true, find, find, ih]
   by_cases hn : n = p.node
   ·have h2 : (q.node == n) = false := by rw [hn]; simpa using hq
    rw [h2, hn]; simp
   ·have h1 : (n == p.node) = false := by simpa using hn
    rw [h1]; rfl
theorem pi (p : Place) (n : Int) : ∀ l : List Place, find (put p false l) n = bif n == p.node then p else find l n
 | [] => by
  by_cases hn : n = p.node
  ·simp [put, find, hn]
  ·have h1 : (n == p.node) = false := by simpa using hn
   have h2 : (p.node == n) = false := by simpa using Ne.symm hn
   simp [put, find, h1, h2]
 | q :: r => by
  rw [put]
  by_cases hge : q.node ≥ p.node
  ·have h0 : (!false && decide (q.node ≥ p.node)) = true := by simpa using hge
   rw [h0, cond_true]
   have e : (bif q.node != p.node then q :: put p true r else put p true r) = put p true (q :: r) := by rw [put]; rfl
   rw [e, find, mR]
   by_cases hn : n = p.node
   ·subst hn; simp
   ·have h1 : (n == p.node) = false := by simpa using hn
    have h2 : (p.node == n) = false := by simpa using Ne.symm hn
    rw [h1, h2]; rfl
  ·have h0 : (!false && decide (q.node ≥ p.node)) = false := by simpa using hge
   have hne : (q.node != p.node) = true := by simp; omega
   rw [h0, cond_false, hne, cond_true, find, find, pi p n r]
   by_cases hn : n = p.node
   ·have h2 : (q.node == n) = false := by simp; omega
    rw [h2, hn]; simp
   ·have h1 : (n == p.node) = false := by simpa using hn
    rw [h1]; rfl
theorem f0 (p x : Place) : ∀ l : List Place, x ∈ put p true l → x ∈ l ∧ x.node ≠ p.node
 | [], h => by cases h
 | q :: r, h => by
  rw [put] at h
  simp only [Bool.not_true, Bool.false_and, cond_false] at h
  cases hq : q.node != p.node with
  | true =>
   rw [hq, cond_true] at h
   rcases List.mem_cons.1 h with rfl | h
   ·exact ⟨.head _, by simpa using hq⟩
   ·exact ⟨.tail _ (f0 p x r h).1, (f0 p x r h).2⟩
  | false => rw [hq, cond_false] at h; exact ⟨.tail _ (f0 p x r h).1, (f0 p x r h).2⟩
theorem jD (p x : Place) : ∀ l : List Place, x ∈ put p false l → x = p ∨ (x ∈ l ∧ x.node ≠ p.node)
 | [], h => by simp [put] at h; exact .inl h
 | q :: r, h => by
  rw [put] at h
  by_cases hge : q.node ≥ p.node
  ·have h0 : (!false && decide (q.node ≥ p.node)) = true := by simpa using hge
   have e : (bif q.node != p.node then q :: put p true r else put p true r) = put p true (q :: r) := by rw [put]; rfl
   rw [h0, cond_true, e] at h
   rcases List.mem_cons.1 h with rfl | h
   ·exact .inl rfl
   ·exact .inr (f0 p x _ h)
  ·have h0 : (!false && decide (q.node ≥ p.node)) = false := by simpa using hge
   have hne : (q.node != p.node) = true := by simp; omega
   rw [h0, cond_false, hne, cond_true] at h
   rcases List.mem_cons.1 h with rfl | h
   ·exact .inr ⟨.head _, by simpa using hne⟩
   ·rcases jD p x r h with h | ⟨h1, h2⟩
    ·exact .inl h
    ·exact .inr ⟨.tail _ h1, h2⟩
theorem l9 (p : Place) : ∀ {l : List Place}, l.Pairwise (fun a b => a.node < b.node) → (put p true l).Pairwise (fun a b => a.node < b.node)
 | [], _ => .nil
 | q :: r, h => by
  have hr := List.Pairwise.of_cons h
  rw [put]
  simp only [Bool.not_true, Bool.false_and, cond_false]
  cases q.node != p.node with
  | true => exact .cons (fun a ha => List.rel_of_pairwise_cons h (f0 p a r ha).1) (l9 p hr)
  | false => exact l9 p hr
theorem nw (p : Place) : ∀ {l : List Place}, l.Pairwise (fun a b => a.node < b.node) → (put p false l).Pairwise (fun a b => a.node < b.node)
 | [], _ => by simp [put]
 | q :: r, h => by
  have hr := List.Pairwise.of_cons h
  rw [put]
  by_cases hge : q.node ≥ p.node
  ·have h0 : (!false && decide (q.node ≥ p.node)) = true := by simpa using hge
   have e : (bif q.node != p.node then q :: put p true r else put p true r) = put p true (q :: r) := by rw [put]; rfl
   rw [h0, cond_true, e]
   refine .cons (fun a ha => ?_) (l9 p h)
   obtain ⟨hm, hn⟩ := f0 p a _ ha
   have : q.node ≤ a.node := by
    rcases List.mem_cons.1 hm with rfl | hm
    ·exact Int.le_refl _
    ·exact Int.le_of_lt (List.rel_of_pairwise_cons h hm)
   omega
  ·have h0 : (!false && decide (q.node ≥ p.node)) = false := by simpa using hge
   have hne : (q.node != p.node) = true := by simp; omega
   rw [h0, cond_false, hne, cond_true]
   refine .cons (fun a ha => ?_) (nw p hr)
   rcases jD p a r ha with rfl | ⟨hm, _⟩
   ·omega
   ·exact List.rel_of_pairwise_cons h hm
theorem mT {l : List Place} {n : Int} (h : ∀ p ∈ l, n < p.node) : find l n = ⟨0, 0, 0⟩ := by
 induction l with
 | nil => rfl
 | cons p r ih =>
  rw [find]
  have := h p (.head _)
  have h1 : (p.node == n) = false := by simp; omega
  rw [h1, cond_false]
  exact ih fun q hq => h q (.tail _ hq)
theorem nz : ∀ {l l' : List Place}, l.Pairwise (fun a b => a.node < b.node) → l'.Pairwise (fun a b => a.node < b.node) → (∀ p ∈ l, 1 ≤ p.node) → (∀ p ∈ l', 1 ≤ p.node) → (∀ n, 1 ≤ n → find l n = find l' n) → l = l'
 | [], [], _, _, _, _, _ => rfl
 | [], q :: r, _, _, _, h4, h5 => by
  have h1 := h4 q (.head _)
  have := h5 q.node h1
  simp [find] at this
  rw [← this] at h1; simp at h1
 | p :: r, [], _, _, h3, _, h5 => by
  have h1 := h3 p (.head _)
  have := h5 p.node h1
  simp [find] at this
  rw [this] at h1; simp at h1
 | p :: r, q :: s, h1, h2, h3, h4, h5 => by
  have hp := h3 p (.head _)
  have hq := h4 q (.head _)
  have e1 := h5 p.node hp
  have e2 := h5 q.node hq
  have hpq : p.node = q.node := by
   rcases Int.lt_trichotomy p.node q.node with h | h | h
   ·have : find (q :: s) p.node = ⟨0, 0, 0⟩ := mT fun x hx => by
     rcases List.mem_cons.1 hx with rfl | hx
     ·exact h
     ·exact Int.lt_trans h (List.rel_of_pairwise_cons h2 hx)
    rw [this] at e1
    simp [find] at e1
    rw [e1] at hp; simp at hp
   ·exact h
   ·have : find (p :: r) q.node = ⟨0, 0, 0⟩ := mT fun x hx => by
     rcases List.mem_cons.1 hx with rfl | hx
     ·exact h
     ·exact Int.lt_trans h (List.rel_of_pairwise_cons h1 hx)
    rw [this] at e2
    simp [find] at e2
    rw [← e2] at hq; simp at hq
  have e : p = q := by simpa [find, hpq] using e1
  subst e
  refine congrArg _ (nz (List.Pairwise.of_cons h1) (List.Pairwise.of_cons h2) (fun x hx => h3 x (.tail _ hx)) (fun x hx => h4 x (.tail _ hx)) fun n hn => ?_)
  by_cases hn' : n = p.node
  ·subst hn'
   rw [mT fun x hx => List.rel_of_pairwise_cons h1 hx, mT fun x hx => List.rel_of_pairwise_cons h2 hx]
  ·have := h5 n hn
   rw [find, find] at this
   have hb : (p.node == n) = false := by simpa using Ne.symm hn'
   rwa [hb, cond_false, cond_false] at this
theorem Way.first {l : List Place} {ok : Int → Prop} (a : Int) {x b : Int} {k : Nat} (h : Way l ok x b k) :
  (∃ k', Way l (fun z => ok z ∧ z ≠ a) x b k') ∨ (∃ k', Way l (fun z => ok z ∧ z ≠ a) x a k') := by
 induction h with
 | here x => exact .inl ⟨0, .here _⟩
 | @up x b k hok hn h ih =>
  by_cases hx : x = a
  ·subst hx; exact .inr ⟨0, .here _⟩
  ·rcases ih with ⟨k', hw⟩ | ⟨k', hw⟩
   ·exact .inl ⟨k' + 1, .up ⟨hok, hx⟩ hn hw⟩
   ·exact .inr ⟨k' + 1, .up ⟨hok, hx⟩ hn hw⟩
theorem Way.turn {l l' : List Place} {ok : Int → Prop} (hf : ∀ z, ok z → find l' z = find l z) {a b : Int} {k : Nat} (h : Way l ok a b k) : Way l' ok a b k := by
 induction h with
 | here x => exact .here x
 | up hok hn _ ih => exact .up hok (by rw [hf _ hok]; exact hn) (by rw [hf _ hok]; exact ih)
theorem lw : ∀ {l : List Place}, l.Pairwise (fun a b => a.node < b.node) → ∀ p ∈ l, find l p.node = p
 | q :: r, h, p, hp => by
  rw [find]
  rcases List.mem_cons.1 hp with rfl | hp
  ·simp
  ·have := List.rel_of_pairwise_cons h hp
   have hb : (q.node == p.node) = false := by simp; omega
   rw [hb, cond_false]
   exact lw (List.Pairwise.of_cons h) p hp
theorem qz {l : List Place} {p : Place} (h : 0 ≤ p.parent) : putT l p = put p false l := by
 unfold putT
 have : decide (p.parent < 0) = false := by simp; omega
 rw [this]
theorem un {l : List Place} {p : Place} (h : p.parent < 0) : putT l p = put p true l := by
 unfold putT
 have : decide (p.parent < 0) = true := by simp; omega
 rw [this]
theorem e8 (l : List Place) (p : Place) (n : Int) : find (putT l p) n = bif n == p.node then (bif decide (p.parent < 0) then ⟨0, 0, 0⟩ else p) else find l n := by
 unfold putT
 cases decide (p.parent < 0) with
 | true => rw [mR]; rfl
 | false => rw [pi]; rfl
theorem gF.node {l : List Place} (h : gF l) : ∀ p ∈ l, 1 ≤ p.node := fun p hp => (nX (h.ok p hp)).1
theorem gF.put {l : List Place} (h : gF l) {p : Place} (hp : place p = 0) (hs : ¬ Up l p.parent p.node) : gF (putT l p) := by
 have hpp := nX hp
 have hfind : ∀ n, n ≠ p.node → find (putT l p) n = find l n := fun n hn => by
  rw [e8]
  have : (n == p.node) = false := by simpa using hn
  rw [this]; rfl
 have hmem : ∀ x, x ∈ putT l p → x = p ∨ (x ∈ l ∧ x.node ≠ p.node) := fun x hx => by
  rw [qz hpp.2.2.1] at hx
  exact jD p x l hx
 refine ⟨fun x hx => ?_, by rw [qz hpp.2.2.1]; exact nw p h.up, fun x hx hu => ?_⟩
 ·rcases hmem x hx with rfl | ⟨hx, _⟩
  ·exact hp
  ·exact h.ok x hx
 ·obtain ⟨k, hw⟩ := hu
  have back : ∀ {a b : Int} {k : Nat}, Way (putT l p) (fun z => True ∧ z ≠ p.node) a b k → Up l a b := fun hw => ⟨_, (hw.turn (l' := l) fun z hz => (hfind z hz.2).symm).mono fun _ _ => trivial⟩
  rcases hw.last p.node with ⟨k', h1⟩ | ⟨_, _, k', h1⟩
  ·rcases hmem x hx with rfl | ⟨hx, _⟩
   ·exact hs (back h1)
   ·exact h.no x hx (back h1)
  ·have e : (find (putT l p) p.node).parent = p.parent := by
    rw [e8]
    have : decide (p.parent < 0) = false := by simp; omega
    simp [this]
   rw [e] at h1
   have hu := back h1
   rcases hmem x hx with rfl | ⟨hxl, hxn⟩
   ·exact hs hu
   ·rcases hw.first p.node with ⟨k2, h2⟩ | ⟨k2, h2⟩
    ·exact h.no x hxl (back h2)
    ·have hup : Up l x.node p.node := by
      obtain ⟨k3, h3⟩ := back h2
      have := lw h.up x hxl
      exact ⟨k3 + 1, .up trivial (by rw [this]; have := h.node x hxl; omega) (by rw [this]; exact h3)⟩
     exact hs (hu.trans hup)
theorem pZ {o : Op} (h : chkO o = 0) : 1 ≤ o.time ∧ o.time ≤ 10000 ∧ 0 ≤ o.who ∧ o.who < 3 ∧ 1 ≤ o.node ∧ o.node < 16 ∧ 0 ≤ o.parent ∧ o.parent ≤ 16 ∧ 0 ≤ o.name ∧ o.name ≤ 99 ∧ 1 ≤ o.life ∧ o.life ≤ 50 ∧ 1 ≤ o.seq ∧ o.seq ≤ 30 := by
 unfold chkO at h
 generalize hb : (decide (o.time < 1) || decide (o.time > 10000) || decide (o.who < 0) || decide (o.who ≥ 3) || decide (o.node < 1) || decide (o.node ≥ 16) || decide (o.parent < 0) || decide (o.parent > 16) || decide (o.name < 0) || decide (o.name > 99) || decide (o.life < 1) || decide (o.life > 50) || decide (o.seq < 1) || decide (o.seq > 30)) = b at h
 cases b with
 | true => simp at h
 | false => simp only [Bool.or_eq_false_iff, decide_eq_false_iff_not] at hb; omega
def dB (o : Op) : Place := ⟨o.node, o.parent, o.name⟩
theorem tu {o : Op} (h : chkO o = 0) : place (dB o) = 0 := by
 have := pZ h
 have hb : (decide ((dB o).node < 1) || decide ((dB o).node ≥ 16) || decide ((dB o).parent < 0) || decide ((dB o).parent > 16) || decide ((dB o).name < 0) || decide ((dB o).name > 99)) = false := by
  have e1 : (dB o).node = o.node := rfl
  have e2 : (dB o).parent = o.parent := rfl
  have e3 : (dB o).name = o.name := rfl
  simp only [e1, e2, e3, Bool.or_eq_false_iff, decide_eq_false_iff_not]; omega
 unfold place
 rw [hb]; rfl
theorem pc (l : List Place) (o : Op) : (eL l o).2.2 = bif db l != 0 then db l else chkO o := by
 unfold eL
 cases h1 : db l != 0 with
 | true => rfl
 | false =>
  cases h2 : chkO o != 0 with
  | true => rfl
  | false =>
   have h2 : chkO o = 0 := by simpa using h2
   cases stands l o.parent o.node <;> simp [h2]
theorem uA {l : List Place} {o : Op} (h : (eL l o).2.2 = 0) : db l = 0 ∧ chkO o = 0 := by
 rw [pc] at h
 cases h1 : db l != 0 with
 | true => rw [h1, cond_true] at h; simp [h] at h1
 | false => rw [h1, cond_false] at h; exact ⟨by simpa using h1, h⟩
theorem qL {l : List Place} {o : Op} (h1 : db l = 0) (h2 : chkO o = 0) : eL l o = bif stands l o.parent o.node then (l, ⟨o, false, find l o.node⟩, 0) else (putT l (dB o), ⟨o, true, find l o.node⟩, 0) := by
 unfold eL
 rw [h1, h2]; rfl
theorem kY {n : Int} : ∀ {l : List Place}, (∀ p ∈ l, p.node ≠ n) → find l n = ⟨0, 0, 0⟩
 | [], _ => rfl
 | p :: r, h => by
  rw [find]
  have : (p.node == n) = false := by simpa using h p (.head _)
  rw [this, cond_false]
  exact kY fun q hq => h q (.tail _ hq)
structure Moved (l : List Place) (o : Op) : Prop where
 tree : db (eL l o).1 = 0
 did : (eL l o).2.1.did = !stands l o.parent o.node
 op : (eL l o).2.1.o = o
 under : under l o.parent o.node = (stands l o.parent o.node, 0)
 else_ : ∀ n, n ≠ o.node → find (eL l o).1 n = find l n
 node : (eL l o).2.1.did = true → find (eL l o).1 o.node = dB o
 undo : ma (eL l o).1 (eL l o).2.1 = (l, 0)
theorem ka {l : List Place} {o : Op} (h : (eL l o).2.2 = 0) : Moved l o := by
 obtain ⟨h1, h2⟩ := uA h
 have ho := pZ h2
 have hunder : under l o.parent o.node = (stands l o.parent o.node, 0) := by
  unfold under
  have hb : (decide (o.parent < 0) || decide (o.parent > 16) || decide (o.node < 0) || decide (o.node > 16)) = false := by simp only [Bool.or_eq_false_iff, decide_eq_false_iff_not]; omega
  rw [h1, hb]; rfl
 cases hs : stands l o.parent o.node with
 | true =>
  have e : eL l o = (l, ⟨o, false, find l o.node⟩, 0) := by rw [qL h1 h2, hs]; rfl
  refine ⟨by rw [e]; exact h1, by rw [e, hs]; rfl, by rw [e], by rw [hunder, hs], fun n _ => by rw [e], fun hd => (by rw [e] at hd; cases hd), ?_⟩
  rw [e]
  unfold ma
  simp [h1, h2]
 | false =>
  have e : eL l o = (putT l (dB o), ⟨o, true, find l o.node⟩, 0) := by rw [qL h1 h2, hs]; rfl
  have hT := (el l).1 h1
  have hT' : gF (putT l (dB o)) := hT.put (tu h2) fun hu => by rw [← ju] at hu; rw [show (dB o).parent = o.parent from rfl, show (dB o).node = o.node from rfl, hs] at hu; cases hu
  have hc' := (el _).2 hT'
  have hnp : decide ((dB o).parent < 0) = false := decide_eq_false (show ¬ o.parent < 0 by omega)
  have hfn : find (putT l (dB o)) o.node = dB o := by
   rw [e8, hnp]
   simp [dB]
  have hfe : ∀ n, n ≠ o.node → find (putT l (dB o)) n = find l n := fun n hn => by
   rw [e8]
   have : (n == (dB o).node) = false := by simpa [dB] using hn
   rw [this]; rfl
  refine ⟨by rw [e]; exact hc', by rw [e, hs]; rfl, by rw [e], by rw [hunder, hs], fun n hn => by rw [e]; exact hfe n hn, fun _ => by rw [e]; exact hfn, ?_⟩
  rw [e]
  have hwas : (wasOf ⟨o, true, find l o.node⟩).node = o.node := by
   unfold wasOf
   cases hz : (find l o.node).node == 0 with
   | true => rfl
   | false => exact (jK (by simpa using hz)).1
  have hback : putT (putT l (dB o)) (wasOf ⟨o, true, find l o.node⟩) = l := by
   unfold wasOf
   cases hz : (find l o.node).node == 0 with
   | true =>
    simp only [cond_true]
    have hz : (find l o.node).node = 0 := by simpa using hz
    have hz2 : find l o.node = ⟨0, 0, 0⟩ := by
     by_cases hm : ∃ p ∈ l, p.node = o.node
     ·obtain ⟨p, hp, hpn⟩ := hm
      rw [← hpn, lw hT.up p hp] at hz
      have := hT.node p hp
      omega
     ·exact kY fun p hp hpn => hm ⟨p, hp, hpn⟩
    have hneg : (⟨o.node, -1, 0⟩ : Place).parent < 0 := by simp
    have hsub : ∀ p ∈ putT (putT l (dB o)) ⟨o.node, -1, 0⟩, p ∈ putT l (dB o) := fun p hp => by rw [un hneg] at hp; exact (f0 _ _ _ hp).1
    refine nz (by rw [un hneg]; exact l9 _ hT'.up) hT.up (fun p hp => hT'.node p (hsub p hp)) hT.node fun n _ => ?_
    rw [e8]
    by_cases hn : n = o.node
    ·subst hn; simp [hz2]
    ·have : (n == (⟨o.node, -1, 0⟩ : Place).node) = false := by simpa using hn
     rw [this, cond_false, hfe n hn]
   | false =>
    simp only [cond_false]
    have hz : (find l o.node).node ≠ 0 := by simpa using hz
    obtain ⟨hn0, hm0⟩ := jK hz
    have hok := nX (hT.ok _ hm0)
    have hnp2 : decide ((find l o.node).parent < 0) = false := decide_eq_false (by omega)
    refine nz (by rw [qz (by omega)]; exact nw _ hT'.up) hT.up (fun p hp => ?_) hT.node fun n _ => ?_
    ·rw [qz (by omega)] at hp
     rcases jD _ _ _ hp with rfl | ⟨hp, _⟩
     ·omega
     ·exact hT'.node p hp
    ·rw [e8, hnp2]
     by_cases hn : n = o.node
     ·subst hn; simp [hn0]
     ·have : (n == (find l o.node).node) = false := by rw [hn0]; simpa using hn
      rw [this, cond_false, hfe n hn]
  unfold ma
  have hx : ((wasOf ⟨o, true, find l o.node⟩).node != o.node || find (putT l (dB o)) o.node != ⟨o.node, o.parent, o.name⟩) = false := by
   rw [hwas, hfn]; simp [dB]
  simp only [hc', h2, hback, h1, hx, bne_self_eq_false, cond_false, Bool.not_true]
end Go.Proofs.YtkjccbdeaflekaaGreatDoor

namespace Go.Proofs.YtkjccbdeaflekaaGreatDoor
open Go Go.Proofs.YtkjccbdeaflekaaGreatDoor.Fw Go.Proofs
theorem py (p : Place) : fg p = place p := rfl
theorem gR : ∀ (l : List Place) (n : Int), cm l n = find l n
 | [], _ => rfl
 | p :: r, n => by
  have ih := gR r n
  unfold cm at ih ⊢
  rw [fw, find, ih]
theorem gJ (l : List Place) (nd top : Int) : eu l nd top = stands l nd top := by
 have key : ∀ (f : Nat) (nd : Int), d6 l top f nd = lN l top f nd := by
  intro f
  induction f with
  | zero => intro nd; rfl
  | succ f ih => intro nd; rw [d6, lN, gR, ih]
 unfold eu stands
 exact key _ nd
theorem kp (t : List Place) : ∀ l : List Place, dH t l = chk2 t l
 | [] => rfl
 | p :: r => by rw [dH, chk2, gJ, kp t r]
theorem gu (t : List Place) : bL t = db t := by
 have key : ∀ (r : List Place) (k : Nat), r = t.drop k → dq t r k = bif chk1 t (t.length - k) k != 0 then chk1 t (t.length - k) k else chk2 t t := by
  intro r
  induction r with
  | nil =>
   intro k hr
   have : t.length - k = 0 := by have := congrArg List.length hr; simp at this; omega
   rw [dq, this, chk1, kp]; rfl
  | cons p r ih =>
   intro k hr
   have hk : k < t.length := by have := congrArg List.length hr; simp at this; omega
   rw [bd hk] at hr
   obtain ⟨rfl, hr'⟩ := List.cons.inj hr
   rw [dq, show t.length - k = (t.length - (k + 1)) + 1 by omega, chk1, py, ih (k + 1) hr']
   cases h1 : place (gt t k) != 0 with
   | true => simp only [cond_true, h1]
   | false =>
    simp only [cond_false]
    cases h2 : (decide ((k : Int) > 0) && decide ((gt t (k - 1)).node ≥ (gt t k).node)) <;> rfl
 unfold bL db
 exact key t 0 rfl
theorem iH (l : List Place) (p : Place) : cg l p = putT l p := by
 have key : ∀ (r : List Place) (d : Bool) (acc : List Place), dj p r d acc = acc ++ put p d r := by
  intro r
  induction r with
  | nil => intro d acc; rw [dj, put]; cases d <;> simp
  | cons q r ih =>
   intro d acc
   rw [dj, put]
   cases h1 : (!d && decide (q.node ≥ p.node)) <;> cases h2 : q.node != p.node <;> simp only [cond_true, cond_false, ih, List.append_assoc, List.cons_append, List.nil_append]
 unfold cg putT
 exact (key l _ []).trans (List.nil_append _)
theorem m3 (l : List Place) : fT l = l := rfl
theorem dI (o : Op) : co o = chkO o := rfl
theorem mK (l : List Place) (o : Op) : dV l o = eL l o := by
 unfold dV eL
 rw [gu, gJ, dI, m3, iH, gR]
 rfl
theorem qK (l : List Place) (s : Step) : cu l s = ma l s := by
 unfold cu ma wasOf
 simp only [gu, dI, m3, iH, gR]
 cases s.was.node == 0 <;> rfl
theorem ri : ∀ (m l : List Place), eO m l = m.foldl putT l
 | [], _ => rfl
 | p :: r, l => by rw [eO, iH, ri r]; rfl
theorem All_eq (v : View) : bN v = v.way.foldl putT v.known := ri _ _
theorem px (v : View) : bz v = bif bF v.roots != 0 then bF v.roots else bif db v.known != 0 then db v.known else bif db v.way != 0 then db v.way else
  bif ((bR (bN v) v.roots).2 == 0 && !(eW (bR (bN v) v.roots).1 v)) then 4 else (bR (bN v) v.roots).2 := by
 unfold bz fv fu fr
 rw [gu, gu]
theorem u6 (v : View) : eW v v = true := by simp [eW]
theorem p6 (v w : View) : eW v w = true ↔ v = w := by
 obtain ⟨a, b, c⟩ := v; obtain ⟨d, e, f⟩ := w
 simp [eW, and_assoc]
theorem j5 {α : Type} [Inhabited α] (f : α → Int) : ∀ (l : List α), (∀ i, i + 1 < l.length → f (gt l i) < f (gt l (i + 1))) → l.Pairwise (fun a b => f a < f b)
 | [], _ => .nil
 | [a], _ => by simp
 | a :: b :: r, h => by
  have ih := j5 f (b :: r) (fun i hi => by have := h (i + 1) (by simpa using hi); simpa [gt] using this)
  have h0 : f a < f b := by simpa [gt] using h 0 (by simp)
  refine List.pairwise_cons.2 ⟨fun c hc => ?_, ih⟩
  rcases List.mem_cons.1 hc with rfl | hc
  ·exact h0
  ·have := (List.pairwise_cons.1 ih).1 c hc; omega
theorem j8 {α : Type} [Inhabited α] (f : α → Int) : ∀ {l : List α}, l.Pairwise (fun a b => f a < f b) → ∀ i, i + 1 < l.length → f (gt l i) < f (gt l (i + 1))
 | [], _, i, hi => by simp at hi
 | a :: r, h, i, hi => by
  obtain ⟨h1, h2⟩ := List.pairwise_cons.1 h
  cases i with
  | zero =>
   have h3 : 0 < r.length := by simpa using hi
   have := h1 (gt r 0) (eM h3)
   simpa [gt] using this
  | succ i =>
   have := j8 f h2 i (by simpa using hi)
   simpa [gt] using this
structure mX (l : List Int) : Prop where
 len : l.length ≤ 4
 rng : ∀ n ∈ l, 0 ≤ n ∧ n ≤ 16
 up : l.Pairwise (fun a b => a < b)
theorem nh (l : List Int) : ∀ (r : List Int) (k : Nat), r = l.drop k → (dG l r k = 0 ↔ (∀ n ∈ r, 0 ≤ n ∧ n ≤ 16) ∧ ∀ i, k ≤ i → i < l.length → 0 < i → gt l (i - 1) < gt l i)
 | [], k, hr => by
  have hk : l.length ≤ k := by have := congrArg List.length hr; simp at this; omega
  rw [dG]
  exact ⟨fun _ => ⟨by simp, fun i h1 h2 => by omega⟩, fun _ => rfl⟩
 | n :: r, k, hr => by
  have hk : k < l.length := by have := congrArg List.length hr; simp at this; omega
  rw [bd hk] at hr
  obtain ⟨hn, hr'⟩ := List.cons.inj hr
  have ih := nh l r (k + 1) hr'
  rw [dG]
  cases h1 : (decide (n < 0) || decide (n > 16)) with
  | true =>
   simp only [cond_true]
   refine ⟨fun h => by omega, fun h => ?_⟩
   have := h.1 n (.head _)
   simp at h1; omega
  | false =>
   simp at h1
   cases h2 : (decide ((k : Int) > 0) && decide (gt l (k - 1) ≥ n)) with
   | true =>
    simp only [cond_true, cond_false]
    simp only [Bool.and_eq_true, decide_eq_true_eq] at h2
    refine ⟨fun h => by omega, fun h => ?_⟩
    have := h.2 k (Nat.le_refl _) hk (by omega)
    rw [← hn] at this
    omega
   | false =>
    simp only [cond_false]
    rw [ih]
    constructor
    ·rintro ⟨a, b⟩
     refine ⟨fun m hm => ?_, fun i hi hl hp => ?_⟩
     ·cases hm with
      | head => omega
      | tail _ hm => exact a m hm
     ·by_cases he : i = k
      ·subst he
       simp at h2
       have := h2 (by omega)
       rw [← hn]; omega
      ·exact b i (by omega) hl hp
    ·rintro ⟨a, b⟩
     exact ⟨fun m hm => a m (.tail _ hm), fun i hi hl hp => b i (by omega) hl hp⟩
theorem mz (l : List Int) : bF l = 0 ↔ mX l := by
 unfold bF
 cases h : decide ((l.length : Int) > 4) with
 | true =>
  simp at h
  simp only [cond_true]
  exact ⟨fun h => by omega, fun h' => by have := h'.len; omega⟩
 | false =>
  simp at h
  rw [cond_false, nh l l 0 rfl]
  constructor
  ·rintro ⟨a, b⟩
   exact ⟨by omega, a, j5 id l fun i hi => by have := b (i + 1) (by omega) hi (by omega); simpa using this⟩
  ·intro h'
   refine ⟨h'.rng, fun i _ hl hp => ?_⟩
   have := j8 id h'.up (i - 1) (by omega)
   rw [show i - 1 + 1 = i by omega] at this
   exact this
theorem mX.take {l : List Int} (h : mX l) (k : Nat) : mX (l.take k) :=
 ⟨by have := h.len; simp; omega, fun n hn => h.rng n (List.mem_of_mem_take hn), h.up.sublist (List.take_sublist k l)⟩
def iL (t : List Place) (roots : List Int) : View := ⟨roots, t.filter (fun p => cX t p.node roots), t.filter (fun p => !cX t p.node roots && dy t p.node roots)⟩
theorem nE (t : List Place) (roots : List Int) : ∀ (l known way : List Place), ff t roots l known way = (⟨roots, known ++ l.filter (fun p => cX t p.node roots), way ++ l.filter (fun p => !cX t p.node roots && dy t p.node roots)⟩, 0)
 | [], known, way => by simp [ff]
 | p :: r, known, way => by
  rw [ff]
  cases hb : cX t p.node roots with
  | true =>
   rw [cond_true, nE t roots r, List.filter_cons, List.filter_cons, hb]
   simp
  | false =>
   rw [cond_false]
   cases ha : dy t p.node roots with
   | true => rw [cond_true, nE t roots r, List.filter_cons, List.filter_cons, hb, ha]; simp
   | false => rw [cond_false, nE t roots r, List.filter_cons, List.filter_cons, hb, ha]; simp
theorem Of_eq (t : List Place) (roots : List Int) : bR t roots = bif db t != 0 then (⟨[], [], []⟩, db t) else bif bF roots != 0 then (⟨[], [], []⟩, bF roots) else (iL t roots, 0) := by
 unfold bR
 rw [gu, nE]
 rfl
theorem Of_ok {t : List Place} {roots : List Int} (h : (bR t roots).2 = 0) : db t = 0 ∧ bF roots = 0 ∧ bR t roots = (iL t roots, 0) := by
 rw [Of_eq] at h ⊢
 cases h1 : db t != 0 with
 | true => rw [h1, cond_true] at h; simp only at h; rw [h] at h1; simp at h1
 | false =>
  rw [h1, cond_false] at h
  cases h2 : bF roots != 0 with
  | true => rw [h2, cond_true] at h; simp only at h; rw [h] at h2; simp at h2
  | false => exact ⟨ai h1, ai h2, rfl⟩
theorem Of_of {t : List Place} {roots : List Int} (h1 : db t = 0) (h2 : bF roots = 0) : bR t roots = (iL t roots, 0) := by
 rw [Of_eq, h1, h2]; rfl
structure Rising (l : List Place) : Prop where
 up : l.Pairwise (fun a b => a.node < b.node)
 rng : ∀ p ∈ l, 1 ≤ p.node ∧ p.node < 16
 par : ∀ p ∈ l, 0 ≤ p.parent
theorem gF.rising {l : List Place} (h : gF l) : Rising l := ⟨h.up, fun q hq => by have := nX (h.ok q hq); omega, fun q hq => by have := nX (h.ok q hq); omega⟩
theorem Rising.nil : Rising [] := ⟨.nil, by simp, by simp⟩
theorem Rising.none {l : List Place} (h : Rising l) {n : Int} (hz : (find l n).node = 0) : find l n = ⟨0, 0, 0⟩ := by
 refine kY fun q hq hqn => ?_
 have h3 := lw h.up q hq
 rw [hqn] at h3
 rw [h3] at hz
 have := h.rng q hq
 omega
theorem Rising.put {l : List Place} (h : Rising l) {p : Place} (h1 : 1 ≤ p.node ∧ p.node < 16) : Rising (putT l p) := by
 by_cases hp : p.parent < 0
 ·rw [un hp]
  exact ⟨l9 p h.up, fun q hq => h.rng q (f0 p q l hq).1, fun q hq => h.par q (f0 p q l hq).1⟩
 ·rw [qz (by omega)]
  refine ⟨nw p h.up, fun q hq => ?_, fun q hq => ?_⟩
  ·rcases jD p q l hq with rfl | hq
   ·exact h1
   ·exact h.rng q hq.1
  ·rcases jD p q l hq with rfl | hq
   ·omega
   ·exact h.par q hq.1
theorem Rising.ext {l m : List Place} (h : Rising l) (h' : Rising m) (hf : ∀ n, 1 ≤ n → n < 16 → find l n = find m n) : l = m := by
 refine nz h.up h'.up (fun p hp => (h.rng p hp).1) (fun p hp => (h'.rng p hp).1) fun n hn => ?_
 by_cases h2 : n < 16
 ·exact hf n hn h2
 ·rw [kY fun q hq e => by have := h.rng q hq; omega, kY fun q hq e => by have := h'.rng q hq; omega]
theorem Rising.puts : ∀ (m : List Place) {l : List Place}, Rising l → (∀ p ∈ m, 1 ≤ p.node ∧ p.node < 16) → Rising (m.foldl putT l)
 | [], _, h, _ => h
 | p :: r, _, h, hm => Rising.puts r (h.put (hm p (.head _))) fun q hq => hm q (.tail _ hq)
def plcB (p : Place) : Bool := (((((decide (p.node < 1) || decide (p.node ≥ 16)) || decide (p.parent < 0)) || decide (p.parent > 16)) || decide (p.name < 0)) || decide (p.name > 99))
theorem tq (p : Place) : place p = bif plcB p then 3 else 0 := rfl
theorem so (p : Place) : plcB p = false ↔ place p = 0 := by rw [tq]; cases plcB p <;> simp
def gl (l : List Int) (e : Int) : List Int → Nat → Int
 | [], _ => e
 | n :: r, k => bif (decide (n < 1) || decide (n ≥ 16)) then 5 else bif (decide ((k : Int) > 0) && decide (gt l (k - 1) ≥ n)) then 6 else gl l e r (k + 1)
def hl (gone : List Int) (l : List Place) (e : Int) : List Place → Nat → Int
 | [], _ => e
 | p :: r, k => bif plcB p then 3 else bif ((decide ((k : Int) > 0) && decide ((gt l (k - 1)).node ≥ p.node)) || decide (p.node ∈ gone)) then 6 else hl gone l e r (k + 1)
def half (gone : List Int) (here : List Place) (e : Int) : Int := bif (decide ((gone.length : Int) > 16) || decide ((here.length : Int) > 16)) then 2 else gl gone (hl gone here e here 0) gone 0
theorem wF (d : Delta) : ∀ (r : List Place) (k : Nat), dw d r k = hl d.gone d.here (dA d) r k
 | [], _ => rfl
 | p :: r, k => by rw [dw, hl, wF d r]; rfl
theorem wI (d : Delta) : ∀ (r : List Int) (k : Nat), ei d r k = gl d.gone (dw d d.here 0) r k
 | [], _ => rfl
 | p :: r, k => by rw [ei, gl, wI d r]
theorem wD (d : Delta) : ∀ (r : List Place) (k : Nat), dv d r k = hl d.wayGone d.wayHere 0 r k
 | [], _ => rfl
 | p :: r, k => by rw [dv, hl, wD d r]; rfl
theorem wH (d : Delta) : ∀ (r : List Int) (k : Nat), eh d r k = gl d.wayGone (dv d d.wayHere 0) r k
 | [], _ => rfl
 | p :: r, k => by rw [eh, gl, wH d r]
theorem oW (d : Delta) : bG d = half d.gone d.here (half d.wayGone d.wayHere 0) := by
 have e1 : dA d = half d.wayGone d.wayHere 0 := by unfold dA half; rw [wH, wD]
 unfold bG ek
 rw [wI, wF, e1]; rfl
theorem wl (l : List Int) (e : Int) : ∀ (r : List Int) (k : Nat), r = l.drop k → (gl l e r k = 0 ↔ (∀ n ∈ r, 1 ≤ n ∧ n < 16) ∧ (∀ i, k ≤ i → i < l.length → 0 < i → gt l (i - 1) < gt l i) ∧ e = 0)
 | [], k, hr => by
  have hk : l.length ≤ k := by have := congrArg List.length hr; simp at this; omega
  rw [gl]
  exact ⟨fun h => ⟨by simp, fun i h1 h2 => by omega, h⟩, fun h => h.2.2⟩
 | n :: r, k, hr => by
  have hk : k < l.length := by have := congrArg List.length hr; simp at this; omega
  rw [bd hk] at hr
  obtain ⟨hn, hr'⟩ := List.cons.inj hr
  have ih := wl l e r (k + 1) hr'
  rw [gl]
  cases h1 : (decide (n < 1) || decide (n ≥ 16)) with
  | true =>
   simp only [cond_true]
   refine ⟨fun h => by omega, fun h => ?_⟩
   have := h.1 n (.head _)
   simp at h1; omega
  | false =>
   simp at h1
   cases h2 : (decide ((k : Int) > 0) && decide (gt l (k - 1) ≥ n)) with
   | true =>
    simp only [cond_true, cond_false]
    simp only [Bool.and_eq_true, decide_eq_true_eq] at h2
    refine ⟨fun h => by omega, fun h => ?_⟩
    have := h.2.1 k (Nat.le_refl _) hk (by omega)
    rw [← hn] at this
    omega
   | false =>
    simp only [cond_false]
    rw [ih]
    constructor
    ·rintro ⟨a, b, c⟩
     refine ⟨fun m hm => ?_, fun i hi hl hp => ?_, c⟩
     ·cases hm with
      | head => omega
      | tail _ hm => exact a m hm
     ·by_cases he : i = k
      ·subst he
       simp at h2
       have := h2 (by omega)
       rw [← hn]; omega
      ·exact b i (by omega) hl hp
    ·rintro ⟨a, b, c⟩
     exact ⟨fun m hm => a m (.tail _ hm), fun i hi hl hp => b i (by omega) hl hp, c⟩
theorem wj (gone : List Int) (l : List Place) (e : Int) : ∀ (r : List Place) (k : Nat), r = l.drop k → (hl gone l e r k = 0 ↔ (∀ p ∈ r, place p = 0 ∧ p.node ∉ gone) ∧ (∀ i, k ≤ i → i < l.length → 0 < i → (gt l (i - 1)).node < (gt l i).node) ∧ e = 0)
 | [], k, hr => by
  have hk : l.length ≤ k := by have := congrArg List.length hr; simp at this; omega
  rw [hl]
  exact ⟨fun h => ⟨by simp, fun i h1 h2 => by omega, h⟩, fun h => h.2.2⟩
 | p :: r, k, hr => by
  have hk : k < l.length := by have := congrArg List.length hr; simp at this; omega
  rw [bd hk] at hr
  obtain ⟨hn, hr'⟩ := List.cons.inj hr
  have ih := wj gone l e r (k + 1) hr'
  rw [hl]
  cases h1 : plcB p with
  | true =>
   simp only [cond_true]
   refine ⟨fun h => by omega, fun h => ?_⟩
   have := (so p).2 (h.1 p (.head _)).1
   rw [this] at h1; cases h1
  | false =>
   have hp := (so p).1 h1
   cases h2 : ((decide ((k : Int) > 0) && decide ((gt l (k - 1)).node ≥ p.node)) || decide (p.node ∈ gone)) with
   | true =>
    simp only [cond_true, cond_false]
    simp only [Bool.or_eq_true, Bool.and_eq_true, decide_eq_true_eq] at h2
    refine ⟨fun h => by omega, fun h => ?_⟩
    rcases h2 with h2 | h2
    ·have := h.2.1 k (Nat.le_refl _) hk (by omega)
     rw [← hn] at this
     omega
    ·exact absurd h2 (h.1 p (.head _)).2
   | false =>
    simp only [cond_false]
    rw [ih]
    simp only [Bool.or_eq_false_iff, Bool.and_eq_false_iff, decide_eq_false_iff_not] at h2
    constructor
    ·rintro ⟨a, b, c⟩
     refine ⟨fun m hm => ?_, fun i hi hl hp => ?_, c⟩
     ·cases hm with
      | head => exact ⟨hp, h2.2⟩
      | tail _ hm => exact a m hm
     ·by_cases he : i = k
      ·subst he
       rw [← hn]; omega
      ·exact b i (by omega) hl hp
    ·rintro ⟨a, b, c⟩
     exact ⟨fun m hm => a m (.tail _ hm), fun i hi hl hp => b i (by omega) hl hp, c⟩
structure Half (gone : List Int) (here : List Place) : Prop where
 len1 : gone.length ≤ 16
 len2 : here.length ≤ 16
 rng : ∀ n ∈ gone, 1 ≤ n ∧ n < 16
 gup : gone.Pairwise (fun a b => a < b)
 ok : ∀ p ∈ here, place p = 0
 apart : ∀ p ∈ here, p.node ∉ gone
 hup : here.Pairwise (fun a b => a.node < b.node)
theorem sB (gone : List Int) (here : List Place) (e : Int) : half gone here e = 0 ↔ Half gone here ∧ e = 0 := by
 unfold half
 cases h : (decide ((gone.length : Int) > 16) || decide ((here.length : Int) > 16)) with
 | true =>
  simp at h
  simp only [cond_true]
  exact ⟨fun h => by omega, fun h' => by have := h'.1.len1; have := h'.1.len2; omega⟩
 | false =>
  simp at h
  rw [cond_false, wl gone _ gone 0 rfl, wj gone here e here 0 rfl]
  constructor
  ·rintro ⟨a, b, c, d, e⟩
   exact ⟨⟨by omega, by omega, a, j5 id gone fun i hi => by have := b (i + 1) (by omega) hi (by omega); simpa using this, fun p hp => (c p hp).1, fun p hp => (c p hp).2,
    j5 Place.node here fun i hi => by have := d (i + 1) (by omega) hi (by omega); simpa using this⟩, e⟩
  ·rintro ⟨h', he⟩
   refine ⟨h'.rng, fun i _ hl hp => ?_, fun p hp => ⟨h'.ok p hp, h'.apart p hp⟩, fun i _ hl hp => ?_, he⟩
   ·have := j8 id h'.gup (i - 1) (by omega)
    rw [show i - 1 + 1 = i by omega] at this
    exact this
   ·have := j8 Place.node h'.hup (i - 1) (by omega)
    rw [show i - 1 + 1 = i by omega] at this
    exact this
theorem k5 (d : Delta) : bG d = 0 ↔ Half d.gone d.here ∧ Half d.wayGone d.wayHere := by
 rw [oW, sB, sB]
 simp
structure jj (v : View) : Prop where
 roots : mX v.roots
 known : gF v.known
 way : gF v.way
 all : db (bN v) = 0
 is : iL (bN v) v.roots = v
theorem cy (v : View) : bz v = 0 ↔ jj v := by
 rw [px]
 cases h0 : (bF v.roots != 0) with
 | true => exact ⟨fun h => by rw [cond_true] at h; rw [h] at h0; simp at h0, fun h => by have := (mz _).2 h.roots; rw [this] at h0; simp at h0⟩
 | false =>
  have g0 := (mz _).1 (ai h0)
  cases h1 : (db v.known != 0) with
  | true => exact ⟨fun h => by simp only [cond_true, cond_false] at h; rw [h] at h1; simp at h1, fun h => by have := (el _).2 h.known; rw [this] at h1; simp at h1⟩
  | false =>
   have g1 := (el _).1 (ai h1)
   cases h2 : (db v.way != 0) with
   | true => exact ⟨fun h => by simp only [cond_true, cond_false] at h; rw [h] at h2; simp at h2, fun h => by have := (el _).2 h.way; rw [this] at h2; simp at h2⟩
   | false =>
    have g2 := (el _).1 (ai h2)
    simp only [cond_false]
    constructor
    ·intro h
     cases h3 : ((bR (bN v) v.roots).2 == 0 && !(eW (bR (bN v) v.roots).1 v)) with
     | true => rw [h3] at h; simp at h
     | false =>
      rw [h3, cond_false] at h
      obtain ⟨h4, h5, h6⟩ := Of_ok h
      rw [h6] at h3
      simp only [BEq.rfl, Bool.true_and, Bool.not_eq_false'] at h3
      exact ⟨g0, g1, g2, h4, (p6 _ _).1 h3⟩
    ·intro h
     have := Of_of h.all ((mz _).2 h.roots)
     rw [this, h.is, u6]
     rfl
theorem vp {v : View} (h : bz v = 0) : v.known.length ≤ 15 ∧ v.way.length ≤ 15 := by
 have h := (cy v).1 h
 exact ⟨ly ((el _).2 h.known), ly ((el _).2 h.way)⟩
theorem uO {d : Delta} (h : bG d = 0) : d.gone.length ≤ 16 ∧ d.here.length ≤ 16 ∧ d.wayGone.length ≤ 16 ∧ d.wayHere.length ≤ 16 := by
 obtain ⟨h1, h2⟩ := (k5 d).1 h
 exact ⟨h1.len1, h1.len2, h2.len1, h2.len2⟩
end Go.Proofs.YtkjccbdeaflekaaGreatDoor

set_option maxHeartbeats 2000000
namespace Go.Proofs.YtkjccbdeaflekaaGreatDoor
open Go Go.Proofs.YtkjccbdeaflekaaGreatDoor.Fw Go.Proofs
attribute [local irreducible] RdL RdN VarP RW CW
def d4  : List Place → (List Place) → (List Place)
 | [], p2 => p2
 | pn2 :: rn2, p2 => (d4 rn2 (cg p2 pn2))
def d5 (here1 : List Place) : List Int → (List Place) → (List Place)
 | [], p1 => (d4 here1 p1)
 | pn1 :: rn1, p1 => (d5 here1 rn1 (cg p1 (⟨pn1, (-1), 0⟩ : Place)))
def bu (l1 : List Place) (gone1 : List Int) (here1 : List Place) : List Place :=
 (d5 here1 gone1 l1)
theorem eg (y1 : SlV) (l1 : List Place) (y2 : SlV) (gone1 : List Int) (y3 : SlV) (here1 : List Place) (hlt : l1.length ≤ 1000 ∧ gone1.length ≤ 1000 ∧ here1.length ≤ 1000) : Does Tryz.prog 203 [y1.val l1.length, y2.val gone1.length, y3.val here1.length] [RdL EPlace y1 l1, RdL EInt y2 gone1, RdL EPlace y3 here1] (fun (X : SlV) => X.val (bu l1 gone1 here1).length) (fun X => [RdL EPlace X (bu l1 gone1 here1)]) := by
 refine Dp aK Tryz.func203 Tryz.ntmps203 Tryz.results203 fun C => ?_
 refine Pc EPlace y1 l1 24 fun hlen1 => ?_
 refine Pc EInt y2 gone1 8 fun hlen2 => ?_
 refine Pc EPlace y3 here1 24 fun hlen3 => ?_
 refine Cm (ct y1 l1) fun x1 => ?_
 refine Rp rfl rfl rfl rfl ?_
 refine AlT fun g1 => ?_
 refine Tx ?_
 (repeat refine aD ?_); refine Lp [2,6,7,15,16] [false] (fun (i_ : Nat × List Place × SlV) => match i_ with | ⟨n1, p1, x2⟩ => (⟨[(17, .v (.int .i64 (n1 : Int)))], [⟨g1, 25, [x2.val p1.length]⟩], [], [RdL EPlace x2 p1], (n1 ≤ gone1.length) ∧ (p1.length ≤ l1.length + n1) ∧ (d5 here1 (gone1.drop n1) p1) = (bu l1 gone1 here1), gone1.length - n1⟩ : Ls)) ⟨0, l1, x1.1⟩ (Sc (Sc (Sc (Sc (Sc Sn))))) (.drop (.nil)) ⟨Nat.zero_le _, (by simp), (by simp only [bu, Cf] : (bu l1 gone1 here1) = (d5 here1 gone1 l1)).symm⟩ (Le.trans (ar EPlace 99 x1.1 x1.2 l1 Uo) Le4) ?_
 rintro ⟨n1, p1, x2⟩ ⟨hkn1, hpb, hf1⟩
 simp only [Lc]
 refine Cu (fun hlt0 => ?_) fun hge0 => ?_
 ·refine Sy Tz (Xi EInt n1) ?_
  refine Sq (X1 EInt) ?_
  refine Ck (fI x2 p1 (⟨(gt gone1 n1), (-1), 0⟩ : Place) (by omega)) fun x3 => ?_
  refine Pr EPlace x3 (cg p1 (⟨(gt gone1 n1), (-1), 0⟩ : Place)) 24 fun hlen4 => ?_
  refine Tt ?_
  refine ⟨⟨(n1 + 1), (cg p1 (⟨(gt gone1 n1), (-1), 0⟩ : Place)), x3⟩, ⟨hlt0, (by have := pK p1 (⟨(gt gone1 n1), (-1), 0⟩ : Place); simp only []; omega), (by rw [← hf1, bd hlt0]; simp only [d5, Cf] : (bu l1 gone1 here1) = (d5 here1 (gone1.drop (n1 + 1)) (cg p1 (⟨(gt gone1 n1), (-1), 0⟩ : Place)))).symm⟩, Oo, Le4⟩
 ·refine Lq (Nat × List Place × SlV) [6,7,26,27] [false] (fun ⟨n2, p2, x4⟩ => ⟨[(28, .v (.int .i64 (n2 : Int)))], [⟨g1, 25, [x4.val p2.length]⟩], [], [RdL EPlace x4 p2], (n2 ≤ here1.length) ∧ (p2.length ≤ l1.length + gone1.length + n2) ∧ (d4 (here1.drop n2) p2) = (bu l1 gone1 here1), here1.length - n2⟩) ⟨0, p1, x2⟩ ⟨Nat.zero_le _, (by omega), (by rw [← hf1, List.drop_of_length_le hge0]; simp only [d5, Cf] : (bu l1 gone1 here1) = (d4 here1 p1)).symm⟩ ?_
  rintro ⟨n2, p2, x4⟩ ⟨hkn2, hpc, hf2⟩
  simp only [Lc]
  refine Cu (fun hlt1 => ?_) fun hge1 => ?_
  ·refine Sy Tz (Xi EPlace n2) ?_
   refine Sq (Xa EPlace) ?_
   refine AlT fun g2 => ?_
   refine Ck (fI x4 p2 (gt here1 n2) (by omega)) fun x5 => ?_
   refine Pr EPlace x5 (cg p2 (gt here1 n2)) 24 fun hlen5 => ?_
   refine Tt ?_
   refine ⟨⟨(n2 + 1), (cg p2 (gt here1 n2)), x5⟩, ⟨hlt1, (by have := pK p2 (gt here1 n2); simp only []; omega), (by rw [← hf2, bd hlt1]; simp only [d4, Cf] : (bu l1 gone1 here1) = (d4 (here1.drop (n2 + 1)) (cg p2 (gt here1 n2)))).symm⟩, Oo, Le4⟩
  ·have hf := Ri hf2.symm
   rw [List.drop_of_length_le hge1, d4] at hf
   refine Rx ?_; exact Re x4 Rv
def bv (v1 : View) (d1 : Delta) : View × Int :=
 (bif ((bz v1) != 0) then ((⟨[], [], []⟩ : View), (bz v1)) else (bif ((bG d1) != 0) then ((⟨[], [], []⟩ : View), (bG d1)) else (bif ((bz (⟨v1.roots, (bu v1.known d1.gone d1.here), (bu v1.way d1.wayGone d1.wayHere)⟩ : View)) != 0) then ((⟨[], [], []⟩ : View), (bz (⟨v1.roots, (bu v1.known d1.gone d1.here), (bu v1.way d1.wayGone d1.wayHere)⟩ : View))) else ((⟨v1.roots, (bu v1.known d1.gone d1.here), (bu v1.way d1.wayGone d1.wayHere)⟩ : View), 0))))
theorem nt (y1 : SlV) (y2 : SlV) (y3 : SlV) (v1 : View) (y4 : SlV) (y5 : SlV) (y6 : SlV) (y7 : SlV) (d1 : Delta) : Does Tryz.prog 173 [.agg ⟨cV y1 y2 y3 v1⟩, .agg ⟨cD y4 y5 y6 y7 d1⟩] [RdL EInt y1 v1.roots, RdL EPlace y2 v1.known, RdL EPlace y3 v1.way, RdL EInt y4 d1.gone, RdL EPlace y5 d1.here, RdL EInt y6 d1.wayGone, RdL EPlace y7 d1.wayHere] (fun (X : SlV × SlV × SlV) => .tuple #[.agg ⟨cV X.1 X.2.1 X.2.2 (bv v1 d1).1⟩, .int .i64 (bv v1 d1).2]) (fun X => [RdL EInt X.1 (bv v1 d1).1.roots, RdL EPlace X.2.1 (bv v1 d1).1.known, RdL EPlace X.2.2 (bv v1 d1).1.way]) := by
 refine Dp aK Tryz.func173 Tryz.ntmps173 Tryz.results173 fun C => ?_
 refine Pc EInt y1 v1.roots 8 fun hlen1 => ?_
 refine Pc EPlace y2 v1.known 24 fun hlen2 => ?_
 refine Pc EPlace y3 v1.way 24 fun hlen3 => ?_
 refine Pc EInt y4 d1.gone 8 fun hlen4 => ?_
 refine Pc EPlace y5 d1.here 24 fun hlen5 => ?_
 refine Pc EInt y6 d1.wayGone 8 fun hlen6 => ?_
 refine Pc EPlace y7 d1.wayHere 24 fun hlen7 => ?_
 refine BxT fun g1 => ?_
 refine BxT fun g2 => ?_
 refine AlT fun g3 => ?_
 refine Ck (eD y1 y2 y3 v1) fun _ => ?_
 have hf := Ri (bv.eq_1 v1 d1)
 refine Cn hf (fun hc1 hc1p hf => ?_) fun hc1 hc1p hf => ?_
 ·refine Tx ?_
  refine Fc EInt ?_
  refine Fc EPlace ?_
  refine Rx ?_; exact Re ⟨Z0, Z0, Z0⟩ Rv
 ·have hvl := vp (ai hc1)
  refine Ck (ii y4 y5 y6 y7 d1) fun _ => ?_
  refine Cn hf (fun hc2 hc2p hf => ?_) fun hc2 hc2p hf => ?_
  ·refine Tx ?_
   refine Fc EInt ?_
   refine Fc EPlace ?_
   refine Rx ?_; exact Re ⟨Z0, Z0, Z0⟩ Rv
  ·have hdl := uO (ai hc2)
   refine Tx ?_
   refine Jn (Nat × SlV × Option Nat × SlV × SlV) [4, 5] [true, true, true] (fun ⟨g4, x1, b1, x2, x3⟩ => ⟨[(8, .v (.pointer (some ⟨g4, 0, none⟩)))], [⟨g4, 61, [x1.val v1.roots.length, x2.val (bu v1.known d1.gone d1.here).length, x3.val (bu v1.way d1.wayGone d1.wayHere).length]⟩], [ownL EInt 3 x1 b1 v1.roots], [RdL EPlace x2 (bu v1.known d1.gone d1.here), RdL EPlace x3 (bu v1.way d1.wayGone d1.wayHere)], True, 0⟩) ?_ ?_
   ·refine ap (fun j => match j with | 19 => none | _ => some []) ?_
    refine Dx [0,1,3,4,5,6,7,8,10,11,12,13,14,15] ?_
    refine Rw 2 18 ?_ ?_
    ·refine Cm (bX y1 v1.roots) fun x4 => ?_
     refine Rw 9 18 ?_ ?_
     ·refine Ck (eg y2 v1.known y4 d1.gone y5 d1.here ⟨by omega, by omega, by omega⟩) fun x5 => ?_
      refine Pr EPlace x5 (bu v1.known d1.gone d1.here) 24 fun hlen8 => ?_
      refine Rw 16 18 ?_ ?_
      ·refine Ck (eg y3 v1.way y6 d1.wayGone y7 d1.wayHere ⟨by omega, by omega, by omega⟩) fun x6 => ?_
       refine Pr EPlace x6 (bu v1.way d1.wayGone d1.wayHere) 24 fun hlen9 => ?_
       refine Ra 17 rfl Qp ?_
       refine Rn 18 ?_
       refine cw (.an rfl rfl) (al rfl) rfl rfl rfl rfl fun g5 => ?_
       refine Rn 19 ?_
       refine Wa ?_
       refine Re0 ?_
       refine ⟨⟨g5, x4.1, x4.2, x5, x6⟩, trivial, Le4⟩
      ·refine cw (.an rfl rfl) (al rfl) rfl rfl rfl rfl fun g6 => ?_
       refine Rn 16 ?_
       refine Ck (eg y3 v1.way y6 d1.wayGone y7 d1.wayHere ⟨by omega, by omega, by omega⟩) fun x7 => ?_
       refine Pr EPlace x7 (bu v1.way d1.wayGone d1.wayHere) 24 fun hlen10 => ?_
       refine Ra 17 rfl Qp ?_
       refine Rn 19 ?_
       refine Wa ?_
       refine Re0 ?_
       refine ⟨⟨g6, x4.1, x4.2, x5, x7⟩, trivial, Le4⟩
     ·refine cw (.an rfl rfl) (al rfl) rfl rfl rfl rfl fun g7 => ?_
      refine Rn 9 ?_
      refine Ck (eg y2 v1.known y4 d1.gone y5 d1.here ⟨by omega, by omega, by omega⟩) fun x8 => ?_
      refine Pr EPlace x8 (bu v1.known d1.gone d1.here) 24 fun hlen11 => ?_
      refine Rn 16 ?_
      refine Ck (eg y3 v1.way y6 d1.wayGone y7 d1.wayHere ⟨by omega, by omega, by omega⟩) fun x9 => ?_
      refine Pr EPlace x9 (bu v1.way d1.wayGone d1.wayHere) 24 fun hlen12 => ?_
      refine Ra 17 rfl Qp ?_
      refine Rn 19 ?_
      refine Wa ?_
      refine Re0 ?_
      refine ⟨⟨g7, x4.1, x4.2, x8, x9⟩, trivial, Le4⟩
    ·refine cw (.an rfl rfl) (al rfl) rfl rfl rfl rfl fun g8 => ?_
     refine Rn 2 ?_
     refine Cm (bX y1 v1.roots) fun x10 => ?_
     refine Rn 9 ?_
     refine Ck (eg y2 v1.known y4 d1.gone y5 d1.here ⟨by omega, by omega, by omega⟩) fun x11 => ?_
     refine Pr EPlace x11 (bu v1.known d1.gone d1.here) 24 fun hlen13 => ?_
     refine Rn 16 ?_
     refine Ck (eg y3 v1.way y6 d1.wayGone y7 d1.wayHere ⟨by omega, by omega, by omega⟩) fun x12 => ?_
     refine Pr EPlace x12 (bu v1.way d1.wayGone d1.wayHere) 24 fun hlen14 => ?_
     refine Ra 17 rfl Qp ?_
     refine Rn 19 ?_
     refine Wa ?_
     refine Re0 ?_
     refine ⟨⟨g8, x10.1, x10.2, x11, x12⟩, trivial, Le4⟩
   ·rintro ⟨g4, x1, b1, x2, x3⟩ -
    simp only [Lc]
    refine Tx ?_
    refine pF (eD x1 x2 x3 (⟨v1.roots, (bu v1.known d1.gone d1.here), (bu v1.way d1.wayGone d1.wayHere)⟩ : View)) .sq (al rfl) rfl rfl rfl Kr rfl rfl (.own Mm (.fact Mm (.fact Mm (.nil _ _)))) ?_
    intro _
    refine Cn hf (fun hc3 hc3p hf => ?_) fun hc3 hc3p hf => ?_
    ·refine Tx ?_
     refine Fc EInt ?_
     refine Fc EPlace ?_
     refine Rx ?_; exact Re ⟨Z0, Z0, Z0⟩ Rv
    ·refine Tx ?_
     refine cw_le (ar EInt 3 x1 b1 v1.roots Uo) ?_
     refine Rx ?_; exact Re ⟨x1, x2, x3⟩ Rv
end Go.Proofs.YtkjccbdeaflekaaGreatDoor
