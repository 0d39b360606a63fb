/- Part of this claim. No condition. -/
import Derived.Test.YtchdacbjiomplaaTT
import Derived.Test.YtchdacbjiomplaaFx
set_option linter.unusedVariables false
set_option linter.unusedSimpArgs false
set_option maxHeartbeats 2000000
namespace Go.Proofs.Ytchdacbjiomplaa
open Go Go.Proofs.Ytchdacbjiomplaa.Fw Go.Proofs
attribute [local irreducible] RW CW
theorem slices_Clone_Int_spec (x : SlV) (l : List Int) : DoesG Try.prog 129 [x.val l.length] [RdL EInt x l] ⟨[], []⟩ (fun (X : SlV × Option Nat) => X.1.val l.length) (fun (_ : SlV × Option Nat) => []) (fun (X : SlV × Option Nat) => ⟨[], [ownL EInt 3 X.1 X.2 l]⟩) := by
  refine does_ofG tab_ok Try.func129 rfl Try.ntmps129 Try.results129 rfl inferInstance (fun _ => inferInstance) fun C => ?_
  refine cw_pure (φ := l.length * EInt.by_ ≤ 140737488355328) [RdL EInt x l] Sm (fun M w h => (allF1 h).len) fun hlen => ?_
  refine Tx ?_
  refine rw_q rfl rfl rfl (q_eqnil rfl rfl (fun _ => rfl) rfl) ?_
  refine rw_nil ?_
  (repeat refine cw_seq ?_); refine cw_cond rfl rfl (fun hc0 => ?_) (fun hc0 => ?_)
  · refine cw_pure [RdL EInt x l] Sm (fun M w h => (allF1 h).nil_of hc0) fun hnil => ?_
    subst hnil
    refine cw_le (le_nilL EInt 3) ?_
    refine Tx ?_
    (repeat refine cw_seq ?_); refine cw_ret ?_
    exact ⟨(⟨none, 0⟩, none), _, (.cons (.tmp rfl) .nil), rfl, .nil _, .nil _, Sp⟩
  · refine Tx ?_
    refine rw_bsliceL EInt [] .sq (guard_none rfl) rfl rfl rfl rfl rfl rfl rfl rfl rfl rfl rfl rfl rfl rfl rfl fun x1 x1b => ?_
    refine Rp rfl rfl rfl rfl ?_
    refine rw_appendL EInt [] l (b := x1b) .sq (fun _ _ => .inl ⟨_, rfl⟩) (guard_none rfl) rfl rfl rfl rfl rfl rfl rfl (fun _ _ => Uo) rfl rfl rfl rfl rfl rfl rfl (reads_rdL Mm) (by simpa using hlen) fun x2 x2b => ?_
    refine Tx ?_
    (repeat refine cw_seq ?_); refine cw_ret ?_
    exact ⟨(x2, x2b), _, (.cons (.tmp rfl) .nil), rfl, .nil _, .nil _, Sp⟩

theorem slices_Clone_Place_spec (x : SlV) (l : List Place) : DoesG Try.prog 137 [x.val l.length] [RdL EPlace x l] ⟨[], []⟩ (fun (X : SlV × Option Nat) => X.1.val l.length) (fun (_ : SlV × Option Nat) => []) (fun (X : SlV × Option Nat) => ⟨[], [ownL EPlace 35 X.1 X.2 l]⟩) := by
  refine does_ofG tab_ok Try.func137 rfl Try.ntmps137 Try.results137 rfl inferInstance (fun _ => inferInstance) fun C => ?_
  refine cw_pure (φ := l.length * EPlace.by_ ≤ 140737488355328) [RdL EPlace x l] Sm (fun M w h => (allF1 h).len) fun hlen => ?_
  refine Tx ?_
  refine rw_q rfl rfl rfl (q_eqnil rfl rfl (fun _ => rfl) rfl) ?_
  refine rw_nil ?_
  (repeat refine cw_seq ?_); refine cw_cond rfl rfl (fun hc0 => ?_) (fun hc0 => ?_)
  · refine cw_pure [RdL EPlace x l] Sm (fun M w h => (allF1 h).nil_of hc0) fun hnil => ?_
    subst hnil
    refine cw_le (le_nilL EPlace 35) ?_
    refine Tx ?_
    (repeat refine cw_seq ?_); refine cw_ret ?_
    exact ⟨(⟨none, 0⟩, none), _, (.cons (.tmp rfl) .nil), rfl, .nil _, .nil _, Sp⟩
  · refine Tx ?_
    refine rw_bsliceL EPlace [] .sq (guard_none rfl) rfl rfl rfl rfl rfl rfl rfl rfl rfl rfl rfl rfl rfl rfl rfl fun x1 x1b => ?_
    refine Rp rfl rfl rfl rfl ?_
    refine rw_appendL EPlace [] l (b := x1b) .sq (fun _ _ => .inl ⟨_, rfl⟩) (guard_none rfl) rfl rfl rfl rfl rfl rfl rfl (fun _ _ => Uo) rfl rfl rfl rfl rfl rfl rfl (reads_rdL Mm) (by simpa using hlen) fun x2 x2b => ?_
    refine Tx ?_
    (repeat refine cw_seq ?_); refine cw_ret ?_
    exact ⟨(x2, x2b), _, (.cons (.tmp rfl) .nil), rfl, .nil _, .nil _, Sp⟩

theorem slices_Clone_Op_spec (x : SlV) (l : List Op) : DoesG Try.prog 155 [x.val l.length] [RdL EOp x l] ⟨[], []⟩ (fun (X : SlV × Option Nat) => X.1.val l.length) (fun (_ : SlV × Option Nat) => []) (fun (X : SlV × Option Nat) => ⟨[], [ownL EOp 33 X.1 X.2 l]⟩) := by
  refine does_ofG tab_ok Try.func155 rfl Try.ntmps155 Try.results155 rfl inferInstance (fun _ => inferInstance) fun C => ?_
  refine cw_pure (φ := l.length * EOp.by_ ≤ 140737488355328) [RdL EOp x l] Sm (fun M w h => (allF1 h).len) fun hlen => ?_
  refine Tx ?_
  refine rw_q rfl rfl rfl (q_eqnil rfl rfl (fun _ => rfl) rfl) ?_
  refine rw_nil ?_
  (repeat refine cw_seq ?_); refine cw_cond rfl rfl (fun hc0 => ?_) (fun hc0 => ?_)
  · refine cw_pure [RdL EOp x l] Sm (fun M w h => (allF1 h).nil_of hc0) fun hnil => ?_
    subst hnil
    refine cw_le (le_nilL EOp 33) ?_
    refine Tx ?_
    (repeat refine cw_seq ?_); refine cw_ret ?_
    exact ⟨(⟨none, 0⟩, none), _, (.cons (.tmp rfl) .nil), rfl, .nil _, .nil _, Sp⟩
  · refine Tx ?_
    refine rw_bsliceL EOp [] .sq (guard_none rfl) rfl rfl rfl rfl rfl rfl rfl rfl rfl rfl rfl rfl rfl rfl rfl fun x1 x1b => ?_
    refine Rp rfl rfl rfl rfl ?_
    refine rw_appendL EOp [] l (b := x1b) .sq (fun _ _ => .inl ⟨_, rfl⟩) (guard_none rfl) rfl rfl rfl rfl rfl rfl rfl (fun _ _ => Uo) rfl rfl rfl rfl rfl rfl rfl (reads_rdL Mm) (by simpa using hlen) fun x2 x2b => ?_
    refine Tx ?_
    (repeat refine cw_seq ?_); refine cw_ret ?_
    exact ⟨(x2, x2b), _, (.cons (.tmp rfl) .nil), rfl, .nil _, .nil _, Sp⟩

theorem slices_Clone_Step_spec (x : SlV) (l : List Step) : DoesG Try.prog 209 [x.val l.length] [RdL EStep x l] ⟨[], []⟩ (fun (X : SlV × Option Nat) => X.1.val l.length) (fun (_ : SlV × Option Nat) => []) (fun (X : SlV × Option Nat) => ⟨[], [ownL EStep 37 X.1 X.2 l]⟩) := by
  refine does_ofG tab_ok Try.func209 rfl Try.ntmps209 Try.results209 rfl inferInstance (fun _ => inferInstance) fun C => ?_
  refine cw_pure (φ := l.length * EStep.by_ ≤ 140737488355328) [RdL EStep x l] Sm (fun M w h => (allF1 h).len) fun hlen => ?_
  refine Tx ?_
  refine rw_q rfl rfl rfl (q_eqnil rfl rfl (fun _ => rfl) rfl) ?_
  refine rw_nil ?_
  (repeat refine cw_seq ?_); refine cw_cond rfl rfl (fun hc0 => ?_) (fun hc0 => ?_)
  · refine cw_pure [RdL EStep x l] Sm (fun M w h => (allF1 h).nil_of hc0) fun hnil => ?_
    subst hnil
    refine cw_le (le_nilL EStep 37) ?_
    refine Tx ?_
    (repeat refine cw_seq ?_); refine cw_ret ?_
    exact ⟨(⟨none, 0⟩, none), _, (.cons (.tmp rfl) .nil), rfl, .nil _, .nil _, Sp⟩
  · refine Tx ?_
    refine rw_bsliceL EStep [] .sq (guard_none rfl) rfl rfl rfl rfl rfl rfl rfl rfl rfl rfl rfl rfl rfl rfl rfl fun x1 x1b => ?_
    refine Rp rfl rfl rfl rfl ?_
    refine rw_appendL EStep [] l (b := x1b) .sq (fun _ _ => .inl ⟨_, rfl⟩) (guard_none rfl) rfl rfl rfl rfl rfl rfl rfl (fun _ _ => Uo) rfl rfl rfl rfl rfl rfl rfl (reads_rdL Mm) (by simpa using hlen) fun x2 x2b => ?_
    refine Tx ?_
    (repeat refine cw_seq ?_); refine cw_ret ?_
    exact ⟨(x2, x2b), _, (.cons (.tmp rfl) .nil), rfl, .nil _, .nil _, Sp⟩

theorem cat_step {α : Type} [Inhabited α] (ls : List (List α)) {k : Nat} (h : k < ls.length) : (ls.take (k + 1)).flatten = (ls.take k).flatten ++ gt ls k ∧ (ls.take k).flatten.length + (gt ls k).length ≤ ls.flatten.length := by
  have h1 : (ls.take (k + 1)).flatten = (ls.take k).flatten ++ gt ls k := by
    rw [gt_eq h, ← List.take_append_getElem h, List.flatten_append]; simp only [List.flatten_cons, List.flatten_nil, List.append_nil]
  refine ⟨h1, ?_⟩
  have h2 : ls.flatten = (ls.take (k + 1)).flatten ++ (ls.drop (k + 1)).flatten := by rw [← List.flatten_append, List.take_append_drop]
  rw [h2, h1]; simp only [List.length_append]; omega

def slices_Equal_Int_L0 (s2 : List Int) : List Int → Nat → Bool
  | [], n1 => true
  | pn1 :: rn1, n1 => (bif (pn1 != (gt s2 n1)) then false else (slices_Equal_Int_L0 s2 rn1 (n1 + 1)))
def slices_Equal_Int (s1 : List Int) (s2 : List Int) : Bool :=
  (bif ((s1.length : Int) != (s2.length : Int)) then false else (slices_Equal_Int_L0 s2 s1 0))
theorem slices_Equal_Int_spec (y1 : SlV) (s1 : List Int) (y2 : SlV) (s2 : List Int) : Does Try.prog 27 [y1.val s1.length, y2.val s2.length] [RdL EInt y1 s1, RdL EInt y2 s2] (fun (_ : Unit) => .bool (slices_Equal_Int s1 s2)) (fun (_ : Unit) => []) := by
  refine does_of tab_ok Try.func27 rfl Try.ntmps27 Try.results27 rfl inferInstance (fun _ => inferInstance) fun C => ?_
  refine Pc EInt y1 s1 8 fun hlen1 => ?_
  refine Pc EInt y2 s2 8 fun hlen2 => ?_
  refine Tx ?_
  refine Cd (b := ((s1.length : Int) != (s2.length : Int))) (fun hc1 => ?_) fun hc1 => ?_
  · have hc1p := bne_iff_ne.1 hc1
    refine Tx ?_
    have hr1 : (slices_Equal_Int s1 s2) = false := by simp only [slices_Equal_Int, hc1, cond_true, cond_false]
    refine cw_ret ?_; rw [hr1]; exact Re () (Vt Vn)
  · have hc1p := eq_of_bne_false hc1
    refine Tx ?_
    (repeat refine cw_seq ?_); refine Lp [0,1,4,12] [] (fun (n1 : Nat) => (⟨[(13, .v (.int .i64 (n1 : Int)))], [], [], [], (n1 ≤ s1.length) ∧ (slices_Equal_Int_L0 s2 (s1.drop n1) n1) = (slices_Equal_Int s1 s2), s1.length - n1⟩ : Ls)) 0 (Sc (Sc (Sc (Sc Sn)))) (.nil) ⟨Nat.zero_le _, (by simp only [slices_Equal_Int, hc1, cond_true, cond_false] : (slices_Equal_Int s1 s2) = (slices_Equal_Int_L0 s2 s1 0)).symm⟩ Le4 ?_
    rintro n1 ⟨hkn1, hf1⟩
    simp only [List.cons_append, List.nil_append]
    refine Tx ?_
    refine Cd (b := decide ((n1 : Int) < (s1.length : Int))) (fun hc2 => ?_) fun hc2 => ?_
    · have hlt0 : n1 < s1.length := Int.ofNat_lt.1 (of_decide_eq_true hc2)
      refine Tx ?_
      (repeat refine cw_seq ?_); refine cw_regionA (fun _ => some []) ?_
      refine Rb 0 [1,4,5,6,7] [2,3,8] rfl Qp ?_
      refine Rb 1 [4,5,6,7] [2,3,8] rfl Qp ?_
      refine Rb 2 [4,5,6,7] [3,8] rfl (q_idx EInt n1 rfl rfl (fun _ => rfl) rfl (fun _ => rfl) rfl rfl rfl Mm rfl (fun _ => rfl) (fun _ => by first | assumption | omega)) ?_
      refine Ra 3 [4,5,6,7] rfl (q_le1 EInt rfl rfl (fun _ => rfl) rfl rfl Mm (fun _ => by first | assumption | omega) rfl) ?_
      refine Rb 4 [5] [6,7,8] rfl Qp ?_
      refine Rb 5 [] [6,7,8] rfl Qp ?_
      refine Rb 6 [] [7,8] rfl (q_idx EInt n1 rfl rfl (fun _ => rfl) rfl (fun _ => rfl) rfl rfl rfl Mm rfl (fun _ => rfl) (fun _ => by first | assumption | omega)) ?_
      refine Ra 7 [] rfl (q_le1 EInt rfl rfl (fun _ => rfl) rfl rfl Mm (fun _ => by first | assumption | omega) rfl) ?_
      refine Ra 8 [] rfl Qp ?_
      refine ra_nil Kr ?_
      (repeat refine cw_seq ?_)
      refine Cd (b := ((gt s1 n1) != (gt s2 n1))) (fun hc3 => ?_) fun hc3 => ?_
      · have hc3p := bne_iff_ne.1 hc3
        refine Tx ?_
        have hr2 : (slices_Equal_Int s1 s2) = false := by rw [← hf1, drop_gt hlt0]; simp only [slices_Equal_Int_L0, hc3, cond_true, cond_false]
        refine cw_ret ?_; rw [hr2]; exact Re () (Vt Vn)
      · have hc3p := eq_of_bne_false hc3
        refine Tx ?_
        refine rw_q rfl rfl rfl (q_add rfl rfl (fun _ => rfl) rfl (fun _ => rfl) (fun _ => by omega)) ?_
        refine Tx ?_
        refine ⟨(n1 + 1), ⟨hlt0, (by rw [← hf1, drop_gt hlt0]; simp only [slices_Equal_Int_L0, hc3, cond_true, cond_false] : (slices_Equal_Int s1 s2) = (slices_Equal_Int_L0 s2 (s1.drop (n1 + 1)) (n1 + 1))).symm⟩, (by simp only []; omega), Le4⟩
    · have hge0 : s1.length ≤ n1 := by have := of_decide_eq_false hc2; omega
      refine Tx ?_
      have hr3 : (slices_Equal_Int s1 s2) = true := by rw [← hf1, List.drop_of_length_le hge0]; simp only [slices_Equal_Int_L0, cond_true, cond_false]
      refine cw_ret ?_; rw [hr3]; exact Re () (Vt Vn)
theorem slices_Equal_Int_eq (a b : List Int) : slices_Equal_Int a b = decide (a = b) := by
  have key : ∀ (l : List Int) (k : Nat), l.length + k = b.length → slices_Equal_Int_L0 b l k = decide (l = b.drop k) := by
    intro l
    induction l with
    | nil => intro k hk; rw [slices_Equal_Int_L0, List.drop_of_length_le (by simp at hk; omega)]; simp
    | cons p r ih =>
      intro k hk
      simp only [List.length_cons] at hk
      rw [slices_Equal_Int_L0, ih (k + 1) (by omega), drop_gt (by omega : k < b.length)]
      by_cases h : p = gt b k <;> simp [h]
  rw [slices_Equal_Int]
  by_cases h : a.length = b.length
  · rw [key a 0 (by omega)]; simp [h]
  · have : a ≠ b := fun e => h (by rw [e])
    simp [this, Int.ofNat_inj, h]
theorem slices_Equal_Int_spec' (y1 y2 : SlV) (a b : List Int) : Does Try.prog 27 [y1.val a.length, y2.val b.length] [RdL EInt y1 a, RdL EInt y2 b] (fun (_ : Unit) => .bool (decide (a = b))) (fun (_ : Unit) => []) := by
  have := slices_Equal_Int_spec y1 a y2 b
  rw [slices_Equal_Int_eq] at this
  exact this

def slices_Equal_Place_L0 (s2 : List Place) : List Place → Nat → Bool
  | [], n1 => true
  | pn1 :: rn1, n1 => (bif (!(decide (pn1 = (gt s2 n1)))) then false else (slices_Equal_Place_L0 s2 rn1 (n1 + 1)))
def slices_Equal_Place (s1 : List Place) (s2 : List Place) : Bool :=
  (bif ((s1.length : Int) != (s2.length : Int)) then false else (slices_Equal_Place_L0 s2 s1 0))
theorem slices_Equal_Place_spec (y1 : SlV) (s1 : List Place) (y2 : SlV) (s2 : List Place) : Does Try.prog 34 [y1.val s1.length, y2.val s2.length] [RdL EPlace y1 s1, RdL EPlace y2 s2] (fun (_ : Unit) => .bool (slices_Equal_Place s1 s2)) (fun (_ : Unit) => []) := by
  refine does_of tab_ok Try.func34 rfl Try.ntmps34 Try.results34 rfl inferInstance (fun _ => inferInstance) fun C => ?_
  refine Pc EPlace y1 s1 24 fun hlen1 => ?_
  refine Pc EPlace y2 s2 24 fun hlen2 => ?_
  refine Tx ?_
  refine Cd (b := ((s1.length : Int) != (s2.length : Int))) (fun hc1 => ?_) fun hc1 => ?_
  · have hc1p := bne_iff_ne.1 hc1
    refine Tx ?_
    have hr1 : (slices_Equal_Place s1 s2) = false := by simp only [slices_Equal_Place, hc1, cond_true, cond_false]
    refine cw_ret ?_; rw [hr1]; exact Re () (Vt Vn)
  · have hc1p := eq_of_bne_false hc1
    refine Tx ?_
    (repeat refine cw_seq ?_); refine Lp [0,1,4,12] [] (fun (n1 : Nat) => (⟨[(13, .v (.int .i64 (n1 : Int)))], [], [], [], (n1 ≤ s1.length) ∧ (slices_Equal_Place_L0 s2 (s1.drop n1) n1) = (slices_Equal_Place s1 s2), s1.length - n1⟩ : Ls)) 0 (Sc (Sc (Sc (Sc Sn)))) (.nil) ⟨Nat.zero_le _, (by simp only [slices_Equal_Place, hc1, cond_true, cond_false] : (slices_Equal_Place s1 s2) = (slices_Equal_Place_L0 s2 s1 0)).symm⟩ Le4 ?_
    rintro n1 ⟨hkn1, hf1⟩
    simp only [List.cons_append, List.nil_append]
    refine Tx ?_
    refine Cd (b := decide ((n1 : Int) < (s1.length : Int))) (fun hc2 => ?_) fun hc2 => ?_
    · have hlt0 : n1 < s1.length := Int.ofNat_lt.1 (of_decide_eq_true hc2)
      refine Tx ?_
      (repeat refine cw_seq ?_); refine cw_regionA (fun _ => some []) ?_
      refine Rb 0 [1,4,5,6,7] [2,3,8] rfl Qp ?_
      refine Rb 1 [4,5,6,7] [2,3,8] rfl Qp ?_
      refine Rb 2 [4,5,6,7] [3,8] rfl (q_idx EPlace n1 rfl rfl (fun _ => rfl) rfl (fun _ => rfl) rfl rfl rfl Mm rfl (fun _ => rfl) (fun _ => by first | assumption | omega)) ?_
      refine Ra 3 [4,5,6,7] rfl (q_leA EPlace rfl rfl (fun _ => rfl) rfl rfl Mm (fun _ => by first | assumption | omega)) ?_
      refine Rb 4 [5] [6,7,8] rfl Qp ?_
      refine Rb 5 [] [6,7,8] rfl Qp ?_
      refine Rb 6 [] [7,8] rfl (q_idx EPlace n1 rfl rfl (fun _ => rfl) rfl (fun _ => rfl) rfl rfl rfl Mm rfl (fun _ => rfl) (fun _ => by first | assumption | omega)) ?_
      refine Ra 7 [] rfl (q_leA EPlace rfl rfl (fun _ => rfl) rfl rfl Mm (fun _ => by first | assumption | omega)) ?_
      refine Ra 8 [] rfl (q_neE eqT_Place (flatEq_Place (gt s1 n1) (gt s2 n1)) rfl rfl (fun _ => rfl) rfl (fun _ => rfl) rfl rfl) ?_
      refine ra_nil Kr ?_
      (repeat refine cw_seq ?_)
      refine Cd (b := (!(decide ((gt s1 n1) = (gt s2 n1))))) (fun hc3 => ?_) fun hc3 => ?_
      · refine Tx ?_
        have hr2 : (slices_Equal_Place s1 s2) = false := by rw [← hf1, drop_gt hlt0]; simp only [slices_Equal_Place_L0, hc3, cond_true, cond_false]
        refine cw_ret ?_; rw [hr2]; exact Re () (Vt Vn)
      · refine Tx ?_
        refine rw_q rfl rfl rfl (q_add rfl rfl (fun _ => rfl) rfl (fun _ => rfl) (fun _ => by omega)) ?_
        refine Tx ?_
        refine ⟨(n1 + 1), ⟨hlt0, (by rw [← hf1, drop_gt hlt0]; simp only [slices_Equal_Place_L0, hc3, cond_true, cond_false] : (slices_Equal_Place s1 s2) = (slices_Equal_Place_L0 s2 (s1.drop (n1 + 1)) (n1 + 1))).symm⟩, (by simp only []; omega), Le4⟩
    · have hge0 : s1.length ≤ n1 := by have := of_decide_eq_false hc2; omega
      refine Tx ?_
      have hr3 : (slices_Equal_Place s1 s2) = true := by rw [← hf1, List.drop_of_length_le hge0]; simp only [slices_Equal_Place_L0, cond_true, cond_false]
      refine cw_ret ?_; rw [hr3]; exact Re () (Vt Vn)
theorem slices_Equal_Place_eq (a b : List Place) : slices_Equal_Place a b = decide (a = b) := by
  have key : ∀ (l : List Place) (k : Nat), l.length + k = b.length → slices_Equal_Place_L0 b l k = decide (l = b.drop k) := by
    intro l
    induction l with
    | nil => intro k hk; rw [slices_Equal_Place_L0, List.drop_of_length_le (by simp at hk; omega)]; simp
    | cons p r ih =>
      intro k hk
      simp only [List.length_cons] at hk
      rw [slices_Equal_Place_L0, ih (k + 1) (by omega), drop_gt (by omega : k < b.length)]
      by_cases h : p = gt b k <;> simp [h]
  rw [slices_Equal_Place]
  by_cases h : a.length = b.length
  · rw [key a 0 (by omega)]; simp [h]
  · have : a ≠ b := fun e => h (by rw [e])
    simp [this, Int.ofNat_inj, h]
theorem slices_Equal_Place_spec' (y1 y2 : SlV) (a b : List Place) : Does Try.prog 34 [y1.val a.length, y2.val b.length] [RdL EPlace y1 a, RdL EPlace y2 b] (fun (_ : Unit) => .bool (decide (a = b))) (fun (_ : Unit) => []) := by
  have := slices_Equal_Place_spec y1 a y2 b
  rw [slices_Equal_Place_eq] at this
  exact this

def slices_Equal_Op_L0 (s2 : List Op) : List Op → Nat → Bool
  | [], n1 => true
  | pn1 :: rn1, n1 => (bif (!(decide (pn1 = (gt s2 n1)))) then false else (slices_Equal_Op_L0 s2 rn1 (n1 + 1)))
def slices_Equal_Op (s1 : List Op) (s2 : List Op) : Bool :=
  (bif ((s1.length : Int) != (s2.length : Int)) then false else (slices_Equal_Op_L0 s2 s1 0))
theorem slices_Equal_Op_spec (y1 : SlV) (s1 : List Op) (y2 : SlV) (s2 : List Op) : Does Try.prog 92 [y1.val s1.length, y2.val s2.length] [RdL EOp y1 s1, RdL EOp y2 s2] (fun (_ : Unit) => .bool (slices_Equal_Op s1 s2)) (fun (_ : Unit) => []) := by
  refine does_of tab_ok Try.func92 rfl Try.ntmps92 Try.results92 rfl inferInstance (fun _ => inferInstance) fun C => ?_
  refine Pc EOp y1 s1 56 fun hlen1 => ?_
  refine Pc EOp y2 s2 56 fun hlen2 => ?_
  refine Tx ?_
  refine Cd (b := ((s1.length : Int) != (s2.length : Int))) (fun hc1 => ?_) fun hc1 => ?_
  · have hc1p := bne_iff_ne.1 hc1
    refine Tx ?_
    have hr1 : (slices_Equal_Op s1 s2) = false := by simp only [slices_Equal_Op, hc1, cond_true, cond_false]
    refine cw_ret ?_; rw [hr1]; exact Re () (Vt Vn)
  · have hc1p := eq_of_bne_false hc1
    refine Tx ?_
    (repeat refine cw_seq ?_); refine Lp [0,1,4,12] [] (fun (n1 : Nat) => (⟨[(13, .v (.int .i64 (n1 : Int)))], [], [], [], (n1 ≤ s1.length) ∧ (slices_Equal_Op_L0 s2 (s1.drop n1) n1) = (slices_Equal_Op s1 s2), s1.length - n1⟩ : Ls)) 0 (Sc (Sc (Sc (Sc Sn)))) (.nil) ⟨Nat.zero_le _, (by simp only [slices_Equal_Op, hc1, cond_true, cond_false] : (slices_Equal_Op s1 s2) = (slices_Equal_Op_L0 s2 s1 0)).symm⟩ Le4 ?_
    rintro n1 ⟨hkn1, hf1⟩
    simp only [List.cons_append, List.nil_append]
    refine Tx ?_
    refine Cd (b := decide ((n1 : Int) < (s1.length : Int))) (fun hc2 => ?_) fun hc2 => ?_
    · have hlt0 : n1 < s1.length := Int.ofNat_lt.1 (of_decide_eq_true hc2)
      refine Tx ?_
      (repeat refine cw_seq ?_); refine cw_regionA (fun _ => some []) ?_
      refine Rb 0 [1,4,5,6,7] [2,3,8] rfl Qp ?_
      refine Rb 1 [4,5,6,7] [2,3,8] rfl Qp ?_
      refine Rb 2 [4,5,6,7] [3,8] rfl (q_idx EOp n1 rfl rfl (fun _ => rfl) rfl (fun _ => rfl) rfl rfl rfl Mm rfl (fun _ => rfl) (fun _ => by first | assumption | omega)) ?_
      refine Ra 3 [4,5,6,7] rfl (q_leA EOp rfl rfl (fun _ => rfl) rfl rfl Mm (fun _ => by first | assumption | omega)) ?_
      refine Rb 4 [5] [6,7,8] rfl Qp ?_
      refine Rb 5 [] [6,7,8] rfl Qp ?_
      refine Rb 6 [] [7,8] rfl (q_idx EOp n1 rfl rfl (fun _ => rfl) rfl (fun _ => rfl) rfl rfl rfl Mm rfl (fun _ => rfl) (fun _ => by first | assumption | omega)) ?_
      refine Ra 7 [] rfl (q_leA EOp rfl rfl (fun _ => rfl) rfl rfl Mm (fun _ => by first | assumption | omega)) ?_
      refine Ra 8 [] rfl (q_neE eqT_Op (flatEq_Op (gt s1 n1) (gt s2 n1)) rfl rfl (fun _ => rfl) rfl (fun _ => rfl) rfl rfl) ?_
      refine ra_nil Kr ?_
      (repeat refine cw_seq ?_)
      refine Cd (b := (!(decide ((gt s1 n1) = (gt s2 n1))))) (fun hc3 => ?_) fun hc3 => ?_
      · refine Tx ?_
        have hr2 : (slices_Equal_Op s1 s2) = false := by rw [← hf1, drop_gt hlt0]; simp only [slices_Equal_Op_L0, hc3, cond_true, cond_false]
        refine cw_ret ?_; rw [hr2]; exact Re () (Vt Vn)
      · refine Tx ?_
        refine rw_q rfl rfl rfl (q_add rfl rfl (fun _ => rfl) rfl (fun _ => rfl) (fun _ => by omega)) ?_
        refine Tx ?_
        refine ⟨(n1 + 1), ⟨hlt0, (by rw [← hf1, drop_gt hlt0]; simp only [slices_Equal_Op_L0, hc3, cond_true, cond_false] : (slices_Equal_Op s1 s2) = (slices_Equal_Op_L0 s2 (s1.drop (n1 + 1)) (n1 + 1))).symm⟩, (by simp only []; omega), Le4⟩
    · have hge0 : s1.length ≤ n1 := by have := of_decide_eq_false hc2; omega
      refine Tx ?_
      have hr3 : (slices_Equal_Op s1 s2) = true := by rw [← hf1, List.drop_of_length_le hge0]; simp only [slices_Equal_Op_L0, cond_true, cond_false]
      refine cw_ret ?_; rw [hr3]; exact Re () (Vt Vn)
theorem slices_Equal_Op_eq (a b : List Op) : slices_Equal_Op a b = decide (a = b) := by
  have key : ∀ (l : List Op) (k : Nat), l.length + k = b.length → slices_Equal_Op_L0 b l k = decide (l = b.drop k) := by
    intro l
    induction l with
    | nil => intro k hk; rw [slices_Equal_Op_L0, List.drop_of_length_le (by simp at hk; omega)]; simp
    | cons p r ih =>
      intro k hk
      simp only [List.length_cons] at hk
      rw [slices_Equal_Op_L0, ih (k + 1) (by omega), drop_gt (by omega : k < b.length)]
      by_cases h : p = gt b k <;> simp [h]
  rw [slices_Equal_Op]
  by_cases h : a.length = b.length
  · rw [key a 0 (by omega)]; simp [h]
  · have : a ≠ b := fun e => h (by rw [e])
    simp [this, Int.ofNat_inj, h]
theorem slices_Equal_Op_spec' (y1 y2 : SlV) (a b : List Op) : Does Try.prog 92 [y1.val a.length, y2.val b.length] [RdL EOp y1 a, RdL EOp y2 b] (fun (_ : Unit) => .bool (decide (a = b))) (fun (_ : Unit) => []) := by
  have := slices_Equal_Op_spec y1 a y2 b
  rw [slices_Equal_Op_eq] at this
  exact this

def slices_Equal_Step_L0 (s2 : List Step) : List Step → Nat → Bool
  | [], n1 => true
  | pn1 :: rn1, n1 => (bif (!(decide (pn1 = (gt s2 n1)))) then false else (slices_Equal_Step_L0 s2 rn1 (n1 + 1)))
def slices_Equal_Step (s1 : List Step) (s2 : List Step) : Bool :=
  (bif ((s1.length : Int) != (s2.length : Int)) then false else (slices_Equal_Step_L0 s2 s1 0))
theorem slices_Equal_Step_spec (y1 : SlV) (s1 : List Step) (y2 : SlV) (s2 : List Step) : Does Try.prog 78 [y1.val s1.length, y2.val s2.length] [RdL EStep y1 s1, RdL EStep y2 s2] (fun (_ : Unit) => .bool (slices_Equal_Step s1 s2)) (fun (_ : Unit) => []) := by
  refine does_of tab_ok Try.func78 rfl Try.ntmps78 Try.results78 rfl inferInstance (fun _ => inferInstance) fun C => ?_
  refine Pc EStep y1 s1 88 fun hlen1 => ?_
  refine Pc EStep y2 s2 88 fun hlen2 => ?_
  refine Tx ?_
  refine Cd (b := ((s1.length : Int) != (s2.length : Int))) (fun hc1 => ?_) fun hc1 => ?_
  · have hc1p := bne_iff_ne.1 hc1
    refine Tx ?_
    have hr1 : (slices_Equal_Step s1 s2) = false := by simp only [slices_Equal_Step, hc1, cond_true, cond_false]
    refine cw_ret ?_; rw [hr1]; exact Re () (Vt Vn)
  · have hc1p := eq_of_bne_false hc1
    refine Tx ?_
    (repeat refine cw_seq ?_); refine Lp [0,1,4,12] [] (fun (n1 : Nat) => (⟨[(13, .v (.int .i64 (n1 : Int)))], [], [], [], (n1 ≤ s1.length) ∧ (slices_Equal_Step_L0 s2 (s1.drop n1) n1) = (slices_Equal_Step s1 s2), s1.length - n1⟩ : Ls)) 0 (Sc (Sc (Sc (Sc Sn)))) (.nil) ⟨Nat.zero_le _, (by simp only [slices_Equal_Step, hc1, cond_true, cond_false] : (slices_Equal_Step s1 s2) = (slices_Equal_Step_L0 s2 s1 0)).symm⟩ Le4 ?_
    rintro n1 ⟨hkn1, hf1⟩
    simp only [List.cons_append, List.nil_append]
    refine Tx ?_
    refine Cd (b := decide ((n1 : Int) < (s1.length : Int))) (fun hc2 => ?_) fun hc2 => ?_
    · have hlt0 : n1 < s1.length := Int.ofNat_lt.1 (of_decide_eq_true hc2)
      refine Tx ?_
      (repeat refine cw_seq ?_); refine cw_regionA (fun _ => some []) ?_
      refine Rb 0 [1,4,5,6,7] [2,3,8] rfl Qp ?_
      refine Rb 1 [4,5,6,7] [2,3,8] rfl Qp ?_
      refine Rb 2 [4,5,6,7] [3,8] rfl (q_idx EStep n1 rfl rfl (fun _ => rfl) rfl (fun _ => rfl) rfl rfl rfl Mm rfl (fun _ => rfl) (fun _ => by first | assumption | omega)) ?_
      refine Ra 3 [4,5,6,7] rfl (q_leA EStep rfl rfl (fun _ => rfl) rfl rfl Mm (fun _ => by first | assumption | omega)) ?_
      refine Rb 4 [5] [6,7,8] rfl Qp ?_
      refine Rb 5 [] [6,7,8] rfl Qp ?_
      refine Rb 6 [] [7,8] rfl (q_idx EStep n1 rfl rfl (fun _ => rfl) rfl (fun _ => rfl) rfl rfl rfl Mm rfl (fun _ => rfl) (fun _ => by first | assumption | omega)) ?_
      refine Ra 7 [] rfl (q_leA EStep rfl rfl (fun _ => rfl) rfl rfl Mm (fun _ => by first | assumption | omega)) ?_
      refine Ra 8 [] rfl (q_neE eqT_Step (flatEq_Step (gt s1 n1) (gt s2 n1)) rfl rfl (fun _ => rfl) rfl (fun _ => rfl) rfl rfl) ?_
      refine ra_nil Kr ?_
      (repeat refine cw_seq ?_)
      refine Cd (b := (!(decide ((gt s1 n1) = (gt s2 n1))))) (fun hc3 => ?_) fun hc3 => ?_
      · refine Tx ?_
        have hr2 : (slices_Equal_Step s1 s2) = false := by rw [← hf1, drop_gt hlt0]; simp only [slices_Equal_Step_L0, hc3, cond_true, cond_false]
        refine cw_ret ?_; rw [hr2]; exact Re () (Vt Vn)
      · refine Tx ?_
        refine rw_q rfl rfl rfl (q_add rfl rfl (fun _ => rfl) rfl (fun _ => rfl) (fun _ => by omega)) ?_
        refine Tx ?_
        refine ⟨(n1 + 1), ⟨hlt0, (by rw [← hf1, drop_gt hlt0]; simp only [slices_Equal_Step_L0, hc3, cond_true, cond_false] : (slices_Equal_Step s1 s2) = (slices_Equal_Step_L0 s2 (s1.drop (n1 + 1)) (n1 + 1))).symm⟩, (by simp only []; omega), Le4⟩
    · have hge0 : s1.length ≤ n1 := by have := of_decide_eq_false hc2; omega
      refine Tx ?_
      have hr3 : (slices_Equal_Step s1 s2) = true := by rw [← hf1, List.drop_of_length_le hge0]; simp only [slices_Equal_Step_L0, cond_true, cond_false]
      refine cw_ret ?_; rw [hr3]; exact Re () (Vt Vn)
theorem slices_Equal_Step_eq (a b : List Step) : slices_Equal_Step a b = decide (a = b) := by
  have key : ∀ (l : List Step) (k : Nat), l.length + k = b.length → slices_Equal_Step_L0 b l k = decide (l = b.drop k) := by
    intro l
    induction l with
    | nil => intro k hk; rw [slices_Equal_Step_L0, List.drop_of_length_le (by simp at hk; omega)]; simp
    | cons p r ih =>
      intro k hk
      simp only [List.length_cons] at hk
      rw [slices_Equal_Step_L0, ih (k + 1) (by omega), drop_gt (by omega : k < b.length)]
      by_cases h : p = gt b k <;> simp [h]
  rw [slices_Equal_Step]
  by_cases h : a.length = b.length
  · rw [key a 0 (by omega)]; simp [h]
  · have : a ≠ b := fun e => h (by rw [e])
    simp [this, Int.ofNat_inj, h]
theorem slices_Equal_Step_spec' (y1 y2 : SlV) (a b : List Step) : Does Try.prog 78 [y1.val a.length, y2.val b.length] [RdL EStep y1 a, RdL EStep y2 b] (fun (_ : Unit) => .bool (decide (a = b))) (fun (_ : Unit) => []) := by
  have := slices_Equal_Step_spec y1 a y2 b
  rw [slices_Equal_Step_eq] at this
  exact this
end Go.Proofs.Ytchdacbjiomplaa

set_option maxHeartbeats 2000000
namespace Go.Proofs.Ytchdacbjiomplaa
open Go Go.Proofs.Ytchdacbjiomplaa.Fw Go.Proofs
attribute [local irreducible] RW CW
def tree_place (p1 : Place) : Int :=
  (bif (((((decide (p1.node < 1) || decide (p1.node ≥ 16)) || decide (p1.parent < 0)) || decide (p1.parent > 16)) || decide (p1.name < 0)) || decide (p1.name > 99)) then 3 else 0)
theorem tree_place_spec (p1 : Place) : Does Try.prog 125 [.agg ⟨[.int .i64 p1.node, .int .i64 p1.parent, .int .i64 p1.name]⟩] [] (fun (_ : Unit) => .int .i64 (tree_place p1)) (fun (_ : Unit) => []) := by
  refine does_of tab_ok Try.func125 rfl Try.ntmps125 Try.results125 rfl inferInstance (fun _ => inferInstance) fun C => ?_
  refine Tx ?_
  refine Bx fun g1 => ?_
  refine Tx ?_
  refine Cd (b := (((((decide (p1.node < 1) || decide (p1.node ≥ 16)) || decide (p1.parent < 0)) || decide (p1.parent > 16)) || decide (p1.name < 0)) || decide (p1.name > 99))) (fun hc1 => ?_) fun hc1 => ?_
  · refine Tx ?_
    have hr1 : (tree_place p1) = 3 := by simp only [tree_place, hc1, cond_true, cond_false]
    refine cw_ret ?_; rw [hr1]; exact Re () (Vt Vn)
  · refine Tx ?_
    have hr2 : (tree_place p1) = 0 := by simp only [tree_place, hc1, cond_true, cond_false]
    refine cw_ret ?_; rw [hr2]; exact Re () (Vt Vn)

def tree_Find_L0 (node1 : Int) : List Place → Place
  | [] => (⟨0, 0, 0⟩ : Place)
  | pn1 :: rn1 => (bif ((pn1.node) == node1) then pn1 else (tree_Find_L0 node1 rn1))
def tree_Find (t1 : List Place) (node1 : Int) : Place :=
  (tree_Find_L0 node1 t1)
theorem tree_Find_spec (y1 : SlV) (t1 : List Place) (node1 : Int) : Does Try.prog 32 [.agg ⟨[y1.val t1.length]⟩, .int .i64 node1] [RdL EPlace y1 t1] (fun (_ : Unit) => .agg ⟨[.int .i64 ((tree_Find t1 node1).node), .int .i64 ((tree_Find t1 node1).parent), .int .i64 ((tree_Find t1 node1).name)]⟩) (fun (_ : Unit) => []) := by
  refine does_of tab_ok Try.func32 rfl Try.ntmps32 Try.results32 rfl inferInstance (fun _ => inferInstance) fun C => ?_
  refine Pc EPlace y1 t1 24 fun hlen1 => ?_
  refine Tx ?_
  refine Bx fun g1 => ?_
  refine Al fun g2 => ?_
  refine Tx ?_
  (repeat refine cw_seq ?_); refine Lp [1,4,8,9] [true, true] (fun (n1 : Nat) => (⟨[(10, .v (.int .i64 (n1 : Int)))], [], [], [], (n1 ≤ t1.length) ∧ (tree_Find_L0 node1 (t1.drop n1)) = (tree_Find t1 node1), t1.length - n1⟩ : Ls)) 0 (Sc (Sc (Sc (Sc Sn)))) (.keep (.keep (.nil))) ⟨Nat.zero_le _, (by simp only [tree_Find, cond_true, cond_false] : (tree_Find t1 node1) = (tree_Find_L0 node1 t1)).symm⟩ Le4 ?_
  rintro n1 ⟨hkn1, hf1⟩
  simp only [List.cons_append, List.nil_append]
  refine Tx ?_
  refine Cd (b := decide ((n1 : Int) < (t1.length : Int))) (fun hc1 => ?_) fun hc1 => ?_
  · have hlt0 : n1 < t1.length := Int.ofNat_lt.1 (of_decide_eq_true hc1)
    refine Tx ?_
    refine rw_q rfl rfl rfl (q_idx EPlace n1 rfl rfl (fun _ => rfl) rfl (fun _ => rfl) rfl rfl rfl Mm rfl (fun _ => rfl) (fun _ => by first | assumption | omega)) ?_
    refine rw_q rfl rfl rfl (q_leA EPlace rfl rfl (fun _ => rfl) rfl rfl Mm (fun _ => by first | assumption | omega)) ?_
    refine Al fun g3 => ?_
    refine Tx ?_
    refine Cd (b := (((gt t1 n1).node) == node1)) (fun hc2 => ?_) fun hc2 => ?_
    · have hc2p := eq_of_beq hc2
      refine Tx ?_
      have hr1 : (tree_Find t1 node1) = (gt t1 n1) := by rw [← hf1, drop_gt hlt0]; simp only [tree_Find_L0, hc2, cond_true, cond_false]
      refine cw_ret ?_; rw [hr1]; exact Re () (Va Vn)
    · have hc2p := ne_of_beq_false hc2
      refine Tx ?_
      refine rw_q rfl rfl rfl (q_add rfl rfl (fun _ => rfl) rfl (fun _ => rfl) (fun _ => by omega)) ?_
      refine Tx ?_
      refine ⟨(n1 + 1), ⟨hlt0, (by rw [← hf1, drop_gt hlt0]; simp only [tree_Find_L0, hc2, cond_true, cond_false] : (tree_Find t1 node1) = (tree_Find_L0 node1 (t1.drop (n1 + 1)))).symm⟩, (by simp only []; omega), Le4⟩
  · have hge0 : t1.length ≤ n1 := by have := of_decide_eq_false hc1; omega
    refine Tx ?_
    have hr2 : (tree_Find t1 node1) = (⟨0, 0, 0⟩ : Place) := by rw [← hf1, List.drop_of_length_le hge0]; simp only [tree_Find_L0, cond_true, cond_false]
    refine cw_ret ?_; rw [hr2]; exact Re () (Va Vn)

def tree_Stands_L0 (t1 : List Place) (top1 : Int) : Nat → Int → Bool
  | 0, node2 => false
  | fn1 + 1, node2 => (bif (node2 == top1) then true else (bif (((tree_Find t1 node2).node) == 0) then false else (tree_Stands_L0 t1 top1 fn1 ((tree_Find t1 node2).parent))))
def tree_Stands (t1 : List Place) (node1 : Int) (top1 : Int) : Bool :=
  (tree_Stands_L0 t1 top1 ((t1.length + 1) - 0) node1)
theorem tree_Stands_spec (y1 : SlV) (t1 : List Place) (node1 : Int) (top1 : Int) : Does Try.prog 120 [.agg ⟨[y1.val t1.length]⟩, .int .i64 node1, .int .i64 top1] [RdL EPlace y1 t1] (fun (_ : Unit) => .bool (tree_Stands t1 node1 top1)) (fun (_ : Unit) => []) := by
  refine does_of tab_ok Try.func120 rfl Try.ntmps120 Try.results120 rfl inferInstance (fun _ => inferInstance) fun C => ?_
  refine Pc EPlace y1 t1 24 fun hlen1 => ?_
  refine Tx ?_
  refine Bx fun g1 => ?_
  refine Tx ?_
  refine rw_q rfl rfl rfl (q_add rfl rfl (fun _ => rfl) rfl (fun _ => rfl) (fun _ => by omega)) ?_
  refine Tx ?_
  (repeat refine cw_seq ?_); refine Lp [2,3,6,11] [true] (fun (i_ : Int × Nat) => match i_ with | ⟨node2, n1⟩ => (⟨[(1, .v (.int .i64 node2)), (12, .v (.int .i64 (n1 : Int)))], [], [], [], (n1 ≤ (t1.length + 1)) ∧ (tree_Stands_L0 t1 top1 ((t1.length + 1) - n1) node2) = (tree_Stands t1 node1 top1), (t1.length + 1) - n1⟩ : Ls)) ⟨node1, 0⟩ (Sc (Sc (Sc (Sc Sn)))) (.keep (.nil)) ⟨(Nat.zero_le _), (by simp only [tree_Stands, cond_true, cond_false] : (tree_Stands t1 node1 top1) = (tree_Stands_L0 t1 top1 ((t1.length + 1) - 0) node1)).symm⟩ Le4 ?_
  rintro ⟨node2, n1⟩ ⟨hkn1, hf1⟩
  simp only [List.cons_append, List.nil_append]
  refine Tx ?_
  refine Cd (b := decide ((n1 : Int) < ((t1.length : Int) + 1))) (fun hc1 => ?_) fun hc1 => ?_
  · have hlt0 : n1 < (t1.length + 1) := by have := of_decide_eq_true hc1; omega
    have hlt0_ : (t1.length + 1) - n1 = ((t1.length + 1) - (n1 + 1)) + 1 := by omega
    refine Tx ?_
    refine Cd (b := (node2 == top1)) (fun hc2 => ?_) fun hc2 => ?_
    · have hc2p := eq_of_beq hc2
      refine Tx ?_
      have hr1 : (tree_Stands t1 node1 top1) = true := by rw [← hf1]; (conv => lhs; rw [hlt0_]); simp only [tree_Stands_L0, hc2, cond_true, cond_false]
      refine cw_ret ?_; rw [hr1]; exact Re () (Vt Vn)
    · have hc2p := ne_of_beq_false hc2
      refine Tx ?_
      refine Cl (tree_Find_spec y1 t1 node2) fun _ => ?_
      refine Al fun g2 => ?_
      refine Tx ?_
      refine Cd (b := (((tree_Find t1 node2).node) == 0)) (fun hc3 => ?_) fun hc3 => ?_
      · have hc3p := eq_of_beq hc3
        refine Tx ?_
        have hr2 : (tree_Stands t1 node1 top1) = false := by rw [← hf1]; (conv => lhs; rw [hlt0_]); simp only [tree_Stands_L0, hc2, hc3, cond_true, cond_false]
        refine cw_ret ?_; rw [hr2]; exact Re () (Vt Vn)
      · have hc3p := ne_of_beq_false hc3
        refine Tx ?_
        refine rw_q rfl rfl rfl (q_add rfl rfl (fun _ => rfl) rfl (fun _ => rfl) (fun _ => by omega)) ?_
        refine Tx ?_
        refine ⟨⟨(tree_Find t1 node2).parent, (n1 + 1)⟩, ⟨hlt0, (by rw [← hf1]; (conv => lhs; rw [hlt0_]); simp only [tree_Stands_L0, hc2, hc3, cond_true, cond_false] : (tree_Stands t1 node1 top1) = (tree_Stands_L0 t1 top1 ((t1.length + 1) - (n1 + 1)) ((tree_Find t1 node2).parent))).symm⟩, (by simp only []; omega), Le4⟩
  · have hge0 : (t1.length + 1) ≤ n1 := by have := of_decide_eq_false hc1; omega
    have hge0_ : (t1.length + 1) - n1 = 0 := by omega
    refine Tx ?_
    have hr3 : (tree_Stands t1 node1 top1) = false := by rw [← hf1, hge0_]; simp only [tree_Stands_L0, cond_true, cond_false]
    refine cw_ret ?_; rw [hr3]; exact Re () (Vt Vn)

def tree_Check_L1 (t1 : List Place) : List Place → Int
  | [] => 0
  | pn2 :: rn2 => (bif (tree_Stands t1 (pn2.parent) (pn2.node)) then 4 else (tree_Check_L1 t1 rn2))
def tree_Check_L0 (t1 : List Place) : List Place → Nat → Int
  | [], n1 => (tree_Check_L1 t1 t1)
  | pn1 :: rn1, n1 => (bif ((tree_place pn1) != 0) then (tree_place pn1) else (bif (decide ((n1 : Int) > 0) && decide (((gt t1 (n1 - 1)).node) ≥ (pn1.node))) then 6 else (tree_Check_L0 t1 rn1 (n1 + 1))))
def tree_Check (t1 : List Place) : Int :=
  (tree_Check_L0 t1 t1 0)
theorem tree_Check_spec (y1 : SlV) (t1 : List Place) : Does Try.prog 31 [.agg ⟨[y1.val t1.length]⟩] [RdL EPlace y1 t1] (fun (_ : Unit) => .int .i64 (tree_Check t1)) (fun (_ : Unit) => []) := by
  refine does_of tab_ok Try.func31 rfl Try.ntmps31 Try.results31 rfl inferInstance (fun _ => inferInstance) fun C => ?_
  refine Pc EPlace y1 t1 24 fun hlen1 => ?_
  refine Tx ?_
  refine Bx fun g1 => ?_
  refine Tx ?_
  (repeat refine cw_seq ?_); refine Lp [1,2,9,10] [true] (fun (n1 : Nat) => (⟨[(11, .v (.int .i64 (n1 : Int)))], [], [], [], (n1 ≤ t1.length) ∧ (tree_Check_L0 t1 (t1.drop n1) n1) = (tree_Check t1), t1.length - n1⟩ : Ls)) 0 (Sc (Sc (Sc (Sc Sn)))) (.keep (.nil)) ⟨Nat.zero_le _, (by simp only [tree_Check, cond_true, cond_false] : (tree_Check t1) = (tree_Check_L0 t1 t1 0)).symm⟩ Le4 ?_
  rintro n1 ⟨hkn1, hf1⟩
  simp only [List.cons_append, List.nil_append]
  refine Tx ?_
  refine Cd (b := decide ((n1 : Int) < (t1.length : Int))) (fun hc1 => ?_) fun hc1 => ?_
  · have hlt0 : n1 < t1.length := Int.ofNat_lt.1 (of_decide_eq_true hc1)
    refine Tx ?_
    refine rw_q rfl rfl rfl (q_idx EPlace n1 rfl rfl (fun _ => rfl) rfl (fun _ => rfl) rfl rfl rfl Mm rfl (fun _ => rfl) (fun _ => by first | assumption | omega)) ?_
    refine rw_q rfl rfl rfl (q_leA EPlace rfl rfl (fun _ => rfl) rfl rfl Mm (fun _ => by first | assumption | omega)) ?_
    refine Al fun g2 => ?_
    refine Tx ?_
    refine Cl (tree_place_spec (gt t1 n1)) fun _ => ?_
    refine Tx ?_
    refine Cd (b := ((tree_place (gt t1 n1)) != 0)) (fun hc2 => ?_) fun hc2 => ?_
    · have hc2p := bne_iff_ne.1 hc2
      refine Tx ?_
      have hr1 : (tree_Check t1) = (tree_place (gt t1 n1)) := by rw [← hf1, drop_gt hlt0]; simp only [tree_Check_L0, hc2, cond_true, cond_false]
      refine cw_ret ?_; rw [hr1]; exact Re () (Vt Vn)
    · have hc2p := eq_of_bne_false hc2
      refine Tx ?_
      (repeat refine cw_seq ?_); refine cw_regionA (fun _ => some []) ?_
      refine Rb 0 [] [1,2,3,4,5,6,7,8,9,10,11,12,13] rfl Qp ?_
      refine Rb 1 [] [2,3,4,5,6,7,8,9,10,11,12,13] rfl Qp ?_
      refine Ra 2 [] rfl Qp ?_
      refine Gb 3 [5,6,10,11] [4,7,8,9,12,13] rfl (guard_vt rfl rfl rfl) (q_pev rfl Bt) ?_
      refine Gb 4 [5,6,10,11] [7,8,9,12,13] rfl (guard_vt rfl rfl rfl) (q_ld1 rfl rfl Bt rfl Mm rfl) ?_
      refine Gb 5 [10,11] [6,7,8,9,12,13] rfl (guard_vt rfl rfl rfl) (q_pev rfl Bt) ?_
      refine Gb 6 [10,11] [7,8,9,12,13] rfl (guard_vt rfl rfl rfl) (q_sub rfl rfl Bt rfl Bt (by intro h; first | omega | (simp at h; omega))) ?_
      refine Gb 7 [10,11] [8,9,12,13] rfl (guard_vt rfl rfl rfl) (q_idx EPlace (n1 - 1) rfl rfl Bt rfl Bt rfl rfl rfl Mm rfl (by intro h; first | omega | rfl | (simp at h; omega)) (by first | (intro _; first | assumption | omega) | (intro h; simp at h; omega))) ?_
      refine Gb 8 [10,11] [9,12,13] rfl (guard_vt rfl rfl rfl) (q_fae rfl rfl Bt rfl rfl) ?_
      refine Gb 9 [10,11] [12,13] rfl (guard_vt rfl rfl rfl) (q_le1 EPlace rfl rfl Bt rfl rfl Mm (by first | (intro _; first | assumption | omega) | (intro h; simp at h; omega)) rfl) ?_
      refine Gb 10 [] [11,12,13] rfl (guard_vt rfl rfl rfl) (q_pev rfl Bt) ?_
      refine Gb 11 [] [12,13] rfl (guard_vt rfl rfl rfl) (q_ld1 rfl rfl Bt rfl Mm rfl) ?_
      refine Ga 12 [] rfl (guard_vt rfl rfl rfl) (q_pev rfl Bt) ?_
      refine Ra 13 [] rfl (q_pev rfl Bt) ?_
      refine ra_nil Kr ?_
      (repeat refine cw_seq ?_)
      refine Cd (b := (decide ((n1 : Int) > 0) && decide (((gt t1 (n1 - 1)).node) ≥ ((gt t1 n1).node)))) (fun hc3 => ?_) fun hc3 => ?_
      · refine Tx ?_
        have hr2 : (tree_Check t1) = 6 := by rw [← hf1, drop_gt hlt0]; simp only [tree_Check_L0, hc2, hc3, cond_true, cond_false]
        refine cw_ret ?_; rw [hr2]; exact Re () (Vt Vn)
      · refine Tx ?_
        refine rw_q rfl rfl rfl (q_add rfl rfl (fun _ => rfl) rfl (fun _ => rfl) (fun _ => by omega)) ?_
        refine Tx ?_
        refine ⟨(n1 + 1), ⟨hlt0, (by rw [← hf1, drop_gt hlt0]; simp only [tree_Check_L0, hc2, hc3, cond_true, cond_false] : (tree_Check t1) = (tree_Check_L0 t1 (t1.drop (n1 + 1)) (n1 + 1))).symm⟩, (by simp only []; omega), Le4⟩
  · have hge0 : t1.length ≤ n1 := by have := of_decide_eq_false hc1; omega
    refine Tx ?_
    (repeat refine cw_seq ?_); refine Lp [1,2,37,38] [true] (fun (n2 : Nat) => (⟨[(39, .v (.int .i64 (n2 : Int)))], [], [], [], (n2 ≤ t1.length) ∧ (tree_Check_L1 t1 (t1.drop n2)) = (tree_Check t1), t1.length - n2⟩ : Ls)) 0 (Sc (Sc (Sc (Sc Sn)))) (.keep (.nil)) ⟨Nat.zero_le _, (by rw [← hf1, List.drop_of_length_le hge0]; simp only [tree_Check_L0, cond_true, cond_false] : (tree_Check t1) = (tree_Check_L1 t1 t1)).symm⟩ Le4 ?_
    rintro n2 ⟨hkn2, hf2⟩
    simp only [List.cons_append, List.nil_append]
    refine Tx ?_
    refine Cd (b := decide ((n2 : Int) < (t1.length : Int))) (fun hc4 => ?_) fun hc4 => ?_
    · have hlt1 : n2 < t1.length := Int.ofNat_lt.1 (of_decide_eq_true hc4)
      refine Tx ?_
      refine rw_q rfl rfl rfl (q_idx EPlace n2 rfl rfl (fun _ => rfl) rfl (fun _ => rfl) rfl rfl rfl Mm rfl (fun _ => rfl) (fun _ => by first | assumption | omega)) ?_
      refine rw_q rfl rfl rfl (q_leA EPlace rfl rfl (fun _ => rfl) rfl rfl Mm (fun _ => by first | assumption | omega)) ?_
      refine Al fun g3 => ?_
      refine Tx ?_
      refine Cl (tree_Stands_spec y1 t1 ((gt t1 n2).parent) ((gt t1 n2).node)) fun _ => ?_
      refine rw_nil ?_
      (repeat refine cw_seq ?_)
      refine Cd (b := (tree_Stands t1 ((gt t1 n2).parent) ((gt t1 n2).node))) (fun hc5 => ?_) fun hc5 => ?_
      · refine Tx ?_
        have hr3 : (tree_Check t1) = 4 := by rw [← hf2, drop_gt hlt1]; simp only [tree_Check_L1, hc5, cond_true, cond_false]
        refine cw_ret ?_; rw [hr3]; exact Re () (Vt Vn)
      · refine Tx ?_
        refine rw_q rfl rfl rfl (q_add rfl rfl (fun _ => rfl) rfl (fun _ => rfl) (fun _ => by omega)) ?_
        refine Tx ?_
        refine ⟨(n2 + 1), ⟨hlt1, (by rw [← hf2, drop_gt hlt1]; simp only [tree_Check_L1, hc5, cond_true, cond_false] : (tree_Check t1) = (tree_Check_L1 t1 (t1.drop (n2 + 1)))).symm⟩, (by simp only []; omega), Le4⟩
    · have hge1 : t1.length ≤ n2 := by have := of_decide_eq_false hc4; omega
      refine Tx ?_
      have hr4 : (tree_Check t1) = 0 := by rw [← hf2, List.drop_of_length_le hge1]; simp only [tree_Check_L1, cond_true, cond_false]
      refine cw_ret ?_; rw [hr4]; exact Re () (Vt Vn)

def tree_Copy (t1 : List Place) : List Place :=
  t1
theorem tree_Copy_spec (y1 : SlV) (t1 : List Place) : DoesG Try.prog 121 [.agg ⟨[y1.val t1.length]⟩] [RdL EPlace y1 t1] ⟨[], []⟩ (fun (X : SlV × Option Nat) => .agg ⟨[X.1.val (tree_Copy t1).length]⟩) (fun (X : SlV × Option Nat) => []) (fun (X : SlV × Option Nat) => ⟨[], [ownL EPlace 35 X.1 X.2 (tree_Copy t1)]⟩) := by
  refine does_ofG tab_ok Try.func121 rfl Try.ntmps121 Try.results121 rfl inferInstance (fun _ => inferInstance) fun C => ?_
  refine Pc EPlace y1 t1 24 fun hlen1 => ?_
  refine Tx ?_
  refine Bx fun g1 => ?_
  refine Al fun g2 => ?_
  refine Tx ?_
  refine Cg (slices_Clone_Place_spec y1 t1) fun x1 => ?_
  refine Tx ?_
  have hr1 : (tree_Copy t1) = t1 := by simp only [tree_Copy, cond_true, cond_false]
  refine cw_ret ?_; rw [hr1]; exact Re ⟨x1.1, x1.2⟩ (Va Vn)

def tree_Under (t1 : List Place) (node1 : Int) (top1 : Int) : Bool × Int :=
  (bif ((tree_Check t1) != 0) then (false, (tree_Check t1)) else (bif (((decide (node1 < 0) || decide (node1 > 16)) || decide (top1 < 0)) || decide (top1 > 16)) then (false, 5) else ((tree_Stands t1 node1 top1), 0)))
theorem tree_Under_spec (y1 : SlV) (t1 : List Place) (node1 : Int) (top1 : Int) : Does Try.prog 30 [.agg ⟨[y1.val t1.length]⟩, .int .i64 node1, .int .i64 top1] [RdL EPlace y1 t1] (fun (_ : Unit) => .tuple #[.bool ((tree_Under t1 node1 top1).1), .int .i64 ((tree_Under t1 node1 top1).2)]) (fun (_ : Unit) => []) := by
  refine does_of tab_ok Try.func30 rfl Try.ntmps30 Try.results30 rfl inferInstance (fun _ => inferInstance) fun C => ?_
  refine Pc EPlace y1 t1 24 fun hlen1 => ?_
  refine Tx ?_
  refine Bx fun g1 => ?_
  refine Tx ?_
  refine Cl (tree_Check_spec y1 t1) fun _ => ?_
  refine Tx ?_
  refine Cd (b := ((tree_Check t1) != 0)) (fun hc1 => ?_) fun hc1 => ?_
  · have hc1p := bne_iff_ne.1 hc1
    refine Tx ?_
    have hr1 : (tree_Under t1 node1 top1) = (false, (tree_Check t1)) := by simp only [tree_Under, hc1, cond_true, cond_false]
    refine cw_ret ?_; rw [hr1]; exact Re () (Vt (Vt Vn))
  · have hc1p := eq_of_bne_false hc1
    refine Tx ?_
    refine Cd (b := (((decide (node1 < 0) || decide (node1 > 16)) || decide (top1 < 0)) || decide (top1 > 16))) (fun hc2 => ?_) fun hc2 => ?_
    · refine Tx ?_
      have hr2 : (tree_Under t1 node1 top1) = (false, 5) := by simp only [tree_Under, hc1, hc2, cond_true, cond_false]
      refine cw_ret ?_; rw [hr2]; exact Re () (Vt (Vt Vn))
    · refine Tx ?_
      refine Cl (tree_Stands_spec y1 t1 node1 top1) fun _ => ?_
      refine Tx ?_
      have hr3 : (tree_Under t1 node1 top1) = ((tree_Stands t1 node1 top1), 0) := by simp only [tree_Under, hc1, hc2, cond_true, cond_false]
      refine cw_ret ?_; rw [hr3]; exact Re () (Vt (Vt Vn))

def tree_Put_L0 (p1 : Place) : List Place → Bool → (List Place) → (List Place)
  | [], done1, p2 => (bif (!done1) then (p2 ++ [p1]) else p2)
  | pn1 :: rn1, done1, p2 => (bif ((!done1) && decide ((pn1.node) ≥ p1.node)) then (bif ((pn1.node) != p1.node) then (tree_Put_L0 p1 rn1 true ((p2 ++ [p1]) ++ [pn1])) else (tree_Put_L0 p1 rn1 true (p2 ++ [p1]))) else (bif ((pn1.node) != p1.node) then (tree_Put_L0 p1 rn1 done1 (p2 ++ [pn1])) else (tree_Put_L0 p1 rn1 done1 p2)))
def tree_Put (t1 : List Place) (p1 : Place) : List Place :=
  (tree_Put_L0 p1 t1 (decide (p1.parent < 0)) [])
theorem tree_Put_spec (y1 : SlV) (t1 : List Place) (p1 : Place) (hl : t1.length ≤ 1000000) : Does Try.prog 122 [.agg ⟨[y1.val t1.length]⟩, .agg ⟨[.int .i64 p1.node, .int .i64 p1.parent, .int .i64 p1.name]⟩] [RdL EPlace y1 t1] (fun (X : SlV) => .agg ⟨[X.val (tree_Put t1 p1).length]⟩) (fun (X : SlV) => [RdL EPlace X (tree_Put t1 p1)]) := by
  refine does_of tab_ok Try.func122 rfl Try.ntmps122 Try.results122 rfl inferInstance (fun _ => inferInstance) fun C => ?_
  refine Pc EPlace y1 t1 24 fun hlen1 => ?_
  refine Tx ?_
  refine Bx fun g1 => ?_
  refine Bx fun g2 => ?_
  refine Al fun g3 => ?_
  refine Tx ?_
  refine Al fun g4 => ?_
  refine Tx ?_
  (repeat refine cw_seq ?_); refine Lp [3,4,5,13,14] [false, true, true, true] (fun (i_ : Bool × Nat × List Place × SlV × Option Nat) => match i_ with | ⟨done1, n1, p2, x1, x1b⟩ => (⟨[(6, .v (.bool done1)), (15, .v (.int .i64 (n1 : Int)))], [⟨g4, 29, [x1.val p2.length]⟩], [ownL EPlace 35 x1 x1b p2], [], (n1 ≤ t1.length) ∧ (p2.length ≤ 2 * n1) ∧ (tree_Put_L0 p1 (t1.drop n1) done1 p2) = (tree_Put t1 p1), t1.length - n1⟩ : Ls)) ⟨decide (p1.parent < 0), 0, [], ⟨none, 0⟩, none⟩ (Sc (Sc (Sc (Sc (Sc Sn))))) (.drop (.keep (.keep (.keep (.nil))))) ⟨Nat.zero_le _, (by first | exact Nat.le_refl _ | exact Nat.zero_le _ | omega), (by simp only [tree_Put, cond_true, cond_false] : (tree_Put t1 p1) = (tree_Put_L0 p1 t1 (decide (p1.parent < 0)) [])).symm⟩ (Le.trans (le_nilL EPlace 35) Le4) ?_
  rintro ⟨done1, n1, p2, x1, x1b⟩ ⟨hkn1, hp2, hf1⟩
  simp only [List.cons_append, List.nil_append]
  refine Tx ?_
  refine Cd (b := decide ((n1 : Int) < (t1.length : Int))) (fun hc1 => ?_) fun hc1 => ?_
  · have hlt0 : n1 < t1.length := Int.ofNat_lt.1 (of_decide_eq_true hc1)
    refine Tx ?_
    refine rw_q rfl rfl rfl (q_idx EPlace n1 rfl rfl (fun _ => rfl) rfl (fun _ => rfl) rfl rfl rfl Mm rfl (fun _ => rfl) (fun _ => by first | assumption | omega)) ?_
    refine rw_q rfl rfl rfl (q_leA EPlace rfl rfl (fun _ => rfl) rfl rfl Mm (fun _ => by first | assumption | omega)) ?_
    refine Al fun g5 => ?_
    refine Tx ?_
    refine Cd (b := ((!done1) && decide (((gt t1 n1).node) ≥ p1.node))) (fun hc2 => ?_) fun hc2 => ?_
    · refine Tx ?_
      refine rw_bsliceL EPlace [p1] .sq (guard_none rfl) rfl rfl rfl rfl rfl rfl rfl rfl rfl rfl rfl rfl rfl rfl rfl fun x2 x2b => ?_
      refine rw_appendL EPlace p2 [p1] (b := x1b) .sq (fun _ _ => .inl ⟨_, rfl⟩) (guard_none rfl) rfl rfl rfl rfl rfl rfl rfl (fun _ _ => Uo) rfl rfl rfl rfl rfl rfl rfl (reads_ownL (e := 35) (b := x2b) Mm) (by show (p2.length + 1) * 24 ≤ 140737488355328; (try simp only [List.length_append, List.length_cons, List.length_nil]); omega) fun x3 x3b => ?_
      refine Tx ?_
      refine Cd (b := (((gt t1 n1).node) != p1.node)) (fun hc3 => ?_) fun hc3 => ?_
      · have hc3p := bne_iff_ne.1 hc3
        refine Tx ?_
        refine rw_bsliceL EPlace [(gt t1 n1)] .sq (guard_none rfl) rfl rfl rfl rfl rfl rfl rfl rfl rfl rfl rfl rfl rfl rfl rfl fun x4 x4b => ?_
        refine rw_appendL EPlace (p2 ++ [p1]) [(gt t1 n1)] (b := x3b) .sq (fun _ _ => .inl ⟨_, rfl⟩) (guard_none rfl) rfl rfl rfl rfl rfl rfl rfl (fun _ _ => Uo) rfl rfl rfl rfl rfl rfl rfl (reads_ownL (e := 35) (b := x4b) Mm) (by show ((p2 ++ [p1]).length + 1) * 24 ≤ 140737488355328; (try simp only [List.length_append, List.length_cons, List.length_nil]); omega) fun x5 x5b => ?_
        refine Tx ?_
        refine rw_q rfl rfl rfl (q_add rfl rfl (fun _ => rfl) rfl (fun _ => rfl) (fun _ => by omega)) ?_
        refine Tx ?_
        refine ⟨⟨true, (n1 + 1), ((p2 ++ [p1]) ++ [(gt t1 n1)]), x5, x5b⟩, ⟨hlt0, (by simp only [List.length_append, List.length_cons, List.length_nil]; omega), (by rw [← hf1, drop_gt hlt0]; simp only [tree_Put_L0, hc2, hc3, cond_true, cond_false] : (tree_Put t1 p1) = (tree_Put_L0 p1 (t1.drop (n1 + 1)) true ((p2 ++ [p1]) ++ [(gt t1 n1)]))).symm⟩, (by simp only []; omega), Le4⟩
      · have hc3p := eq_of_bne_false hc3
        refine Tx ?_
        refine rw_q rfl rfl rfl (q_add rfl rfl (fun _ => rfl) rfl (fun _ => rfl) (fun _ => by omega)) ?_
        refine Tx ?_
        refine ⟨⟨true, (n1 + 1), (p2 ++ [p1]), x3, x3b⟩, ⟨hlt0, (by simp only [List.length_append, List.length_cons, List.length_nil]; omega), (by rw [← hf1, drop_gt hlt0]; simp only [tree_Put_L0, hc2, hc3, cond_true, cond_false] : (tree_Put t1 p1) = (tree_Put_L0 p1 (t1.drop (n1 + 1)) true (p2 ++ [p1]))).symm⟩, (by simp only []; omega), Le4⟩
    · refine Tx ?_
      refine Cd (b := (((gt t1 n1).node) != p1.node)) (fun hc4 => ?_) fun hc4 => ?_
      · have hc4p := bne_iff_ne.1 hc4
        refine Tx ?_
        refine rw_bsliceL EPlace [(gt t1 n1)] .sq (guard_none rfl) rfl rfl rfl rfl rfl rfl rfl rfl rfl rfl rfl rfl rfl rfl rfl fun x6 x6b => ?_
        refine rw_appendL EPlace p2 [(gt t1 n1)] (b := x1b) .sq (fun _ _ => .inl ⟨_, rfl⟩) (guard_none rfl) rfl rfl rfl rfl rfl rfl rfl (fun _ _ => Uo) rfl rfl rfl rfl rfl rfl rfl (reads_ownL (e := 35) (b := x6b) Mm) (by show (p2.length + 1) * 24 ≤ 140737488355328; (try simp only [List.length_append, List.length_cons, List.length_nil]); omega) fun x7 x7b => ?_
        refine Tx ?_
        refine rw_q rfl rfl rfl (q_add rfl rfl (fun _ => rfl) rfl (fun _ => rfl) (fun _ => by omega)) ?_
        refine Tx ?_
        refine ⟨⟨done1, (n1 + 1), (p2 ++ [(gt t1 n1)]), x7, x7b⟩, ⟨hlt0, (by simp only [List.length_append, List.length_cons, List.length_nil]; omega), (by rw [← hf1, drop_gt hlt0]; simp only [tree_Put_L0, hc2, hc4, cond_true, cond_false] : (tree_Put t1 p1) = (tree_Put_L0 p1 (t1.drop (n1 + 1)) done1 (p2 ++ [(gt t1 n1)]))).symm⟩, (by simp only []; omega), Le4⟩
      · have hc4p := eq_of_bne_false hc4
        refine Tx ?_
        refine rw_q rfl rfl rfl (q_add rfl rfl (fun _ => rfl) rfl (fun _ => rfl) (fun _ => by omega)) ?_
        refine Tx ?_
        refine ⟨⟨done1, (n1 + 1), p2, x1, x1b⟩, ⟨hlt0, (by simp only [List.length_append, List.length_cons, List.length_nil]; omega), (by rw [← hf1, drop_gt hlt0]; simp only [tree_Put_L0, hc2, hc4, cond_true, cond_false] : (tree_Put t1 p1) = (tree_Put_L0 p1 (t1.drop (n1 + 1)) done1 p2)).symm⟩, (by simp only []; omega), Le4⟩
  · have hge0 : t1.length ≤ n1 := by have := of_decide_eq_false hc1; omega
    refine Tx ?_
    refine Cd (b := (!done1)) (fun hc5 => ?_) fun hc5 => ?_
    · refine Tx ?_
      refine rw_bsliceL EPlace [p1] .sq (guard_none rfl) rfl rfl rfl rfl rfl rfl rfl rfl rfl rfl rfl rfl rfl rfl rfl fun x8 x8b => ?_
      refine rw_appendL EPlace p2 [p1] (b := x1b) .sq (fun _ _ => .inl ⟨_, rfl⟩) (guard_none rfl) rfl rfl rfl rfl rfl rfl rfl (fun _ _ => Uo) rfl rfl rfl rfl rfl rfl rfl (reads_ownL (e := 35) (b := x8b) Mm) (by show (p2.length + 1) * 24 ≤ 140737488355328; (try simp only [List.length_append, List.length_cons, List.length_nil]); omega) fun x9 x9b => ?_
      refine Tx ?_
      refine cw_le (le_freezeL EPlace 35 x9 x9b (p2 ++ [p1]) Uo) ?_
      have hr1 : (tree_Put t1 p1) = (p2 ++ [p1]) := by rw [← hf1, List.drop_of_length_le hge0]; simp only [tree_Put_L0, hc5, cond_true, cond_false]
      refine cw_ret ?_; rw [hr1]; exact Re x9 (Va Vn)
    · refine Tx ?_
      refine cw_le (le_freezeL EPlace 35 x1 x1b p2 Uo) ?_
      have hr2 : (tree_Put t1 p1) = p2 := by rw [← hf1, List.drop_of_length_le hge0]; simp only [tree_Put_L0, hc5, cond_true, cond_false]
      refine cw_ret ?_; rw [hr2]; exact Re x1 (Va Vn)

def move_Check (o1 : Op) : Int :=
  (bif (((((((((((((decide (o1.time < 1) || decide (o1.time > 10000)) || decide (o1.who < 0)) || decide (o1.who ≥ 3)) || decide (o1.node < 1)) || decide (o1.node ≥ 16)) || decide (o1.parent < 0)) || decide (o1.parent > 16)) || decide (o1.name < 0)) || decide (o1.name > 99)) || decide (o1.life < 1)) || decide (o1.life > 50)) || decide (o1.seq < 1)) || decide (o1.seq > 30)) then 3 else 0)
theorem move_Check_spec (o1 : Op) : Does Try.prog 37 [.agg ⟨[.int .i64 o1.time, .int .i64 o1.who, .int .i64 o1.node, .int .i64 o1.parent, .int .i64 o1.name, .int .i64 o1.life, .int .i64 o1.seq]⟩] [] (fun (_ : Unit) => .int .i64 (move_Check o1)) (fun (_ : Unit) => []) := by
  refine does_of tab_ok Try.func37 rfl Try.ntmps37 Try.results37 rfl inferInstance (fun _ => inferInstance) fun C => ?_
  refine Tx ?_
  refine Bx fun g1 => ?_
  refine Tx ?_
  refine Cd (b := (((((((((((((decide (o1.time < 1) || decide (o1.time > 10000)) || decide (o1.who < 0)) || decide (o1.who ≥ 3)) || decide (o1.node < 1)) || decide (o1.node ≥ 16)) || decide (o1.parent < 0)) || decide (o1.parent > 16)) || decide (o1.name < 0)) || decide (o1.name > 99)) || decide (o1.life < 1)) || decide (o1.life > 50)) || decide (o1.seq < 1)) || decide (o1.seq > 30))) (fun hc1 => ?_) fun hc1 => ?_
  · refine Tx ?_
    have hr1 : (move_Check o1) = 3 := by simp only [move_Check, hc1, cond_true, cond_false]
    refine cw_ret ?_; rw [hr1]; exact Re () (Vt Vn)
  · refine Tx ?_
    have hr2 : (move_Check o1) = 0 := by simp only [move_Check, hc1, cond_true, cond_false]
    refine cw_ret ?_; rw [hr2]; exact Re () (Vt Vn)

def move_Before (a1 : Stamp) (b1 : Stamp) : Bool :=
  (decide (a1.time < b1.time) || ((a1.time == b1.time) && decide (a1.who < b1.who)))
theorem move_Before_spec (a1 : Stamp) (b1 : Stamp) : Does Try.prog 158 [.agg ⟨[.int .i64 a1.time, .int .i64 a1.who]⟩, .agg ⟨[.int .i64 b1.time, .int .i64 b1.who]⟩] [] (fun (_ : Unit) => .bool (move_Before a1 b1)) (fun (_ : Unit) => []) := by
  refine does_of tab_ok Try.func158 rfl Try.ntmps158 Try.results158 rfl inferInstance (fun _ => inferInstance) fun C => ?_
  refine Tx ?_
  refine Bx fun g1 => ?_
  refine Bx fun g2 => ?_
  refine Tx ?_
  have hr1 : (move_Before a1 b1) = (decide (a1.time < b1.time) || ((a1.time == b1.time) && decide (a1.who < b1.who))) := by simp only [move_Before, cond_true, cond_false]
  refine cw_ret ?_; rw [hr1]; exact Re () (Vt Vn)
end Go.Proofs.Ytchdacbjiomplaa

namespace Go.Proofs.Ytchdacbjiomplaa
open Go Go.Proofs.Ytchdacbjiomplaa.Fw Go.Proofs
/-! What is checked is small. -/
theorem tree_Check_L1_or (t : List Place) : ∀ l : List Place, tree_Check_L1 t l = 0 ∨ tree_Check_L1 t l = 4
  | [] => .inl rfl
  | p :: r => by
    rw [tree_Check_L1]
    cases tree_Stands t p.parent p.node with
    | true => exact .inr rfl
    | false => exact tree_Check_L1_or t r
theorem place_ok {p : Place} (h : tree_place p = 0) : 1 ≤ p.node ∧ p.node < 16 ∧ 0 ≤ p.parent ∧ p.parent ≤ 16 ∧ 0 ≤ p.name ∧ p.name ≤ 99 := by
  unfold tree_place at h
  cases hb : (((((decide (p.node < 1) || decide (p.node ≥ 16)) || decide (p.parent < 0)) || decide (p.parent > 16)) || decide (p.name < 0)) || decide (p.name > 99)) with
  | true => rw [hb] at h; simp at h
  | false => simp at hb; omega
theorem tree_Check_L0_ok (t : List Place) : ∀ (r : List Place) (k : Nat), r = t.drop k → tree_Check_L0 t r k = 0 →
    (∀ i, k ≤ i → i < t.length → tree_place (gt t i) = 0) ∧ (∀ i, k ≤ i → i < t.length → 0 < i → (gt t (i - 1)).node < (gt t i).node) ∧ tree_Check_L1 t t = 0
  | [], k, hr, h => by
    have : t.length ≤ k := by have := congrArg List.length hr; simp at this; omega
    exact ⟨fun i h1 h2 => by omega, fun i h1 h2 => by omega, h⟩
  | p :: r, k, hr, h => by
    have hk : k < t.length := by have := congrArg List.length hr; simp at this; omega
    rw [drop_gt hk] at hr
    obtain ⟨rfl, hr'⟩ := List.cons.inj hr
    rw [tree_Check_L0] at h
    cases h1 : (tree_place (gt t k) != 0) with
    | true => rw [h1, cond_true] at h; rw [h] at h1; simp at h1
    | false =>
      rw [h1, cond_false] at h
      cases h2 : (decide ((k : Int) > 0) && decide ((gt t (k - 1)).node ≥ (gt t k).node)) with
      | true => rw [h2] at h; simp at h
      | false =>
        rw [h2, cond_false] at h
        obtain ⟨ha, hb, hc⟩ := tree_Check_L0_ok t r (k + 1) hr' h
        refine ⟨fun i hi hl => ?_, fun i hi hl hp => ?_, hc⟩
        · by_cases he : i = k
          · subst he; simpa using h1
          · exact ha i (by omega) hl
        · by_cases he : i = k
          · subst he
            have : (0 : Int) < (i : Int) := by omega
            simp [this] at h2
            omega
          · exact hb i (by omega) hl hp
theorem tree_Check_ok {t : List Place} (h : tree_Check t = 0) : (∀ i, i < t.length → tree_place (gt t i) = 0) ∧ (∀ i, i < t.length → 0 < i → (gt t (i - 1)).node < (gt t i).node) ∧ tree_Check_L1 t t = 0 := by
  obtain ⟨a, b, c⟩ := tree_Check_L0_ok t t 0 rfl h
  exact ⟨fun i hi => a i (Nat.zero_le _) hi, fun i hi hp => b i (Nat.zero_le _) hi hp, c⟩
theorem check_len {t : List Place} (h : tree_Check t = 0) : t.length ≤ 15 := by
  obtain ⟨ha, hb, _⟩ := tree_Check_ok h
  have key : ∀ i, i < t.length → (i : Int) + 1 ≤ (gt t i).node := by
    intro i
    induction i with
    | zero => intro hi; have := (place_ok (ha 0 hi)).1; omega
    | succ i ih =>
      intro hi
      have h1 := ih (by omega)
      have h2 := hb (i + 1) hi (by omega)
      simp at h2
      omega
  by_cases hl : t.length ≤ 15
  · exact hl
  · have h1 := key 15 (by omega)
    have h2 := place_ok (ha 15 (by omega))
    omega
theorem small_of (t : List Place) (h : tree_Check t = 0) : t.length ≤ 1000000 := Nat.le_trans (check_len h) (by omega)
end Go.Proofs.Ytchdacbjiomplaa

set_option maxHeartbeats 2000000
namespace Go.Proofs.Ytchdacbjiomplaa
open Go Go.Proofs.Ytchdacbjiomplaa.Fw Go.Proofs
attribute [local irreducible] RW CW
def move_Do (t1 : List Place) (o1 : Op) : (List Place) × Step × Int :=
  (bif ((tree_Check t1) != 0) then (([] : List Place), (⟨(⟨0, 0, 0, 0, 0, 0, 0⟩ : Op), false, (⟨0, 0, 0⟩ : Place)⟩ : Step), (tree_Check t1)) else (bif ((move_Check o1) != 0) then (([] : List Place), (⟨(⟨0, 0, 0, 0, 0, 0, 0⟩ : Op), false, (⟨0, 0, 0⟩ : Place)⟩ : Step), (move_Check o1)) else (bif (tree_Stands t1 o1.parent o1.node) then ((tree_Copy t1), (⟨o1, false, (tree_Find t1 o1.node)⟩ : Step), 0) else ((tree_Put t1 (⟨o1.node, o1.parent, o1.name⟩ : Place)), (⟨o1, true, (tree_Find t1 o1.node)⟩ : Step), 0))))
theorem move_Do_spec (y1 : SlV) (t1 : List Place) (o1 : Op) : Does Try.prog 28 [.agg ⟨[y1.val t1.length]⟩, .agg ⟨[.int .i64 o1.time, .int .i64 o1.who, .int .i64 o1.node, .int .i64 o1.parent, .int .i64 o1.name, .int .i64 o1.life, .int .i64 o1.seq]⟩] [RdL EPlace y1 t1] (fun (X : SlV) => .tuple #[.agg ⟨[X.val ((move_Do t1 o1).1).length]⟩, .agg ⟨[.int .i64 ((((move_Do t1 o1).2.1).o).time), .int .i64 ((((move_Do t1 o1).2.1).o).who), .int .i64 ((((move_Do t1 o1).2.1).o).node), .int .i64 ((((move_Do t1 o1).2.1).o).parent), .int .i64 ((((move_Do t1 o1).2.1).o).name), .int .i64 ((((move_Do t1 o1).2.1).o).life), .int .i64 ((((move_Do t1 o1).2.1).o).seq), .bool (((move_Do t1 o1).2.1).did), .int .i64 ((((move_Do t1 o1).2.1).was).node), .int .i64 ((((move_Do t1 o1).2.1).was).parent), .int .i64 ((((move_Do t1 o1).2.1).was).name)]⟩, .int .i64 ((move_Do t1 o1).2.2)]) (fun (X : SlV) => [RdL EPlace X ((move_Do t1 o1).1)]) := by
  refine does_of tab_ok Try.func28 rfl Try.ntmps28 Try.results28 rfl inferInstance (fun _ => inferInstance) fun C => ?_
  refine Pc EPlace y1 t1 24 fun hlen1 => ?_
  refine Tx ?_
  refine Bx fun g1 => ?_
  refine Bx fun g2 => ?_
  refine Al fun g3 => ?_
  refine Al fun g4 => ?_
  refine Tx ?_
  refine Cl (tree_Check_spec y1 t1) fun _ => ?_
  refine Tx ?_
  refine Cd (b := ((tree_Check t1) != 0)) (fun hc1 => ?_) fun hc1 => ?_
  · have hc1p := bne_iff_ne.1 hc1
    refine Tx ?_
    refine Fc EPlace ?_
    have hr1 : (move_Do t1 o1) = (([] : List Place), (⟨(⟨0, 0, 0, 0, 0, 0, 0⟩ : Op), false, (⟨0, 0, 0⟩ : Place)⟩ : Step), (tree_Check t1)) := by simp only [move_Do, hc1, cond_true, cond_false]
    refine cw_ret ?_; rw [hr1]; exact Re (⟨none, 0⟩ : SlV) (Va (Va (Vt Vn)))
  · have hc1p := eq_of_bne_false hc1
    refine Tx ?_
    refine Cl (move_Check_spec o1) fun _ => ?_
    refine Tx ?_
    refine Cd (b := ((move_Check o1) != 0)) (fun hc2 => ?_) fun hc2 => ?_
    · have hc2p := bne_iff_ne.1 hc2
      refine Tx ?_
      refine Fc EPlace ?_
      have hr2 : (move_Do t1 o1) = (([] : List Place), (⟨(⟨0, 0, 0, 0, 0, 0, 0⟩ : Op), false, (⟨0, 0, 0⟩ : Place)⟩ : Step), (move_Check o1)) := by simp only [move_Do, hc1, hc2, cond_true, cond_false]
      refine cw_ret ?_; rw [hr2]; exact Re (⟨none, 0⟩ : SlV) (Va (Va (Vt Vn)))
    · have hc2p := eq_of_bne_false hc2
      refine Tx ?_
      refine cw_join [2, 3, 4, 5, 6] [true, true, true, true] (fun (g5 : Nat) => [(9, .v (.pointer (some ⟨g5, 0, none⟩)))]) (fun (g5 : Nat) => [⟨g5, 37, [.int .i64 o1.time, .int .i64 o1.who, .int .i64 o1.node, .int .i64 o1.parent, .int .i64 o1.name, .int .i64 o1.life, .int .i64 o1.seq, .bool false, .int .i64 ((tree_Find t1 o1.node).node), .int .i64 ((tree_Find t1 o1.node).parent), .int .i64 ((tree_Find t1 o1.node).name)]⟩]) (fun (g5 : Nat) => []) (fun (g5 : Nat) => []) (fun _ => True) (.cons rfl (.cons rfl (.cons rfl (.cons rfl (.cons rfl (.nil _)))))) (.keep (.keep (.keep (.keep (.nil))))) ?_ ?_
      · refine cw_regionA (fun j => match j with | 7 => none | _ => some []) ?_
        refine Ra 0 [1,2,3,4,6] rfl (q_ldA rfl rfl (fun _ => rfl) rfl Mm rfl) ?_
        refine Rb 1 [2,3,6] [4,5,7] rfl (q_ldA rfl rfl (fun _ => rfl) rfl Mm rfl) ?_
        refine Rb 2 [6] [3,4,5,7] rfl Qp ?_
        refine Rb 3 [6] [4,5,7] rfl Q1 ?_
        refine ra_two 4 6 Kr ?_ ?_
        · refine rw_call (tree_Find_spec y1 t1 o1.node) (.an rfl rfl) (guard_none rfl) rfl rfl rfl Kr rfl rfl Sm ?_
          intro _
          refine Ra 5 [6] rfl Qp ?_
          refine ra_one 6 Kr ?_
          refine rw_alloc (.an rfl rfl) (guard_none rfl) rfl rfl rfl rfl fun g6 => ?_
          refine ra_one 7 Kr ?_
          refine rw_stA (.lo [g6] rfl rfl) (.inr (by simp)) (guard_none rfl) rfl rfl rfl rfl rfl rfl rfl rfl rfl Ub rfl ?_
          refine ra_nil Kr ?_
          refine ⟨g6, trivial, Le4⟩
        · refine rw_alloc (.an rfl rfl) (guard_none rfl) rfl rfl rfl rfl fun g7 => ?_
          refine ra_one 4 Kr ?_
          refine rw_call (tree_Find_spec y1 t1 o1.node) (.an rfl rfl) (guard_none rfl) rfl rfl rfl Kr rfl rfl Sm ?_
          intro _
          refine Ra 5 [] rfl Qp ?_
          refine ra_one 7 Kr ?_
          refine rw_stA (.lo [g7] rfl rfl) (.inr (by simp)) (guard_none rfl) rfl rfl rfl rfl rfl rfl rfl rfl rfl Ub rfl ?_
          refine ra_nil Kr ?_
          refine ⟨g7, trivial, Le4⟩
      · rintro g5 -
        simp only [List.cons_append, List.nil_append]
        refine Tx ?_
        refine Cl (tree_Stands_spec y1 t1 o1.parent o1.node) fun _ => ?_
        refine rw_nil ?_
        (repeat refine cw_seq ?_)
        refine Cd (b := (tree_Stands t1 o1.parent o1.node)) (fun hc3 => ?_) fun hc3 => ?_
        · (repeat refine cw_seq ?_); refine cw_regionA (fun j => match j with | 3 => some [g3] | 4 => some [g4] | _ => some []) ?_
          refine Ra 0 [2] rfl (q_ldA rfl rfl (fun _ => rfl) rfl Mm rfl) ?_
          refine ra_q (.an (i := 2) (js := [1, 3]) rfl Kr Kr Kr Kr) (.keep (.keep (.drop (SplitB.all _)))) (by intro g hg; simp at hg; simp [hg]) rfl rfl rfl (q_ldA rfl rfl (fun _ => rfl) rfl Mm rfl) ?_
          refine ra_one 1 Kr ?_
          refine rw_callG (tree_Copy_spec y1 t1) (.an rfl rfl) (.inr (by simp [Lent.ids])) (guard_none rfl) rfl rfl rfl Kr rfl rfl Sm (.nil _) (.nil _) ?_
          intro x1
          refine ra_one 3 Kr ?_
          refine rw_stA (.an rfl rfl) (.inr (by simp)) (guard_none rfl) rfl rfl rfl rfl rfl rfl rfl rfl rfl Ub rfl ?_
          refine ra_one 4 Kr ?_
          refine rw_stA (.an rfl rfl) (.inr (by simp)) (guard_none rfl) rfl rfl rfl rfl rfl rfl rfl rfl rfl Ub rfl ?_
          refine Ra 5 [] rfl Qp ?_
          refine ra_nil Kr ?_
          (repeat refine cw_seq ?_)
          refine cw_le (le_freezeL EPlace 35 x1.1 x1.2 (tree_Copy t1) Uo) ?_
          have hr3 : (move_Do t1 o1) = ((tree_Copy t1), (⟨o1, false, (tree_Find t1 o1.node)⟩ : Step), 0) := by simp only [move_Do, hc1, hc2, hc3, cond_true, cond_false]
          refine cw_ret ?_; rw [hr3]; exact Re x1.1 (Va (Va (Vt Vn)))
        · refine Tx ?_
          (repeat refine cw_seq ?_); refine cw_regionA (fun j => match j with | 10 => some [g3] | 11 => some [g4] | _ => some []) ?_
          refine Ra 0 [1,2,3,4,5,6,7,9] rfl (q_ldA rfl rfl (fun _ => rfl) rfl Mm rfl) ?_
          refine Rb 1 [3,4,5,6,9] [2,7,8,10,11,12] rfl Qp ?_
          refine Rb 2 [3,4,5,6,9] [7,8,10,11,12] rfl Q1 ?_
          refine Rb 3 [5,6,9] [4,7,8,10,11,12] rfl Qp ?_
          refine Rb 4 [5,6,9] [7,8,10,11,12] rfl Q1 ?_
          refine Rb 5 [9] [6,7,8,10,11,12] rfl Qp ?_
          refine Rb 6 [9] [7,8,10,11,12] rfl Q1 ?_
          refine Ra 7 [9] rfl Qp ?_
          refine ra_q (.an (i := 9) (js := [8, 10]) rfl Kr Kr Kr Kr) (.keep (.keep (.drop (SplitB.all _)))) (by intro g hg; simp at hg; simp [hg]) rfl rfl rfl (q_ldA rfl rfl (fun _ => rfl) rfl Mm rfl) ?_
          refine ra_one 8 Kr ?_
          refine rw_call (tree_Put_spec y1 t1 (⟨o1.node, o1.parent, o1.name⟩ : Place) (small_of t1 (by first | assumption | simpa using hc1))) (.an rfl rfl) (guard_none rfl) rfl rfl rfl Kr rfl rfl Sm ?_
          intro x2
          refine Pr EPlace x2 (tree_Put t1 (⟨o1.node, o1.parent, o1.name⟩ : Place)) 24 fun hlen2 => ?_
          refine ra_one 10 Kr ?_
          refine rw_stA (.an rfl rfl) (.inr (by simp)) (guard_none rfl) rfl rfl rfl rfl rfl rfl rfl rfl rfl Ub rfl ?_
          refine ra_one 11 Kr ?_
          refine rw_stA (.an rfl rfl) (.inr (by simp)) (guard_none rfl) rfl rfl rfl rfl rfl rfl rfl rfl rfl Ub rfl ?_
          refine Ra 12 [] rfl Qp ?_
          refine ra_nil Kr ?_
          (repeat refine cw_seq ?_)
          have hr4 : (move_Do t1 o1) = ((tree_Put t1 (⟨o1.node, o1.parent, o1.name⟩ : Place)), (⟨o1, true, (tree_Find t1 o1.node)⟩ : Step), 0) := by simp only [move_Do, hc1, hc2, hc3, cond_true, cond_false]
          refine cw_ret ?_; rw [hr4]; exact Re x2 (Va (Va (Vt Vn)))

def move_Undo (t1 : List Place) (s1 : Step) : (List Place) × Int :=
  (bif ((tree_Check t1) != 0) then (([] : List Place), (tree_Check t1)) else (bif ((move_Check s1.o) != 0) then (([] : List Place), (move_Check s1.o)) else (bif (!s1.did) then ((tree_Copy t1), 0) else (bif (s1.was.node == 0) then (bif ((s1.o.node != s1.o.node) || (!(decide ((tree_Find t1 s1.o.node) = (⟨s1.o.node, s1.o.parent, s1.o.name⟩ : Place))))) then (([] : List Place), 4) else (bif ((tree_Check (tree_Put t1 (⟨s1.o.node, (-1), 0⟩ : Place))) != 0) then (([] : List Place), (tree_Check (tree_Put t1 (⟨s1.o.node, (-1), 0⟩ : Place)))) else ((tree_Put t1 (⟨s1.o.node, (-1), 0⟩ : Place)), 0))) else (bif ((s1.was.node != s1.o.node) || (!(decide ((tree_Find t1 s1.o.node) = (⟨s1.o.node, s1.o.parent, s1.o.name⟩ : Place))))) then (([] : List Place), 4) else (bif ((tree_Check (tree_Put t1 s1.was)) != 0) then (([] : List Place), (tree_Check (tree_Put t1 s1.was))) else ((tree_Put t1 s1.was), 0)))))))
theorem move_Undo_spec (y1 : SlV) (t1 : List Place) (s1 : Step) : Does Try.prog 33 [.agg ⟨[y1.val t1.length]⟩, .agg ⟨[.int .i64 s1.o.time, .int .i64 s1.o.who, .int .i64 s1.o.node, .int .i64 s1.o.parent, .int .i64 s1.o.name, .int .i64 s1.o.life, .int .i64 s1.o.seq, .bool s1.did, .int .i64 s1.was.node, .int .i64 s1.was.parent, .int .i64 s1.was.name]⟩] [RdL EPlace y1 t1] (fun (X : SlV) => .tuple #[.agg ⟨[X.val ((move_Undo t1 s1).1).length]⟩, .int .i64 ((move_Undo t1 s1).2)]) (fun (X : SlV) => [RdL EPlace X ((move_Undo t1 s1).1)]) := by
  refine does_of tab_ok Try.func33 rfl Try.ntmps33 Try.results33 rfl inferInstance (fun _ => inferInstance) fun C => ?_
  refine Pc EPlace y1 t1 24 fun hlen1 => ?_
  refine Tx ?_
  refine Bx fun g1 => ?_
  refine Bx fun g2 => ?_
  refine Al fun g3 => ?_
  refine Tx ?_
  refine Cl (tree_Check_spec y1 t1) fun _ => ?_
  refine Tx ?_
  refine Cd (b := ((tree_Check t1) != 0)) (fun hc1 => ?_) fun hc1 => ?_
  · have hc1p := bne_iff_ne.1 hc1
    refine Tx ?_
    refine Fc EPlace ?_
    have hr1 : (move_Undo t1 s1) = (([] : List Place), (tree_Check t1)) := by simp only [move_Undo, hc1, cond_true, cond_false]
    refine cw_ret ?_; rw [hr1]; exact Re (⟨none, 0⟩ : SlV) (Va (Vt Vn))
  · have hc1p := eq_of_bne_false hc1
    refine Tx ?_
    refine Cl (move_Check_spec s1.o) fun _ => ?_
    refine Tx ?_
    refine Cd (b := ((move_Check s1.o) != 0)) (fun hc2 => ?_) fun hc2 => ?_
    · have hc2p := bne_iff_ne.1 hc2
      refine Tx ?_
      refine Fc EPlace ?_
      have hr2 : (move_Undo t1 s1) = (([] : List Place), (move_Check s1.o)) := by simp only [move_Undo, hc1, hc2, cond_true, cond_false]
      refine cw_ret ?_; rw [hr2]; exact Re (⟨none, 0⟩ : SlV) (Va (Vt Vn))
    · have hc2p := eq_of_bne_false hc2
      refine Tx ?_
      refine Cd (b := (!s1.did)) (fun hc3 => ?_) fun hc3 => ?_
      · refine Tx ?_
        refine Cg (tree_Copy_spec y1 t1) fun x1 => ?_
        refine Tx ?_
        refine cw_le (le_freezeL EPlace 35 x1.1 x1.2 (tree_Copy t1) Uo) ?_
        have hr3 : (move_Undo t1 s1) = ((tree_Copy t1), 0) := by simp only [move_Undo, hc1, hc2, hc3, cond_true, cond_false]
        refine cw_ret ?_; rw [hr3]; exact Re x1.1 (Va (Vt Vn))
      · refine Tx ?_
        refine Al fun g4 => ?_
        refine Tx ?_
        refine Cd (b := (s1.was.node == 0)) (fun hc4 => ?_) fun hc4 => ?_
        · have hc4p := eq_of_beq hc4
          refine Tx ?_
          refine Al fun g5 => ?_
          refine Tx ?_
          (repeat refine cw_seq ?_); refine cw_regionA (fun _ => some []) ?_
          refine Rb 0 [2,3,4] [1,5,6,7,8,9,10,11,12,13,14] rfl Qp ?_
          refine Rb 1 [2,3,4] [5,6,7,8,9,10,11,12,13,14] rfl Q1 ?_
          refine Rb 2 [] [3,4,5,6,7,8,9,10,11,12,13,14] rfl Qp ?_
          refine Rb 3 [] [4,5,6,7,8,9,10,11,12,13,14] rfl Qp ?_
          refine Rb 4 [] [5,6,7,8,9,10,11,12,13,14] rfl Q1 ?_
          refine Rb 5 [] [6,7,8,9,10,11,12,13,14] rfl Qp ?_
          refine Ra 6 [] rfl Qp ?_
          refine Gb 7 [8,9,10,12] [11,13,14] rfl (guard_vf rfl rfl rfl) (q_ldA rfl rfl Bt rfl Mm rfl) ?_
          refine Gb 8 [12] [9,10,11,13,14] rfl (guard_vf rfl rfl rfl) (q_pev rfl Bt) ?_
          refine Gb 9 [12] [10,11,13,14] rfl (guard_vf rfl rfl rfl) (q_pev rfl Bt) ?_
          refine Gb 10 [12] [11,13,14] rfl (guard_vf rfl rfl rfl) (q_ld1 rfl rfl Bt rfl Mm rfl) ?_
          refine Gb 12 [11] [13,14] rfl (guard_vf rfl rfl rfl) (q_ldA rfl rfl Bt rfl Mm rfl) ?_
          refine ra_one 11 Kr ?_
          refine rw_callg (fun hG_ => tree_Find_spec y1 t1 s1.o.node) (fun _ => rfl) (.an rfl rfl) (guard_vf rfl rfl rfl) rfl rfl rfl Kr rfl Bt Sm ?_
          refine Ga 13 [] rfl (guard_vf rfl rfl rfl) (q_neE eqT_Place (flatEq_Place (tree_Find t1 s1.o.node) (⟨s1.o.node, s1.o.parent, s1.o.name⟩ : Place)) rfl rfl Bt rfl Bt rfl rfl) ?_
          refine Ra 14 [] rfl (q_pev rfl Bt) ?_
          refine ra_nil Kr ?_
          (repeat refine cw_seq ?_)
          refine Cd (b := ((s1.o.node != s1.o.node) || (!(decide ((tree_Find t1 s1.o.node) = (⟨s1.o.node, s1.o.parent, s1.o.name⟩ : Place)))))) (fun hc5 => ?_) fun hc5 => ?_
          · refine Tx ?_
            refine Fc EPlace ?_
            have hr4 : (move_Undo t1 s1) = (([] : List Place), 4) := by simp only [move_Undo, hc1, hc2, hc3, hc4, hc5, cond_true, cond_false]
            refine cw_ret ?_; rw [hr4]; exact Re (⟨none, 0⟩ : SlV) (Va (Vt Vn))
          · refine Tx ?_
            refine Cl (tree_Put_spec y1 t1 (⟨s1.o.node, (-1), 0⟩ : Place) (small_of t1 (by first | assumption | simpa using hc1))) fun x2 => ?_
            refine Pr EPlace x2 (tree_Put t1 (⟨s1.o.node, (-1), 0⟩ : Place)) 24 fun hlen2 => ?_
            refine Tx ?_
            refine Cl (tree_Check_spec x2 (tree_Put t1 (⟨s1.o.node, (-1), 0⟩ : Place))) fun _ => ?_
            refine Tx ?_
            refine Cd (b := ((tree_Check (tree_Put t1 (⟨s1.o.node, (-1), 0⟩ : Place))) != 0)) (fun hc6 => ?_) fun hc6 => ?_
            · have hc6p := bne_iff_ne.1 hc6
              refine Tx ?_
              refine Fc EPlace ?_
              have hr5 : (move_Undo t1 s1) = (([] : List Place), (tree_Check (tree_Put t1 (⟨s1.o.node, (-1), 0⟩ : Place)))) := by simp only [move_Undo, hc1, hc2, hc3, hc4, hc5, hc6, cond_true, cond_false]
              refine cw_ret ?_; rw [hr5]; exact Re (⟨none, 0⟩ : SlV) (Va (Vt Vn))
            · have hc6p := eq_of_bne_false hc6
              refine Tx ?_
              have hr6 : (move_Undo t1 s1) = ((tree_Put t1 (⟨s1.o.node, (-1), 0⟩ : Place)), 0) := by simp only [move_Undo, hc1, hc2, hc3, hc4, hc5, hc6, cond_true, cond_false]
              refine cw_ret ?_; rw [hr6]; exact Re x2 (Va (Vt Vn))
        · have hc4p := ne_of_beq_false hc4
          refine Tx ?_
          refine Al fun g6 => ?_
          refine Tx ?_
          (repeat refine cw_seq ?_); refine cw_regionA (fun _ => some []) ?_
          refine Rb 0 [2,3,4] [1,5,6,7,8,9,10,11,12,13,14] rfl Qp ?_
          refine Rb 1 [2,3,4] [5,6,7,8,9,10,11,12,13,14] rfl Q1 ?_
          refine Rb 2 [] [3,4,5,6,7,8,9,10,11,12,13,14] rfl Qp ?_
          refine Rb 3 [] [4,5,6,7,8,9,10,11,12,13,14] rfl Qp ?_
          refine Rb 4 [] [5,6,7,8,9,10,11,12,13,14] rfl Q1 ?_
          refine Rb 5 [] [6,7,8,9,10,11,12,13,14] rfl Qp ?_
          refine Ra 6 [] rfl Qp ?_
          refine Gb 7 [8,9,10,12] [11,13,14] rfl (guard_vf rfl rfl rfl) (q_ldA rfl rfl Bt rfl Mm rfl) ?_
          refine Gb 8 [12] [9,10,11,13,14] rfl (guard_vf rfl rfl rfl) (q_pev rfl Bt) ?_
          refine Gb 9 [12] [10,11,13,14] rfl (guard_vf rfl rfl rfl) (q_pev rfl Bt) ?_
          refine Gb 10 [12] [11,13,14] rfl (guard_vf rfl rfl rfl) (q_ld1 rfl rfl Bt rfl Mm rfl) ?_
          refine Gb 12 [11] [13,14] rfl (guard_vf rfl rfl rfl) (q_ldA rfl rfl Bt rfl Mm rfl) ?_
          refine ra_one 11 Kr ?_
          refine rw_callg (fun hG_ => tree_Find_spec y1 t1 s1.o.node) (fun _ => rfl) (.an rfl rfl) (guard_vf rfl rfl rfl) rfl rfl rfl Kr rfl Bt Sm ?_
          refine Ga 13 [] rfl (guard_vf rfl rfl rfl) (q_neE eqT_Place (flatEq_Place (tree_Find t1 s1.o.node) (⟨s1.o.node, s1.o.parent, s1.o.name⟩ : Place)) rfl rfl Bt rfl Bt rfl rfl) ?_
          refine Ra 14 [] rfl (q_pev rfl Bt) ?_
          refine ra_nil Kr ?_
          (repeat refine cw_seq ?_)
          refine Cd (b := ((s1.was.node != s1.o.node) || (!(decide ((tree_Find t1 s1.o.node) = (⟨s1.o.node, s1.o.parent, s1.o.name⟩ : Place)))))) (fun hc7 => ?_) fun hc7 => ?_
          · refine Tx ?_
            refine Fc EPlace ?_
            have hr7 : (move_Undo t1 s1) = (([] : List Place), 4) := by simp only [move_Undo, hc1, hc2, hc3, hc4, hc7, cond_true, cond_false]
            refine cw_ret ?_; rw [hr7]; exact Re (⟨none, 0⟩ : SlV) (Va (Vt Vn))
          · refine Tx ?_
            refine Cl (tree_Put_spec y1 t1 s1.was (small_of t1 (by first | assumption | simpa using hc1))) fun x3 => ?_
            refine Pr EPlace x3 (tree_Put t1 s1.was) 24 fun hlen3 => ?_
            refine Tx ?_
            refine Cl (tree_Check_spec x3 (tree_Put t1 s1.was)) fun _ => ?_
            refine Tx ?_
            refine Cd (b := ((tree_Check (tree_Put t1 s1.was)) != 0)) (fun hc8 => ?_) fun hc8 => ?_
            · have hc8p := bne_iff_ne.1 hc8
              refine Tx ?_
              refine Fc EPlace ?_
              have hr8 : (move_Undo t1 s1) = (([] : List Place), (tree_Check (tree_Put t1 s1.was))) := by simp only [move_Undo, hc1, hc2, hc3, hc4, hc7, hc8, cond_true, cond_false]
              refine cw_ret ?_; rw [hr8]; exact Re (⟨none, 0⟩ : SlV) (Va (Vt Vn))
            · have hc8p := eq_of_bne_false hc8
              refine Tx ?_
              have hr9 : (move_Undo t1 s1) = ((tree_Put t1 s1.was), 0) := by simp only [move_Undo, hc1, hc2, hc3, hc4, hc7, hc8, cond_true, cond_false]
              refine cw_ret ?_; rw [hr9]; exact Re x3 (Va (Vt Vn))
end Go.Proofs.Ytchdacbjiomplaa

set_option maxHeartbeats 2000000
namespace Go.Proofs.Ytchdacbjiomplaa
open Go Go.Proofs.Ytchdacbjiomplaa.Fw Go.Proofs
attribute [local irreducible] RW CW
def orangerylaw_small  : List Place :=
  [(⟨1, 0, 5⟩ : Place), (⟨2, 1, 7⟩ : Place), (⟨3, 1, 6⟩ : Place), (⟨4, 2, 0⟩ : Place)]
theorem orangerylaw_small_spec  : Does Try.prog 123 [] [] (fun (X : SlV) => .agg ⟨[X.val (orangerylaw_small).length]⟩) (fun (X : SlV) => [RdL EPlace X (orangerylaw_small)]) := by
  refine does_of tab_ok Try.func123 rfl Try.ntmps123 Try.results123 rfl inferInstance (fun _ => inferInstance) fun C => ?_
  refine Tx ?_
  refine Al fun g1 => ?_
  refine Tx ?_
  refine rw_bsliceL EPlace [(⟨1, 0, 5⟩ : Place), (⟨2, 1, 7⟩ : Place), (⟨3, 1, 6⟩ : Place), (⟨4, 2, 0⟩ : Place)] .sq (guard_none rfl) rfl rfl rfl rfl rfl rfl rfl rfl rfl rfl rfl rfl rfl rfl rfl fun x1 x1b => ?_
  refine Tx ?_
  refine cw_le (le_freezeL EPlace 35 x1 x1b [(⟨1, 0, 5⟩ : Place), (⟨2, 1, 7⟩ : Place), (⟨3, 1, 6⟩ : Place), (⟨4, 2, 0⟩ : Place)] Uo) ?_
  have hr1 : (orangerylaw_small) = [(⟨1, 0, 5⟩ : Place), (⟨2, 1, 7⟩ : Place), (⟨3, 1, 6⟩ : Place), (⟨4, 2, 0⟩ : Place)] := by simp only [orangerylaw_small, cond_true, cond_false]
  refine cw_ret ?_; rw [hr1]; exact Re x1 (Va Vn)

def orangerylaw_op (time1 : Int) (who1 : Int) (node1 : Int) (parent1 : Int) : Op :=
  (⟨time1, who1, node1, parent1, 0, 1, time1⟩ : Op)
theorem orangerylaw_op_spec (time1 : Int) (who1 : Int) (node1 : Int) (parent1 : Int) : Does Try.prog 124 [.int .i64 time1, .int .i64 who1, .int .i64 node1, .int .i64 parent1] [] (fun (_ : Unit) => .agg ⟨[.int .i64 ((orangerylaw_op time1 who1 node1 parent1).time), .int .i64 ((orangerylaw_op time1 who1 node1 parent1).who), .int .i64 ((orangerylaw_op time1 who1 node1 parent1).node), .int .i64 ((orangerylaw_op time1 who1 node1 parent1).parent), .int .i64 ((orangerylaw_op time1 who1 node1 parent1).name), .int .i64 ((orangerylaw_op time1 who1 node1 parent1).life), .int .i64 ((orangerylaw_op time1 who1 node1 parent1).seq)]⟩) (fun (_ : Unit) => []) := by
  refine does_of tab_ok Try.func124 rfl Try.ntmps124 Try.results124 rfl inferInstance (fun _ => inferInstance) fun C => ?_
  refine Tx ?_
  refine Al fun g1 => ?_
  refine Tx ?_
  have hr1 : (orangerylaw_op time1 who1 node1 parent1) = (⟨time1, who1, node1, parent1, 0, 1, time1⟩ : Op) := by simp only [orangerylaw_op, cond_true, cond_false]
  refine cw_ret ?_; rw [hr1]; exact Re () (Va Vn)
end Go.Proofs.Ytchdacbjiomplaa
