/- Part of this claim. No condition. -/
import Derived.Test.YtchdacbjiomplaaTData
import Derived.Test.YtchdacbjiomplaaFx
set_option linter.unusedVariables false
set_option linter.unusedSimpArgs false
namespace Go.Proofs.Ytchdacbjiomplaa
open Go Go.Proofs.Ytchdacbjiomplaa.Fw Go.Proofs
theorem slices_Clone_Int_spec (x : SlV) (l : List Int) : DoesG Try.prog 129 [x.val l.length] [RdL EInt x l] ⟨[], []⟩ (fun (X : SlV × Option Nat) => X.1.val l.length) (fun (_ : SlV × Option Nat) => []) (fun (X : SlV × Option Nat) => ⟨[], [ownL EInt 3 X.1 X.2 l]⟩) := by
  refine does_ofG tab_ok Try.func129 rfl Try.ntmps129 Try.results129 rfl inferInstance (fun _ => inferInstance) fun C => ?_
  refine cw_pure (φ := l.length * EInt.by_ ≤ 140737488355328) [RdL EInt x l] Sm (fun M w h => (allF1 h).len) fun hlen => ?_
  (repeat refine cw_seq ?_); refine cw_region ?_
  refine Rp rfl rfl rfl rfl ?_
  refine rw_nil ?_
  (repeat refine cw_seq ?_); refine cw_region ?_
  refine Rp rfl rfl rfl rfl ?_
  refine rw_q rfl rfl rfl (q_eqnil rfl rfl (fun _ => rfl) rfl) ?_
  refine rw_nil ?_
  (repeat refine cw_seq ?_); refine cw_cond rfl rfl (fun hc0 => ?_) (fun hc0 => ?_)
  · refine cw_pure [RdL EInt x l] Sm (fun M w h => (allF1 h).nil_of hc0) fun hnil => ?_
    subst hnil
    refine cw_le (le_nilL EInt 3) ?_
    (repeat refine cw_seq ?_); refine cw_region ?_
    refine Rp rfl rfl rfl rfl ?_
    refine rw_nil ?_
    (repeat refine cw_seq ?_); refine cw_ret ?_
    exact ⟨(⟨none, 0⟩, none), _, (.cons (.tmp rfl) .nil), rfl, .nil _, .nil _, Sp⟩
  · (repeat refine cw_seq ?_); refine cw_skip ?_
    (repeat refine cw_seq ?_); refine cw_region ?_
    refine rw_bsliceL EInt [] .sq (guard_none rfl) rfl rfl rfl rfl rfl rfl rfl rfl rfl rfl rfl rfl rfl rfl rfl fun x1 x1b => ?_
    refine Rp rfl rfl rfl rfl ?_
    refine rw_appendL EInt [] l (b := x1b) .sq (fun _ _ => .inl ⟨_, rfl⟩) (guard_none rfl) rfl rfl rfl rfl rfl rfl rfl (fun _ _ => Uo) rfl rfl rfl rfl rfl rfl rfl (reads_rdL Mm) (by simpa using hlen) fun x2 x2b => ?_
    refine Rp rfl rfl rfl rfl ?_
    refine rw_nil ?_
    (repeat refine cw_seq ?_); refine cw_ret ?_
    exact ⟨(x2, x2b), _, (.cons (.tmp rfl) .nil), rfl, .nil _, .nil _, Sp⟩

theorem slices_Clone_Place_spec (x : SlV) (l : List Place) : DoesG Try.prog 137 [x.val l.length] [RdL EPlace x l] ⟨[], []⟩ (fun (X : SlV × Option Nat) => X.1.val l.length) (fun (_ : SlV × Option Nat) => []) (fun (X : SlV × Option Nat) => ⟨[], [ownL EPlace 35 X.1 X.2 l]⟩) := by
  refine does_ofG tab_ok Try.func137 rfl Try.ntmps137 Try.results137 rfl inferInstance (fun _ => inferInstance) fun C => ?_
  refine cw_pure (φ := l.length * EPlace.by_ ≤ 140737488355328) [RdL EPlace x l] Sm (fun M w h => (allF1 h).len) fun hlen => ?_
  (repeat refine cw_seq ?_); refine cw_region ?_
  refine Rp rfl rfl rfl rfl ?_
  refine rw_nil ?_
  (repeat refine cw_seq ?_); refine cw_region ?_
  refine Rp rfl rfl rfl rfl ?_
  refine rw_q rfl rfl rfl (q_eqnil rfl rfl (fun _ => rfl) rfl) ?_
  refine rw_nil ?_
  (repeat refine cw_seq ?_); refine cw_cond rfl rfl (fun hc0 => ?_) (fun hc0 => ?_)
  · refine cw_pure [RdL EPlace x l] Sm (fun M w h => (allF1 h).nil_of hc0) fun hnil => ?_
    subst hnil
    refine cw_le (le_nilL EPlace 35) ?_
    (repeat refine cw_seq ?_); refine cw_region ?_
    refine Rp rfl rfl rfl rfl ?_
    refine rw_nil ?_
    (repeat refine cw_seq ?_); refine cw_ret ?_
    exact ⟨(⟨none, 0⟩, none), _, (.cons (.tmp rfl) .nil), rfl, .nil _, .nil _, Sp⟩
  · (repeat refine cw_seq ?_); refine cw_skip ?_
    (repeat refine cw_seq ?_); refine cw_region ?_
    refine rw_bsliceL EPlace [] .sq (guard_none rfl) rfl rfl rfl rfl rfl rfl rfl rfl rfl rfl rfl rfl rfl rfl rfl fun x1 x1b => ?_
    refine Rp rfl rfl rfl rfl ?_
    refine rw_appendL EPlace [] l (b := x1b) .sq (fun _ _ => .inl ⟨_, rfl⟩) (guard_none rfl) rfl rfl rfl rfl rfl rfl rfl (fun _ _ => Uo) rfl rfl rfl rfl rfl rfl rfl (reads_rdL Mm) (by simpa using hlen) fun x2 x2b => ?_
    refine Rp rfl rfl rfl rfl ?_
    refine rw_nil ?_
    (repeat refine cw_seq ?_); refine cw_ret ?_
    exact ⟨(x2, x2b), _, (.cons (.tmp rfl) .nil), rfl, .nil _, .nil _, Sp⟩

theorem slices_Clone_Op_spec (x : SlV) (l : List Op) : DoesG Try.prog 155 [x.val l.length] [RdL EOp x l] ⟨[], []⟩ (fun (X : SlV × Option Nat) => X.1.val l.length) (fun (_ : SlV × Option Nat) => []) (fun (X : SlV × Option Nat) => ⟨[], [ownL EOp 33 X.1 X.2 l]⟩) := by
  refine does_ofG tab_ok Try.func155 rfl Try.ntmps155 Try.results155 rfl inferInstance (fun _ => inferInstance) fun C => ?_
  refine cw_pure (φ := l.length * EOp.by_ ≤ 140737488355328) [RdL EOp x l] Sm (fun M w h => (allF1 h).len) fun hlen => ?_
  (repeat refine cw_seq ?_); refine cw_region ?_
  refine Rp rfl rfl rfl rfl ?_
  refine rw_nil ?_
  (repeat refine cw_seq ?_); refine cw_region ?_
  refine Rp rfl rfl rfl rfl ?_
  refine rw_q rfl rfl rfl (q_eqnil rfl rfl (fun _ => rfl) rfl) ?_
  refine rw_nil ?_
  (repeat refine cw_seq ?_); refine cw_cond rfl rfl (fun hc0 => ?_) (fun hc0 => ?_)
  · refine cw_pure [RdL EOp x l] Sm (fun M w h => (allF1 h).nil_of hc0) fun hnil => ?_
    subst hnil
    refine cw_le (le_nilL EOp 33) ?_
    (repeat refine cw_seq ?_); refine cw_region ?_
    refine Rp rfl rfl rfl rfl ?_
    refine rw_nil ?_
    (repeat refine cw_seq ?_); refine cw_ret ?_
    exact ⟨(⟨none, 0⟩, none), _, (.cons (.tmp rfl) .nil), rfl, .nil _, .nil _, Sp⟩
  · (repeat refine cw_seq ?_); refine cw_skip ?_
    (repeat refine cw_seq ?_); refine cw_region ?_
    refine rw_bsliceL EOp [] .sq (guard_none rfl) rfl rfl rfl rfl rfl rfl rfl rfl rfl rfl rfl rfl rfl rfl rfl fun x1 x1b => ?_
    refine Rp rfl rfl rfl rfl ?_
    refine rw_appendL EOp [] l (b := x1b) .sq (fun _ _ => .inl ⟨_, rfl⟩) (guard_none rfl) rfl rfl rfl rfl rfl rfl rfl (fun _ _ => Uo) rfl rfl rfl rfl rfl rfl rfl (reads_rdL Mm) (by simpa using hlen) fun x2 x2b => ?_
    refine Rp rfl rfl rfl rfl ?_
    refine rw_nil ?_
    (repeat refine cw_seq ?_); refine cw_ret ?_
    exact ⟨(x2, x2b), _, (.cons (.tmp rfl) .nil), rfl, .nil _, .nil _, Sp⟩

theorem slices_Clone_Step_spec (x : SlV) (l : List Step) : DoesG Try.prog 209 [x.val l.length] [RdL EStep x l] ⟨[], []⟩ (fun (X : SlV × Option Nat) => X.1.val l.length) (fun (_ : SlV × Option Nat) => []) (fun (X : SlV × Option Nat) => ⟨[], [ownL EStep 37 X.1 X.2 l]⟩) := by
  refine does_ofG tab_ok Try.func209 rfl Try.ntmps209 Try.results209 rfl inferInstance (fun _ => inferInstance) fun C => ?_
  refine cw_pure (φ := l.length * EStep.by_ ≤ 140737488355328) [RdL EStep x l] Sm (fun M w h => (allF1 h).len) fun hlen => ?_
  (repeat refine cw_seq ?_); refine cw_region ?_
  refine Rp rfl rfl rfl rfl ?_
  refine rw_nil ?_
  (repeat refine cw_seq ?_); refine cw_region ?_
  refine Rp rfl rfl rfl rfl ?_
  refine rw_q rfl rfl rfl (q_eqnil rfl rfl (fun _ => rfl) rfl) ?_
  refine rw_nil ?_
  (repeat refine cw_seq ?_); refine cw_cond rfl rfl (fun hc0 => ?_) (fun hc0 => ?_)
  · refine cw_pure [RdL EStep x l] Sm (fun M w h => (allF1 h).nil_of hc0) fun hnil => ?_
    subst hnil
    refine cw_le (le_nilL EStep 37) ?_
    (repeat refine cw_seq ?_); refine cw_region ?_
    refine Rp rfl rfl rfl rfl ?_
    refine rw_nil ?_
    (repeat refine cw_seq ?_); refine cw_ret ?_
    exact ⟨(⟨none, 0⟩, none), _, (.cons (.tmp rfl) .nil), rfl, .nil _, .nil _, Sp⟩
  · (repeat refine cw_seq ?_); refine cw_skip ?_
    (repeat refine cw_seq ?_); refine cw_region ?_
    refine rw_bsliceL EStep [] .sq (guard_none rfl) rfl rfl rfl rfl rfl rfl rfl rfl rfl rfl rfl rfl rfl rfl rfl fun x1 x1b => ?_
    refine Rp rfl rfl rfl rfl ?_
    refine rw_appendL EStep [] l (b := x1b) .sq (fun _ _ => .inl ⟨_, rfl⟩) (guard_none rfl) rfl rfl rfl rfl rfl rfl rfl (fun _ _ => Uo) rfl rfl rfl rfl rfl rfl rfl (reads_rdL Mm) (by simpa using hlen) fun x2 x2b => ?_
    refine Rp rfl rfl rfl rfl ?_
    refine rw_nil ?_
    (repeat refine cw_seq ?_); refine cw_ret ?_
    exact ⟨(x2, x2b), _, (.cons (.tmp rfl) .nil), rfl, .nil _, .nil _, Sp⟩

theorem cat_step {α : Type} [Inhabited α] (ls : List (List α)) {k : Nat} (h : k < ls.length) : (ls.take (k + 1)).flatten = (ls.take k).flatten ++ gt ls k ∧ (ls.take k).flatten.length + (gt ls k).length ≤ ls.flatten.length := by
  have h1 : (ls.take (k + 1)).flatten = (ls.take k).flatten ++ gt ls k := by
    rw [gt_eq h, ← List.take_append_getElem h, List.flatten_append]; simp only [List.flatten_cons, List.flatten_nil, List.append_nil]
  refine ⟨h1, ?_⟩
  have h2 : ls.flatten = (ls.take (k + 1)).flatten ++ (ls.drop (k + 1)).flatten := by rw [← List.flatten_append, List.take_append_drop]
  rw [h2, h1]; simp only [List.length_append]; omega

def slices_Equal_Int_L0 (s2 : List Int) : List Int → Nat → Bool
  | [], n1 => true
  | pn1 :: rn1, n1 => (bif (pn1 != (gt s2 n1)) then false else (slices_Equal_Int_L0 s2 rn1 (n1 + 1)))
def slices_Equal_Int (s1 : List Int) (s2 : List Int) : Bool :=
  (bif ((s1.length : Int) != (s2.length : Int)) then false else (slices_Equal_Int_L0 s2 s1 0))
theorem slices_Equal_Int_spec (y1 : SlV) (s1 : List Int) (y2 : SlV) (s2 : List Int) : Does Try.prog 27 [y1.val s1.length, y2.val s2.length] [RdL EInt y1 s1, RdL EInt y2 s2] (fun (_ : Unit) => .bool (slices_Equal_Int s1 s2)) (fun (_ : Unit) => []) := by
  refine does_of tab_ok Try.func27 rfl Try.ntmps27 Try.results27 rfl inferInstance (fun _ => inferInstance) fun C => ?_
  refine cw_pure (φ := s1.length * 8 ≤ 140737488355328) [RdL EInt y1 s1] Sm (fun M w h => (allF1 h).len) fun hlen1 => ?_
  refine cw_pure (φ := s2.length * 8 ≤ 140737488355328) [RdL EInt y2 s2] Sm (fun M w h => (allF1 h).len) fun hlen2 => ?_
  (repeat refine cw_seq ?_); refine cw_region ?_
  refine Rp rfl rfl rfl rfl ?_
  refine rw_nil ?_
  (repeat refine cw_seq ?_); refine cw_region ?_
  refine Rp rfl rfl rfl rfl ?_
  refine Rp rfl rfl rfl rfl ?_
  refine Rp rfl rfl rfl rfl ?_
  refine Rp rfl rfl rfl rfl ?_
  refine Rp rfl rfl rfl rfl ?_
  refine rw_nil ?_
  (repeat refine cw_seq ?_); refine cw_cond (b := ((s1.length : Int) != (s2.length : Int))) rfl rfl (fun hc1 => ?_) (fun hc1 => ?_)
  · skip
    have hc1p := bne_iff_ne.1 hc1
    (repeat refine cw_seq ?_); refine cw_region ?_
    refine Rp rfl rfl rfl rfl ?_
    refine rw_nil ?_
    (repeat refine cw_seq ?_)
    have hr1 : (slices_Equal_Int s1 s2) = false := by simp only [slices_Equal_Int, hc1, cond_true, cond_false]
    refine cw_ret ?_
    rw [hr1]
    exact ⟨(), _, (.cons (.tmp rfl) .nil), rfl, Sm, .nil _, .nil _⟩
  · skip
    have hc1p := eq_of_bne_false hc1
    (repeat refine cw_seq ?_); refine cw_skip ?_
    (repeat refine cw_seq ?_); refine cw_region ?_
    refine Rp rfl rfl rfl rfl ?_
    refine Rp rfl rfl rfl rfl ?_
    refine Rp rfl rfl rfl rfl ?_
    refine rw_nil ?_
    (repeat refine cw_seq ?_); refine cw_block ?_
    (repeat refine cw_seq ?_); refine cw_loopS [0, 1, 4, 12] [] (fun (n1 : Nat) => [(13, .v (.int .i64 (n1 : Int)))]) (fun (n1 : Nat) => []) (fun (n1 : Nat) => []) (fun (n1 : Nat) => []) (fun (n1 : Nat) => (n1 ≤ s1.length) ∧ (slices_Equal_Int_L0 s2 (s1.drop n1) n1) = (slices_Equal_Int s1 s2)) (fun (n1 : Nat) => s1.length - n1) 0 (.cons rfl (.cons rfl (.cons rfl (.cons rfl (.nil _))))) (.nil) ⟨Nat.zero_le _, (by simp only [slices_Equal_Int, hc1, cond_true, cond_false] : (slices_Equal_Int s1 s2) = (slices_Equal_Int_L0 s2 s1 0)).symm⟩ Le4 ?_
    rintro n1 ⟨hkn1, hf1⟩
    simp only [List.cons_append, List.nil_append]
    (repeat refine cw_seq ?_); refine cw_region ?_
    refine Rp rfl rfl rfl rfl ?_
    refine rw_nil ?_
    (repeat refine cw_seq ?_); refine cw_cond (b := decide ((n1 : Int) < (s1.length : Int))) rfl rfl (fun hc2 => ?_) (fun hc2 => ?_)
    · skip
      have hlt0 : n1 < s1.length := Int.ofNat_lt.1 (of_decide_eq_true hc2)
      (repeat refine cw_seq ?_); refine cw_skip ?_
      (repeat refine cw_seq ?_); refine cw_block ?_
      (repeat refine cw_seq ?_); refine cw_region ?_
      refine Rp rfl rfl rfl rfl ?_
      refine Rp rfl rfl rfl rfl ?_
      refine rw_nil ?_
      (repeat refine cw_seq ?_); refine cw_regionA (fun _ => some []) ?_
      refine ra_q (.ab (i := 0) (js := [1, 4, 5, 6, 7]) [2, 3, 8] rfl Kr Kr Kr Kr Kr) (SplitB.all _) (by simp) rfl rfl rfl (q_pev rfl (fun _ => rfl)) ?_
      refine ra_q (.ab (i := 1) (js := [4, 5, 6, 7]) [2, 3, 8] rfl Kr Kr Kr Kr Kr) (SplitB.all _) (by simp) rfl rfl rfl (q_pev rfl (fun _ => rfl)) ?_
      refine ra_q (.ab (i := 2) (js := [4, 5, 6, 7]) [3, 8] rfl Kr Kr Kr Kr Kr) (SplitB.all _) (by simp) rfl rfl rfl (q_idx EInt n1 rfl rfl (fun _ => rfl) rfl (fun _ => rfl) rfl rfl rfl Mm rfl (fun _ => rfl) (fun _ => by first | assumption | omega)) ?_
      refine ra_q (.an (i := 3) (js := [4, 5, 6, 7]) rfl Kr Kr Kr Kr) (SplitB.all _) (by simp) rfl rfl rfl (q_le1 EInt rfl rfl (fun _ => rfl) rfl rfl Mm (fun _ => by first | assumption | omega) rfl) ?_
      refine ra_q (.ab (i := 4) (js := [5]) [6, 7, 8] rfl Kr Kr Kr Kr Kr) (SplitB.all _) (by simp) rfl rfl rfl (q_pev rfl (fun _ => rfl)) ?_
      refine ra_q (.ab (i := 5) (js := []) [6, 7, 8] rfl Kr Kr Kr Kr Kr) (SplitB.all _) (by simp) rfl rfl rfl (q_pev rfl (fun _ => rfl)) ?_
      refine ra_q (.ab (i := 6) (js := []) [7, 8] rfl Kr Kr Kr Kr Kr) (SplitB.all _) (by simp) rfl rfl rfl (q_idx EInt n1 rfl rfl (fun _ => rfl) rfl (fun _ => rfl) rfl rfl rfl Mm rfl (fun _ => rfl) (fun _ => by first | assumption | omega)) ?_
      refine ra_q (.an (i := 7) (js := []) rfl Kr Kr Kr Kr) (SplitB.all _) (by simp) rfl rfl rfl (q_le1 EInt rfl rfl (fun _ => rfl) rfl rfl Mm (fun _ => by first | assumption | omega) rfl) ?_
      refine ra_q (.an (i := 8) (js := []) rfl Kr Kr Kr Kr) (SplitB.all _) (by simp) rfl rfl rfl (q_pev rfl (fun _ => rfl)) ?_
      refine ra_nil Kr ?_
      (repeat refine cw_seq ?_); refine cw_cond (b := ((gt s1 n1) != (gt s2 n1))) rfl rfl (fun hc3 => ?_) (fun hc3 => ?_)
      · skip
        have hc3p := bne_iff_ne.1 hc3
        (repeat refine cw_seq ?_); refine cw_region ?_
        refine Rp rfl rfl rfl rfl ?_
        refine rw_nil ?_
        (repeat refine cw_seq ?_)
        have hr2 : (slices_Equal_Int s1 s2) = false := by rw [← hf1, drop_gt hlt0]; simp only [slices_Equal_Int_L0, hc3, cond_true, cond_false]
        refine cw_ret ?_
        rw [hr2]
        exact ⟨(), _, (.cons (.tmp rfl) .nil), rfl, Sm, .nil _, .nil _⟩
      · skip
        have hc3p := eq_of_bne_false hc3
        (repeat refine cw_seq ?_); refine cw_skip ?_
        (repeat refine cw_seq ?_); refine cw_region ?_
        refine rw_q rfl rfl rfl (q_add rfl rfl (fun _ => rfl) rfl (fun _ => rfl) (fun _ => by omega)) ?_
        refine Rp rfl rfl rfl rfl ?_
        refine rw_nil ?_
        refine ⟨(n1 + 1), ⟨hlt0, (by rw [← hf1, drop_gt hlt0]; simp only [slices_Equal_Int_L0, hc3, cond_true, cond_false] : (slices_Equal_Int s1 s2) = (slices_Equal_Int_L0 s2 (s1.drop (n1 + 1)) (n1 + 1))).symm⟩, (by simp only []; omega), Le4⟩
    · skip
      have hge0 : s1.length ≤ n1 := by have := of_decide_eq_false hc2; omega
      (repeat refine cw_seq ?_); refine cw_exit ?_
      (repeat refine cw_seq ?_); refine cw_region ?_
      refine Rp rfl rfl rfl rfl ?_
      refine rw_nil ?_
      (repeat refine cw_seq ?_)
      have hr3 : (slices_Equal_Int s1 s2) = true := by rw [← hf1, List.drop_of_length_le hge0]; simp only [slices_Equal_Int_L0, cond_true, cond_false]
      refine cw_ret ?_
      rw [hr3]
      exact ⟨(), _, (.cons (.tmp rfl) .nil), rfl, Sm, .nil _, .nil _⟩
theorem slices_Equal_Int_eq (a b : List Int) : slices_Equal_Int a b = decide (a = b) := by
  have key : ∀ (l : List Int) (k : Nat), l.length + k = b.length → slices_Equal_Int_L0 b l k = decide (l = b.drop k) := by
    intro l
    induction l with
    | nil => intro k hk; rw [slices_Equal_Int_L0, List.drop_of_length_le (by simp at hk; omega)]; simp
    | cons p r ih =>
      intro k hk
      simp only [List.length_cons] at hk
      rw [slices_Equal_Int_L0, ih (k + 1) (by omega), drop_gt (by omega : k < b.length)]
      by_cases h : p = gt b k <;> simp [h]
  rw [slices_Equal_Int]
  by_cases h : a.length = b.length
  · rw [key a 0 (by omega)]; simp [h]
  · have : a ≠ b := fun e => h (by rw [e])
    simp [this, Int.ofNat_inj, h]
theorem slices_Equal_Int_spec' (y1 y2 : SlV) (a b : List Int) : Does Try.prog 27 [y1.val a.length, y2.val b.length] [RdL EInt y1 a, RdL EInt y2 b] (fun (_ : Unit) => .bool (decide (a = b))) (fun (_ : Unit) => []) := by
  have := slices_Equal_Int_spec y1 a y2 b
  rw [slices_Equal_Int_eq] at this
  exact this

def slices_Equal_Place_L0 (s2 : List Place) : List Place → Nat → Bool
  | [], n1 => true
  | pn1 :: rn1, n1 => (bif (!(decide (pn1 = (gt s2 n1)))) then false else (slices_Equal_Place_L0 s2 rn1 (n1 + 1)))
def slices_Equal_Place (s1 : List Place) (s2 : List Place) : Bool :=
  (bif ((s1.length : Int) != (s2.length : Int)) then false else (slices_Equal_Place_L0 s2 s1 0))
theorem slices_Equal_Place_spec (y1 : SlV) (s1 : List Place) (y2 : SlV) (s2 : List Place) : Does Try.prog 34 [y1.val s1.length, y2.val s2.length] [RdL EPlace y1 s1, RdL EPlace y2 s2] (fun (_ : Unit) => .bool (slices_Equal_Place s1 s2)) (fun (_ : Unit) => []) := by
  refine does_of tab_ok Try.func34 rfl Try.ntmps34 Try.results34 rfl inferInstance (fun _ => inferInstance) fun C => ?_
  refine cw_pure (φ := s1.length * 24 ≤ 140737488355328) [RdL EPlace y1 s1] Sm (fun M w h => (allF1 h).len) fun hlen1 => ?_
  refine cw_pure (φ := s2.length * 24 ≤ 140737488355328) [RdL EPlace y2 s2] Sm (fun M w h => (allF1 h).len) fun hlen2 => ?_
  (repeat refine cw_seq ?_); refine cw_region ?_
  refine Rp rfl rfl rfl rfl ?_
  refine rw_nil ?_
  (repeat refine cw_seq ?_); refine cw_region ?_
  refine Rp rfl rfl rfl rfl ?_
  refine Rp rfl rfl rfl rfl ?_
  refine Rp rfl rfl rfl rfl ?_
  refine Rp rfl rfl rfl rfl ?_
  refine Rp rfl rfl rfl rfl ?_
  refine rw_nil ?_
  (repeat refine cw_seq ?_); refine cw_cond (b := ((s1.length : Int) != (s2.length : Int))) rfl rfl (fun hc1 => ?_) (fun hc1 => ?_)
  · skip
    have hc1p := bne_iff_ne.1 hc1
    (repeat refine cw_seq ?_); refine cw_region ?_
    refine Rp rfl rfl rfl rfl ?_
    refine rw_nil ?_
    (repeat refine cw_seq ?_)
    have hr1 : (slices_Equal_Place s1 s2) = false := by simp only [slices_Equal_Place, hc1, cond_true, cond_false]
    refine cw_ret ?_
    rw [hr1]
    exact ⟨(), _, (.cons (.tmp rfl) .nil), rfl, Sm, .nil _, .nil _⟩
  · skip
    have hc1p := eq_of_bne_false hc1
    (repeat refine cw_seq ?_); refine cw_skip ?_
    (repeat refine cw_seq ?_); refine cw_region ?_
    refine Rp rfl rfl rfl rfl ?_
    refine Rp rfl rfl rfl rfl ?_
    refine Rp rfl rfl rfl rfl ?_
    refine rw_nil ?_
    (repeat refine cw_seq ?_); refine cw_block ?_
    (repeat refine cw_seq ?_); refine cw_loopS [0, 1, 4, 12] [] (fun (n1 : Nat) => [(13, .v (.int .i64 (n1 : Int)))]) (fun (n1 : Nat) => []) (fun (n1 : Nat) => []) (fun (n1 : Nat) => []) (fun (n1 : Nat) => (n1 ≤ s1.length) ∧ (slices_Equal_Place_L0 s2 (s1.drop n1) n1) = (slices_Equal_Place s1 s2)) (fun (n1 : Nat) => s1.length - n1) 0 (.cons rfl (.cons rfl (.cons rfl (.cons rfl (.nil _))))) (.nil) ⟨Nat.zero_le _, (by simp only [slices_Equal_Place, hc1, cond_true, cond_false] : (slices_Equal_Place s1 s2) = (slices_Equal_Place_L0 s2 s1 0)).symm⟩ Le4 ?_
    rintro n1 ⟨hkn1, hf1⟩
    simp only [List.cons_append, List.nil_append]
    (repeat refine cw_seq ?_); refine cw_region ?_
    refine Rp rfl rfl rfl rfl ?_
    refine rw_nil ?_
    (repeat refine cw_seq ?_); refine cw_cond (b := decide ((n1 : Int) < (s1.length : Int))) rfl rfl (fun hc2 => ?_) (fun hc2 => ?_)
    · skip
      have hlt0 : n1 < s1.length := Int.ofNat_lt.1 (of_decide_eq_true hc2)
      (repeat refine cw_seq ?_); refine cw_skip ?_
      (repeat refine cw_seq ?_); refine cw_block ?_
      (repeat refine cw_seq ?_); refine cw_region ?_
      refine Rp rfl rfl rfl rfl ?_
      refine Rp rfl rfl rfl rfl ?_
      refine rw_nil ?_
      (repeat refine cw_seq ?_); refine cw_regionA (fun _ => some []) ?_
      refine ra_q (.ab (i := 0) (js := [1, 4, 5, 6, 7]) [2, 3, 8] rfl Kr Kr Kr Kr Kr) (SplitB.all _) (by simp) rfl rfl rfl (q_pev rfl (fun _ => rfl)) ?_
      refine ra_q (.ab (i := 1) (js := [4, 5, 6, 7]) [2, 3, 8] rfl Kr Kr Kr Kr Kr) (SplitB.all _) (by simp) rfl rfl rfl (q_pev rfl (fun _ => rfl)) ?_
      refine ra_q (.ab (i := 2) (js := [4, 5, 6, 7]) [3, 8] rfl Kr Kr Kr Kr Kr) (SplitB.all _) (by simp) rfl rfl rfl (q_idx EPlace n1 rfl rfl (fun _ => rfl) rfl (fun _ => rfl) rfl rfl rfl Mm rfl (fun _ => rfl) (fun _ => by first | assumption | omega)) ?_
      refine ra_q (.an (i := 3) (js := [4, 5, 6, 7]) rfl Kr Kr Kr Kr) (SplitB.all _) (by simp) rfl rfl rfl (q_leA EPlace rfl rfl (fun _ => rfl) rfl rfl Mm (fun _ => by first | assumption | omega)) ?_
      refine ra_q (.ab (i := 4) (js := [5]) [6, 7, 8] rfl Kr Kr Kr Kr Kr) (SplitB.all _) (by simp) rfl rfl rfl (q_pev rfl (fun _ => rfl)) ?_
      refine ra_q (.ab (i := 5) (js := []) [6, 7, 8] rfl Kr Kr Kr Kr Kr) (SplitB.all _) (by simp) rfl rfl rfl (q_pev rfl (fun _ => rfl)) ?_
      refine ra_q (.ab (i := 6) (js := []) [7, 8] rfl Kr Kr Kr Kr Kr) (SplitB.all _) (by simp) rfl rfl rfl (q_idx EPlace n1 rfl rfl (fun _ => rfl) rfl (fun _ => rfl) rfl rfl rfl Mm rfl (fun _ => rfl) (fun _ => by first | assumption | omega)) ?_
      refine ra_q (.an (i := 7) (js := []) rfl Kr Kr Kr Kr) (SplitB.all _) (by simp) rfl rfl rfl (q_leA EPlace rfl rfl (fun _ => rfl) rfl rfl Mm (fun _ => by first | assumption | omega)) ?_
      refine ra_q (.an (i := 8) (js := []) rfl Kr Kr Kr Kr) (SplitB.all _) (by simp) rfl rfl rfl (q_neE eqT_Place (flatEq_Place (gt s1 n1) (gt s2 n1)) rfl rfl (fun _ => rfl) rfl (fun _ => rfl) rfl rfl) ?_
      refine ra_nil Kr ?_
      (repeat refine cw_seq ?_); refine cw_cond (b := (!(decide ((gt s1 n1) = (gt s2 n1))))) rfl rfl (fun hc3 => ?_) (fun hc3 => ?_)
      · skip
        (repeat refine cw_seq ?_); refine cw_region ?_
        refine Rp rfl rfl rfl rfl ?_
        refine rw_nil ?_
        (repeat refine cw_seq ?_)
        have hr2 : (slices_Equal_Place s1 s2) = false := by rw [← hf1, drop_gt hlt0]; simp only [slices_Equal_Place_L0, hc3, cond_true, cond_false]
        refine cw_ret ?_
        rw [hr2]
        exact ⟨(), _, (.cons (.tmp rfl) .nil), rfl, Sm, .nil _, .nil _⟩
      · skip
        (repeat refine cw_seq ?_); refine cw_skip ?_
        (repeat refine cw_seq ?_); refine cw_region ?_
        refine rw_q rfl rfl rfl (q_add rfl rfl (fun _ => rfl) rfl (fun _ => rfl) (fun _ => by omega)) ?_
        refine Rp rfl rfl rfl rfl ?_
        refine rw_nil ?_
        refine ⟨(n1 + 1), ⟨hlt0, (by rw [← hf1, drop_gt hlt0]; simp only [slices_Equal_Place_L0, hc3, cond_true, cond_false] : (slices_Equal_Place s1 s2) = (slices_Equal_Place_L0 s2 (s1.drop (n1 + 1)) (n1 + 1))).symm⟩, (by simp only []; omega), Le4⟩
    · skip
      have hge0 : s1.length ≤ n1 := by have := of_decide_eq_false hc2; omega
      (repeat refine cw_seq ?_); refine cw_exit ?_
      (repeat refine cw_seq ?_); refine cw_region ?_
      refine Rp rfl rfl rfl rfl ?_
      refine rw_nil ?_
      (repeat refine cw_seq ?_)
      have hr3 : (slices_Equal_Place s1 s2) = true := by rw [← hf1, List.drop_of_length_le hge0]; simp only [slices_Equal_Place_L0, cond_true, cond_false]
      refine cw_ret ?_
      rw [hr3]
      exact ⟨(), _, (.cons (.tmp rfl) .nil), rfl, Sm, .nil _, .nil _⟩
theorem slices_Equal_Place_eq (a b : List Place) : slices_Equal_Place a b = decide (a = b) := by
  have key : ∀ (l : List Place) (k : Nat), l.length + k = b.length → slices_Equal_Place_L0 b l k = decide (l = b.drop k) := by
    intro l
    induction l with
    | nil => intro k hk; rw [slices_Equal_Place_L0, List.drop_of_length_le (by simp at hk; omega)]; simp
    | cons p r ih =>
      intro k hk
      simp only [List.length_cons] at hk
      rw [slices_Equal_Place_L0, ih (k + 1) (by omega), drop_gt (by omega : k < b.length)]
      by_cases h : p = gt b k <;> simp [h]
  rw [slices_Equal_Place]
  by_cases h : a.length = b.length
  · rw [key a 0 (by omega)]; simp [h]
  · have : a ≠ b := fun e => h (by rw [e])
    simp [this, Int.ofNat_inj, h]
theorem slices_Equal_Place_spec' (y1 y2 : SlV) (a b : List Place) : Does Try.prog 34 [y1.val a.length, y2.val b.length] [RdL EPlace y1 a, RdL EPlace y2 b] (fun (_ : Unit) => .bool (decide (a = b))) (fun (_ : Unit) => []) := by
  have := slices_Equal_Place_spec y1 a y2 b
  rw [slices_Equal_Place_eq] at this
  exact this

def slices_Equal_Op_L0 (s2 : List Op) : List Op → Nat → Bool
  | [], n1 => true
  | pn1 :: rn1, n1 => (bif (!(decide (pn1 = (gt s2 n1)))) then false else (slices_Equal_Op_L0 s2 rn1 (n1 + 1)))
def slices_Equal_Op (s1 : List Op) (s2 : List Op) : Bool :=
  (bif ((s1.length : Int) != (s2.length : Int)) then false else (slices_Equal_Op_L0 s2 s1 0))
theorem slices_Equal_Op_spec (y1 : SlV) (s1 : List Op) (y2 : SlV) (s2 : List Op) : Does Try.prog 92 [y1.val s1.length, y2.val s2.length] [RdL EOp y1 s1, RdL EOp y2 s2] (fun (_ : Unit) => .bool (slices_Equal_Op s1 s2)) (fun (_ : Unit) => []) := by
  refine does_of tab_ok Try.func92 rfl Try.ntmps92 Try.results92 rfl inferInstance (fun _ => inferInstance) fun C => ?_
  refine cw_pure (φ := s1.length * 56 ≤ 140737488355328) [RdL EOp y1 s1] Sm (fun M w h => (allF1 h).len) fun hlen1 => ?_
  refine cw_pure (φ := s2.length * 56 ≤ 140737488355328) [RdL EOp y2 s2] Sm (fun M w h => (allF1 h).len) fun hlen2 => ?_
  (repeat refine cw_seq ?_); refine cw_region ?_
  refine Rp rfl rfl rfl rfl ?_
  refine rw_nil ?_
  (repeat refine cw_seq ?_); refine cw_region ?_
  refine Rp rfl rfl rfl rfl ?_
  refine Rp rfl rfl rfl rfl ?_
  refine Rp rfl rfl rfl rfl ?_
  refine Rp rfl rfl rfl rfl ?_
  refine Rp rfl rfl rfl rfl ?_
  refine rw_nil ?_
  (repeat refine cw_seq ?_); refine cw_cond (b := ((s1.length : Int) != (s2.length : Int))) rfl rfl (fun hc1 => ?_) (fun hc1 => ?_)
  · skip
    have hc1p := bne_iff_ne.1 hc1
    (repeat refine cw_seq ?_); refine cw_region ?_
    refine Rp rfl rfl rfl rfl ?_
    refine rw_nil ?_
    (repeat refine cw_seq ?_)
    have hr1 : (slices_Equal_Op s1 s2) = false := by simp only [slices_Equal_Op, hc1, cond_true, cond_false]
    refine cw_ret ?_
    rw [hr1]
    exact ⟨(), _, (.cons (.tmp rfl) .nil), rfl, Sm, .nil _, .nil _⟩
  · skip
    have hc1p := eq_of_bne_false hc1
    (repeat refine cw_seq ?_); refine cw_skip ?_
    (repeat refine cw_seq ?_); refine cw_region ?_
    refine Rp rfl rfl rfl rfl ?_
    refine Rp rfl rfl rfl rfl ?_
    refine Rp rfl rfl rfl rfl ?_
    refine rw_nil ?_
    (repeat refine cw_seq ?_); refine cw_block ?_
    (repeat refine cw_seq ?_); refine cw_loopS [0, 1, 4, 12] [] (fun (n1 : Nat) => [(13, .v (.int .i64 (n1 : Int)))]) (fun (n1 : Nat) => []) (fun (n1 : Nat) => []) (fun (n1 : Nat) => []) (fun (n1 : Nat) => (n1 ≤ s1.length) ∧ (slices_Equal_Op_L0 s2 (s1.drop n1) n1) = (slices_Equal_Op s1 s2)) (fun (n1 : Nat) => s1.length - n1) 0 (.cons rfl (.cons rfl (.cons rfl (.cons rfl (.nil _))))) (.nil) ⟨Nat.zero_le _, (by simp only [slices_Equal_Op, hc1, cond_true, cond_false] : (slices_Equal_Op s1 s2) = (slices_Equal_Op_L0 s2 s1 0)).symm⟩ Le4 ?_
    rintro n1 ⟨hkn1, hf1⟩
    simp only [List.cons_append, List.nil_append]
    (repeat refine cw_seq ?_); refine cw_region ?_
    refine Rp rfl rfl rfl rfl ?_
    refine rw_nil ?_
    (repeat refine cw_seq ?_); refine cw_cond (b := decide ((n1 : Int) < (s1.length : Int))) rfl rfl (fun hc2 => ?_) (fun hc2 => ?_)
    · skip
      have hlt0 : n1 < s1.length := Int.ofNat_lt.1 (of_decide_eq_true hc2)
      (repeat refine cw_seq ?_); refine cw_skip ?_
      (repeat refine cw_seq ?_); refine cw_block ?_
      (repeat refine cw_seq ?_); refine cw_region ?_
      refine Rp rfl rfl rfl rfl ?_
      refine Rp rfl rfl rfl rfl ?_
      refine rw_nil ?_
      (repeat refine cw_seq ?_); refine cw_regionA (fun _ => some []) ?_
      refine ra_q (.ab (i := 0) (js := [1, 4, 5, 6, 7]) [2, 3, 8] rfl Kr Kr Kr Kr Kr) (SplitB.all _) (by simp) rfl rfl rfl (q_pev rfl (fun _ => rfl)) ?_
      refine ra_q (.ab (i := 1) (js := [4, 5, 6, 7]) [2, 3, 8] rfl Kr Kr Kr Kr Kr) (SplitB.all _) (by simp) rfl rfl rfl (q_pev rfl (fun _ => rfl)) ?_
      refine ra_q (.ab (i := 2) (js := [4, 5, 6, 7]) [3, 8] rfl Kr Kr Kr Kr Kr) (SplitB.all _) (by simp) rfl rfl rfl (q_idx EOp n1 rfl rfl (fun _ => rfl) rfl (fun _ => rfl) rfl rfl rfl Mm rfl (fun _ => rfl) (fun _ => by first | assumption | omega)) ?_
      refine ra_q (.an (i := 3) (js := [4, 5, 6, 7]) rfl Kr Kr Kr Kr) (SplitB.all _) (by simp) rfl rfl rfl (q_leA EOp rfl rfl (fun _ => rfl) rfl rfl Mm (fun _ => by first | assumption | omega)) ?_
      refine ra_q (.ab (i := 4) (js := [5]) [6, 7, 8] rfl Kr Kr Kr Kr Kr) (SplitB.all _) (by simp) rfl rfl rfl (q_pev rfl (fun _ => rfl)) ?_
      refine ra_q (.ab (i := 5) (js := []) [6, 7, 8] rfl Kr Kr Kr Kr Kr) (SplitB.all _) (by simp) rfl rfl rfl (q_pev rfl (fun _ => rfl)) ?_
      refine ra_q (.ab (i := 6) (js := []) [7, 8] rfl Kr Kr Kr Kr Kr) (SplitB.all _) (by simp) rfl rfl rfl (q_idx EOp n1 rfl rfl (fun _ => rfl) rfl (fun _ => rfl) rfl rfl rfl Mm rfl (fun _ => rfl) (fun _ => by first | assumption | omega)) ?_
      refine ra_q (.an (i := 7) (js := []) rfl Kr Kr Kr Kr) (SplitB.all _) (by simp) rfl rfl rfl (q_leA EOp rfl rfl (fun _ => rfl) rfl rfl Mm (fun _ => by first | assumption | omega)) ?_
      refine ra_q (.an (i := 8) (js := []) rfl Kr Kr Kr Kr) (SplitB.all _) (by simp) rfl rfl rfl (q_neE eqT_Op (flatEq_Op (gt s1 n1) (gt s2 n1)) rfl rfl (fun _ => rfl) rfl (fun _ => rfl) rfl rfl) ?_
      refine ra_nil Kr ?_
      (repeat refine cw_seq ?_); refine cw_cond (b := (!(decide ((gt s1 n1) = (gt s2 n1))))) rfl rfl (fun hc3 => ?_) (fun hc3 => ?_)
      · skip
        (repeat refine cw_seq ?_); refine cw_region ?_
        refine Rp rfl rfl rfl rfl ?_
        refine rw_nil ?_
        (repeat refine cw_seq ?_)
        have hr2 : (slices_Equal_Op s1 s2) = false := by rw [← hf1, drop_gt hlt0]; simp only [slices_Equal_Op_L0, hc3, cond_true, cond_false]
        refine cw_ret ?_
        rw [hr2]
        exact ⟨(), _, (.cons (.tmp rfl) .nil), rfl, Sm, .nil _, .nil _⟩
      · skip
        (repeat refine cw_seq ?_); refine cw_skip ?_
        (repeat refine cw_seq ?_); refine cw_region ?_
        refine rw_q rfl rfl rfl (q_add rfl rfl (fun _ => rfl) rfl (fun _ => rfl) (fun _ => by omega)) ?_
        refine Rp rfl rfl rfl rfl ?_
        refine rw_nil ?_
        refine ⟨(n1 + 1), ⟨hlt0, (by rw [← hf1, drop_gt hlt0]; simp only [slices_Equal_Op_L0, hc3, cond_true, cond_false] : (slices_Equal_Op s1 s2) = (slices_Equal_Op_L0 s2 (s1.drop (n1 + 1)) (n1 + 1))).symm⟩, (by simp only []; omega), Le4⟩
    · skip
      have hge0 : s1.length ≤ n1 := by have := of_decide_eq_false hc2; omega
      (repeat refine cw_seq ?_); refine cw_exit ?_
      (repeat refine cw_seq ?_); refine cw_region ?_
      refine Rp rfl rfl rfl rfl ?_
      refine rw_nil ?_
      (repeat refine cw_seq ?_)
      have hr3 : (slices_Equal_Op s1 s2) = true := by rw [← hf1, List.drop_of_length_le hge0]; simp only [slices_Equal_Op_L0, cond_true, cond_false]
      refine cw_ret ?_
      rw [hr3]
      exact ⟨(), _, (.cons (.tmp rfl) .nil), rfl, Sm, .nil _, .nil _⟩
theorem slices_Equal_Op_eq (a b : List Op) : slices_Equal_Op a b = decide (a = b) := by
  have key : ∀ (l : List Op) (k : Nat), l.length + k = b.length → slices_Equal_Op_L0 b l k = decide (l = b.drop k) := by
    intro l
    induction l with
    | nil => intro k hk; rw [slices_Equal_Op_L0, List.drop_of_length_le (by simp at hk; omega)]; simp
    | cons p r ih =>
      intro k hk
      simp only [List.length_cons] at hk
      rw [slices_Equal_Op_L0, ih (k + 1) (by omega), drop_gt (by omega : k < b.length)]
      by_cases h : p = gt b k <;> simp [h]
  rw [slices_Equal_Op]
  by_cases h : a.length = b.length
  · rw [key a 0 (by omega)]; simp [h]
  · have : a ≠ b := fun e => h (by rw [e])
    simp [this, Int.ofNat_inj, h]
theorem slices_Equal_Op_spec' (y1 y2 : SlV) (a b : List Op) : Does Try.prog 92 [y1.val a.length, y2.val b.length] [RdL EOp y1 a, RdL EOp y2 b] (fun (_ : Unit) => .bool (decide (a = b))) (fun (_ : Unit) => []) := by
  have := slices_Equal_Op_spec y1 a y2 b
  rw [slices_Equal_Op_eq] at this
  exact this

def slices_Equal_Step_L0 (s2 : List Step) : List Step → Nat → Bool
  | [], n1 => true
  | pn1 :: rn1, n1 => (bif (!(decide (pn1 = (gt s2 n1)))) then false else (slices_Equal_Step_L0 s2 rn1 (n1 + 1)))
def slices_Equal_Step (s1 : List Step) (s2 : List Step) : Bool :=
  (bif ((s1.length : Int) != (s2.length : Int)) then false else (slices_Equal_Step_L0 s2 s1 0))
theorem slices_Equal_Step_spec (y1 : SlV) (s1 : List Step) (y2 : SlV) (s2 : List Step) : Does Try.prog 78 [y1.val s1.length, y2.val s2.length] [RdL EStep y1 s1, RdL EStep y2 s2] (fun (_ : Unit) => .bool (slices_Equal_Step s1 s2)) (fun (_ : Unit) => []) := by
  refine does_of tab_ok Try.func78 rfl Try.ntmps78 Try.results78 rfl inferInstance (fun _ => inferInstance) fun C => ?_
  refine cw_pure (φ := s1.length * 88 ≤ 140737488355328) [RdL EStep y1 s1] Sm (fun M w h => (allF1 h).len) fun hlen1 => ?_
  refine cw_pure (φ := s2.length * 88 ≤ 140737488355328) [RdL EStep y2 s2] Sm (fun M w h => (allF1 h).len) fun hlen2 => ?_
  (repeat refine cw_seq ?_); refine cw_region ?_
  refine Rp rfl rfl rfl rfl ?_
  refine rw_nil ?_
  (repeat refine cw_seq ?_); refine cw_region ?_
  refine Rp rfl rfl rfl rfl ?_
  refine Rp rfl rfl rfl rfl ?_
  refine Rp rfl rfl rfl rfl ?_
  refine Rp rfl rfl rfl rfl ?_
  refine Rp rfl rfl rfl rfl ?_
  refine rw_nil ?_
  (repeat refine cw_seq ?_); refine cw_cond (b := ((s1.length : Int) != (s2.length : Int))) rfl rfl (fun hc1 => ?_) (fun hc1 => ?_)
  · skip
    have hc1p := bne_iff_ne.1 hc1
    (repeat refine cw_seq ?_); refine cw_region ?_
    refine Rp rfl rfl rfl rfl ?_
    refine rw_nil ?_
    (repeat refine cw_seq ?_)
    have hr1 : (slices_Equal_Step s1 s2) = false := by simp only [slices_Equal_Step, hc1, cond_true, cond_false]
    refine cw_ret ?_
    rw [hr1]
    exact ⟨(), _, (.cons (.tmp rfl) .nil), rfl, Sm, .nil _, .nil _⟩
  · skip
    have hc1p := eq_of_bne_false hc1
    (repeat refine cw_seq ?_); refine cw_skip ?_
    (repeat refine cw_seq ?_); refine cw_region ?_
    refine Rp rfl rfl rfl rfl ?_
    refine Rp rfl rfl rfl rfl ?_
    refine Rp rfl rfl rfl rfl ?_
    refine rw_nil ?_
    (repeat refine cw_seq ?_); refine cw_block ?_
    (repeat refine cw_seq ?_); refine cw_loopS [0, 1, 4, 12] [] (fun (n1 : Nat) => [(13, .v (.int .i64 (n1 : Int)))]) (fun (n1 : Nat) => []) (fun (n1 : Nat) => []) (fun (n1 : Nat) => []) (fun (n1 : Nat) => (n1 ≤ s1.length) ∧ (slices_Equal_Step_L0 s2 (s1.drop n1) n1) = (slices_Equal_Step s1 s2)) (fun (n1 : Nat) => s1.length - n1) 0 (.cons rfl (.cons rfl (.cons rfl (.cons rfl (.nil _))))) (.nil) ⟨Nat.zero_le _, (by simp only [slices_Equal_Step, hc1, cond_true, cond_false] : (slices_Equal_Step s1 s2) = (slices_Equal_Step_L0 s2 s1 0)).symm⟩ Le4 ?_
    rintro n1 ⟨hkn1, hf1⟩
    simp only [List.cons_append, List.nil_append]
    (repeat refine cw_seq ?_); refine cw_region ?_
    refine Rp rfl rfl rfl rfl ?_
    refine rw_nil ?_
    (repeat refine cw_seq ?_); refine cw_cond (b := decide ((n1 : Int) < (s1.length : Int))) rfl rfl (fun hc2 => ?_) (fun hc2 => ?_)
    · skip
      have hlt0 : n1 < s1.length := Int.ofNat_lt.1 (of_decide_eq_true hc2)
      (repeat refine cw_seq ?_); refine cw_skip ?_
      (repeat refine cw_seq ?_); refine cw_block ?_
      (repeat refine cw_seq ?_); refine cw_region ?_
      refine Rp rfl rfl rfl rfl ?_
      refine Rp rfl rfl rfl rfl ?_
      refine rw_nil ?_
      (repeat refine cw_seq ?_); refine cw_regionA (fun _ => some []) ?_
      refine ra_q (.ab (i := 0) (js := [1, 4, 5, 6, 7]) [2, 3, 8] rfl Kr Kr Kr Kr Kr) (SplitB.all _) (by simp) rfl rfl rfl (q_pev rfl (fun _ => rfl)) ?_
      refine ra_q (.ab (i := 1) (js := [4, 5, 6, 7]) [2, 3, 8] rfl Kr Kr Kr Kr Kr) (SplitB.all _) (by simp) rfl rfl rfl (q_pev rfl (fun _ => rfl)) ?_
      refine ra_q (.ab (i := 2) (js := [4, 5, 6, 7]) [3, 8] rfl Kr Kr Kr Kr Kr) (SplitB.all _) (by simp) rfl rfl rfl (q_idx EStep n1 rfl rfl (fun _ => rfl) rfl (fun _ => rfl) rfl rfl rfl Mm rfl (fun _ => rfl) (fun _ => by first | assumption | omega)) ?_
      refine ra_q (.an (i := 3) (js := [4, 5, 6, 7]) rfl Kr Kr Kr Kr) (SplitB.all _) (by simp) rfl rfl rfl (q_leA EStep rfl rfl (fun _ => rfl) rfl rfl Mm (fun _ => by first | assumption | omega)) ?_
      refine ra_q (.ab (i := 4) (js := [5]) [6, 7, 8] rfl Kr Kr Kr Kr Kr) (SplitB.all _) (by simp) rfl rfl rfl (q_pev rfl (fun _ => rfl)) ?_
      refine ra_q (.ab (i := 5) (js := []) [6, 7, 8] rfl Kr Kr Kr Kr Kr) (SplitB.all _) (by simp) rfl rfl rfl (q_pev rfl (fun _ => rfl)) ?_
      refine ra_q (.ab (i := 6) (js := []) [7, 8] rfl Kr Kr Kr Kr Kr) (SplitB.all _) (by simp) rfl rfl rfl (q_idx EStep n1 rfl rfl (fun _ => rfl) rfl (fun _ => rfl) rfl rfl rfl Mm rfl (fun _ => rfl) (fun _ => by first | assumption | omega)) ?_
      refine ra_q (.an (i := 7) (js := []) rfl Kr Kr Kr Kr) (SplitB.all _) (by simp) rfl rfl rfl (q_leA EStep rfl rfl (fun _ => rfl) rfl rfl Mm (fun _ => by first | assumption | omega)) ?_
      refine ra_q (.an (i := 8) (js := []) rfl Kr Kr Kr Kr) (SplitB.all _) (by simp) rfl rfl rfl (q_neE eqT_Step (flatEq_Step (gt s1 n1) (gt s2 n1)) rfl rfl (fun _ => rfl) rfl (fun _ => rfl) rfl rfl) ?_
      refine ra_nil Kr ?_
      (repeat refine cw_seq ?_); refine cw_cond (b := (!(decide ((gt s1 n1) = (gt s2 n1))))) rfl rfl (fun hc3 => ?_) (fun hc3 => ?_)
      · skip
        (repeat refine cw_seq ?_); refine cw_region ?_
        refine Rp rfl rfl rfl rfl ?_
        refine rw_nil ?_
        (repeat refine cw_seq ?_)
        have hr2 : (slices_Equal_Step s1 s2) = false := by rw [← hf1, drop_gt hlt0]; simp only [slices_Equal_Step_L0, hc3, cond_true, cond_false]
        refine cw_ret ?_
        rw [hr2]
        exact ⟨(), _, (.cons (.tmp rfl) .nil), rfl, Sm, .nil _, .nil _⟩
      · skip
        (repeat refine cw_seq ?_); refine cw_skip ?_
        (repeat refine cw_seq ?_); refine cw_region ?_
        refine rw_q rfl rfl rfl (q_add rfl rfl (fun _ => rfl) rfl (fun _ => rfl) (fun _ => by omega)) ?_
        refine Rp rfl rfl rfl rfl ?_
        refine rw_nil ?_
        refine ⟨(n1 + 1), ⟨hlt0, (by rw [← hf1, drop_gt hlt0]; simp only [slices_Equal_Step_L0, hc3, cond_true, cond_false] : (slices_Equal_Step s1 s2) = (slices_Equal_Step_L0 s2 (s1.drop (n1 + 1)) (n1 + 1))).symm⟩, (by simp only []; omega), Le4⟩
    · skip
      have hge0 : s1.length ≤ n1 := by have := of_decide_eq_false hc2; omega
      (repeat refine cw_seq ?_); refine cw_exit ?_
      (repeat refine cw_seq ?_); refine cw_region ?_
      refine Rp rfl rfl rfl rfl ?_
      refine rw_nil ?_
      (repeat refine cw_seq ?_)
      have hr3 : (slices_Equal_Step s1 s2) = true := by rw [← hf1, List.drop_of_length_le hge0]; simp only [slices_Equal_Step_L0, cond_true, cond_false]
      refine cw_ret ?_
      rw [hr3]
      exact ⟨(), _, (.cons (.tmp rfl) .nil), rfl, Sm, .nil _, .nil _⟩
theorem slices_Equal_Step_eq (a b : List Step) : slices_Equal_Step a b = decide (a = b) := by
  have key : ∀ (l : List Step) (k : Nat), l.length + k = b.length → slices_Equal_Step_L0 b l k = decide (l = b.drop k) := by
    intro l
    induction l with
    | nil => intro k hk; rw [slices_Equal_Step_L0, List.drop_of_length_le (by simp at hk; omega)]; simp
    | cons p r ih =>
      intro k hk
      simp only [List.length_cons] at hk
      rw [slices_Equal_Step_L0, ih (k + 1) (by omega), drop_gt (by omega : k < b.length)]
      by_cases h : p = gt b k <;> simp [h]
  rw [slices_Equal_Step]
  by_cases h : a.length = b.length
  · rw [key a 0 (by omega)]; simp [h]
  · have : a ≠ b := fun e => h (by rw [e])
    simp [this, Int.ofNat_inj, h]
theorem slices_Equal_Step_spec' (y1 y2 : SlV) (a b : List Step) : Does Try.prog 78 [y1.val a.length, y2.val b.length] [RdL EStep y1 a, RdL EStep y2 b] (fun (_ : Unit) => .bool (decide (a = b))) (fun (_ : Unit) => []) := by
  have := slices_Equal_Step_spec y1 a y2 b
  rw [slices_Equal_Step_eq] at this
  exact this
end Go.Proofs.Ytchdacbjiomplaa
