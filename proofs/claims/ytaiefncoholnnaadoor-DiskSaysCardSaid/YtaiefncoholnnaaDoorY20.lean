/- Part of this claim. No condition. -/
import Derived.Test.YtaiefncoholnnaaDoorY0
import Derived.Test.YtaiefncoholnnaaDoorTLibC
import Derived.Test.YtaiefncoholnnaaDoorFwByt
set_option linter.unusedVariables false
set_option linter.unusedSimpArgs false
set_option maxHeartbeats 2000000
namespace Go.Proofs.YtaiefncoholnnaaDoor
open Go Go.Proofs.YtaiefncoholnnaaDoor.Fw Go.Proofs
attribute [local irreducible] RdL RdN VarP LibP RW CW
theorem slices_Clone_UInt8_spec (x : SlV) (l : List UInt8) : DoesG Tryd.prog 44 [x.val l.length] [RdL EByte x l] ⟨[], []⟩ (fun (X : SlV × Option Nat) => X.1.val l.length) (fun (_ : SlV × Option Nat) => []) (fun (X : SlV × Option Nat) => ⟨[], [ownL EByte 5 X.1 X.2 l]⟩) := by
  refine does_ofG tab_ok Tryd.func44 rfl Tryd.ntmps44 Tryd.results44 rfl inferInstance (fun _ => inferInstance) fun C => ?_
  refine cw_pure (φ := l.length * EByte.by_ ≤ 140737488355328) [RdL EByte x l] Sm (fun M w h => (allF1 h).len) fun hlen => ?_
  refine Tx ?_
  refine rw_q rfl rfl rfl (q_eqnil rfl rfl (fun _ => rfl) rfl) ?_
  refine rw_nil ?_
  (repeat refine cw_seq ?_); refine cw_cond rfl rfl (fun hc0 => ?_) (fun hc0 => ?_)
  · refine cw_pure [RdL EByte x l] Sm (fun M w h => (allF1 h).nil_of hc0) fun hnil => ?_
    subst hnil
    refine cw_le (le_nilL EByte 5) ?_
    refine Tx ?_
    (repeat refine cw_seq ?_); refine cw_ret ?_
    exact ⟨(⟨none, 0⟩, none), _, (.cons (.tmp rfl) .nil), rfl, .nil _, .nil _, Sp⟩
  · refine Tx ?_
    refine rw_bsliceL EByte [] .sq (guard_none rfl) rfl rfl rfl rfl rfl rfl rfl rfl rfl rfl rfl rfl rfl rfl rfl fun x1 x1b => ?_
    refine Rp rfl rfl rfl rfl ?_
    refine rw_appendL EByte [] l (b := x1b) .sq (fun _ _ => .inl ⟨_, rfl⟩) (guard_none rfl) rfl rfl rfl rfl rfl rfl rfl (fun _ _ => Uo) rfl rfl rfl rfl rfl rfl rfl (reads_rdL Mm) (by simpa using hlen) fun x2 x2b => ?_
    refine Tx ?_
    (repeat refine cw_seq ?_); refine cw_ret ?_
    exact ⟨(x2, x2b), _, (.cons (.tmp rfl) .nil), rfl, .nil _, .nil _, Sp⟩

def slices_Equal_UInt8_L0 (s2 : List UInt8) : List UInt8 → Nat → Bool
  | [], n1 => true
  | pn1 :: rn1, n1 => (bif ((pn1.toNat : Int) != ((gt s2 n1).toNat : Int)) then false else (slices_Equal_UInt8_L0 s2 rn1 (n1 + 1)))
def slices_Equal_UInt8 (s1 : List UInt8) (s2 : List UInt8) : Bool :=
  (bif ((s1.length : Int) != (s2.length : Int)) then false else (slices_Equal_UInt8_L0 s2 s1 0))
theorem slices_Equal_UInt8_spec (y1 : SlV) (s1 : List UInt8) (y2 : SlV) (s2 : List UInt8) : Does Tryd.prog 48 [y1.val s1.length, y2.val s2.length] [RdL EByte y1 s1, RdL EByte y2 s2] (fun (_ : Unit) => .bool (slices_Equal_UInt8 s1 s2)) (fun (_ : Unit) => []) := by
  refine does_of tab_ok Tryd.func48 rfl Tryd.ntmps48 Tryd.results48 rfl inferInstance (fun _ => inferInstance) fun C => ?_
  refine Pc EByte y1 s1 1 fun hlen1 => ?_
  refine Pc EByte y2 s2 1 fun hlen2 => ?_
  refine Tx ?_
  refine Cd (b := ((s1.length : Int) != (s2.length : Int))) (fun hc1 => ?_) fun hc1 => ?_
  · have hc1p := bne_iff_ne.1 hc1
    refine Tx ?_
    have hr1 : (slices_Equal_UInt8 s1 s2) = false := by simp only [slices_Equal_UInt8, hc1, cond_true, cond_false]
    refine cw_ret ?_; rw [hr1]; exact Re () (Vt Vn)
  · have hc1p := eq_of_bne_false hc1
    refine Tx ?_
    (repeat refine cw_seq ?_); refine Lp [0,1,4,12] [] (fun (n1 : Nat) => (⟨[(13, .v (.int .i64 (n1 : Int)))], [], [], [], (n1 ≤ s1.length) ∧ (slices_Equal_UInt8_L0 s2 (s1.drop n1) n1) = (slices_Equal_UInt8 s1 s2), s1.length - n1⟩ : Ls)) 0 (Sc (Sc (Sc (Sc Sn)))) (.nil) ⟨Nat.zero_le _, (by simp only [slices_Equal_UInt8, hc1, cond_true, cond_false] : (slices_Equal_UInt8 s1 s2) = (slices_Equal_UInt8_L0 s2 s1 0)).symm⟩ Le4 ?_
    rintro n1 ⟨hkn1, hf1⟩
    simp only [List.cons_append, List.nil_append]
    refine Tx ?_
    refine Cd (b := decide ((n1 : Int) < (s1.length : Int))) (fun hc2 => ?_) fun hc2 => ?_
    · have hlt0 : n1 < s1.length := Int.ofNat_lt.1 (of_decide_eq_true hc2)
      refine Tx ?_
      (repeat refine cw_seq ?_); refine cw_regionA (fun _ => some []) ?_
      refine Rb 0 [1,4,5,6,7] [2,3,8] rfl Qp ?_
      refine Rb 1 [4,5,6,7] [2,3,8] rfl Qp ?_
      refine Rb 2 [4,5,6,7] [3,8] rfl (q_idx EByte n1 rfl rfl (fun _ => rfl) rfl (fun _ => rfl) rfl rfl rfl Mm rfl (fun _ => rfl) (fun _ => by first | assumption | omega)) ?_
      refine Ra 3 [4,5,6,7] rfl (q_le1 EByte rfl rfl (fun _ => rfl) rfl rfl Mm (fun _ => by first | assumption | omega) rfl) ?_
      refine Rb 4 [5] [6,7,8] rfl Qp ?_
      refine Rb 5 [] [6,7,8] rfl Qp ?_
      refine Rb 6 [] [7,8] rfl (q_idx EByte n1 rfl rfl (fun _ => rfl) rfl (fun _ => rfl) rfl rfl rfl Mm rfl (fun _ => rfl) (fun _ => by first | assumption | omega)) ?_
      refine Ra 7 [] rfl (q_le1 EByte rfl rfl (fun _ => rfl) rfl rfl Mm (fun _ => by first | assumption | omega) rfl) ?_
      refine Ra 8 [] rfl Qp ?_
      refine ra_nil Kr ?_
      (repeat refine cw_seq ?_)
      refine Cd (b := (((gt s1 n1).toNat : Int) != ((gt s2 n1).toNat : Int))) (fun hc3 => ?_) fun hc3 => ?_
      · have hc3p := bne_iff_ne.1 hc3
        refine Tx ?_
        have hr2 : (slices_Equal_UInt8 s1 s2) = false := by rw [← hf1, drop_gt hlt0]; simp only [slices_Equal_UInt8_L0, hc3, cond_true, cond_false]
        refine cw_ret ?_; rw [hr2]; exact Re () (Vt Vn)
      · have hc3p := eq_of_bne_false hc3
        refine Tx ?_
        refine rw_q rfl rfl rfl (q_add rfl rfl (fun _ => rfl) rfl (fun _ => rfl) (fun _ => by omega)) ?_
        refine Tx ?_
        refine ⟨(n1 + 1), ⟨hlt0, (by rw [← hf1, drop_gt hlt0]; simp only [slices_Equal_UInt8_L0, hc3, cond_true, cond_false] : (slices_Equal_UInt8 s1 s2) = (slices_Equal_UInt8_L0 s2 (s1.drop (n1 + 1)) (n1 + 1))).symm⟩, (by simp only []; omega), Le4⟩
    · have hge0 : s1.length ≤ n1 := by have := of_decide_eq_false hc2; omega
      refine Tx ?_
      have hr3 : (slices_Equal_UInt8 s1 s2) = true := by rw [← hf1, List.drop_of_length_le hge0]; simp only [slices_Equal_UInt8_L0, cond_true, cond_false]
      refine cw_ret ?_; rw [hr3]; exact Re () (Vt Vn)
theorem slices_Equal_UInt8_eq (a b : List UInt8) : slices_Equal_UInt8 a b = decide (a = b) := by
  have key : ∀ (l : List UInt8) (k : Nat), l.length + k = b.length → slices_Equal_UInt8_L0 b l k = decide (l = b.drop k) := by
    intro l
    induction l with
    | nil => intro k hk; rw [slices_Equal_UInt8_L0, List.drop_of_length_le (by simp at hk; omega)]; simp
    | cons p r ih =>
      intro k hk
      simp only [List.length_cons] at hk
      rw [slices_Equal_UInt8_L0, ih (k + 1) (by omega), drop_gt (by omega : k < b.length)]
      by_cases h : p = gt b k
      · simp [h]
      · have hn : ¬ ((p.toNat : Int) = ((gt b k).toNat : Int)) := fun e => h (UInt8.toNat_inj.1 (Int.ofNat_inj.1 e))
        simp [h, hn]
  rw [slices_Equal_UInt8]
  by_cases h : a.length = b.length
  · rw [key a 0 (by omega)]; simp [h]
  · have : a ≠ b := fun e => h (by rw [e])
    simp [this, Int.ofNat_inj, h]
theorem slices_Equal_UInt8_spec' (y1 y2 : SlV) (a b : List UInt8) : Does Tryd.prog 48 [y1.val a.length, y2.val b.length] [RdL EByte y1 a, RdL EByte y2 b] (fun (_ : Unit) => .bool (decide (a = b))) (fun (_ : Unit) => []) := by
  have := slices_Equal_UInt8_spec y1 a y2 b
  rw [slices_Equal_UInt8_eq] at this
  exact this

theorem cat_step {α : Type} [Inhabited α] (ls : List (List α)) {k : Nat} (h : k < ls.length) : (ls.take (k + 1)).flatten = (ls.take k).flatten ++ gt ls k ∧ (ls.take k).flatten.length + (gt ls k).length ≤ ls.flatten.length := by
  have h1 : (ls.take (k + 1)).flatten = (ls.take k).flatten ++ gt ls k := by
    rw [gt_eq h, ← List.take_append_getElem h, List.flatten_append]; simp only [List.flatten_cons, List.flatten_nil, List.append_nil]
  refine ⟨h1, ?_⟩
  have h2 : ls.flatten = (ls.take (k + 1)).flatten ++ (ls.drop (k + 1)).flatten := by rw [← List.flatten_append, List.take_append_drop]
  rw [h2, h1]; simp only [List.length_append]; omega

theorem slices_Grow_UInt8_spec (y : SlV) (l : List UInt8) (n : Int) (hy : y = ⟨none, 0⟩ ∧ l = []) (hn : 0 ≤ n ∧ n * 1 ≤ 140737488355328) : DoesG Tryd.prog 63 [y.val l.length, .int .i64 n] [RdL EByte y l] ⟨[], []⟩ (fun (X : SlV × Option Nat) => X.1.val ([] : List UInt8).length) (fun (_ : SlV × Option Nat) => []) (fun (X : SlV × Option Nat) => ⟨[], [ownL EByte 5 X.1 X.2 []]⟩) := by
  obtain ⟨hy1, hy2⟩ := hy
  subst hy1; subst hy2
  obtain ⟨k, rfl⟩ : ∃ k : Nat, n = k := ⟨n.toNat, by omega⟩
  refine does_ofG tab_ok Tryd.func63 rfl Tryd.ntmps63 Tryd.results63 rfl inferInstance (fun _ => inferInstance) fun C => ?_
  refine cw_le (le_nilL EByte 5) ?_
  refine Tx ?_
  refine Cd (b := decide ((k : Int) < 0)) (fun hc => ?_) fun hc => ?_
  · exact absurd (of_decide_eq_true hc) (by omega)
  · refine Tx ?_
    refine rw_q rfl rfl rfl (q_cap rfl rfl (fun _ => rfl) rfl) ?_
    refine Tx ?_
    refine rw_q rfl rfl rfl (q_is (v' := .int .i64 0) (q_sub rfl rfl (fun _ => rfl) rfl (fun _ => rfl) (fun _ => by decide)) rfl) ?_
    refine rw_q rfl rfl rfl (q_is (v' := .int .i64 (k : Int)) (q_sub rfl rfl (fun _ => rfl) rfl (fun _ => rfl) (fun _ => by omega)) (by simp)) ?_
    refine Tx ?_
    refine Cd (b := decide ((k : Int) > 0)) (fun hc1 => ?_) fun hc1 => ?_
    · have hk := of_decide_eq_true hc1
      refine Tx ?_
      refine rw_q rfl rfl rfl (q_cap rfl rfl (fun _ => rfl) rfl) ?_
      refine rw_q rfl rfl rfl (q_slhi (h := 0) rfl rfl (fun _ => rfl) rfl (fun _ => rfl) rfl rfl (fun _ => rfl) (fun _ => Nat.le_refl _)) ?_
      refine Rp rfl rfl rfl rfl ?_
      refine rw_appendZ (n := k) (e := 5) (by_ := 1) .sq (guard_none rfl) rfl rfl rfl rfl rfl rfl rfl rfl und_3 (fun _ _ _ => .here _ _ _) rfl rfl rfl rfl rfl rfl (by omega) (by omega) (by omega) fun x1 b1 zs => ?_
      refine Tx ?_
      refine rw_takeO (k := 0) .sq (guard_none rfl) rfl rfl rfl rfl rfl rfl rfl rfl rfl (.here _ _ _) rfl (Nat.zero_le _) ?_
      refine Tx ?_
      (repeat refine cw_seq ?_); refine cw_ret ?_
      exact ⟨(x1, b1), _, (.cons (.tmp rfl) .nil), rfl, .nil _, .nil _, Sp⟩
    · refine Tx ?_
      (repeat refine cw_seq ?_); refine cw_ret ?_
      exact ⟨(⟨none, 0⟩, none), _, (.cons (.tmp rfl) .nil), rfl, .nil _, .nil _, Sp⟩

def slices_Concat_UInt8_L1  : List (List UInt8) → (List UInt8) → (List UInt8)
  | [], newslice1 => newslice1
  | pn2 :: rn2, newslice1 => (slices_Concat_UInt8_L1 rn2 (newslice1 ++ pn2))
def slices_Concat_UInt8_L0 (slices1 : List (List UInt8)) : List (List UInt8) → Nat → (List UInt8)
  | [], size1 => (slices_Concat_UInt8_L1 slices1 ([] : List UInt8))
  | pn1 :: rn1, size1 => (bif decide (((size1 : Int) + (pn1.length : Int)) < 0) then [] else (slices_Concat_UInt8_L0 slices1 rn1 (size1 + pn1.length)))
def slices_Concat_UInt8 (slices1 : List (List UInt8)) : List UInt8 :=
  (slices_Concat_UInt8_L0 slices1 slices1 0)
theorem slices_Concat_UInt8_spec (y1 : SlV) (slices1 : List (List UInt8)) (hct : slices1.flatten.length * 1 ≤ 140737488355328) : DoesG Tryd.prog 45 [y1.val slices1.length] [RdN NBytes y1 slices1] ⟨[], []⟩ (fun (X : SlV × Option Nat) => X.1.val (slices_Concat_UInt8 slices1).length) (fun (X : SlV × Option Nat) => []) (fun (X : SlV × Option Nat) => ⟨[], [ownL EByte 5 X.1 X.2 (slices_Concat_UInt8 slices1)]⟩) := by
  refine does_ofG tab_ok Tryd.func45 rfl Tryd.ntmps45 Tryd.results45 rfl inferInstance (fun _ => inferInstance) fun C => ?_
  refine Pn NBytes y1 slices1 24 fun hlen1 => ?_
  refine Tx ?_
  (repeat refine cw_seq ?_); refine Lp [0,2,9,10] [] (fun (i_ : Nat × Nat) => match i_ with | ⟨size1, n1⟩ => (⟨[(3, .v (.int .i64 (size1 : Int))), (11, .v (.int .i64 (n1 : Int)))], [], [], [], (n1 ≤ slices1.length) ∧ (size1 = ((slices1.take n1).flatten.length : Int)) ∧ (slices_Concat_UInt8_L0 slices1 (slices1.drop n1) size1) = (slices_Concat_UInt8 slices1), slices1.length - n1⟩ : Ls)) ⟨0, 0⟩ (Sc (Sc (Sc (Sc Sn)))) (.nil) ⟨Nat.zero_le _, (by simp), (by simp only [slices_Concat_UInt8, cond_true, cond_false] : (slices_Concat_UInt8 slices1) = (slices_Concat_UInt8_L0 slices1 slices1 0)).symm⟩ Le4 ?_
  rintro ⟨size1, n1⟩ ⟨hkn1, hsz, hf1⟩
  simp only [List.cons_append, List.nil_append]
  refine Tx ?_
  refine Cd (b := decide ((n1 : Int) < (slices1.length : Int))) (fun hc1 => ?_) fun hc1 => ?_
  · have hlt0 : n1 < slices1.length := Int.ofNat_lt.1 (of_decide_eq_true hc1)
    refine Tx ?_
    refine rw_exN NBytes (X := y1) (l := slices1) Mm fun (γ1 : Nat → SlV) => ?_
    refine rw_q rfl rfl rfl (q_idxN NBytes γ1 n1 rfl rfl (fun _ => rfl) rfl (fun _ => rfl) rfl rfl rfl Mm rfl (fun _ => rfl) (fun _ => by first | assumption | omega)) ?_
    refine rw_q rfl rfl rfl (q_le1N NBytes γ1 (v := (γ1 n1).val (gt slices1 n1).length) rfl rfl (fun _ => rfl) rfl rfl Mm (fun _ => by first | assumption | omega) rfl) ?_
    refine rw_fact (F := RdL EByte (γ1 n1) (gt slices1 n1)) [FactsG NBytes γ1 slices1] Sm (fun M w h => (allF1 h) n1 (by first | assumption | omega) _ (.head _)) ?_
    refine Tx ?_
    refine rw_q rfl rfl rfl (q_add rfl rfl (fun _ => rfl) rfl (fun _ => rfl) (fun _ => by have := (cat_step slices1 hlt0).2; omega)) ?_
    refine Tx ?_
    refine Cd (b := decide (((size1 : Int) + ((gt slices1 n1).length : Int)) < 0)) (fun hc2 => ?_) fun hc2 => ?_
    · have hc2p := of_decide_eq_true hc2
      exact absurd (of_decide_eq_true hc2) (by omega)
    · have hc2p := of_decide_eq_false hc2
      refine Tx ?_
      refine rw_q rfl rfl rfl (q_add rfl rfl (fun _ => rfl) rfl (fun _ => rfl) (fun _ => by omega)) ?_
      refine Tx ?_
      refine ⟨⟨(size1 + (gt slices1 n1).length), (n1 + 1)⟩, ⟨hlt0, (by rw [(cat_step slices1 hlt0).1, List.length_append]; simp only [hsz]; omega), (by rw [← hf1, drop_gt hlt0]; simp only [slices_Concat_UInt8_L0, hc2, cond_true, cond_false] : (slices_Concat_UInt8 slices1) = (slices_Concat_UInt8_L0 slices1 (slices1.drop (n1 + 1)) (size1 + (gt slices1 n1).length))).symm⟩, (by simp only []; omega), Le4⟩
  · have hge0 : slices1.length ≤ n1 := by have := of_decide_eq_false hc1; omega
    refine Tx ?_
    refine Fr EByte ?_
    refine Cg (slices_Grow_UInt8_spec (⟨none, 0⟩ : SlV) ([] : List UInt8) (size1 : Int) ⟨rfl, rfl⟩ (by have h_ : (slices1.take n1).flatten.length ≤ slices1.flatten.length := (by rw [List.take_of_length_le hge0]; exact Nat.le_refl _); omega)) fun x1 => ?_
    refine Tx ?_
    (repeat refine cw_seq ?_); refine Lp [2,25,26] [] (fun (i_ : List UInt8 × SlV × Option Nat × Nat) => match i_ with | ⟨newslice1, x2, x2b, n2⟩ => (⟨[(6, .v (x2.val newslice1.length)), (27, .v (.int .i64 (n2 : Int)))], [], [ownL EByte 5 x2 x2b newslice1], [], (n2 ≤ slices1.length) ∧ (newslice1.length = (slices1.take n2).flatten.length) ∧ (slices_Concat_UInt8_L1 (slices1.drop n2) newslice1) = (slices_Concat_UInt8 slices1), slices1.length - n2⟩ : Ls)) ⟨([] : List UInt8), x1.1, x1.2, 0⟩ (Sc (Sc (Sc Sn))) (.nil) ⟨Nat.zero_le _, (by simp), (by rw [← hf1, List.drop_of_length_le hge0]; simp only [slices_Concat_UInt8_L0, cond_true, cond_false] : (slices_Concat_UInt8 slices1) = (slices_Concat_UInt8_L1 slices1 ([] : List UInt8))).symm⟩ Le4 ?_
    rintro ⟨newslice1, x2, x2b, n2⟩ ⟨hkn2, hnl, hf2⟩
    simp only [List.cons_append, List.nil_append]
    refine Tx ?_
    refine Cd (b := decide ((n2 : Int) < (slices1.length : Int))) (fun hc3 => ?_) fun hc3 => ?_
    · have hlt1 : n2 < slices1.length := Int.ofNat_lt.1 (of_decide_eq_true hc3)
      refine Tx ?_
      refine rw_exN NBytes (X := y1) (l := slices1) Mm fun (γ2 : Nat → SlV) => ?_
      refine rw_q rfl rfl rfl (q_idxN NBytes γ2 n2 rfl rfl (fun _ => rfl) rfl (fun _ => rfl) rfl rfl rfl Mm rfl (fun _ => rfl) (fun _ => by first | assumption | omega)) ?_
      refine rw_q rfl rfl rfl (q_le1N NBytes γ2 (v := (γ2 n2).val (gt slices1 n2).length) rfl rfl (fun _ => rfl) rfl rfl Mm (fun _ => by first | assumption | omega) rfl) ?_
      refine rw_fact (F := RdL EByte (γ2 n2) (gt slices1 n2)) [FactsG NBytes γ2 slices1] Sm (fun M w h => (allF1 h) n2 (by first | assumption | omega) _ (.head _)) ?_
      refine Tx ?_
      refine rw_appendL EByte newslice1 (gt slices1 n2) (b := x2b) .sq (fun _ _ => .inl ⟨_, rfl⟩) (guard_none rfl) rfl rfl rfl rfl rfl rfl rfl (fun _ _ => Uo) rfl rfl rfl rfl rfl rfl rfl (reads_rdL Mm) (by have := (cat_step slices1 hlt1).2; show (_ + _) * 1 ≤ _; omega) fun x3 x3b => ?_
      refine Tx ?_
      refine rw_q rfl rfl rfl (q_add rfl rfl (fun _ => rfl) rfl (fun _ => rfl) (fun _ => by omega)) ?_
      refine Tx ?_
      refine ⟨⟨(newslice1 ++ (gt slices1 n2)), x3, x3b, (n2 + 1)⟩, ⟨hlt1, (by rw [(cat_step slices1 hlt1).1]; simp only [List.length_append]; omega), (by rw [← hf2, drop_gt hlt1]; simp only [slices_Concat_UInt8_L1, cond_true, cond_false] : (slices_Concat_UInt8 slices1) = (slices_Concat_UInt8_L1 (slices1.drop (n2 + 1)) (newslice1 ++ (gt slices1 n2)))).symm⟩, (by simp only []; omega), Le4⟩
    · have hge1 : slices1.length ≤ n2 := by have := of_decide_eq_false hc3; omega
      refine Tx ?_
      have hr1 : (slices_Concat_UInt8 slices1) = newslice1 := by rw [← hf2, List.drop_of_length_le hge1]; simp only [slices_Concat_UInt8_L1, cond_true, cond_false]
      refine cw_ret ?_; rw [hr1]; exact Re ⟨x2, x2b⟩ (Vt Vn)
theorem slices_Concat_UInt8_eq (ls : List (List UInt8)) : slices_Concat_UInt8 ls = ls.flatten := by
  have h1 : ∀ (l : List (List UInt8)) (acc : List UInt8), slices_Concat_UInt8_L1 l acc = acc ++ l.flatten := by
    intro l
    induction l with
    | nil => intro acc; simp [slices_Concat_UInt8_L1]
    | cons a r ih => intro acc; rw [slices_Concat_UInt8_L1, ih]; simp
  have h0 : ∀ (l : List (List UInt8)) (k : Nat), slices_Concat_UInt8_L0 ls l k = slices_Concat_UInt8_L1 ls [] := by
    intro l
    induction l with
    | nil => intro k; rfl
    | cons a r ih =>
      intro k
      have : decide (((k : Int) + (a.length : Int)) < 0) = false := by simp; omega
      rw [slices_Concat_UInt8_L0, this, cond_false, ih]
  rw [slices_Concat_UInt8, h0, h1, List.nil_append]
theorem slices_Concat_UInt8_spec' (y1 : SlV) (ls : List (List UInt8)) (hct : ls.flatten.length * 1 ≤ 140737488355328) : DoesG Tryd.prog 45 [y1.val ls.length] [RdN NBytes y1 ls] ⟨[], []⟩ (fun (X : SlV × Option Nat) => X.1.val ls.flatten.length) (fun (_ : SlV × Option Nat) => []) (fun (X : SlV × Option Nat) => ⟨[], [ownL EByte 5 X.1 X.2 ls.flatten]⟩) := by
  have := slices_Concat_UInt8_spec y1 ls hct
  rw [slices_Concat_UInt8_eq] at this
  exact this
end Go.Proofs.YtaiefncoholnnaaDoor
