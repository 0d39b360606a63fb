/- Part of this claim. No condition. -/
import Derived.Test.YtchdacbjiomplaaLHistB
import Derived.Test.YtchdacbjiomplaaW10
set_option linter.unusedVariables false
set_option linter.unusedSimpArgs false
namespace Go.Proofs.Ytchdacbjiomplaa
open Go Go.Proofs.Ytchdacbjiomplaa.Fw Go.Proofs
theorem slices_Grow_Op_spec (y : SlV) (l : List Op) (n : Int) (hy : y = ⟨none, 0⟩ ∧ l = []) (hn : 0 ≤ n ∧ n * 56 ≤ 140737488355328) : DoesG Try.prog 164 [y.val l.length, .int .i64 n] [RdL EOp y l] ⟨[], []⟩ (fun (X : SlV × Option Nat) => X.1.val ([] : List Op).length) (fun (_ : SlV × Option Nat) => []) (fun (X : SlV × Option Nat) => ⟨[], [ownL EOp 33 X.1 X.2 []]⟩) := by
  obtain ⟨hy1, hy2⟩ := hy
  subst hy1; subst hy2
  obtain ⟨k, rfl⟩ : ∃ k : Nat, n = k := ⟨n.toNat, by omega⟩
  refine does_ofG tab_ok Try.func164 rfl Try.ntmps164 Try.results164 rfl inferInstance (fun _ => inferInstance) fun C => ?_
  refine cw_le (le_nilL EOp 33) ?_
  (repeat refine cw_seq ?_); refine cw_region ?_
  refine Rp rfl rfl rfl rfl ?_
  refine rw_nil ?_
  (repeat refine cw_seq ?_); refine cw_region ?_
  refine Rp rfl rfl rfl rfl ?_
  refine Rp rfl rfl rfl rfl ?_
  refine rw_nil ?_
  (repeat refine cw_seq ?_); refine cw_cond (b := decide ((k : Int) < 0)) rfl rfl (fun hc => ?_) (fun hc => ?_)
  · exact absurd (of_decide_eq_true hc) (by omega)
  · (repeat refine cw_seq ?_); refine cw_skip ?_
    (repeat refine cw_seq ?_); refine cw_region ?_
    refine Rp rfl rfl rfl rfl ?_
    refine Rp rfl rfl rfl rfl ?_
    refine rw_q rfl rfl rfl (q_cap rfl rfl (fun _ => rfl) rfl) ?_
    refine Rp rfl rfl rfl rfl ?_
    refine Rp rfl rfl rfl rfl ?_
    refine rw_q rfl rfl rfl (q_is (v' := .int .i64 0) (q_sub rfl rfl (fun _ => rfl) rfl (fun _ => rfl) (fun _ => by decide)) rfl) ?_
    refine rw_q rfl rfl rfl (q_is (v' := .int .i64 (k : Int)) (q_sub rfl rfl (fun _ => rfl) rfl (fun _ => rfl) (fun _ => by omega)) (by simp)) ?_
    refine Rp rfl rfl rfl rfl ?_
    refine rw_nil ?_
    (repeat refine cw_seq ?_); refine cw_region ?_
    refine Rp rfl rfl rfl rfl ?_
    refine Rp rfl rfl rfl rfl ?_
    refine rw_nil ?_
    (repeat refine cw_seq ?_); refine cw_cond (b := decide ((k : Int) > 0)) rfl rfl (fun hc1 => ?_) (fun hc1 => ?_)
    · have hk := of_decide_eq_true hc1
      (repeat refine cw_seq ?_); refine cw_region ?_
      refine Rp rfl rfl rfl rfl ?_
      refine Rp rfl rfl rfl rfl ?_
      refine rw_q rfl rfl rfl (q_cap rfl rfl (fun _ => rfl) rfl) ?_
      refine rw_q rfl rfl rfl (q_slhi (h := 0) rfl rfl (fun _ => rfl) rfl (fun _ => rfl) rfl rfl (fun _ => rfl) (fun _ => Nat.le_refl _)) ?_
      refine Rp rfl rfl rfl rfl ?_
      refine rw_appendZ (n := k) (e := 33) (by_ := 56) .sq (guard_none rfl) rfl rfl rfl rfl rfl rfl rfl rfl und_3 (fun _ _ _ => .here _ _ _) rfl rfl rfl rfl rfl rfl (by omega) (by omega) (by omega) fun x1 b1 zs => ?_
      refine Rp rfl rfl rfl rfl ?_
      refine Rp rfl rfl rfl rfl ?_
      refine rw_takeO (k := 0) .sq (guard_none rfl) rfl rfl rfl rfl rfl rfl rfl rfl rfl (.here _ _ _) rfl (Nat.zero_le _) ?_
      refine Rp rfl rfl rfl rfl ?_
      refine rw_nil ?_
      (repeat refine cw_seq ?_); refine cw_region ?_
      refine Rp rfl rfl rfl rfl ?_
      refine Rp rfl rfl rfl rfl ?_
      refine rw_nil ?_
      (repeat refine cw_seq ?_); refine cw_ret ?_
      exact ⟨(x1, b1), _, (.cons (.tmp rfl) .nil), rfl, .nil _, .nil _, Sp⟩
    · (repeat refine cw_seq ?_); refine cw_skip ?_
      (repeat refine cw_seq ?_); refine cw_region ?_
      refine Rp rfl rfl rfl rfl ?_
      refine Rp rfl rfl rfl rfl ?_
      refine rw_nil ?_
      (repeat refine cw_seq ?_); refine cw_ret ?_
      exact ⟨(⟨none, 0⟩, none), _, (.cons (.tmp rfl) .nil), rfl, .nil _, .nil _, Sp⟩

def slices_Concat_Op_L1  : List (List Op) → (List Op) → (List Op)
  | [], newslice1 => newslice1
  | pn2 :: rn2, newslice1 => (slices_Concat_Op_L1 rn2 (newslice1 ++ pn2))
def slices_Concat_Op_L0 (slices1 : List (List Op)) : List (List Op) → Nat → (List Op)
  | [], size1 => (slices_Concat_Op_L1 slices1 ([] : List Op))
  | pn1 :: rn1, size1 => (bif decide (((size1 : Int) + (pn1.length : Int)) < 0) then [] else (slices_Concat_Op_L0 slices1 rn1 (size1 + pn1.length)))
def slices_Concat_Op (slices1 : List (List Op)) : List Op :=
  (slices_Concat_Op_L0 slices1 slices1 0)
theorem slices_Concat_Op_spec (y1 : SlV) (slices1 : List (List Op)) (hct : slices1.flatten.length * 56 ≤ 140737488355328) : DoesG Try.prog 86 [y1.val slices1.length] [RdN NOps y1 slices1] ⟨[], []⟩ (fun (X : SlV × Option Nat) => X.1.val (slices_Concat_Op slices1).length) (fun (X : SlV × Option Nat) => []) (fun (X : SlV × Option Nat) => ⟨[], [ownL EOp 33 X.1 X.2 (slices_Concat_Op slices1)]⟩) := by
  refine does_ofG tab_ok Try.func86 rfl Try.ntmps86 Try.results86 rfl inferInstance (fun _ => inferInstance) fun C => ?_
  refine cw_pure (φ := slices1.length * 24 ≤ 140737488355328) [RdN NOps y1 slices1] Sm (fun M w h => (allF1 h).len) fun hlen1 => ?_
  (repeat refine cw_seq ?_); refine cw_region ?_
  refine Rp rfl rfl rfl rfl ?_
  refine rw_nil ?_
  (repeat refine cw_seq ?_); refine cw_region ?_
  refine Rp rfl rfl rfl rfl ?_
  refine rw_nil ?_
  (repeat refine cw_seq ?_); refine cw_region ?_
  refine Rp rfl rfl rfl rfl ?_
  refine Rp rfl rfl rfl rfl ?_
  refine Rp rfl rfl rfl rfl ?_
  refine rw_nil ?_
  (repeat refine cw_seq ?_); refine cw_block ?_
  (repeat refine cw_seq ?_); refine cw_loopS [0, 2, 9, 10] [] (fun (i_ : Nat × Nat) => match i_ with | ⟨size1, n1⟩ => [(3, .v (.int .i64 (size1 : Int))), (11, .v (.int .i64 (n1 : Int)))]) (fun (i_ : Nat × Nat) => match i_ with | ⟨size1, n1⟩ => []) (fun (i_ : Nat × Nat) => match i_ with | ⟨size1, n1⟩ => []) (fun (i_ : Nat × Nat) => match i_ with | ⟨size1, n1⟩ => []) (fun (i_ : Nat × Nat) => match i_ with | ⟨size1, n1⟩ => (n1 ≤ slices1.length) ∧ (size1 = ((slices1.take n1).flatten.length : Int)) ∧ (slices_Concat_Op_L0 slices1 (slices1.drop n1) size1) = (slices_Concat_Op slices1)) (fun (i_ : Nat × Nat) => match i_ with | ⟨size1, n1⟩ => slices1.length - n1) ⟨0, 0⟩ (.cons rfl (.cons rfl (.cons rfl (.cons rfl (.nil _))))) (.nil) ⟨Nat.zero_le _, (by simp), (by simp only [slices_Concat_Op, cond_true, cond_false] : (slices_Concat_Op slices1) = (slices_Concat_Op_L0 slices1 slices1 0)).symm⟩ Le4 ?_
  rintro ⟨size1, n1⟩ ⟨hkn1, hsz, hf1⟩
  simp only [List.cons_append, List.nil_append]
  (repeat refine cw_seq ?_); refine cw_region ?_
  refine Rp rfl rfl rfl rfl ?_
  refine rw_nil ?_
  (repeat refine cw_seq ?_); refine cw_cond (b := decide ((n1 : Int) < (slices1.length : Int))) rfl rfl (fun hc1 => ?_) (fun hc1 => ?_)
  · skip
    have hlt0 : n1 < slices1.length := Int.ofNat_lt.1 (of_decide_eq_true hc1)
    (repeat refine cw_seq ?_); refine cw_skip ?_
    (repeat refine cw_seq ?_); refine cw_block ?_
    (repeat refine cw_seq ?_); refine cw_region ?_
    refine rw_exN NOps (X := y1) (l := slices1) Mm fun (γ1 : Nat → SlV) => ?_
    refine rw_q rfl rfl rfl (q_idxN NOps γ1 n1 rfl rfl (fun _ => rfl) rfl (fun _ => rfl) rfl rfl rfl Mm rfl (fun _ => rfl) (fun _ => by first | assumption | omega)) ?_
    refine rw_q rfl rfl rfl (q_le1N NOps γ1 (v := (γ1 n1).val (gt slices1 n1).length) rfl rfl (fun _ => rfl) rfl rfl Mm (fun _ => by first | assumption | omega) rfl) ?_
    refine rw_fact (F := RdL EOp (γ1 n1) (gt slices1 n1)) [FactsG NOps γ1 slices1] Sm (fun M w h => (allF1 h) n1 (by first | assumption | omega) _ (.head _)) ?_
    refine Rp rfl rfl rfl rfl ?_
    refine rw_nil ?_
    (repeat refine cw_seq ?_); refine cw_region ?_
    refine Rp rfl rfl rfl rfl ?_
    refine Rp rfl rfl rfl rfl ?_
    refine Rp rfl rfl rfl rfl ?_
    refine rw_q rfl rfl rfl (q_add rfl rfl (fun _ => rfl) rfl (fun _ => rfl) (fun _ => by have := (cat_step slices1 hlt0).2; omega)) ?_
    refine Rp rfl rfl rfl rfl ?_
    refine rw_nil ?_
    (repeat refine cw_seq ?_); refine cw_region ?_
    refine Rp rfl rfl rfl rfl ?_
    refine Rp rfl rfl rfl rfl ?_
    refine rw_nil ?_
    (repeat refine cw_seq ?_); refine cw_cond (b := decide (((size1 : Int) + ((gt slices1 n1).length : Int)) < 0)) rfl rfl (fun hc2 => ?_) (fun hc2 => ?_)
    · skip
      have hc2p := of_decide_eq_true hc2
      exact absurd (of_decide_eq_true hc2) (by omega)
    · skip
      have hc2p := of_decide_eq_false hc2
      (repeat refine cw_seq ?_); refine cw_skip ?_
      (repeat refine cw_seq ?_); refine cw_region ?_
      refine rw_q rfl rfl rfl (q_add rfl rfl (fun _ => rfl) rfl (fun _ => rfl) (fun _ => by omega)) ?_
      refine Rp rfl rfl rfl rfl ?_
      refine rw_nil ?_
      refine ⟨⟨(size1 + (gt slices1 n1).length), (n1 + 1)⟩, ⟨hlt0, (by rw [(cat_step slices1 hlt0).1, List.length_append]; simp only [hsz]; omega), (by rw [← hf1, drop_gt hlt0]; simp only [slices_Concat_Op_L0, hc2, cond_true, cond_false] : (slices_Concat_Op slices1) = (slices_Concat_Op_L0 slices1 (slices1.drop (n1 + 1)) (size1 + (gt slices1 n1).length))).symm⟩, (by simp only []; omega), Le4⟩
  · skip
    have hge0 : slices1.length ≤ n1 := by have := of_decide_eq_false hc1; omega
    (repeat refine cw_seq ?_); refine cw_exit ?_
    (repeat refine cw_seq ?_); refine cw_region ?_
    refine Rp rfl rfl rfl rfl ?_
    refine rw_fact (F := RdL EOp ⟨none, 0⟩ ([] : List Op)) [] (.nil _) (fun M w _ => RdL.nil _ _ _ (by omega) M w) ?_
    refine rw_callG (slices_Grow_Op_spec (⟨none, 0⟩ : SlV) ([] : List Op) (size1 : Int) ⟨rfl, rfl⟩ (by have h_ : (slices1.take n1).flatten.length ≤ slices1.flatten.length := (by rw [List.take_of_length_le hge0]; exact Nat.le_refl _); omega)) .sq (.inl ⟨_, rfl⟩) (guard_none rfl) rfl rfl rfl Kr rfl rfl Sm (.nil _) (.nil _) ?_
    intro x1
    refine Rp rfl rfl rfl rfl ?_
    refine rw_nil ?_
    (repeat refine cw_seq ?_); refine cw_region ?_
    refine Rp rfl rfl rfl rfl ?_
    refine Rp rfl rfl rfl rfl ?_
    refine Rp rfl rfl rfl rfl ?_
    refine rw_nil ?_
    (repeat refine cw_seq ?_); refine cw_block ?_
    (repeat refine cw_seq ?_); refine cw_loopS [2, 25, 26] [] (fun (i_ : List Op × SlV × Option Nat × Nat) => match i_ with | ⟨newslice1, x2, x2b, n2⟩ => [(6, .v (x2.val newslice1.length)), (27, .v (.int .i64 (n2 : Int)))]) (fun (i_ : List Op × SlV × Option Nat × Nat) => match i_ with | ⟨newslice1, x2, x2b, n2⟩ => []) (fun (i_ : List Op × SlV × Option Nat × Nat) => match i_ with | ⟨newslice1, x2, x2b, n2⟩ => [ownL EOp 33 x2 x2b newslice1]) (fun (i_ : List Op × SlV × Option Nat × Nat) => match i_ with | ⟨newslice1, x2, x2b, n2⟩ => []) (fun (i_ : List Op × SlV × Option Nat × Nat) => match i_ with | ⟨newslice1, x2, x2b, n2⟩ => (n2 ≤ slices1.length) ∧ (newslice1.length = (slices1.take n2).flatten.length) ∧ (slices_Concat_Op_L1 (slices1.drop n2) newslice1) = (slices_Concat_Op slices1)) (fun (i_ : List Op × SlV × Option Nat × Nat) => match i_ with | ⟨newslice1, x2, x2b, n2⟩ => slices1.length - n2) ⟨([] : List Op), x1.1, x1.2, 0⟩ (.cons rfl (.cons rfl (.cons rfl (.nil _)))) (.nil) ⟨Nat.zero_le _, (by simp), (by rw [← hf1, List.drop_of_length_le hge0]; simp only [slices_Concat_Op_L0, cond_true, cond_false] : (slices_Concat_Op slices1) = (slices_Concat_Op_L1 slices1 ([] : List Op))).symm⟩ Le4 ?_
    rintro ⟨newslice1, x2, x2b, n2⟩ ⟨hkn2, hnl, hf2⟩
    simp only [List.cons_append, List.nil_append]
    (repeat refine cw_seq ?_); refine cw_region ?_
    refine Rp rfl rfl rfl rfl ?_
    refine rw_nil ?_
    (repeat refine cw_seq ?_); refine cw_cond (b := decide ((n2 : Int) < (slices1.length : Int))) rfl rfl (fun hc3 => ?_) (fun hc3 => ?_)
    · skip
      have hlt1 : n2 < slices1.length := Int.ofNat_lt.1 (of_decide_eq_true hc3)
      (repeat refine cw_seq ?_); refine cw_skip ?_
      (repeat refine cw_seq ?_); refine cw_block ?_
      (repeat refine cw_seq ?_); refine cw_region ?_
      refine rw_exN NOps (X := y1) (l := slices1) Mm fun (γ2 : Nat → SlV) => ?_
      refine rw_q rfl rfl rfl (q_idxN NOps γ2 n2 rfl rfl (fun _ => rfl) rfl (fun _ => rfl) rfl rfl rfl Mm rfl (fun _ => rfl) (fun _ => by first | assumption | omega)) ?_
      refine rw_q rfl rfl rfl (q_le1N NOps γ2 (v := (γ2 n2).val (gt slices1 n2).length) rfl rfl (fun _ => rfl) rfl rfl Mm (fun _ => by first | assumption | omega) rfl) ?_
      refine rw_fact (F := RdL EOp (γ2 n2) (gt slices1 n2)) [FactsG NOps γ2 slices1] Sm (fun M w h => (allF1 h) n2 (by first | assumption | omega) _ (.head _)) ?_
      refine Rp rfl rfl rfl rfl ?_
      refine rw_nil ?_
      (repeat refine cw_seq ?_); refine cw_region ?_
      refine Rp rfl rfl rfl rfl ?_
      refine Rp rfl rfl rfl rfl ?_
      refine rw_appendL EOp newslice1 (gt slices1 n2) (b := x2b) .sq (fun _ _ => .inl ⟨_, rfl⟩) (guard_none rfl) rfl rfl rfl rfl rfl rfl rfl (fun _ _ => Uo) rfl rfl rfl rfl rfl rfl rfl (reads_rdL Mm) (by have := (cat_step slices1 hlt1).2; show (_ + _) * 56 ≤ _; omega) fun x3 x3b => ?_
      refine Rp rfl rfl rfl rfl ?_
      refine rw_nil ?_
      (repeat refine cw_seq ?_); refine cw_region ?_
      refine rw_q rfl rfl rfl (q_add rfl rfl (fun _ => rfl) rfl (fun _ => rfl) (fun _ => by omega)) ?_
      refine Rp rfl rfl rfl rfl ?_
      refine rw_nil ?_
      refine ⟨⟨(newslice1 ++ (gt slices1 n2)), x3, x3b, (n2 + 1)⟩, ⟨hlt1, (by rw [(cat_step slices1 hlt1).1]; simp only [List.length_append]; omega), (by rw [← hf2, drop_gt hlt1]; simp only [slices_Concat_Op_L1, cond_true, cond_false] : (slices_Concat_Op slices1) = (slices_Concat_Op_L1 (slices1.drop (n2 + 1)) (newslice1 ++ (gt slices1 n2)))).symm⟩, (by simp only []; omega), Le4⟩
    · skip
      have hge1 : slices1.length ≤ n2 := by have := of_decide_eq_false hc3; omega
      (repeat refine cw_seq ?_); refine cw_exit ?_
      (repeat refine cw_seq ?_); refine cw_region ?_
      refine Rp rfl rfl rfl rfl ?_
      refine Rp rfl rfl rfl rfl ?_
      refine rw_nil ?_
      (repeat refine cw_seq ?_)
      have hr1 : (slices_Concat_Op slices1) = newslice1 := by rw [← hf2, List.drop_of_length_le hge1]; simp only [slices_Concat_Op_L1, cond_true, cond_false]
      refine cw_ret ?_
      rw [hr1]
      exact ⟨⟨x2, x2b⟩, _, (.cons (.tmp rfl) .nil), rfl, Sm, .nil _, Sp⟩
theorem slices_Concat_Op_eq (ls : List (List Op)) : slices_Concat_Op ls = ls.flatten := by
  have h1 : ∀ (l : List (List Op)) (acc : List Op), slices_Concat_Op_L1 l acc = acc ++ l.flatten := by
    intro l
    induction l with
    | nil => intro acc; simp [slices_Concat_Op_L1]
    | cons a r ih => intro acc; rw [slices_Concat_Op_L1, ih]; simp
  have h0 : ∀ (l : List (List Op)) (k : Nat), slices_Concat_Op_L0 ls l k = slices_Concat_Op_L1 ls [] := by
    intro l
    induction l with
    | nil => intro k; rfl
    | cons a r ih =>
      intro k
      have : decide (((k : Int) + (a.length : Int)) < 0) = false := by simp; omega
      rw [slices_Concat_Op_L0, this, cond_false, ih]
  rw [slices_Concat_Op, h0, h1, List.nil_append]
theorem slices_Concat_Op_spec' (y1 : SlV) (ls : List (List Op)) (hct : ls.flatten.length * 56 ≤ 140737488355328) : DoesG Try.prog 86 [y1.val ls.length] [RdN NOps y1 ls] ⟨[], []⟩ (fun (X : SlV × Option Nat) => X.1.val ls.flatten.length) (fun (_ : SlV × Option Nat) => []) (fun (X : SlV × Option Nat) => ⟨[], [ownL EOp 33 X.1 X.2 ls.flatten]⟩) := by
  have := slices_Concat_Op_spec y1 ls hct
  rw [slices_Concat_Op_eq] at this
  exact this

def slices_Reverse_Op_L0  : Nat → (List Op) → Int → Int → (List Op)
  | 0, s2, i1, j1 => default
  | f_k0 + 1, s2, i1, j1 => (bif decide (i1 < j1) then (slices_Reverse_Op_L0 f_k0 ((s2.set i1.toNat (gt s2 j1.toNat)).set j1.toNat (gt s2 i1.toNat)) (i1 + 1) (j1 - 1)) else s2)
def slices_Reverse_Op (s1 : List Op) : List Op :=
  (slices_Reverse_Op_L0 (s1.length + 2) s1 0 ((s1.length : Int) - 1))
theorem slices_Reverse_Op_spec (y1 : SlV) (y1b : Option Nat) (s1 : List Op) : DoesG Try.prog 87 [y1.val s1.length] [] ⟨[], [ownL EOp 33 y1 y1b s1]⟩ (fun (_ : Unit) => .tuple #[]) (fun (_ : Unit) => []) (fun (_ : Unit) => ⟨[], [ownL EOp 33 y1 y1b (slices_Reverse_Op s1)]⟩) := by
  refine does_ofG tab_ok Try.func87 rfl Try.ntmps87 Try.results87 rfl inferInstance (fun _ => inferInstance) fun C => ?_
  refine cw_lenO EOp (e := 33) (X := y1) (b := y1b) (l := s1) Mm fun hl63y1 hleny1 => ?_
  simp only [show EOp.by_ = 56 from rfl] at hleny1
  (repeat refine cw_seq ?_); refine cw_region ?_
  refine Rp rfl rfl rfl rfl ?_
  refine Rp rfl rfl rfl rfl ?_
  refine rw_q rfl rfl rfl (q_sub rfl rfl (fun _ => rfl) rfl (fun _ => rfl) (fun _ => by omega)) ?_
  refine Rp rfl rfl rfl rfl ?_
  refine Rp rfl rfl rfl rfl ?_
  refine rw_nil ?_
  (repeat refine cw_seq ?_); refine cw_block ?_
  (repeat refine cw_seq ?_); refine cw_loopS [] [] (fun (i_ : List Op × Int × Int × Nat) => match i_ with | ⟨s2, i1, j1, fz1⟩ => [(0, .v (y1.val s2.length)), (2, .v (.int .i64 i1)), (3, .v (.int .i64 j1))]) (fun (i_ : List Op × Int × Int × Nat) => match i_ with | ⟨s2, i1, j1, fz1⟩ => []) (fun (i_ : List Op × Int × Int × Nat) => match i_ with | ⟨s2, i1, j1, fz1⟩ => [ownL EOp 33 y1 y1b s2]) (fun (i_ : List Op × Int × Int × Nat) => match i_ with | ⟨s2, i1, j1, fz1⟩ => []) (fun (i_ : List Op × Int × Int × Nat) => match i_ with | ⟨s2, i1, j1, fz1⟩ => (0 ≤ i1 ∧ i1 + j1 = (s1.length : Int) - 1 ∧ s2.length = s1.length) ∧ ((j1 - i1 + 1).toNat < fz1) ∧ (slices_Reverse_Op_L0 (fz1) s2 i1 j1) = (slices_Reverse_Op s1)) (fun (i_ : List Op × Int × Int × Nat) => match i_ with | ⟨s2, i1, j1, fz1⟩ => fz1) ⟨s1, 0, ((s1.length : Int) - 1), s1.length + 2⟩ (.nil _) (.nil) ⟨⟨by simp, by simp, rfl⟩, (by first | exact Nat.le_refl _ | exact Nat.zero_le _ | omega), (by simp only [slices_Reverse_Op, Bool.true_and, Bool.and_true, cond_true, cond_false] : (slices_Reverse_Op s1) = (slices_Reverse_Op_L0 (s1.length + 2) s1 0 ((s1.length : Int) - 1))).symm⟩ Le4 ?_
  rintro ⟨s2, i1, j1, fz1⟩ ⟨hi, hzfz1, hf1⟩
  simp only [List.cons_append, List.nil_append]
  have hlt0_ : fz1 = (fz1 - 1) + 1 := by omega
  (repeat refine cw_seq ?_); refine cw_region ?_
  refine Rp rfl rfl rfl rfl ?_
  refine Rp rfl rfl rfl rfl ?_
  refine Rp rfl rfl rfl rfl ?_
  refine rw_nil ?_
  (repeat refine cw_seq ?_); refine cw_cond (b := decide (i1 < j1)) rfl rfl (fun hc1 => ?_) (fun hc1 => ?_)
  · skip
    have hc1p := of_decide_eq_true hc1
    (repeat refine cw_seq ?_); refine cw_skip ?_
    (repeat refine cw_seq ?_); refine cw_block ?_
    (repeat refine cw_seq ?_); refine cw_regionA (fun j => match j with | 13 => some y1b.toList | 15 => some y1b.toList | _ => some []) ?_
    refine ra_q (.an (i := 0) (js := [1, 2, 3, 4, 5, 6, 7, 8, 9, 10, 11]) rfl Kr Kr Kr Kr) (SplitB.all _) (by simp) rfl rfl rfl (q_pev rfl (fun _ => rfl)) ?_
    refine ra_q (.an (i := 1) (js := [2, 3, 4, 5, 6, 7, 8, 9, 10, 11]) rfl Kr Kr Kr Kr) (SplitB.all _) (by simp) rfl rfl rfl (q_pev rfl (fun _ => rfl)) ?_
    refine ra_q (.an (i := 2) (js := [3, 4, 5, 6, 7, 8, 9, 10, 11, 12, 13]) rfl Kr Kr Kr Kr) (SplitB.all _) (by intro g hg; simp only [List.mem_append, List.mem_singleton, List.not_mem_nil, or_false, false_or, Option.mem_toList, Option.mem_def, List.append_nil] at hg; first | exact .inr ⟨ownL EOp 33 y1 y1b s2, Mm, hg⟩) rfl rfl rfl (q_pev rfl (fun _ => rfl)) ?_
    refine ra_q (.an (i := 3) (js := [4, 5, 6, 7, 8, 9, 10, 11, 12, 13]) rfl Kr Kr Kr Kr) (SplitB.all _) (by intro g hg; simp only [List.mem_append, List.mem_singleton, List.not_mem_nil, or_false, false_or, Option.mem_toList, Option.mem_def, List.append_nil] at hg; first | exact .inr ⟨ownL EOp 33 y1 y1b s2, Mm, hg⟩) rfl rfl rfl (q_pev rfl (fun _ => rfl)) ?_
    refine ra_q (.ab (i := 4) (js := [5, 8, 9, 10, 11]) [6, 7, 12, 13, 14, 15] rfl Kr Kr Kr Kr Kr) (SplitB.all _) (by simp) rfl rfl rfl (q_pev rfl (fun _ => rfl)) ?_
    refine ra_q (.ab (i := 5) (js := [8, 9, 10, 11]) [6, 7, 12, 13, 14, 15] rfl Kr Kr Kr Kr Kr) (SplitB.all _) (by simp) rfl rfl rfl (q_pev rfl (fun _ => rfl)) ?_
    refine rw_qO EOp (e := 33) (X := y1) (b := y1b) (l := s2) Mm (.an (i := 6) (js := [8, 9, 10, 11]) rfl Kr Kr Kr Kr) rfl rfl rfl (q_idx EOp j1.toNat rfl rfl (fun _ => rfl) rfl (fun _ => rfl) rfl rfl rfl (.head _) rfl (fun _ => by omega) (fun _ => by first | assumption | omega | (simp only [List.length_set]; omega))) ?_
    refine rw_qO EOp (e := 33) (X := y1) (b := y1b) (l := s2) Mm (.an (i := 7) (js := [8, 9, 10, 11]) rfl Kr Kr Kr Kr) rfl rfl rfl (q_leA EOp rfl rfl (fun _ => rfl) rfl rfl (.head _) (fun _ => by first | assumption | omega | (simp only [List.length_set]; omega))) ?_
    refine ra_q (.ab (i := 8) (js := [9]) [10, 11, 12, 13, 14, 15] rfl Kr Kr Kr Kr Kr) (SplitB.all _) (by simp) rfl rfl rfl (q_pev rfl (fun _ => rfl)) ?_
    refine ra_q (.ab (i := 9) (js := []) [10, 11, 12, 13, 14, 15] rfl Kr Kr Kr Kr Kr) (SplitB.all _) (by simp) rfl rfl rfl (q_pev rfl (fun _ => rfl)) ?_
    refine rw_qO EOp (e := 33) (X := y1) (b := y1b) (l := s2) Mm (.ab (i := 10) (js := []) [11, 12, 13, 14, 15] rfl Kr Kr Kr Kr Kr) rfl rfl rfl (q_idx EOp i1.toNat rfl rfl (fun _ => rfl) rfl (fun _ => rfl) rfl rfl rfl (.head _) rfl (fun _ => by omega) (fun _ => by first | assumption | omega | (simp only [List.length_set]; omega))) ?_
    refine rw_qO EOp (e := 33) (X := y1) (b := y1b) (l := s2) Mm (.an (i := 11) (js := []) rfl Kr Kr Kr Kr) rfl rfl rfl (q_leA EOp rfl rfl (fun _ => rfl) rfl rfl (.head _) (fun _ => by first | assumption | omega | (simp only [List.length_set]; omega))) ?_
    refine rw_qO EOp (e := 33) (X := y1) (b := y1b) (l := s2) Mm (.an (i := 12) (js := []) rfl Kr Kr Kr Kr) rfl rfl rfl (q_idx EOp i1.toNat rfl rfl (fun _ => rfl) rfl (fun _ => rfl) rfl rfl rfl (.head _) rfl (fun _ => by omega) (fun _ => by first | assumption | omega | (simp only [List.length_set]; omega))) ?_
    refine ra_one 13 Kr ?_
    refine rw_stO EOp s2 i1.toNat 0 (gt s2 j1.toNat) (e := 33) (X := y1) (b := y1b) (.an rfl rfl) (.inr (fun g h => by simp [h])) (guard_none rfl) rfl rfl rfl rfl rfl rfl rfl rfl rfl rfl rfl (by first | assumption | omega | (simp only [List.length_set]; omega)) rfl Uo ?_
    have hv1 : y1.val s2.length = y1.val (s2.set i1.toNat (gt s2 j1.toNat)).length := congrArg (SlV.val y1) List.length_set.symm
    try rw [hv1]
    refine rw_qO EOp (e := 33) (X := y1) (b := y1b) (l := (s2.set i1.toNat (gt s2 j1.toNat))) Mm (.an (i := 14) (js := []) rfl Kr Kr Kr Kr) rfl rfl rfl (q_idx EOp j1.toNat rfl rfl (fun _ => rfl) rfl (fun _ => rfl) rfl rfl rfl (.head _) rfl (fun _ => by omega) (fun _ => by first | assumption | omega | (simp only [List.length_set]; omega))) ?_
    refine ra_one 15 Kr ?_
    refine rw_stO EOp (s2.set i1.toNat (gt s2 j1.toNat)) j1.toNat 0 (gt s2 i1.toNat) (e := 33) (X := y1) (b := y1b) (.an rfl rfl) (.inr (fun g h => by simp [h])) (guard_none rfl) rfl rfl rfl rfl rfl rfl rfl rfl rfl rfl rfl (by first | assumption | omega | (simp only [List.length_set]; omega)) rfl Uo ?_
    have hv2 : y1.val (s2.set i1.toNat (gt s2 j1.toNat)).length = y1.val ((s2.set i1.toNat (gt s2 j1.toNat)).set j1.toNat (gt s2 i1.toNat)).length := congrArg (SlV.val y1) List.length_set.symm
    try rw [hv2]
    refine ra_nil Kr ?_
    (repeat refine cw_seq ?_); refine cw_region ?_
    refine Rp rfl rfl rfl rfl ?_
    refine rw_q rfl rfl rfl (q_add rfl rfl (fun _ => rfl) rfl (fun _ => rfl) (fun _ => by omega)) ?_
    refine Rp rfl rfl rfl rfl ?_
    refine rw_q rfl rfl rfl (q_sub rfl rfl (fun _ => rfl) rfl (fun _ => rfl) (fun _ => by omega)) ?_
    refine Rp rfl rfl rfl rfl ?_
    refine Rp rfl rfl rfl rfl ?_
    refine rw_nil ?_
    refine ⟨⟨((s2.set i1.toNat (gt s2 j1.toNat)).set j1.toNat (gt s2 i1.toNat)), (i1 + 1), (j1 - 1), (fz1 - 1)⟩, ⟨(by simp only [List.length_set]; omega), (by (try simp only []); omega), (by rw [← hf1]; (conv => lhs; rw [hlt0_]); simp only [slices_Reverse_Op_L0, hc1, Bool.true_and, Bool.and_true, cond_true, cond_false] : (slices_Reverse_Op s1) = (slices_Reverse_Op_L0 (fz1 - 1) ((s2.set i1.toNat (gt s2 j1.toNat)).set j1.toNat (gt s2 i1.toNat)) (i1 + 1) (j1 - 1))).symm⟩, (by simp only []; omega), Le4⟩
  · skip
    have hc1p := of_decide_eq_false hc1
    (repeat refine cw_seq ?_); refine cw_exit ?_
    have hr1 : (slices_Reverse_Op s1) = s2 := by rw [← hf1]; (conv => lhs; rw [hlt0_]); simp only [slices_Reverse_Op_L0, hc1, Bool.true_and, Bool.and_true, cond_true, cond_false]
    rw [hr1]
    exact ⟨(), _, .nil, rfl, Sm, .nil _, Sp⟩

theorem RV_Op_L0_len : ∀ (f : Nat) (s : List Op) (i j : Int), (j - i + 1).toNat < f → (slices_Reverse_Op_L0 f s i j).length = s.length
  | 0, _, _, _, h => by omega
  | f + 1, s, i, j, h => by
    rw [slices_Reverse_Op_L0]
    cases hc : decide (i < j) with
    | false => rfl
    | true =>
      have hc := of_decide_eq_true hc
      simp only [cond_true]
      rw [RV_Op_L0_len f _ _ _ (by omega)]; simp
theorem RV_Op_len (s : List Op) : (slices_Reverse_Op s).length = s.length := RV_Op_L0_len _ s _ _ (by omega)
theorem RV_RK_Op_L0 : ∀ (f : Nat) (s : List Op) (i j : Int), slices_Reverse_Op_L0 f s i j = slices_ReverseK_Op_L0 0 f s i j
  | 0, _, _, _ => rfl
  | f + 1, s, i, j => by
    rw [slices_Reverse_Op_L0, slices_ReverseK_Op_L0, RV_RK_Op_L0 f]
    simp only [Nat.zero_add]
theorem RV_Op (s : List Op) : slices_Reverse_Op s = s.reverse := by
  have := RK_Op s 0 (by omega)
  unfold slices_ReverseK_Op at this
  unfold slices_Reverse_Op
  rw [RV_RK_Op_L0]
  simpa using this

def orangerylaw_HistoryAny_L0 (l1 : List Op) : List Op → Int → (List Step) → (List Place) → Bool
  | [], e1, l2, p1 => (history_Same (⟨l2, p1⟩ : History) ((history_Fold l1).1))
  | pn1 :: rn1, e1, l2, p1 => (bif ((((history_Insert (⟨l2, p1⟩ : History) pn1).2) != 0) || ((tree_Check (((history_Insert (⟨l2, p1⟩ : History) pn1).1).t)) != 0)) then false else (orangerylaw_HistoryAny_L0 l1 rn1 ((history_Insert (⟨l2, p1⟩ : History) pn1).2) (((history_Insert (⟨l2, p1⟩ : History) pn1).1).l) (((history_Insert (⟨l2, p1⟩ : History) pn1).1).t)))
def orangerylaw_HistoryAny (l1 : List Op) (k1 : Int) : Bool :=
  (bif ((!orangerylaw_folded) || (((history_Fold l1).2) != 0)) then orangerylaw_folded else (orangerylaw_HistoryAny_L0 l1 (slices_Reverse_Op ([(l1.drop ((orangerylaw_at k1 ((l1.length : Int) + 1)).toNat)), (l1.take ((orangerylaw_at k1 ((l1.length : Int) + 1)).toNat))].flatten)) ((history_Fold l1).2) [] []))
theorem orangerylaw_HistoryAny_spec (y1 : SlV) (l1 : List Op) (k1 : Int) : Does Try.prog 17 [y1.val l1.length, .int .i64 k1] [RdL EOp y1 l1] (fun (_ : Unit) => .bool (orangerylaw_HistoryAny l1 k1)) (fun (_ : Unit) => []) := by
  refine does_of tab_ok Try.func17 rfl Try.ntmps17 Try.results17 rfl inferInstance (fun _ => inferInstance) fun C => ?_
  refine cw_pure (φ := l1.length * 56 ≤ 140737488355328) [RdL EOp y1 l1] Sm (fun M w h => (allF1 h).len) fun hlen1 => ?_
  (repeat refine cw_seq ?_); refine cw_region ?_
  refine Rp rfl rfl rfl rfl ?_
  refine rw_nil ?_
  (repeat refine cw_seq ?_); refine cw_region ?_
  refine Rp rfl rfl rfl rfl ?_
  refine rw_call (history_Fold_spec y1 l1) .sq (guard_none rfl) rfl rfl rfl Kr rfl rfl Sm ?_
  intro x1
  refine rw_pure (φ := (((history_Fold l1).1).l).length * 88 ≤ 140737488355328) [RdL EStep x1.1 (((history_Fold l1).1).l)] Sm (fun M w h => (allF1 h).len) fun hlen2 => ?_
  refine rw_pure (φ := (((history_Fold l1).1).t).length * 24 ≤ 140737488355328) [RdL EPlace x1.2 (((history_Fold l1).1).t)] Sm (fun M w h => (allF1 h).len) fun hlen3 => ?_
  refine Rp rfl rfl rfl rfl ?_
  refine Rp rfl rfl rfl rfl ?_
  refine Rp rfl rfl rfl rfl ?_
  refine rw_alloc .sq (guard_none rfl) rfl rfl rfl rfl fun g1 => ?_
  refine rw_stA .sq (.inl ⟨_, rfl⟩) (guard_none rfl) rfl rfl rfl rfl rfl rfl rfl rfl rfl Ub rfl ?_
  refine Rp rfl rfl rfl rfl ?_
  refine rw_nil ?_
  (repeat refine cw_seq ?_); refine cw_region ?_
  refine rw_call (orangerylaw_folded_spec ) .sq (guard_none rfl) rfl rfl rfl Kr rfl rfl Sm ?_
  intro _
  refine Rp rfl rfl rfl rfl ?_
  refine Rp rfl rfl rfl rfl ?_
  refine rw_qg (guard_vf rfl rfl rfl) rfl rfl (q_pev rfl Bt) ?_
  refine rw_qg (guard_vf rfl rfl rfl) rfl rfl (q_pev rfl Bt) ?_
  refine rw_q rfl rfl rfl (q_pev rfl Bt) ?_
  refine rw_nil ?_
  (repeat refine cw_seq ?_); refine cw_cond (b := ((!orangerylaw_folded) || (((history_Fold l1).2) != 0))) rfl rfl (fun hc1 => ?_) (fun hc1 => ?_)
  · skip
    (repeat refine cw_seq ?_); refine cw_region ?_
    refine rw_call (orangerylaw_folded_spec ) .sq (guard_none rfl) rfl rfl rfl Kr rfl rfl Sm ?_
    intro _
    refine Rp rfl rfl rfl rfl ?_
    refine rw_nil ?_
    (repeat refine cw_seq ?_)
    have hr1 : (orangerylaw_HistoryAny l1 k1) = orangerylaw_folded := by simp only [orangerylaw_HistoryAny, hc1, cond_true, cond_false]
    refine cw_ret ?_
    rw [hr1]
    exact ⟨(), _, (.cons (.tmp rfl) .nil), rfl, Sm, .nil _, .nil _⟩
  · skip
    have hfl := history_Fold_len (eq_of_bne_false (Bool.or_eq_false_iff.1 hc1).2)
    have hat := at_in (k := k1) (n := (l1.length : Int) + 1) (by omega)
    (repeat refine cw_seq ?_); refine cw_skip ?_
    (repeat refine cw_seq ?_); refine cw_region ?_
    refine Rp rfl rfl rfl rfl ?_
    refine Rp rfl rfl rfl rfl ?_
    refine Rp rfl rfl rfl rfl ?_
    refine rw_q rfl rfl rfl (q_add rfl rfl (fun _ => rfl) rfl (fun _ => rfl) (fun _ => by omega)) ?_
    refine rw_call (orangerylaw_at_spec k1 ((l1.length : Int) + 1) (by omega)) .sq (guard_none rfl) rfl rfl rfl Kr rfl rfl Sm ?_
    intro _
    refine Rp rfl rfl rfl rfl ?_
    refine rw_nil ?_
    (repeat refine cw_seq ?_); refine cw_regionA (fun _ => some []) ?_
    refine ra_q (.ab (i := 0) (js := [1, 3, 4, 5]) [2, 6, 7, 8] rfl Kr Kr Kr Kr Kr) (SplitB.all _) (by simp) rfl rfl rfl (q_pev rfl (fun _ => rfl)) ?_
    refine ra_q (.ab (i := 1) (js := [3, 4, 5]) [2, 6, 7, 8] rfl Kr Kr Kr Kr Kr) (SplitB.all _) (by simp) rfl rfl rfl (q_pev rfl (fun _ => rfl)) ?_
    refine ra_q (.ab (i := 2) (js := [3, 4, 5]) [6, 7, 8] rfl Kr Kr Kr Kr Kr) (SplitB.all _) (by simp) rfl rfl rfl (q_drop EOp ((orangerylaw_at k1 ((l1.length : Int) + 1)).toNat) rfl rfl (fun _ => rfl) rfl (fun _ => rfl) rfl rfl (fun _ => by omega) (fun _ => by omega)) ?_
    refine rw_fact (F := RdL EOp (⟨slA y1.a y1.c ((orangerylaw_at k1 ((l1.length : Int) + 1)).toNat) EOp.esz, y1.c - ((orangerylaw_at k1 ((l1.length : Int) + 1)).toNat)⟩ : SlV) (l1.drop ((orangerylaw_at k1 ((l1.length : Int) + 1)).toNat))) [RdL EOp y1 l1] Sm (fun M w h => (allF1 h).drop _ (by omega)) ?_
    refine ra_q (.ab (i := 3) (js := [4]) [5, 6, 7, 8] rfl Kr Kr Kr Kr Kr) (SplitB.all _) (by simp) rfl rfl rfl (q_pev rfl (fun _ => rfl)) ?_
    refine ra_q (.ab (i := 4) (js := []) [5, 6, 7, 8] rfl Kr Kr Kr Kr Kr) (SplitB.all _) (by simp) rfl rfl rfl (q_pev rfl (fun _ => rfl)) ?_
    refine ra_q (.ab (i := 5) (js := []) [6, 7, 8] rfl Kr Kr Kr Kr Kr) (SplitB.all _) (by simp) rfl rfl rfl (q_take EOp ((orangerylaw_at k1 ((l1.length : Int) + 1)).toNat) rfl rfl (fun _ => rfl) rfl (fun _ => rfl) rfl rfl Mm (fun _ => by omega) (fun _ => by omega)) ?_
    refine rw_fact (F := RdL EOp y1 (l1.take ((orangerylaw_at k1 ((l1.length : Int) + 1)).toNat))) [RdL EOp y1 l1] Sm (fun M w h => (allF1 h).take _) ?_
    refine ra_one 6 Kr ?_
    refine rw_bsliceL NOps.E [((⟨slA y1.a y1.c ((orangerylaw_at k1 ((l1.length : Int) + 1)).toNat) EOp.esz, y1.c - ((orangerylaw_at k1 ((l1.length : Int) + 1)).toNat)⟩ : SlV), (l1.drop ((orangerylaw_at k1 ((l1.length : Int) + 1)).toNat))), (y1, (l1.take ((orangerylaw_at k1 ((l1.length : Int) + 1)).toNat)))] (.an rfl rfl) (guard_none rfl) rfl rfl rfl rfl rfl rfl rfl rfl rfl rfl rfl rfl rfl rfl rfl fun x2 x2b => ?_
    refine ra_one 7 Kr ?_
    refine rw_le (le_freezeL NOps.E 91 x2 x2b [((⟨slA y1.a y1.c ((orangerylaw_at k1 ((l1.length : Int) + 1)).toNat) EOp.esz, y1.c - ((orangerylaw_at k1 ((l1.length : Int) + 1)).toNat)⟩ : SlV), (l1.drop ((orangerylaw_at k1 ((l1.length : Int) + 1)).toNat))), (y1, (l1.take ((orangerylaw_at k1 ((l1.length : Int) + 1)).toNat)))] Uo) ?_
    refine rw_fact (F := RdN NOps x2 [(l1.drop ((orangerylaw_at k1 ((l1.length : Int) + 1)).toNat)), (l1.take ((orangerylaw_at k1 ((l1.length : Int) + 1)).toNat))]) [RdL NOps.E x2 [((⟨slA y1.a y1.c ((orangerylaw_at k1 ((l1.length : Int) + 1)).toNat) EOp.esz, y1.c - ((orangerylaw_at k1 ((l1.length : Int) + 1)).toNat)⟩ : SlV), (l1.drop ((orangerylaw_at k1 ((l1.length : Int) + 1)).toNat))), (y1, (l1.take ((orangerylaw_at k1 ((l1.length : Int) + 1)).toNat)))], RdL EOp (⟨slA y1.a y1.c ((orangerylaw_at k1 ((l1.length : Int) + 1)).toNat) EOp.esz, y1.c - ((orangerylaw_at k1 ((l1.length : Int) + 1)).toNat)⟩ : SlV) (l1.drop ((orangerylaw_at k1 ((l1.length : Int) + 1)).toNat)), RdL EOp y1 (l1.take ((orangerylaw_at k1 ((l1.length : Int) + 1)).toNat))] Sm (fun M w h => RdN.of NOps (hs := [((⟨slA y1.a y1.c ((orangerylaw_at k1 ((l1.length : Int) + 1)).toNat) EOp.esz, y1.c - ((orangerylaw_at k1 ((l1.length : Int) + 1)).toNat)⟩ : SlV), (l1.drop ((orangerylaw_at k1 ((l1.length : Int) + 1)).toNat))), (y1, (l1.take ((orangerylaw_at k1 ((l1.length : Int) + 1)).toNat)))]) rfl (h _ (.head _)) (allP_cons (allF_sub Sm h) (allP_cons (allF_sub Sm h) (fun p hp => by cases hp)))) ?_
    refine rw_callG (slices_Concat_Op_spec' x2 [(l1.drop ((orangerylaw_at k1 ((l1.length : Int) + 1)).toNat)), (l1.take ((orangerylaw_at k1 ((l1.length : Int) + 1)).toNat))] (by simp only [List.flatten_cons, List.flatten_nil, List.append_nil, List.length_append, List.length_drop, List.length_take]; omega)) (.an rfl rfl) (.inr (by simp [Lent.ids])) (guard_none rfl) rfl rfl rfl Kr rfl rfl Sm (.nil _) (.nil _) ?_
    intro x3
    refine ra_q (.an (i := 8) (js := []) rfl Kr Kr Kr Kr) (SplitB.all _) (by simp) rfl rfl rfl (q_pev rfl (fun _ => rfl)) ?_
    refine ra_nil Kr ?_
    (repeat refine cw_seq ?_); refine cw_region ?_
    refine Rp rfl rfl rfl rfl ?_
    refine rw_callG (slices_Reverse_Op_spec x3.1 x3.2 ([(l1.drop ((orangerylaw_at k1 ((l1.length : Int) + 1)).toNat)), (l1.take ((orangerylaw_at k1 ((l1.length : Int) + 1)).toNat))].flatten)) .sq (.inl ⟨_, rfl⟩) (guard_none rfl) rfl rfl rfl Kr rfl rfl Sm (.nil _) (by first | exact .cons (.here _ _) (.nil _) | exact .cons (.there _ (.here _ _)) (.nil _) | exact .cons (.there _ (.there _ (.here _ _))) (.nil _) | exact .cons (.there _ (.there _ (.there _ (.here _ _)))) (.nil _)) ?_
    intro _
    have hv1l : ([(l1.drop ((orangerylaw_at k1 ((l1.length : Int) + 1)).toNat)), (l1.take ((orangerylaw_at k1 ((l1.length : Int) + 1)).toNat))].flatten).length = (slices_Reverse_Op ([(l1.drop ((orangerylaw_at k1 ((l1.length : Int) + 1)).toNat)), (l1.take ((orangerylaw_at k1 ((l1.length : Int) + 1)).toNat))].flatten)).length := (RV_Op_len ([(l1.drop ((orangerylaw_at k1 ((l1.length : Int) + 1)).toNat)), (l1.take ((orangerylaw_at k1 ((l1.length : Int) + 1)).toNat))].flatten)).symm
    have hv1 : x3.1.val ([(l1.drop ((orangerylaw_at k1 ((l1.length : Int) + 1)).toNat)), (l1.take ((orangerylaw_at k1 ((l1.length : Int) + 1)).toNat))].flatten).length = x3.1.val (slices_Reverse_Op ([(l1.drop ((orangerylaw_at k1 ((l1.length : Int) + 1)).toNat)), (l1.take ((orangerylaw_at k1 ((l1.length : Int) + 1)).toNat))].flatten)).length := congrArg (SlV.val x3.1) hv1l
    try rw [hv1]
    refine rw_nil ?_
    (repeat refine cw_seq ?_); refine cw_region ?_
    refine rw_alloc .sq (guard_none rfl) rfl rfl rfl rfl fun g2 => ?_
    refine rw_nil ?_
    (repeat refine cw_seq ?_); refine cw_region ?_
    refine Rp rfl rfl rfl rfl ?_
    refine Rp rfl rfl rfl rfl ?_
    refine Rp rfl rfl rfl rfl ?_
    refine rw_nil ?_
    (repeat refine cw_seq ?_); refine cw_block ?_
    refine cw_le (le_freezeL EOp 33 x3.1 x3.2 (slices_Reverse_Op ([(l1.drop ((orangerylaw_at k1 ((l1.length : Int) + 1)).toNat)), (l1.take ((orangerylaw_at k1 ((l1.length : Int) + 1)).toNat))].flatten)) Uo) ?_
    refine cw_pure (φ := (slices_Reverse_Op ([(l1.drop ((orangerylaw_at k1 ((l1.length : Int) + 1)).toNat)), (l1.take ((orangerylaw_at k1 ((l1.length : Int) + 1)).toNat))].flatten)).length * 56 ≤ 140737488355328) [RdL EOp x3.1 (slices_Reverse_Op ([(l1.drop ((orangerylaw_at k1 ((l1.length : Int) + 1)).toNat)), (l1.take ((orangerylaw_at k1 ((l1.length : Int) + 1)).toNat))].flatten))] Sm (fun M w h => (allF1 h).len) fun hlen4 => ?_
    (repeat refine cw_seq ?_); refine cw_loopS [4, 5, 8, 38, 39] [false, true] (fun (i_ : Int × Nat × List Step × SlV × List Place × SlV) => match i_ with | ⟨e1, n1, l2, x4, p1, x5⟩ => [(6, .v (.int .i64 e1)), (40, .v (.int .i64 (n1 : Int)))]) (fun (i_ : Int × Nat × List Step × SlV × List Place × SlV) => match i_ with | ⟨e1, n1, l2, x4, p1, x5⟩ => [⟨g2, 94, [x4.val l2.length, x5.val p1.length]⟩]) (fun (i_ : Int × Nat × List Step × SlV × List Place × SlV) => match i_ with | ⟨e1, n1, l2, x4, p1, x5⟩ => []) (fun (i_ : Int × Nat × List Step × SlV × List Place × SlV) => match i_ with | ⟨e1, n1, l2, x4, p1, x5⟩ => [RdL EStep x4 l2, RdL EPlace x5 p1]) (fun (i_ : Int × Nat × List Step × SlV × List Place × SlV) => match i_ with | ⟨e1, n1, l2, x4, p1, x5⟩ => (n1 ≤ (slices_Reverse_Op ([(l1.drop ((orangerylaw_at k1 ((l1.length : Int) + 1)).toNat)), (l1.take ((orangerylaw_at k1 ((l1.length : Int) + 1)).toNat))].flatten)).length) ∧ (orangerylaw_HistoryAny_L0 l1 ((slices_Reverse_Op ([(l1.drop ((orangerylaw_at k1 ((l1.length : Int) + 1)).toNat)), (l1.take ((orangerylaw_at k1 ((l1.length : Int) + 1)).toNat))].flatten)).drop n1) e1 l2 p1) = (orangerylaw_HistoryAny l1 k1)) (fun (i_ : Int × Nat × List Step × SlV × List Place × SlV) => match i_ with | ⟨e1, n1, l2, x4, p1, x5⟩ => (slices_Reverse_Op ([(l1.drop ((orangerylaw_at k1 ((l1.length : Int) + 1)).toNat)), (l1.take ((orangerylaw_at k1 ((l1.length : Int) + 1)).toNat))].flatten)).length - n1) ⟨(history_Fold l1).2, 0, [], ⟨none, 0⟩, [], ⟨none, 0⟩⟩ (.cons rfl (.cons rfl (.cons rfl (.cons rfl (.cons rfl (.nil _)))))) (.drop (.keep (.nil))) ⟨Nat.zero_le _, (by simp only [orangerylaw_HistoryAny, hc1, cond_true, cond_false] : (orangerylaw_HistoryAny l1 k1) = (orangerylaw_HistoryAny_L0 l1 (slices_Reverse_Op ([(l1.drop ((orangerylaw_at k1 ((l1.length : Int) + 1)).toNat)), (l1.take ((orangerylaw_at k1 ((l1.length : Int) + 1)).toNat))].flatten)) ((history_Fold l1).2) [] [])).symm⟩ (Le.trans (le_fact (RdL EStep ⟨none, 0⟩ ([] : List Step)) [] (.nil _) (fun M w _ => RdL.nil _ _ _ (by omega) M w)) (Le.trans (le_fact (RdL EPlace ⟨none, 0⟩ ([] : List Place)) [] (.nil _) (fun M w _ => RdL.nil _ _ _ (by omega) M w)) Le4)) ?_
    rintro ⟨e1, n1, l2, x4, p1, x5⟩ ⟨hkn1, hf1⟩
    simp only [List.cons_append, List.nil_append]
    (repeat refine cw_seq ?_); refine cw_region ?_
    refine Rp rfl rfl rfl rfl ?_
    refine rw_nil ?_
    (repeat refine cw_seq ?_); refine cw_cond (b := decide ((n1 : Int) < ((slices_Reverse_Op ([(l1.drop ((orangerylaw_at k1 ((l1.length : Int) + 1)).toNat)), (l1.take ((orangerylaw_at k1 ((l1.length : Int) + 1)).toNat))].flatten)).length : Int))) rfl rfl (fun hc2 => ?_) (fun hc2 => ?_)
    · skip
      have hlt0 : n1 < (slices_Reverse_Op ([(l1.drop ((orangerylaw_at k1 ((l1.length : Int) + 1)).toNat)), (l1.take ((orangerylaw_at k1 ((l1.length : Int) + 1)).toNat))].flatten)).length := Int.ofNat_lt.1 (of_decide_eq_true hc2)
      (repeat refine cw_seq ?_); refine cw_skip ?_
      (repeat refine cw_seq ?_); refine cw_block ?_
      (repeat refine cw_seq ?_); refine cw_region ?_
      refine rw_q rfl rfl rfl (q_idx EOp n1 rfl rfl (fun _ => rfl) rfl (fun _ => rfl) rfl rfl rfl Mm rfl (fun _ => rfl) (fun _ => by first | assumption | omega)) ?_
      refine rw_q rfl rfl rfl (q_leA EOp rfl rfl (fun _ => rfl) rfl rfl Mm (fun _ => by first | assumption | omega)) ?_
      refine rw_alloc .sq (guard_none rfl) rfl rfl rfl rfl fun g3 => ?_
      refine rw_stA .sq (.inl ⟨_, rfl⟩) (guard_none rfl) rfl rfl rfl rfl rfl rfl rfl rfl rfl Ub rfl ?_
      refine rw_nil ?_
      (repeat refine cw_seq ?_); refine cw_region ?_
      refine rw_q rfl rfl rfl (q_ldA rfl rfl (fun _ => rfl) rfl Mm rfl) ?_
      refine rw_q rfl rfl rfl (q_ldA rfl rfl (fun _ => rfl) rfl Mm rfl) ?_
      refine rw_call (history_Insert_spec x4 x5 (⟨l2, p1⟩ : History) (gt (slices_Reverse_Op ([(l1.drop ((orangerylaw_at k1 ((l1.length : Int) + 1)).toNat)), (l1.take ((orangerylaw_at k1 ((l1.length : Int) + 1)).toNat))].flatten)) n1)) .sq (guard_none rfl) rfl rfl rfl Kr rfl rfl Sm ?_
      intro x6
      refine rw_pure (φ := (((history_Insert (⟨l2, p1⟩ : History) (gt (slices_Reverse_Op ([(l1.drop ((orangerylaw_at k1 ((l1.length : Int) + 1)).toNat)), (l1.take ((orangerylaw_at k1 ((l1.length : Int) + 1)).toNat))].flatten)) n1)).1).l).length * 88 ≤ 140737488355328) [RdL EStep x6.1 (((history_Insert (⟨l2, p1⟩ : History) (gt (slices_Reverse_Op ([(l1.drop ((orangerylaw_at k1 ((l1.length : Int) + 1)).toNat)), (l1.take ((orangerylaw_at k1 ((l1.length : Int) + 1)).toNat))].flatten)) n1)).1).l)] Sm (fun M w h => (allF1 h).len) fun hlen5 => ?_
      refine rw_pure (φ := (((history_Insert (⟨l2, p1⟩ : History) (gt (slices_Reverse_Op ([(l1.drop ((orangerylaw_at k1 ((l1.length : Int) + 1)).toNat)), (l1.take ((orangerylaw_at k1 ((l1.length : Int) + 1)).toNat))].flatten)) n1)).1).t).length * 24 ≤ 140737488355328) [RdL EPlace x6.2 (((history_Insert (⟨l2, p1⟩ : History) (gt (slices_Reverse_Op ([(l1.drop ((orangerylaw_at k1 ((l1.length : Int) + 1)).toNat)), (l1.take ((orangerylaw_at k1 ((l1.length : Int) + 1)).toNat))].flatten)) n1)).1).t)] Sm (fun M w h => (allF1 h).len) fun hlen6 => ?_
      refine Rp rfl rfl rfl rfl ?_
      refine Rp rfl rfl rfl rfl ?_
      refine Rp rfl rfl rfl rfl ?_
      refine rw_stA .sq (.inl ⟨_, rfl⟩) (guard_none rfl) rfl rfl rfl rfl rfl rfl rfl rfl rfl Ub rfl ?_
      refine Rp rfl rfl rfl rfl ?_
      refine rw_nil ?_
      (repeat refine cw_seq ?_); refine cw_region ?_
      refine Rp rfl rfl rfl rfl ?_
      refine Rp rfl rfl rfl rfl ?_
      refine Rp rfl rfl rfl rfl ?_
      refine rw_qg (guard_vf rfl rfl rfl) rfl rfl (q_pev rfl Bt) ?_
      refine rw_qg (guard_vf rfl rfl rfl) rfl rfl (q_ldP rfl rfl Bt rfl Mm rfl) ?_
      refine rw_callg (fun hG_ => tree_Check_spec x6.2 (((history_Insert (⟨l2, p1⟩ : History) (gt (slices_Reverse_Op ([(l1.drop ((orangerylaw_at k1 ((l1.length : Int) + 1)).toNat)), (l1.take ((orangerylaw_at k1 ((l1.length : Int) + 1)).toNat))].flatten)) n1)).1).t)) (fun _ => rfl) .sq (guard_vf rfl rfl rfl) rfl rfl rfl Kr rfl Bt Sm ?_
      refine rw_qg (guard_vf rfl rfl rfl) rfl rfl (q_pev rfl Bt) ?_
      refine rw_q rfl rfl rfl (q_pev rfl Bt) ?_
      refine rw_nil ?_
      (repeat refine cw_seq ?_); refine cw_cond (b := ((((history_Insert (⟨l2, p1⟩ : History) (gt (slices_Reverse_Op ([(l1.drop ((orangerylaw_at k1 ((l1.length : Int) + 1)).toNat)), (l1.take ((orangerylaw_at k1 ((l1.length : Int) + 1)).toNat))].flatten)) n1)).2) != 0) || ((tree_Check (((history_Insert (⟨l2, p1⟩ : History) (gt (slices_Reverse_Op ([(l1.drop ((orangerylaw_at k1 ((l1.length : Int) + 1)).toNat)), (l1.take ((orangerylaw_at k1 ((l1.length : Int) + 1)).toNat))].flatten)) n1)).1).t)) != 0))) rfl rfl (fun hc3 => ?_) (fun hc3 => ?_)
      · skip
        (repeat refine cw_seq ?_); refine cw_region ?_
        refine Rp rfl rfl rfl rfl ?_
        refine rw_nil ?_
        (repeat refine cw_seq ?_)
        have hr2 : (orangerylaw_HistoryAny l1 k1) = false := by rw [← hf1, drop_gt hlt0]; simp only [orangerylaw_HistoryAny_L0, hc3, cond_true, cond_false]
        refine cw_ret ?_
        rw [hr2]
        exact ⟨(), _, (.cons (.tmp rfl) .nil), rfl, Sm, .nil _, .nil _⟩
      · skip
        (repeat refine cw_seq ?_); refine cw_skip ?_
        (repeat refine cw_seq ?_); refine cw_region ?_
        refine rw_q rfl rfl rfl (q_add rfl rfl (fun _ => rfl) rfl (fun _ => rfl) (fun _ => by omega)) ?_
        refine Rp rfl rfl rfl rfl ?_
        refine rw_nil ?_
        refine ⟨⟨(history_Insert (⟨l2, p1⟩ : History) (gt (slices_Reverse_Op ([(l1.drop ((orangerylaw_at k1 ((l1.length : Int) + 1)).toNat)), (l1.take ((orangerylaw_at k1 ((l1.length : Int) + 1)).toNat))].flatten)) n1)).2, (n1 + 1), ((history_Insert (⟨l2, p1⟩ : History) (gt (slices_Reverse_Op ([(l1.drop ((orangerylaw_at k1 ((l1.length : Int) + 1)).toNat)), (l1.take ((orangerylaw_at k1 ((l1.length : Int) + 1)).toNat))].flatten)) n1)).1).l, x6.1, ((history_Insert (⟨l2, p1⟩ : History) (gt (slices_Reverse_Op ([(l1.drop ((orangerylaw_at k1 ((l1.length : Int) + 1)).toNat)), (l1.take ((orangerylaw_at k1 ((l1.length : Int) + 1)).toNat))].flatten)) n1)).1).t, x6.2⟩, ⟨hlt0, (by rw [← hf1, drop_gt hlt0]; simp only [orangerylaw_HistoryAny_L0, hc3, cond_true, cond_false] : (orangerylaw_HistoryAny l1 k1) = (orangerylaw_HistoryAny_L0 l1 ((slices_Reverse_Op ([(l1.drop ((orangerylaw_at k1 ((l1.length : Int) + 1)).toNat)), (l1.take ((orangerylaw_at k1 ((l1.length : Int) + 1)).toNat))].flatten)).drop (n1 + 1)) ((history_Insert (⟨l2, p1⟩ : History) (gt (slices_Reverse_Op ([(l1.drop ((orangerylaw_at k1 ((l1.length : Int) + 1)).toNat)), (l1.take ((orangerylaw_at k1 ((l1.length : Int) + 1)).toNat))].flatten)) n1)).2) (((history_Insert (⟨l2, p1⟩ : History) (gt (slices_Reverse_Op ([(l1.drop ((orangerylaw_at k1 ((l1.length : Int) + 1)).toNat)), (l1.take ((orangerylaw_at k1 ((l1.length : Int) + 1)).toNat))].flatten)) n1)).1).l) (((history_Insert (⟨l2, p1⟩ : History) (gt (slices_Reverse_Op ([(l1.drop ((orangerylaw_at k1 ((l1.length : Int) + 1)).toNat)), (l1.take ((orangerylaw_at k1 ((l1.length : Int) + 1)).toNat))].flatten)) n1)).1).t))).symm⟩, (by simp only []; omega), Le4⟩
    · skip
      have hge0 : (slices_Reverse_Op ([(l1.drop ((orangerylaw_at k1 ((l1.length : Int) + 1)).toNat)), (l1.take ((orangerylaw_at k1 ((l1.length : Int) + 1)).toNat))].flatten)).length ≤ n1 := by have := of_decide_eq_false hc2; omega
      (repeat refine cw_seq ?_); refine cw_exit ?_
      (repeat refine cw_seq ?_); refine cw_region ?_
      refine rw_q rfl rfl rfl (q_ldA rfl rfl (fun _ => rfl) rfl Mm rfl) ?_
      refine rw_q rfl rfl rfl (q_ldA rfl rfl (fun _ => rfl) rfl Mm rfl) ?_
      refine rw_call (history_Same_spec x4 x5 (⟨l2, p1⟩ : History) x1.1 x1.2 ((history_Fold l1).1)) .sq (guard_none rfl) rfl rfl rfl Kr rfl rfl Sm ?_
      intro _
      refine Rp rfl rfl rfl rfl ?_
      refine rw_nil ?_
      (repeat refine cw_seq ?_)
      have hr3 : (orangerylaw_HistoryAny l1 k1) = (history_Same (⟨l2, p1⟩ : History) ((history_Fold l1).1)) := by rw [← hf1, List.drop_of_length_le hge0]; simp only [orangerylaw_HistoryAny_L0, cond_true, cond_false]
      refine cw_ret ?_
      rw [hr3]
      exact ⟨(), _, (.cons (.tmp rfl) .nil), rfl, Sm, .nil _, .nil _⟩
end Go.Proofs.Ytchdacbjiomplaa
