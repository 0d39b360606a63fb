/- Part of this claim. No condition. -/
import Derived.Test.YtchdacbjiomplaaW2
import Derived.Test.YtchdacbjiomplaaFw
set_option linter.unusedVariables false
set_option linter.unusedSimpArgs false
namespace Go.Proofs.Ytchdacbjiomplaa
open Go Go.Proofs.Ytchdacbjiomplaa.Fw Go.Proofs
def slices_IndexFunc_Place_L0 (f1 : Place → Bool) : List Place → Nat → Int
  | [], n1 => (-1)
  | pn1 :: rn1, n1 => (bif (f1 pn1) then (n1 : Int) else (slices_IndexFunc_Place_L0 f1 rn1 (n1 + 1)))
def slices_IndexFunc_Place (s1 : List Place) (f1 : Place → Bool) : Int :=
  (slices_IndexFunc_Place_L0 f1 s1 0)
theorem slices_IndexFunc_Place_spec (y1 : SlV) (s1 : List Place) (f2 : Nat) (caps1 : List Value) (pre1 : List Pred) [StabL pre1] (f1 : Place → Bool) (hfb1 : tab.fnb f2 = true) (hfn1 : ∀ (a0_ : Place), Does Try.prog f2 ([.agg ⟨[.int .i64 a0_.node, .int .i64 a0_.parent, .int .i64 a0_.name]⟩] ++ caps1) pre1 (fun (_ : Unit) => .bool (f1 a0_)) (fun (_ : Unit) => [])) : Does Try.prog 141 [y1.val s1.length, .func (.func f2) #[] ⟨caps1⟩] (RdL EPlace y1 s1 :: pre1) (fun (_ : Unit) => .int .i64 (slices_IndexFunc_Place s1 f1)) (fun (_ : Unit) => []) := by
  refine does_of tab_ok Try.func141 rfl Try.ntmps141 Try.results141 rfl inferInstance (fun _ => inferInstance) fun C => ?_
  refine cw_pure (φ := s1.length * 24 ≤ 140737488355328) [RdL EPlace y1 s1] Sf (fun M w h => (allF1 h).len) fun hlen1 => ?_
  (repeat refine cw_seq ?_); refine cw_region ?_
  refine Rp rfl rfl rfl rfl ?_
  refine rw_nil ?_
  (repeat refine cw_seq ?_); refine cw_region ?_
  refine Rp rfl rfl rfl rfl ?_
  refine Rp rfl rfl rfl rfl ?_
  refine Rp rfl rfl rfl rfl ?_
  refine rw_nil ?_
  (repeat refine cw_seq ?_); refine cw_block ?_
  (repeat refine cw_seq ?_); refine cw_loopS [0, 1, 4, 7] [] (fun (n1 : Nat) => [(8, .v (.int .i64 (n1 : Int)))]) (fun (n1 : Nat) => []) (fun (n1 : Nat) => []) (fun (n1 : Nat) => []) (fun (n1 : Nat) => (n1 ≤ s1.length) ∧ (slices_IndexFunc_Place_L0 f1 (s1.drop n1) n1) = (slices_IndexFunc_Place s1 f1)) (fun (n1 : Nat) => s1.length - n1) 0 (.cons rfl (.cons rfl (.cons rfl (.cons rfl (.nil _))))) (.nil) ⟨Nat.zero_le _, (by simp only [slices_IndexFunc_Place, cond_true, cond_false] : (slices_IndexFunc_Place s1 f1) = (slices_IndexFunc_Place_L0 f1 s1 0)).symm⟩ Le5 ?_
  rintro n1 ⟨hkn1, hf1⟩
  simp only [List.cons_append, List.nil_append]
  (repeat refine cw_seq ?_); refine cw_region ?_
  refine Rp rfl rfl rfl rfl ?_
  refine rw_nil ?_
  (repeat refine cw_seq ?_); refine cw_cond (b := decide ((n1 : Int) < (s1.length : Int))) rfl rfl (fun hc1 => ?_) (fun hc1 => ?_)
  · skip
    have hlt0 : n1 < s1.length := Int.ofNat_lt.1 (of_decide_eq_true hc1)
    (repeat refine cw_seq ?_); refine cw_skip ?_
    (repeat refine cw_seq ?_); refine cw_block ?_
    (repeat refine cw_seq ?_); refine cw_region ?_
    refine Rp rfl rfl rfl rfl ?_
    refine Rp rfl rfl rfl rfl ?_
    refine rw_nil ?_
    (repeat refine cw_seq ?_); refine cw_region ?_
    refine Rp rfl rfl rfl rfl ?_
    refine Rp rfl rfl rfl rfl ?_
    refine Rp rfl rfl rfl rfl ?_
    refine rw_q rfl rfl rfl (q_idx EPlace n1 rfl rfl (fun _ => rfl) rfl (fun _ => rfl) rfl rfl rfl Mm rfl (fun _ => rfl) (fun _ => by first | assumption | omega)) ?_
    refine rw_q rfl rfl rfl (q_leA EPlace rfl rfl (fun _ => rfl) rfl rfl Mm (fun _ => by first | assumption | omega)) ?_
    refine rw_callv (hfn1 (gt s1 n1)) .sq (guard_none rfl) rfl rfl rfl rfl rfl (by assumption) rfl rfl rfl Sf ?_
    intro _
    refine rw_nil ?_
    (repeat refine cw_seq ?_); refine cw_cond (b := (f1 (gt s1 n1))) rfl rfl (fun hc2 => ?_) (fun hc2 => ?_)
    · skip
      (repeat refine cw_seq ?_); refine cw_region ?_
      refine Rp rfl rfl rfl rfl ?_
      refine Rp rfl rfl rfl rfl ?_
      refine rw_nil ?_
      (repeat refine cw_seq ?_)
      have hr1 : (slices_IndexFunc_Place s1 f1) = (n1 : Int) := by rw [← hf1, drop_gt hlt0]; simp only [slices_IndexFunc_Place_L0, hc2, cond_true, cond_false]
      refine cw_ret ?_
      rw [hr1]
      exact ⟨(), _, (.cons (.tmp rfl) .nil), rfl, Sf, .nil _, .nil _⟩
    · skip
      (repeat refine cw_seq ?_); refine cw_skip ?_
      (repeat refine cw_seq ?_); refine cw_region ?_
      refine rw_q rfl rfl rfl (q_add rfl rfl (fun _ => rfl) rfl (fun _ => rfl) (fun _ => by omega)) ?_
      refine Rp rfl rfl rfl rfl ?_
      refine rw_nil ?_
      refine ⟨(n1 + 1), ⟨hlt0, (by rw [← hf1, drop_gt hlt0]; simp only [slices_IndexFunc_Place_L0, hc2, cond_true, cond_false] : (slices_IndexFunc_Place s1 f1) = (slices_IndexFunc_Place_L0 f1 (s1.drop (n1 + 1)) (n1 + 1))).symm⟩, (by simp only []; omega), Le5⟩
  · skip
    have hge0 : s1.length ≤ n1 := by have := of_decide_eq_false hc1; omega
    (repeat refine cw_seq ?_); refine cw_exit ?_
    (repeat refine cw_seq ?_); refine cw_region ?_
    refine Rp rfl rfl rfl rfl ?_
    refine rw_nil ?_
    (repeat refine cw_seq ?_)
    have hr2 : (slices_IndexFunc_Place s1 f1) = (-1) := by rw [← hf1, List.drop_of_length_le hge0]; simp only [slices_IndexFunc_Place_L0, cond_true, cond_false]
    refine cw_ret ?_
    rw [hr2]
    exact ⟨(), _, (.cons (.tmp rfl) .nil), rfl, Sf, .nil _, .nil _⟩

theorem slices_IndexFunc_Place_L0_lt (f : Place → Bool) : ∀ (l : List Place) (k : Nat), slices_IndexFunc_Place_L0 f l k < (k : Int) + (l.length : Int) ∨ slices_IndexFunc_Place_L0 f l k = -1
  | [], k => .inr rfl
  | p :: r, k => by
    rw [slices_IndexFunc_Place_L0]
    cases f p with
    | true => simp only [cond_true, List.length_cons]; omega
    | false => have := slices_IndexFunc_Place_L0_lt f r (k + 1); simp only [cond_false, List.length_cons]; omega
theorem slices_IndexFunc_Place_lt (l : List Place) (f : Place → Bool) : slices_IndexFunc_Place l f < (l.length : Int) ∨ slices_IndexFunc_Place l f = -1 := by
  have := slices_IndexFunc_Place_L0_lt f l 0
  unfold slices_IndexFunc_Place
  omega

def slices_Index_int_L0 (v1 : Int) : List Int → Nat → Int
  | [], n1 => (-1)
  | pn1 :: rn1, n1 => (bif (v1 == pn1) then (n1 : Int) else (slices_Index_int_L0 v1 rn1 (n1 + 1)))
def slices_Index_int (s1 : List Int) (v1 : Int) : Int :=
  (slices_Index_int_L0 v1 s1 0)
theorem slices_Index_int_spec (y1 : SlV) (s1 : List Int) (v1 : Int) : Does Try.prog 172 [y1.val s1.length, .int .i64 v1] [RdL EInt y1 s1] (fun (_ : Unit) => .int .i64 (slices_Index_int s1 v1)) (fun (_ : Unit) => []) := by
  refine does_of tab_ok Try.func172 rfl Try.ntmps172 Try.results172 rfl inferInstance (fun _ => inferInstance) fun C => ?_
  refine cw_pure (φ := s1.length * 8 ≤ 140737488355328) [RdL EInt y1 s1] Sm (fun M w h => (allF1 h).len) fun hlen1 => ?_
  (repeat refine cw_seq ?_); refine cw_region ?_
  refine Rp rfl rfl rfl rfl ?_
  refine rw_nil ?_
  (repeat refine cw_seq ?_); refine cw_region ?_
  refine Rp rfl rfl rfl rfl ?_
  refine Rp rfl rfl rfl rfl ?_
  refine Rp rfl rfl rfl rfl ?_
  refine rw_nil ?_
  (repeat refine cw_seq ?_); refine cw_block ?_
  (repeat refine cw_seq ?_); refine cw_loopS [0, 1, 4, 7] [] (fun (n1 : Nat) => [(8, .v (.int .i64 (n1 : Int)))]) (fun (n1 : Nat) => []) (fun (n1 : Nat) => []) (fun (n1 : Nat) => []) (fun (n1 : Nat) => (n1 ≤ s1.length) ∧ (slices_Index_int_L0 v1 (s1.drop n1) n1) = (slices_Index_int s1 v1)) (fun (n1 : Nat) => s1.length - n1) 0 (.cons rfl (.cons rfl (.cons rfl (.cons rfl (.nil _))))) (.nil) ⟨Nat.zero_le _, (by simp only [slices_Index_int, cond_true, cond_false] : (slices_Index_int s1 v1) = (slices_Index_int_L0 v1 s1 0)).symm⟩ Le4 ?_
  rintro n1 ⟨hkn1, hf1⟩
  simp only [List.cons_append, List.nil_append]
  (repeat refine cw_seq ?_); refine cw_region ?_
  refine Rp rfl rfl rfl rfl ?_
  refine rw_nil ?_
  (repeat refine cw_seq ?_); refine cw_cond (b := decide ((n1 : Int) < (s1.length : Int))) rfl rfl (fun hc1 => ?_) (fun hc1 => ?_)
  · skip
    have hlt0 : n1 < s1.length := Int.ofNat_lt.1 (of_decide_eq_true hc1)
    (repeat refine cw_seq ?_); refine cw_skip ?_
    (repeat refine cw_seq ?_); refine cw_block ?_
    (repeat refine cw_seq ?_); refine cw_region ?_
    refine Rp rfl rfl rfl rfl ?_
    refine Rp rfl rfl rfl rfl ?_
    refine rw_nil ?_
    (repeat refine cw_seq ?_); refine cw_region ?_
    refine Rp rfl rfl rfl rfl ?_
    refine Rp rfl rfl rfl rfl ?_
    refine Rp rfl rfl rfl rfl ?_
    refine rw_q rfl rfl rfl (q_idx EInt n1 rfl rfl (fun _ => rfl) rfl (fun _ => rfl) rfl rfl rfl Mm rfl (fun _ => rfl) (fun _ => by first | assumption | omega)) ?_
    refine rw_q rfl rfl rfl (q_le1 EInt rfl rfl (fun _ => rfl) rfl rfl Mm (fun _ => by first | assumption | omega) rfl) ?_
    refine Rp rfl rfl rfl rfl ?_
    refine rw_nil ?_
    (repeat refine cw_seq ?_); refine cw_cond (b := (v1 == (gt s1 n1))) rfl rfl (fun hc2 => ?_) (fun hc2 => ?_)
    · skip
      have hc2p := eq_of_beq hc2
      (repeat refine cw_seq ?_); refine cw_region ?_
      refine Rp rfl rfl rfl rfl ?_
      refine Rp rfl rfl rfl rfl ?_
      refine rw_nil ?_
      (repeat refine cw_seq ?_)
      have hr1 : (slices_Index_int s1 v1) = (n1 : Int) := by rw [← hf1, drop_gt hlt0]; simp only [slices_Index_int_L0, hc2, cond_true, cond_false]
      refine cw_ret ?_
      rw [hr1]
      exact ⟨(), _, (.cons (.tmp rfl) .nil), rfl, Sm, .nil _, .nil _⟩
    · skip
      have hc2p := ne_of_beq_false hc2
      (repeat refine cw_seq ?_); refine cw_skip ?_
      (repeat refine cw_seq ?_); refine cw_region ?_
      refine rw_q rfl rfl rfl (q_add rfl rfl (fun _ => rfl) rfl (fun _ => rfl) (fun _ => by omega)) ?_
      refine Rp rfl rfl rfl rfl ?_
      refine rw_nil ?_
      refine ⟨(n1 + 1), ⟨hlt0, (by rw [← hf1, drop_gt hlt0]; simp only [slices_Index_int_L0, hc2, cond_true, cond_false] : (slices_Index_int s1 v1) = (slices_Index_int_L0 v1 (s1.drop (n1 + 1)) (n1 + 1))).symm⟩, (by simp only []; omega), Le4⟩
  · skip
    have hge0 : s1.length ≤ n1 := by have := of_decide_eq_false hc1; omega
    (repeat refine cw_seq ?_); refine cw_exit ?_
    (repeat refine cw_seq ?_); refine cw_region ?_
    refine Rp rfl rfl rfl rfl ?_
    refine rw_nil ?_
    (repeat refine cw_seq ?_)
    have hr2 : (slices_Index_int s1 v1) = (-1) := by rw [← hf1, List.drop_of_length_le hge0]; simp only [slices_Index_int_L0, cond_true, cond_false]
    refine cw_ret ?_
    rw [hr2]
    exact ⟨(), _, (.cons (.tmp rfl) .nil), rfl, Sm, .nil _, .nil _⟩

def slices_Contains_int (s1 : List Int) (v1 : Int) : Bool :=
  decide ((slices_Index_int s1 v1) ≥ 0)
theorem slices_Contains_int_spec (y1 : SlV) (s1 : List Int) (v1 : Int) : Does Try.prog 107 [y1.val s1.length, .int .i64 v1] [RdL EInt y1 s1] (fun (_ : Unit) => .bool (slices_Contains_int s1 v1)) (fun (_ : Unit) => []) := by
  refine does_of tab_ok Try.func107 rfl Try.ntmps107 Try.results107 rfl inferInstance (fun _ => inferInstance) fun C => ?_
  refine cw_pure (φ := s1.length * 8 ≤ 140737488355328) [RdL EInt y1 s1] Sm (fun M w h => (allF1 h).len) fun hlen1 => ?_
  (repeat refine cw_seq ?_); refine cw_region ?_
  refine Rp rfl rfl rfl rfl ?_
  refine rw_nil ?_
  (repeat refine cw_seq ?_); refine cw_region ?_
  refine Rp rfl rfl rfl rfl ?_
  refine Rp rfl rfl rfl rfl ?_
  refine rw_call (slices_Index_int_spec y1 s1 v1) .sq (guard_none rfl) rfl rfl rfl Kr rfl rfl Sm ?_
  intro _
  refine Rp rfl rfl rfl rfl ?_
  refine Rp rfl rfl rfl rfl ?_
  refine rw_nil ?_
  (repeat refine cw_seq ?_)
  have hr1 : (slices_Contains_int s1 v1) = decide ((slices_Index_int s1 v1) ≥ 0) := by simp only [slices_Contains_int, cond_true, cond_false]
  refine cw_ret ?_
  rw [hr1]
  exact ⟨(), _, (.cons (.tmp rfl) .nil), rfl, Sm, .nil _, .nil _⟩

def orangeryref_FindIn_1 (p1 : Place) (node1 : Int) : Bool :=
  (p1.node == node1)
theorem orangeryref_FindIn_1_spec (p1 : Place) (c1 : Nat) (node1 : Int) : Does Try.prog 142 [.agg ⟨[.int .i64 p1.node, .int .i64 p1.parent, .int .i64 p1.name]⟩, .pointer (some ⟨c1, 0, none⟩)] [VarP c1 [.int .i64 node1]] (fun (_ : Unit) => .bool (orangeryref_FindIn_1 p1 node1)) (fun (_ : Unit) => []) := by
  refine does_of tab_ok Try.func142 rfl Try.ntmps142 Try.results142 rfl inferInstance (fun _ => inferInstance) fun C => ?_
  (repeat refine cw_seq ?_); refine cw_region ?_
  refine rw_box_agg .sq (guard_none rfl) rfl rfl rfl rfl rfl fun g1 => ?_
  refine Rp rfl rfl rfl rfl ?_
  refine rw_nil ?_
  (repeat refine cw_seq ?_); refine cw_region ?_
  refine Rp rfl rfl rfl rfl ?_
  refine rw_q rfl rfl rfl (q_ld1 rfl rfl (fun _ => rfl) rfl Mm rfl) ?_
  refine rw_q rfl rfl rfl (q_lf1 rfl rfl (fun _ => rfl) rfl Mm rfl) ?_
  refine Rp rfl rfl rfl rfl ?_
  refine Rp rfl rfl rfl rfl ?_
  refine rw_nil ?_
  (repeat refine cw_seq ?_)
  have hr1 : (orangeryref_FindIn_1 p1 node1) = (p1.node == node1) := by simp only [orangeryref_FindIn_1, cond_true, cond_false]
  refine cw_ret ?_
  rw [hr1]
  exact ⟨(), _, (.cons (.tmp rfl) .nil), rfl, Sm, .nil _, .nil _⟩

def orangeryref_FindIn (l1 : List Place) (node1 : Int) : Place :=
  (bif decide ((slices_IndexFunc_Place l1 (fun a0_ => orangeryref_FindIn_1 a0_ node1)) < 0) then (⟨0, 0, 0⟩ : Place) else (gt l1 ((slices_IndexFunc_Place l1 (fun a0_ => orangeryref_FindIn_1 a0_ node1)).toNat)))
theorem orangeryref_FindIn_spec (y1 : SlV) (l1 : List Place) (node1 : Int) : Does Try.prog 53 [y1.val l1.length, .int .i64 node1] [RdL EPlace y1 l1] (fun (_ : Unit) => .agg ⟨[.int .i64 ((orangeryref_FindIn l1 node1).node), .int .i64 ((orangeryref_FindIn l1 node1).parent), .int .i64 ((orangeryref_FindIn l1 node1).name)]⟩) (fun (_ : Unit) => []) := by
  refine does_of tab_ok Try.func53 rfl Try.ntmps53 Try.results53 rfl inferInstance (fun _ => inferInstance) fun C => ?_
  refine cw_pure (φ := l1.length * 24 ≤ 140737488355328) [RdL EPlace y1 l1] Sm (fun M w h => (allF1 h).len) fun hlen1 => ?_
  (repeat refine cw_seq ?_); refine cw_region ?_
  refine rw_box (cs := [_]) .sq (guard_none rfl) rfl rfl rfl rfl rfl rfl fun g1 => ?_
  refine rw_alloc .sq (guard_none rfl) rfl rfl rfl rfl fun g2 => ?_
  refine rw_nil ?_
  (repeat refine cw_seq ?_); refine cw_region ?_
  refine Rp rfl rfl rfl rfl ?_
  refine Rp rfl rfl rfl rfl ?_
  refine rw_le (le_var (g := g1) Pk) ?_
  refine rw_call (slices_IndexFunc_Place_spec y1 l1 _ _ _ (fun a0_ => orangeryref_FindIn_1 a0_ node1) Kr (fun a0_ => orangeryref_FindIn_1_spec a0_ g1 node1)) .sq (guard_none rfl) rfl rfl rfl Kr rfl rfl Sm ?_
  intro _
  refine Rp rfl rfl rfl rfl ?_
  refine rw_nil ?_
  (repeat refine cw_seq ?_); refine cw_region ?_
  refine Rp rfl rfl rfl rfl ?_
  refine Rp rfl rfl rfl rfl ?_
  refine rw_nil ?_
  (repeat refine cw_seq ?_); refine cw_cond (b := decide ((slices_IndexFunc_Place l1 (fun a0_ => orangeryref_FindIn_1 a0_ node1)) < 0)) rfl rfl (fun hc1 => ?_) (fun hc1 => ?_)
  · skip
    have hc1p := of_decide_eq_true hc1
    (repeat refine cw_seq ?_); refine cw_region ?_
    refine Rp rfl rfl rfl rfl ?_
    refine rw_stA .sq (.inl ⟨_, rfl⟩) (guard_none rfl) rfl rfl rfl rfl rfl rfl rfl rfl rfl Ub rfl ?_
    refine rw_nil ?_
    (repeat refine cw_seq ?_)
    have hr1 : (orangeryref_FindIn l1 node1) = (⟨0, 0, 0⟩ : Place) := by simp only [orangeryref_FindIn, hc1, cond_true, cond_false]
    refine cw_ret ?_
    rw [hr1]
    exact ⟨(), _, (.cons (.agg rfl rfl Mm rfl) .nil), rfl, Sm, .nil _, .nil _⟩
  · skip
    have hc1p := of_decide_eq_false hc1
    have hix := slices_IndexFunc_Place_lt l1 (fun a0_ => orangeryref_FindIn_1 a0_ node1)
    (repeat refine cw_seq ?_); refine cw_skip ?_
    (repeat refine cw_seq ?_); refine cw_region ?_
    refine Rp rfl rfl rfl rfl ?_
    refine Rp rfl rfl rfl rfl ?_
    refine rw_q rfl rfl rfl (q_idx EPlace ((slices_IndexFunc_Place l1 (fun a0_ => orangeryref_FindIn_1 a0_ node1)).toNat) rfl rfl (fun _ => rfl) rfl (fun _ => rfl) rfl rfl rfl Mm rfl (fun _ => by omega) (fun _ => by first | assumption | omega)) ?_
    refine rw_q rfl rfl rfl (q_leA EPlace rfl rfl (fun _ => rfl) rfl rfl Mm (fun _ => by first | assumption | omega)) ?_
    refine rw_stA .sq (.inl ⟨_, rfl⟩) (guard_none rfl) rfl rfl rfl rfl rfl rfl rfl rfl rfl Ub rfl ?_
    refine rw_nil ?_
    (repeat refine cw_seq ?_)
    have hr2 : (orangeryref_FindIn l1 node1) = (gt l1 ((slices_IndexFunc_Place l1 (fun a0_ => orangeryref_FindIn_1 a0_ node1)).toNat)) := by simp only [orangeryref_FindIn, hc1, cond_true, cond_false]
    refine cw_ret ?_
    rw [hr2]
    exact ⟨(), _, (.cons (.agg rfl rfl Mm rfl) .nil), rfl, Sm, .nil _, .nil _⟩

def orangeryref_in (n1 : Int) (from1 : Int) (to1 : Int) : Bool :=
  (decide (from1 ≤ n1) && decide (n1 ≤ to1))
theorem orangeryref_in_spec (n1 : Int) (from1 : Int) (to1 : Int) : Does Try.prog 127 [.int .i64 n1, .int .i64 from1, .int .i64 to1] [] (fun (_ : Unit) => .bool (orangeryref_in n1 from1 to1)) (fun (_ : Unit) => []) := by
  refine does_of tab_ok Try.func127 rfl Try.ntmps127 Try.results127 rfl inferInstance (fun _ => inferInstance) fun C => ?_
  (repeat refine cw_seq ?_); refine cw_region ?_
  refine Rp rfl rfl rfl rfl ?_
  refine rw_nil ?_
  (repeat refine cw_seq ?_); refine cw_region ?_
  refine Rp rfl rfl rfl rfl ?_
  refine Rp rfl rfl rfl rfl ?_
  refine Rp rfl rfl rfl rfl ?_
  refine Rp rfl rfl rfl rfl ?_
  refine rw_qg (guard_vt rfl rfl rfl) rfl rfl (q_pev rfl Bt) ?_
  refine rw_qg (guard_vt rfl rfl rfl) rfl rfl (q_pev rfl Bt) ?_
  refine rw_qg (guard_vt rfl rfl rfl) rfl rfl (q_pev rfl Bt) ?_
  refine rw_q rfl rfl rfl (q_pev rfl Bt) ?_
  refine Rp rfl rfl rfl rfl ?_
  refine rw_nil ?_
  (repeat refine cw_seq ?_)
  have hr1 : (orangeryref_in n1 from1 to1) = (decide (from1 ≤ n1) && decide (n1 ≤ to1)) := by simp only [orangeryref_in, cond_true, cond_false]
  refine cw_ret ?_
  rw [hr1]
  exact ⟨(), _, (.cons (.tmp rfl) .nil), rfl, Sm, .nil _, .nil _⟩

def orangeryref_CheckPlace (p1 : Place) : Int :=
  (bif (((!(orangeryref_in p1.node 1 15)) || (!(orangeryref_in p1.parent 0 16))) || (!(orangeryref_in p1.name 0 99))) then 3 else 0)
theorem orangeryref_CheckPlace_spec (p1 : Place) : Does Try.prog 128 [.agg ⟨[.int .i64 p1.node, .int .i64 p1.parent, .int .i64 p1.name]⟩] [] (fun (_ : Unit) => .int .i64 (orangeryref_CheckPlace p1)) (fun (_ : Unit) => []) := by
  refine does_of tab_ok Try.func128 rfl Try.ntmps128 Try.results128 rfl inferInstance (fun _ => inferInstance) fun C => ?_
  (repeat refine cw_seq ?_); refine cw_region ?_
  refine rw_box_agg .sq (guard_none rfl) rfl rfl rfl rfl rfl fun g1 => ?_
  refine Rp rfl rfl rfl rfl ?_
  refine rw_nil ?_
  (repeat refine cw_seq ?_); refine cw_region ?_
  refine Rp rfl rfl rfl rfl ?_
  refine rw_q rfl rfl rfl (q_ld1 rfl rfl (fun _ => rfl) rfl Mm rfl) ?_
  refine rw_call (orangeryref_in_spec p1.node 1 15) .sq (guard_none rfl) rfl rfl rfl Kr rfl rfl Sm ?_
  intro _
  refine Rp rfl rfl rfl rfl ?_
  refine Rp rfl rfl rfl rfl ?_
  refine rw_qg (guard_vf rfl rfl rfl) rfl rfl (q_pev rfl Bt) ?_
  refine rw_qg (guard_vf rfl rfl rfl) rfl rfl (q_ld1 rfl rfl Bt rfl Mm rfl) ?_
  refine rw_callg (fun hG_ => orangeryref_in_spec p1.parent 0 16) (fun _ => rfl) .sq (guard_vf rfl rfl rfl) rfl rfl rfl Kr rfl Bt Sm ?_
  refine rw_qg (guard_vf rfl rfl rfl) rfl rfl (q_pev rfl Bt) ?_
  refine rw_q rfl rfl rfl (q_pev rfl Bt) ?_
  refine Rp rfl rfl rfl rfl ?_
  refine rw_qg (guard_vf rfl rfl rfl) rfl rfl (q_pev rfl Bt) ?_
  refine rw_qg (guard_vf rfl rfl rfl) rfl rfl (q_ld1 rfl rfl Bt rfl Mm rfl) ?_
  refine rw_callg (fun hG_ => orangeryref_in_spec p1.name 0 99) (fun _ => rfl) .sq (guard_vf rfl rfl rfl) rfl rfl rfl Kr rfl Bt Sm ?_
  refine rw_qg (guard_vf rfl rfl rfl) rfl rfl (q_pev rfl Bt) ?_
  refine rw_q rfl rfl rfl (q_pev rfl Bt) ?_
  refine rw_nil ?_
  (repeat refine cw_seq ?_); refine cw_cond (b := (((!(orangeryref_in p1.node 1 15)) || (!(orangeryref_in p1.parent 0 16))) || (!(orangeryref_in p1.name 0 99)))) rfl rfl (fun hc1 => ?_) (fun hc1 => ?_)
  · skip
    (repeat refine cw_seq ?_); refine cw_region ?_
    refine Rp rfl rfl rfl rfl ?_
    refine rw_nil ?_
    (repeat refine cw_seq ?_)
    have hr1 : (orangeryref_CheckPlace p1) = 3 := by simp only [orangeryref_CheckPlace, hc1, cond_true, cond_false]
    refine cw_ret ?_
    rw [hr1]
    exact ⟨(), _, (.cons (.tmp rfl) .nil), rfl, Sm, .nil _, .nil _⟩
  · skip
    (repeat refine cw_seq ?_); refine cw_skip ?_
    (repeat refine cw_seq ?_); refine cw_region ?_
    refine Rp rfl rfl rfl rfl ?_
    refine rw_nil ?_
    (repeat refine cw_seq ?_)
    have hr2 : (orangeryref_CheckPlace p1) = 0 := by simp only [orangeryref_CheckPlace, hc1, cond_true, cond_false]
    refine cw_ret ?_
    rw [hr2]
    exact ⟨(), _, (.cons (.tmp rfl) .nil), rfl, Sm, .nil _, .nil _⟩

def orangeryref_CheckOp (o1 : Op) : Int :=
  (bif (((((!(orangeryref_in o1.time 1 10000)) || (!(orangeryref_in o1.who 0 2))) || ((orangeryref_CheckPlace (⟨o1.node, o1.parent, o1.name⟩ : Place)) != 0)) || (!(orangeryref_in o1.life 1 50))) || (!(orangeryref_in o1.seq 1 30))) then 3 else 0)
theorem orangeryref_CheckOp_spec (o1 : Op) : Does Try.prog 38 [.agg ⟨[.int .i64 o1.time, .int .i64 o1.who, .int .i64 o1.node, .int .i64 o1.parent, .int .i64 o1.name, .int .i64 o1.life, .int .i64 o1.seq]⟩] [] (fun (_ : Unit) => .int .i64 (orangeryref_CheckOp o1)) (fun (_ : Unit) => []) := by
  refine does_of tab_ok Try.func38 rfl Try.ntmps38 Try.results38 rfl inferInstance (fun _ => inferInstance) fun C => ?_
  (repeat refine cw_seq ?_); refine cw_region ?_
  refine rw_box_agg .sq (guard_none rfl) rfl rfl rfl rfl rfl fun g1 => ?_
  refine Rp rfl rfl rfl rfl ?_
  refine rw_nil ?_
  (repeat refine cw_seq ?_); refine cw_region ?_
  refine Rp rfl rfl rfl rfl ?_
  refine Rp rfl rfl rfl rfl ?_
  refine rw_q rfl rfl rfl (q_ld1 rfl rfl (fun _ => rfl) rfl Mm rfl) ?_
  refine rw_call (orangeryref_in_spec o1.time 1 10000) .sq (guard_none rfl) rfl rfl rfl Kr rfl rfl Sm ?_
  intro _
  refine Rp rfl rfl rfl rfl ?_
  refine Rp rfl rfl rfl rfl ?_
  refine rw_qg (guard_vf rfl rfl rfl) rfl rfl (q_pev rfl Bt) ?_
  refine rw_qg (guard_vf rfl rfl rfl) rfl rfl (q_pev rfl Bt) ?_
  refine rw_qg (guard_vf rfl rfl rfl) rfl rfl (q_ld1 rfl rfl Bt rfl Mm rfl) ?_
  refine rw_callg (fun hG_ => orangeryref_in_spec o1.who 0 2) (fun _ => rfl) .sq (guard_vf rfl rfl rfl) rfl rfl rfl Kr rfl Bt Sm ?_
  refine rw_qg (guard_vf rfl rfl rfl) rfl rfl (q_pev rfl Bt) ?_
  refine rw_q rfl rfl rfl (q_pev rfl Bt) ?_
  refine Rp rfl rfl rfl rfl ?_
  refine rw_qg (guard_vf rfl rfl rfl) rfl rfl (q_pev rfl Bt) ?_
  refine rw_qg (guard_vf rfl rfl rfl) rfl rfl (q_ld1 rfl rfl Bt rfl Mm rfl) ?_
  refine rw_qg (guard_vf rfl rfl rfl) rfl rfl (q_pev rfl Bt) ?_
  refine rw_qg (guard_vf rfl rfl rfl) rfl rfl (q_ld1 rfl rfl Bt rfl Mm rfl) ?_
  refine rw_qg (guard_vf rfl rfl rfl) rfl rfl (q_pev rfl Bt) ?_
  refine rw_qg (guard_vf rfl rfl rfl) rfl rfl (q_ld1 rfl rfl Bt rfl Mm rfl) ?_
  refine rw_qg (guard_vf rfl rfl rfl) rfl rfl (q_pev rfl Bt) ?_
  refine rw_callg (fun hG_ => orangeryref_CheckPlace_spec (⟨o1.node, o1.parent, o1.name⟩ : Place)) (fun _ => rfl) .sq (guard_vf rfl rfl rfl) rfl rfl rfl Kr rfl Bt Sm ?_
  refine rw_qg (guard_vf rfl rfl rfl) rfl rfl (q_pev rfl Bt) ?_
  refine rw_q rfl rfl rfl (q_pev rfl Bt) ?_
  refine Rp rfl rfl rfl rfl ?_
  refine rw_qg (guard_vf rfl rfl rfl) rfl rfl (q_pev rfl Bt) ?_
  refine rw_qg (guard_vf rfl rfl rfl) rfl rfl (q_ld1 rfl rfl Bt rfl Mm rfl) ?_
  refine rw_callg (fun hG_ => orangeryref_in_spec o1.life 1 50) (fun _ => rfl) .sq (guard_vf rfl rfl rfl) rfl rfl rfl Kr rfl Bt Sm ?_
  refine rw_qg (guard_vf rfl rfl rfl) rfl rfl (q_pev rfl Bt) ?_
  refine rw_q rfl rfl rfl (q_pev rfl Bt) ?_
  refine Rp rfl rfl rfl rfl ?_
  refine rw_qg (guard_vf rfl rfl rfl) rfl rfl (q_pev rfl Bt) ?_
  refine rw_qg (guard_vf rfl rfl rfl) rfl rfl (q_ld1 rfl rfl Bt rfl Mm rfl) ?_
  refine rw_callg (fun hG_ => orangeryref_in_spec o1.seq 1 30) (fun _ => rfl) .sq (guard_vf rfl rfl rfl) rfl rfl rfl Kr rfl Bt Sm ?_
  refine rw_qg (guard_vf rfl rfl rfl) rfl rfl (q_pev rfl Bt) ?_
  refine rw_q rfl rfl rfl (q_pev rfl Bt) ?_
  refine rw_nil ?_
  (repeat refine cw_seq ?_); refine cw_cond (b := (((((!(orangeryref_in o1.time 1 10000)) || (!(orangeryref_in o1.who 0 2))) || ((orangeryref_CheckPlace (⟨o1.node, o1.parent, o1.name⟩ : Place)) != 0)) || (!(orangeryref_in o1.life 1 50))) || (!(orangeryref_in o1.seq 1 30)))) rfl rfl (fun hc1 => ?_) (fun hc1 => ?_)
  · skip
    (repeat refine cw_seq ?_); refine cw_region ?_
    refine Rp rfl rfl rfl rfl ?_
    refine rw_nil ?_
    (repeat refine cw_seq ?_)
    have hr1 : (orangeryref_CheckOp o1) = 3 := by simp only [orangeryref_CheckOp, hc1, cond_true, cond_false]
    refine cw_ret ?_
    rw [hr1]
    exact ⟨(), _, (.cons (.tmp rfl) .nil), rfl, Sm, .nil _, .nil _⟩
  · skip
    (repeat refine cw_seq ?_); refine cw_skip ?_
    (repeat refine cw_seq ?_); refine cw_region ?_
    refine Rp rfl rfl rfl rfl ?_
    refine rw_nil ?_
    (repeat refine cw_seq ?_)
    have hr2 : (orangeryref_CheckOp o1) = 0 := by simp only [orangeryref_CheckOp, hc1, cond_true, cond_false]
    refine cw_ret ?_
    rw [hr2]
    exact ⟨(), _, (.cons (.tmp rfl) .nil), rfl, Sm, .nil _, .nil _⟩

theorem slices_Contains_int_eq (s : List Int) (v : Int) : slices_Contains_int s v = decide (v ∈ s) := by
  have key : ∀ (l : List Int) (k : Nat), decide (slices_Index_int_L0 v l k ≥ 0) = decide (v ∈ l) := by
    intro l
    induction l with
    | nil => intro k; simp [slices_Index_int_L0]
    | cons p r ih =>
      intro k
      rw [slices_Index_int_L0]
      by_cases h : v = p
      · first | (simp [h]; done) | (simp [h]; omega)
      · have : (v == p) = false := by simpa using h
        rw [this, cond_false, ih]; simp [h]
  exact key s 0
theorem slices_Contains_int_spec' (y1 : SlV) (s1 : List Int) (v1 : Int) : Does Try.prog 107 [y1.val s1.length, .int .i64 v1] [RdL EInt y1 s1] (fun (_ : Unit) => .bool (decide (v1 ∈ s1))) (fun (_ : Unit) => []) := by
  have := slices_Contains_int_spec y1 s1 v1
  rw [slices_Contains_int_eq] at this
  exact this

theorem orangeryref_FindIn_eq (l : List Place) (n : Int) : orangeryref_FindIn l n = tree_Find l n := by
  unfold orangeryref_FindIn slices_IndexFunc_Place
  have key : ∀ (r : List Place) (k : Nat), r = l.drop k → (bif decide (slices_IndexFunc_Place_L0 (fun a0_ => orangeryref_FindIn_1 a0_ n) r k < 0) then (⟨0, 0, 0⟩ : Place) else (gt l ((slices_IndexFunc_Place_L0 (fun a0_ => orangeryref_FindIn_1 a0_ n) r k).toNat))) = tree_Find_L0 n r := by
    intro r
    induction r with
    | nil => intro k _; rfl
    | cons p r ih =>
      intro k hr
      have hk : k < l.length := by have := congrArg List.length hr; simp at this; omega
      rw [drop_gt hk] at hr
      obtain ⟨hp, hr'⟩ := List.cons.inj hr
      rw [slices_IndexFunc_Place_L0, tree_Find_L0]
      unfold orangeryref_FindIn_1
      cases h : p.node == n with
      | true =>
        have : ¬ ((k : Int) < 0) := by omega
        simp [this, hp]
      | false => exact ih (k + 1) hr'
  exact key l 0 rfl
theorem orangeryref_FindIn_spec' (y1 : SlV) (l1 : List Place) (node1 : Int) : Does Try.prog 53 [y1.val l1.length, .int .i64 node1] [RdL EPlace y1 l1] (fun (_ : Unit) => .agg ⟨[.int .i64 (tree_Find l1 node1).node, .int .i64 (tree_Find l1 node1).parent, .int .i64 (tree_Find l1 node1).name]⟩) (fun (_ : Unit) => []) := by
  have := orangeryref_FindIn_spec y1 l1 node1
  rw [orangeryref_FindIn_eq] at this
  exact this
end Go.Proofs.Ytchdacbjiomplaa
