/- Part of this claim. No condition. -/
import Derived.Test.YtchdacbjiomplaaWA
import Derived.Test.YtchdacbjiomplaaFw
set_option linter.unusedVariables false
set_option linter.unusedSimpArgs false
set_option maxHeartbeats 2000000
namespace Go.Proofs.Ytchdacbjiomplaa
open Go Go.Proofs.Ytchdacbjiomplaa.Fw Go.Proofs
attribute [local irreducible] RW CW
def slices_IndexFunc_Place_L0 (f1 : Place → Bool) : List Place → Nat → Int
  | [], n1 => (-1)
  | pn1 :: rn1, n1 => (bif (f1 pn1) then (n1 : Int) else (slices_IndexFunc_Place_L0 f1 rn1 (n1 + 1)))
def slices_IndexFunc_Place (s1 : List Place) (f1 : Place → Bool) : Int :=
  (slices_IndexFunc_Place_L0 f1 s1 0)
theorem slices_IndexFunc_Place_spec (y1 : SlV) (s1 : List Place) (f2 : Nat) (caps1 : List Value) (pre1 : List Pred) [StabL pre1] (f1 : Place → Bool) (hfb1 : tab.fnb f2 = true) (hfn1 : ∀ (a0_ : Place), Does Try.prog f2 ([.agg ⟨[.int .i64 a0_.node, .int .i64 a0_.parent, .int .i64 a0_.name]⟩] ++ caps1) pre1 (fun (_ : Unit) => .bool (f1 a0_)) (fun (_ : Unit) => [])) : Does Try.prog 141 [y1.val s1.length, .func (.func f2) #[] ⟨caps1⟩] (RdL EPlace y1 s1 :: pre1) (fun (_ : Unit) => .int .i64 (slices_IndexFunc_Place s1 f1)) (fun (_ : Unit) => []) := by
  refine does_of tab_ok Try.func141 rfl Try.ntmps141 Try.results141 rfl inferInstance (fun _ => inferInstance) fun C => ?_
  refine cw_pure (φ := s1.length * 24 ≤ 140737488355328) [RdL EPlace y1 s1] Sf (fun M w h => (allF1 h).len) fun hlen1 => ?_
  refine Tx ?_
  (repeat refine cw_seq ?_); refine Lp [0,1,4,7] [] (fun (n1 : Nat) => (⟨[(8, .v (.int .i64 (n1 : Int)))], [], [], [], (n1 ≤ s1.length) ∧ (slices_IndexFunc_Place_L0 f1 (s1.drop n1) n1) = (slices_IndexFunc_Place s1 f1), s1.length - n1⟩ : Ls)) 0 (Sc (Sc (Sc (Sc Sn)))) (.nil) ⟨Nat.zero_le _, (by simp only [slices_IndexFunc_Place, cond_true, cond_false] : (slices_IndexFunc_Place s1 f1) = (slices_IndexFunc_Place_L0 f1 s1 0)).symm⟩ Le5 ?_
  rintro n1 ⟨hkn1, hf1⟩
  simp only [List.cons_append, List.nil_append]
  refine Tx ?_
  refine Cd (b := decide ((n1 : Int) < (s1.length : Int))) (fun hc1 => ?_) fun hc1 => ?_
  · have hlt0 : n1 < s1.length := Int.ofNat_lt.1 (of_decide_eq_true hc1)
    refine Tx ?_
    refine rw_q rfl rfl rfl (q_idx EPlace n1 rfl rfl (fun _ => rfl) rfl (fun _ => rfl) rfl rfl rfl Mm rfl (fun _ => rfl) (fun _ => by first | assumption | omega)) ?_
    refine rw_q rfl rfl rfl (q_leA EPlace rfl rfl (fun _ => rfl) rfl rfl Mm (fun _ => by first | assumption | omega)) ?_
    refine rw_callv (hfn1 (gt s1 n1)) .sq (guard_none rfl) rfl rfl rfl rfl rfl (by assumption) rfl rfl rfl Sf ?_
    intro _
    refine rw_nil ?_
    (repeat refine cw_seq ?_)
    refine Cd (b := (f1 (gt s1 n1))) (fun hc2 => ?_) fun hc2 => ?_
    · refine Tx ?_
      have hr1 : (slices_IndexFunc_Place s1 f1) = (n1 : Int) := by rw [← hf1, drop_gt hlt0]; simp only [slices_IndexFunc_Place_L0, hc2, cond_true, cond_false]
      refine cw_ret ?_
      rw [hr1]
      exact ⟨(), _, (.cons (.tmp rfl) .nil), rfl, Sf, .nil _, .nil _⟩
    · refine Tx ?_
      refine rw_q rfl rfl rfl (q_add rfl rfl (fun _ => rfl) rfl (fun _ => rfl) (fun _ => by omega)) ?_
      refine Tx ?_
      refine ⟨(n1 + 1), ⟨hlt0, (by rw [← hf1, drop_gt hlt0]; simp only [slices_IndexFunc_Place_L0, hc2, cond_true, cond_false] : (slices_IndexFunc_Place s1 f1) = (slices_IndexFunc_Place_L0 f1 (s1.drop (n1 + 1)) (n1 + 1))).symm⟩, (by simp only []; omega), Le5⟩
  · have hge0 : s1.length ≤ n1 := by have := of_decide_eq_false hc1; omega
    refine Tx ?_
    have hr2 : (slices_IndexFunc_Place s1 f1) = (-1) := by rw [← hf1, List.drop_of_length_le hge0]; simp only [slices_IndexFunc_Place_L0, cond_true, cond_false]
    refine cw_ret ?_
    rw [hr2]
    exact ⟨(), _, (.cons (.tmp rfl) .nil), rfl, Sf, .nil _, .nil _⟩

theorem slices_IndexFunc_Place_L0_lt (f : Place → Bool) : ∀ (l : List Place) (k : Nat), slices_IndexFunc_Place_L0 f l k < (k : Int) + (l.length : Int) ∨ slices_IndexFunc_Place_L0 f l k = -1
  | [], k => .inr rfl
  | p :: r, k => by
    rw [slices_IndexFunc_Place_L0]
    cases f p with
    | true => simp only [cond_true, List.length_cons]; omega
    | false => have := slices_IndexFunc_Place_L0_lt f r (k + 1); simp only [cond_false, List.length_cons]; omega
theorem slices_IndexFunc_Place_lt (l : List Place) (f : Place → Bool) : slices_IndexFunc_Place l f < (l.length : Int) ∨ slices_IndexFunc_Place l f = -1 := by
  have := slices_IndexFunc_Place_L0_lt f l 0
  unfold slices_IndexFunc_Place
  omega

def slices_Index_int_L0 (v1 : Int) : List Int → Nat → Int
  | [], n1 => (-1)
  | pn1 :: rn1, n1 => (bif (v1 == pn1) then (n1 : Int) else (slices_Index_int_L0 v1 rn1 (n1 + 1)))
def slices_Index_int (s1 : List Int) (v1 : Int) : Int :=
  (slices_Index_int_L0 v1 s1 0)
theorem slices_Index_int_spec (y1 : SlV) (s1 : List Int) (v1 : Int) : Does Try.prog 172 [y1.val s1.length, .int .i64 v1] [RdL EInt y1 s1] (fun (_ : Unit) => .int .i64 (slices_Index_int s1 v1)) (fun (_ : Unit) => []) := by
  refine does_of tab_ok Try.func172 rfl Try.ntmps172 Try.results172 rfl inferInstance (fun _ => inferInstance) fun C => ?_
  refine Pc EInt y1 s1 8 fun hlen1 => ?_
  refine Tx ?_
  (repeat refine cw_seq ?_); refine Lp [0,1,4,7] [] (fun (n1 : Nat) => (⟨[(8, .v (.int .i64 (n1 : Int)))], [], [], [], (n1 ≤ s1.length) ∧ (slices_Index_int_L0 v1 (s1.drop n1) n1) = (slices_Index_int s1 v1), s1.length - n1⟩ : Ls)) 0 (Sc (Sc (Sc (Sc Sn)))) (.nil) ⟨Nat.zero_le _, (by simp only [slices_Index_int, cond_true, cond_false] : (slices_Index_int s1 v1) = (slices_Index_int_L0 v1 s1 0)).symm⟩ Le4 ?_
  rintro n1 ⟨hkn1, hf1⟩
  simp only [List.cons_append, List.nil_append]
  refine Tx ?_
  refine Cd (b := decide ((n1 : Int) < (s1.length : Int))) (fun hc1 => ?_) fun hc1 => ?_
  · have hlt0 : n1 < s1.length := Int.ofNat_lt.1 (of_decide_eq_true hc1)
    refine Tx ?_
    refine rw_q rfl rfl rfl (q_idx EInt n1 rfl rfl (fun _ => rfl) rfl (fun _ => rfl) rfl rfl rfl Mm rfl (fun _ => rfl) (fun _ => by first | assumption | omega)) ?_
    refine rw_q rfl rfl rfl (q_le1 EInt rfl rfl (fun _ => rfl) rfl rfl Mm (fun _ => by first | assumption | omega) rfl) ?_
    refine Tx ?_
    refine Cd (b := (v1 == (gt s1 n1))) (fun hc2 => ?_) fun hc2 => ?_
    · have hc2p := eq_of_beq hc2
      refine Tx ?_
      have hr1 : (slices_Index_int s1 v1) = (n1 : Int) := by rw [← hf1, drop_gt hlt0]; simp only [slices_Index_int_L0, hc2, cond_true, cond_false]
      refine cw_ret ?_; rw [hr1]; exact Re () (Vt Vn)
    · have hc2p := ne_of_beq_false hc2
      refine Tx ?_
      refine rw_q rfl rfl rfl (q_add rfl rfl (fun _ => rfl) rfl (fun _ => rfl) (fun _ => by omega)) ?_
      refine Tx ?_
      refine ⟨(n1 + 1), ⟨hlt0, (by rw [← hf1, drop_gt hlt0]; simp only [slices_Index_int_L0, hc2, cond_true, cond_false] : (slices_Index_int s1 v1) = (slices_Index_int_L0 v1 (s1.drop (n1 + 1)) (n1 + 1))).symm⟩, (by simp only []; omega), Le4⟩
  · have hge0 : s1.length ≤ n1 := by have := of_decide_eq_false hc1; omega
    refine Tx ?_
    have hr2 : (slices_Index_int s1 v1) = (-1) := by rw [← hf1, List.drop_of_length_le hge0]; simp only [slices_Index_int_L0, cond_true, cond_false]
    refine cw_ret ?_; rw [hr2]; exact Re () (Vt Vn)

def slices_Contains_int (s1 : List Int) (v1 : Int) : Bool :=
  decide ((slices_Index_int s1 v1) ≥ 0)
theorem slices_Contains_int_spec (y1 : SlV) (s1 : List Int) (v1 : Int) : Does Try.prog 107 [y1.val s1.length, .int .i64 v1] [RdL EInt y1 s1] (fun (_ : Unit) => .bool (slices_Contains_int s1 v1)) (fun (_ : Unit) => []) := by
  refine does_of tab_ok Try.func107 rfl Try.ntmps107 Try.results107 rfl inferInstance (fun _ => inferInstance) fun C => ?_
  refine Pc EInt y1 s1 8 fun hlen1 => ?_
  refine Tx ?_
  refine Cl (slices_Index_int_spec y1 s1 v1) fun _ => ?_
  refine Tx ?_
  have hr1 : (slices_Contains_int s1 v1) = decide ((slices_Index_int s1 v1) ≥ 0) := by simp only [slices_Contains_int, cond_true, cond_false]
  refine cw_ret ?_; rw [hr1]; exact Re () (Vt Vn)

def orangeryref_FindIn_1 (p1 : Place) (node1 : Int) : Bool :=
  (p1.node == node1)
theorem orangeryref_FindIn_1_spec (p1 : Place) (c1 : Nat) (node1 : Int) : Does Try.prog 142 [.agg ⟨[.int .i64 p1.node, .int .i64 p1.parent, .int .i64 p1.name]⟩, .pointer (some ⟨c1, 0, none⟩)] [VarP c1 [.int .i64 node1]] (fun (_ : Unit) => .bool (orangeryref_FindIn_1 p1 node1)) (fun (_ : Unit) => []) := by
  refine does_of tab_ok Try.func142 rfl Try.ntmps142 Try.results142 rfl inferInstance (fun _ => inferInstance) fun C => ?_
  refine Tx ?_
  refine Bx fun g1 => ?_
  refine Tx ?_
  have hr1 : (orangeryref_FindIn_1 p1 node1) = (p1.node == node1) := by simp only [orangeryref_FindIn_1, cond_true, cond_false]
  refine cw_ret ?_; rw [hr1]; exact Re () (Vt Vn)

def orangeryref_FindIn (l1 : List Place) (node1 : Int) : Place :=
  (bif decide ((slices_IndexFunc_Place l1 (fun a0_ => orangeryref_FindIn_1 a0_ node1)) < 0) then (⟨0, 0, 0⟩ : Place) else (gt l1 ((slices_IndexFunc_Place l1 (fun a0_ => orangeryref_FindIn_1 a0_ node1)).toNat)))
theorem orangeryref_FindIn_spec (y1 : SlV) (l1 : List Place) (node1 : Int) : Does Try.prog 53 [y1.val l1.length, .int .i64 node1] [RdL EPlace y1 l1] (fun (_ : Unit) => .agg ⟨[.int .i64 ((orangeryref_FindIn l1 node1).node), .int .i64 ((orangeryref_FindIn l1 node1).parent), .int .i64 ((orangeryref_FindIn l1 node1).name)]⟩) (fun (_ : Unit) => []) := by
  refine does_of tab_ok Try.func53 rfl Try.ntmps53 Try.results53 rfl inferInstance (fun _ => inferInstance) fun C => ?_
  refine Pc EPlace y1 l1 24 fun hlen1 => ?_
  refine Tx ?_
  refine rw_box (cs := [_]) .sq (guard_none rfl) rfl rfl rfl rfl rfl rfl fun g1 => ?_
  refine Al fun g2 => ?_
  refine Tx ?_
  refine rw_le (le_var (g := g1) Pk) ?_
  refine Cl (slices_IndexFunc_Place_spec y1 l1 _ _ _ (fun a0_ => orangeryref_FindIn_1 a0_ node1) Kr (fun a0_ => orangeryref_FindIn_1_spec a0_ g1 node1)) fun _ => ?_
  refine Tx ?_
  refine Cd (b := decide ((slices_IndexFunc_Place l1 (fun a0_ => orangeryref_FindIn_1 a0_ node1)) < 0)) (fun hc1 => ?_) fun hc1 => ?_
  · have hc1p := of_decide_eq_true hc1
    refine Tx ?_
    have hr1 : (orangeryref_FindIn l1 node1) = (⟨0, 0, 0⟩ : Place) := by simp only [orangeryref_FindIn, hc1, cond_true, cond_false]
    refine cw_ret ?_; rw [hr1]; exact Re () (Va Vn)
  · have hc1p := of_decide_eq_false hc1
    have hix := slices_IndexFunc_Place_lt l1 (fun a0_ => orangeryref_FindIn_1 a0_ node1)
    refine Tx ?_
    refine rw_q rfl rfl rfl (q_idx EPlace ((slices_IndexFunc_Place l1 (fun a0_ => orangeryref_FindIn_1 a0_ node1)).toNat) rfl rfl (fun _ => rfl) rfl (fun _ => rfl) rfl rfl rfl Mm rfl (fun _ => by omega) (fun _ => by first | assumption | omega)) ?_
    refine rw_q rfl rfl rfl (q_leA EPlace rfl rfl (fun _ => rfl) rfl rfl Mm (fun _ => by first | assumption | omega)) ?_
    refine Tx ?_
    have hr2 : (orangeryref_FindIn l1 node1) = (gt l1 ((slices_IndexFunc_Place l1 (fun a0_ => orangeryref_FindIn_1 a0_ node1)).toNat)) := by simp only [orangeryref_FindIn, hc1, cond_true, cond_false]
    refine cw_ret ?_; rw [hr2]; exact Re () (Va Vn)

def orangeryref_in (n1 : Int) (from1 : Int) (to1 : Int) : Bool :=
  (decide (from1 ≤ n1) && decide (n1 ≤ to1))
theorem orangeryref_in_spec (n1 : Int) (from1 : Int) (to1 : Int) : Does Try.prog 127 [.int .i64 n1, .int .i64 from1, .int .i64 to1] [] (fun (_ : Unit) => .bool (orangeryref_in n1 from1 to1)) (fun (_ : Unit) => []) := by
  refine does_of tab_ok Try.func127 rfl Try.ntmps127 Try.results127 rfl inferInstance (fun _ => inferInstance) fun C => ?_
  refine Tx ?_
  have hr1 : (orangeryref_in n1 from1 to1) = (decide (from1 ≤ n1) && decide (n1 ≤ to1)) := by simp only [orangeryref_in, cond_true, cond_false]
  refine cw_ret ?_; rw [hr1]; exact Re () (Vt Vn)

def orangeryref_CheckPlace (p1 : Place) : Int :=
  (bif (((!(orangeryref_in p1.node 1 15)) || (!(orangeryref_in p1.parent 0 16))) || (!(orangeryref_in p1.name 0 99))) then 3 else 0)
theorem orangeryref_CheckPlace_spec (p1 : Place) : Does Try.prog 128 [.agg ⟨[.int .i64 p1.node, .int .i64 p1.parent, .int .i64 p1.name]⟩] [] (fun (_ : Unit) => .int .i64 (orangeryref_CheckPlace p1)) (fun (_ : Unit) => []) := by
  refine does_of tab_ok Try.func128 rfl Try.ntmps128 Try.results128 rfl inferInstance (fun _ => inferInstance) fun C => ?_
  refine Tx ?_
  refine Bx fun g1 => ?_
  refine Tx ?_
  refine Cl (orangeryref_in_spec p1.node 1 15) fun _ => ?_
  refine Tx ?_
  refine rw_callg (fun hG_ => orangeryref_in_spec p1.parent 0 16) (fun _ => rfl) .sq (guard_vf rfl rfl rfl) rfl rfl rfl Kr rfl Bt Sm ?_
  refine Tx ?_
  refine rw_callg (fun hG_ => orangeryref_in_spec p1.name 0 99) (fun _ => rfl) .sq (guard_vf rfl rfl rfl) rfl rfl rfl Kr rfl Bt Sm ?_
  refine Tx ?_
  refine Cd (b := (((!(orangeryref_in p1.node 1 15)) || (!(orangeryref_in p1.parent 0 16))) || (!(orangeryref_in p1.name 0 99)))) (fun hc1 => ?_) fun hc1 => ?_
  · refine Tx ?_
    have hr1 : (orangeryref_CheckPlace p1) = 3 := by simp only [orangeryref_CheckPlace, hc1, cond_true, cond_false]
    refine cw_ret ?_; rw [hr1]; exact Re () (Vt Vn)
  · refine Tx ?_
    have hr2 : (orangeryref_CheckPlace p1) = 0 := by simp only [orangeryref_CheckPlace, hc1, cond_true, cond_false]
    refine cw_ret ?_; rw [hr2]; exact Re () (Vt Vn)

def orangeryref_CheckOp (o1 : Op) : Int :=
  (bif (((((!(orangeryref_in o1.time 1 10000)) || (!(orangeryref_in o1.who 0 2))) || ((orangeryref_CheckPlace (⟨o1.node, o1.parent, o1.name⟩ : Place)) != 0)) || (!(orangeryref_in o1.life 1 50))) || (!(orangeryref_in o1.seq 1 30))) then 3 else 0)
theorem orangeryref_CheckOp_spec (o1 : Op) : Does Try.prog 38 [.agg ⟨[.int .i64 o1.time, .int .i64 o1.who, .int .i64 o1.node, .int .i64 o1.parent, .int .i64 o1.name, .int .i64 o1.life, .int .i64 o1.seq]⟩] [] (fun (_ : Unit) => .int .i64 (orangeryref_CheckOp o1)) (fun (_ : Unit) => []) := by
  refine does_of tab_ok Try.func38 rfl Try.ntmps38 Try.results38 rfl inferInstance (fun _ => inferInstance) fun C => ?_
  refine Tx ?_
  refine Bx fun g1 => ?_
  refine Tx ?_
  refine Cl (orangeryref_in_spec o1.time 1 10000) fun _ => ?_
  refine Tx ?_
  refine rw_callg (fun hG_ => orangeryref_in_spec o1.who 0 2) (fun _ => rfl) .sq (guard_vf rfl rfl rfl) rfl rfl rfl Kr rfl Bt Sm ?_
  refine Tx ?_
  refine rw_callg (fun hG_ => orangeryref_CheckPlace_spec (⟨o1.node, o1.parent, o1.name⟩ : Place)) (fun _ => rfl) .sq (guard_vf rfl rfl rfl) rfl rfl rfl Kr rfl Bt Sm ?_
  refine Tx ?_
  refine rw_callg (fun hG_ => orangeryref_in_spec o1.life 1 50) (fun _ => rfl) .sq (guard_vf rfl rfl rfl) rfl rfl rfl Kr rfl Bt Sm ?_
  refine Tx ?_
  refine rw_callg (fun hG_ => orangeryref_in_spec o1.seq 1 30) (fun _ => rfl) .sq (guard_vf rfl rfl rfl) rfl rfl rfl Kr rfl Bt Sm ?_
  refine Tx ?_
  refine Cd (b := (((((!(orangeryref_in o1.time 1 10000)) || (!(orangeryref_in o1.who 0 2))) || ((orangeryref_CheckPlace (⟨o1.node, o1.parent, o1.name⟩ : Place)) != 0)) || (!(orangeryref_in o1.life 1 50))) || (!(orangeryref_in o1.seq 1 30)))) (fun hc1 => ?_) fun hc1 => ?_
  · refine Tx ?_
    have hr1 : (orangeryref_CheckOp o1) = 3 := by simp only [orangeryref_CheckOp, hc1, cond_true, cond_false]
    refine cw_ret ?_; rw [hr1]; exact Re () (Vt Vn)
  · refine Tx ?_
    have hr2 : (orangeryref_CheckOp o1) = 0 := by simp only [orangeryref_CheckOp, hc1, cond_true, cond_false]
    refine cw_ret ?_; rw [hr2]; exact Re () (Vt Vn)

theorem slices_Contains_int_eq (s : List Int) (v : Int) : slices_Contains_int s v = decide (v ∈ s) := by
  have key : ∀ (l : List Int) (k : Nat), decide (slices_Index_int_L0 v l k ≥ 0) = decide (v ∈ l) := by
    intro l
    induction l with
    | nil => intro k; simp [slices_Index_int_L0]
    | cons p r ih =>
      intro k
      rw [slices_Index_int_L0]
      by_cases h : v = p
      · first | (simp [h]; done) | (simp [h]; omega)
      · have : (v == p) = false := by simpa using h
        rw [this, cond_false, ih]; simp [h]
  exact key s 0
theorem slices_Contains_int_spec' (y1 : SlV) (s1 : List Int) (v1 : Int) : Does Try.prog 107 [y1.val s1.length, .int .i64 v1] [RdL EInt y1 s1] (fun (_ : Unit) => .bool (decide (v1 ∈ s1))) (fun (_ : Unit) => []) := by
  have := slices_Contains_int_spec y1 s1 v1
  rw [slices_Contains_int_eq] at this
  exact this

theorem orangeryref_FindIn_eq (l : List Place) (n : Int) : orangeryref_FindIn l n = tree_Find l n := by
  unfold orangeryref_FindIn slices_IndexFunc_Place
  have key : ∀ (r : List Place) (k : Nat), r = l.drop k → (bif decide (slices_IndexFunc_Place_L0 (fun a0_ => orangeryref_FindIn_1 a0_ n) r k < 0) then (⟨0, 0, 0⟩ : Place) else (gt l ((slices_IndexFunc_Place_L0 (fun a0_ => orangeryref_FindIn_1 a0_ n) r k).toNat))) = tree_Find_L0 n r := by
    intro r
    induction r with
    | nil => intro k _; rfl
    | cons p r ih =>
      intro k hr
      have hk : k < l.length := by have := congrArg List.length hr; simp at this; omega
      rw [drop_gt hk] at hr
      obtain ⟨hp, hr'⟩ := List.cons.inj hr
      rw [slices_IndexFunc_Place_L0, tree_Find_L0]
      unfold orangeryref_FindIn_1
      cases h : p.node == n with
      | true =>
        have : ¬ ((k : Int) < 0) := by omega
        simp [this, hp]
      | false => exact ih (k + 1) hr'
  exact key l 0 rfl
theorem orangeryref_FindIn_spec' (y1 : SlV) (l1 : List Place) (node1 : Int) : Does Try.prog 53 [y1.val l1.length, .int .i64 node1] [RdL EPlace y1 l1] (fun (_ : Unit) => .agg ⟨[.int .i64 (tree_Find l1 node1).node, .int .i64 (tree_Find l1 node1).parent, .int .i64 (tree_Find l1 node1).name]⟩) (fun (_ : Unit) => []) := by
  have := orangeryref_FindIn_spec y1 l1 node1
  rw [orangeryref_FindIn_eq] at this
  exact this
end Go.Proofs.Ytchdacbjiomplaa

namespace Go.Proofs.Ytchdacbjiomplaa
open Go Go.Proofs.Ytchdacbjiomplaa.Fw Go.Proofs
theorem in_iff (n a b : Int) : orangeryref_in n a b = true ↔ a ≤ n ∧ n ≤ b := by
  simp [orangeryref_in]
theorem in_iffF (n a b : Int) : orangeryref_in n a b = false ↔ ¬ (a ≤ n ∧ n ≤ b) := by
  rw [← in_iff]; simp
theorem bif_congr {α : Type} {c d : Bool} {x y z w : α} (h : c = d) (h1 : d = true → x = y) (h2 : d = false → z = w) : (bif c then x else z) = (bif d then y else w) := by
  subst h
  cases c with
  | true => exact h1 rfl
  | false => exact h2 rfl
end Go.Proofs.Ytchdacbjiomplaa

set_option maxHeartbeats 2000000
namespace Go.Proofs.Ytchdacbjiomplaa
open Go Go.Proofs.Ytchdacbjiomplaa.Fw Go.Proofs
attribute [local irreducible] RW CW
theorem pigeon : ∀ (n : Nat) (l : List Int), l.Nodup → (∀ x ∈ l, 0 ≤ x ∧ x < n) → l.length ≤ n
  | 0, l, _, h => by
    cases l with
    | nil => simp
    | cons a r => have := h a (.head _); omega
  | n + 1, l, hn, h => by
    have h1 := pigeon n (l.erase (n : Int)) (hn.erase _) (fun x hx => by
      have h2 := h x (List.mem_of_mem_erase hx)
      have h3 : x ≠ (n : Int) := fun e => by subst e; exact (hn.not_mem_erase) hx
      omega)
    rw [List.length_erase] at h1
    split at h1 <;> omega
theorem chain_len {l : List Int} (hn : l.Nodup) (hm : ∀ x ∈ l.tail, 0 ≤ x ∧ x ≤ 16) : l.length ≤ 18 := by
  cases l with
  | nil => simp
  | cons a r =>
    have := pigeon 17 r (List.nodup_cons.1 hn).2 (fun x hx => by have := hm x hx; omega)
    simp only [List.length_cons]; omega
theorem nodup_snoc {l : List Int} {x : Int} (hn : l.Nodup) (hx : x ∉ l) : (l ++ [x]).Nodup := by
  rw [List.nodup_append]
  exact ⟨hn, by simp, fun a ha b hb e => by rw [List.mem_singleton] at hb; subst hb; subst e; exact hx ha⟩
theorem tail_snoc {l : List Int} {x : Int} (hm : ∀ y ∈ l.tail, 0 ≤ y ∧ y ≤ 16) (hx : 0 ≤ x ∧ x ≤ 16) : ∀ y ∈ (l ++ [x]).tail, 0 ≤ y ∧ y ≤ 16 := by
  cases l with
  | nil => simp
  | cons a r =>
    intro y hy
    simp only [List.cons_append, List.tail_cons, List.mem_append, List.mem_singleton] at hy
    rcases hy with hy | rfl
    · exact hm y hy
    · exact hx
theorem find_mem' {l : List Place} {n : Int} (h : (tree_Find l n).node ≠ 0) : tree_Find l n ∈ l := by
  unfold tree_Find at *
  induction l with
  | nil => exact absurd rfl h
  | cons p r ih =>
    rw [tree_Find_L0] at *
    cases hb : p.node == n with
    | true => exact .head _
    | false => rw [hb, cond_false] at h; exact .tail _ (ih h)

def orangeryref_chain_L0 (l1 : List Place) : Nat → Int → (List Int) → (List Int)
  | 0, node2, out1 => default
  | f_k0 + 1, node2, out1 => (bif ((((tree_Find l1 node2).node) == 0) || (decide (((tree_Find l1 node2).parent) ∈ out1))) then out1 else (orangeryref_chain_L0 l1 f_k0 ((tree_Find l1 node2).parent) (out1 ++ [(tree_Find l1 node2).parent])))
def orangeryref_chain (l1 : List Place) (node1 : Int) : List Int :=
  (orangeryref_chain_L0 l1 (19 - [node1].length) node1 [node1])
theorem orangeryref_chain_spec (y1 : SlV) (l1 : List Place) (node1 : Int) (hpar : ∀ p ∈ l1, 0 ≤ p.parent ∧ p.parent ≤ 16) : Does Try.prog 133 [y1.val l1.length, .int .i64 node1] [RdL EPlace y1 l1] (fun (X : SlV) => X.val (orangeryref_chain l1 node1).length) (fun (X : SlV) => [RdL EInt X (orangeryref_chain l1 node1)]) := by
  refine does_of tab_ok Try.func133 rfl Try.ntmps133 Try.results133 rfl inferInstance (fun _ => inferInstance) fun C => ?_
  refine Pc EPlace y1 l1 24 fun hlen1 => ?_
  refine Tx ?_
  refine rw_bsliceL EInt [node1] .sq (guard_none rfl) rfl rfl rfl rfl rfl rfl rfl rfl rfl rfl rfl rfl rfl rfl rfl fun x1 x1b => ?_
  refine Tx ?_
  (repeat refine cw_seq ?_); refine Lp [0,4] [] (fun (i_ : Int × List Int × SlV × Option Nat) => match i_ with | ⟨node2, out1, x2, x2b⟩ => (⟨[(1, .v (.int .i64 node2)), (5, .v (x2.val out1.length))], [], [ownL EInt 3 x2 x2b out1], [], (out1.Nodup) ∧ (∀ x ∈ out1.tail, 0 ≤ x ∧ x ≤ 16) ∧ (orangeryref_chain_L0 l1 (19 - out1.length) node2 out1) = (orangeryref_chain l1 node1), 19 - out1.length⟩ : Ls)) ⟨node1, [node1], x1, x1b⟩ (Sc (Sc Sn)) (.nil) ⟨(by simp), (by simp), (by simp only [orangeryref_chain, cond_true, cond_false] : (orangeryref_chain l1 node1) = (orangeryref_chain_L0 l1 (19 - [node1].length) node1 [node1])).symm⟩ Le4 ?_
  rintro ⟨node2, out1, x2, x2b⟩ ⟨hnd, hmt, hf1⟩
  simp only [List.cons_append, List.nil_append]
  have hol := chain_len hnd hmt
  have hlt0_ : 19 - out1.length = (19 - out1.length - 1) + 1 := by omega
  refine Tx ?_
  refine Cl (orangeryref_FindIn_spec' y1 l1 node2) fun _ => ?_
  refine Al fun g1 => ?_
  refine Tx ?_
  refine rw_callgR (fun hG_ => slices_Contains_int_spec' x2 out1 ((tree_Find l1 node2).parent)) (fun _ => rfl) .sq (guard_vf rfl rfl rfl) rfl rfl rfl Kr rfl Bt (.own Mm (.nil _ _)) ?_
  refine Tx ?_
  refine Cd (b := ((((tree_Find l1 node2).node) == 0) || (decide (((tree_Find l1 node2).parent) ∈ out1)))) (fun hc1 => ?_) fun hc1 => ?_
  · refine Tx ?_
    refine cw_le (le_freezeL EInt 3 x2 x2b out1 Uo) ?_
    have hr1 : (orangeryref_chain l1 node1) = out1 := by rw [← hf1]; (conv => lhs; rw [hlt0_]); simp only [orangeryref_chain_L0, hc1, cond_true, cond_false]
    refine cw_ret ?_; rw [hr1]; exact Re x2 (Vt Vn)
  · obtain ⟨hnz, hnin⟩ := Bool.or_eq_false_iff.1 hc1
    refine Tx ?_
    refine rw_bsliceL EInt [(tree_Find l1 node2).parent] .sq (guard_none rfl) rfl rfl rfl rfl rfl rfl rfl rfl rfl rfl rfl rfl rfl rfl rfl fun x3 x3b => ?_
    refine rw_appendL EInt out1 [(tree_Find l1 node2).parent] (b := x2b) .sq (fun _ _ => .inl ⟨_, rfl⟩) (guard_none rfl) rfl rfl rfl rfl rfl rfl rfl (fun _ _ => Uo) rfl rfl rfl rfl rfl rfl rfl (reads_ownL (e := 3) (b := x3b) Mm) (by show (out1.length + 1) * 8 ≤ 140737488355328; (try simp only [List.length_append, List.length_cons, List.length_nil]); omega) fun x4 x4b => ?_
    refine Tx ?_
    have hnx1 : 19 - (out1 ++ [(tree_Find l1 node2).parent]).length = 19 - out1.length - 1 := by simp only [List.length_append, List.length_cons, List.length_nil]; omega
    refine ⟨⟨(tree_Find l1 node2).parent, (out1 ++ [(tree_Find l1 node2).parent]), x4, x4b⟩, ⟨(nodup_snoc hnd (by simpa using hnin)), (tail_snoc hmt (hpar _ (find_mem' (by simpa using hnz)))), (by rw [hnx1]; exact (by rw [← hf1]; (conv => lhs; rw [hlt0_]); simp only [orangeryref_chain_L0, hc1, cond_true, cond_false] : (orangeryref_chain l1 node1) = (orangeryref_chain_L0 l1 (19 - out1.length - 1) ((tree_Find l1 node2).parent) (out1 ++ [(tree_Find l1 node2).parent]))).symm)⟩, (by simp only []; omega), Le4⟩
end Go.Proofs.Ytchdacbjiomplaa

set_option maxHeartbeats 2000000
namespace Go.Proofs.Ytchdacbjiomplaa
open Go Go.Proofs.Ytchdacbjiomplaa.Fw Go.Proofs
attribute [local irreducible] RW CW
theorem par_of {l : List Place} (h : ∀ i, i < l.length → orangeryref_CheckPlace (gt l i) = 0) : ∀ p ∈ l, 0 ≤ p.parent ∧ p.parent ≤ 16 := fun p hp => by
  obtain ⟨i, hi, rfl⟩ := List.getElem_of_mem hp
  have h1 := h i hi
  rw [gt_eq hi] at h1
  unfold orangeryref_CheckPlace orangeryref_in at h1
  cases hb : (((!(decide (1 ≤ l[i].node) && decide (l[i].node ≤ 15))) || (!(decide (0 ≤ l[i].parent) && decide (l[i].parent ≤ 16)))) || (!(decide (0 ≤ l[i].name) && decide (l[i].name ≤ 99)))) with
  | true => rw [hb] at h1; simp at h1
  | false => simp at hb; omega

theorem snoc_all {p : Nat → Prop} {k : Nat} (h : ∀ i, i < k → p i) (h' : p k) (i : Nat) (hi : i < k + 1) : p i := by
  by_cases he : i = k
  · rw [he]; exact h'
  · exact h i (by omega)

def orangeryref_CheckTree_L1 (t1 : List Place) : List Place → Int
  | [] => 0
  | pn2 :: rn2 => (bif (decide ((pn2.node) ∈ (orangeryref_chain t1 (pn2.parent)))) then 4 else (orangeryref_CheckTree_L1 t1 rn2))
def orangeryref_CheckTree_L0 (t1 : List Place) : List Place → Int → Int
  | [], last1 => (orangeryref_CheckTree_L1 t1 t1)
  | pn1 :: rn1, last1 => (bif ((orangeryref_CheckPlace pn1) != 0) then (orangeryref_CheckPlace pn1) else (bif decide ((pn1.node) ≤ last1) then 6 else (orangeryref_CheckTree_L0 t1 rn1 (pn1.node))))
def orangeryref_CheckTree (t1 : List Place) : Int :=
  (orangeryref_CheckTree_L0 t1 t1 0)
theorem orangeryref_CheckTree_spec (y1 : SlV) (t1 : List Place) : Does Try.prog 52 [.agg ⟨[y1.val t1.length]⟩] [RdL EPlace y1 t1] (fun (_ : Unit) => .int .i64 (orangeryref_CheckTree t1)) (fun (_ : Unit) => []) := by
  refine does_of tab_ok Try.func52 rfl Try.ntmps52 Try.results52 rfl inferInstance (fun _ => inferInstance) fun C => ?_
  refine Pc EPlace y1 t1 24 fun hlen1 => ?_
  refine Tx ?_
  refine Bx fun g1 => ?_
  refine Tx ?_
  (repeat refine cw_seq ?_); refine Lp [1,2,10,11] [true] (fun (i_ : Int × Nat) => match i_ with | ⟨last1, n1⟩ => (⟨[(3, .v (.int .i64 last1)), (12, .v (.int .i64 (n1 : Int)))], [], [], [], (n1 ≤ t1.length) ∧ (∀ i, i < n1 → orangeryref_CheckPlace (gt t1 i) = 0) ∧ (orangeryref_CheckTree_L0 t1 (t1.drop n1) last1) = (orangeryref_CheckTree t1), t1.length - n1⟩ : Ls)) ⟨0, 0⟩ (Sc (Sc (Sc (Sc Sn)))) (.keep (.nil)) ⟨Nat.zero_le _, (fun i hi => absurd hi (Nat.not_lt_zero i)), (by simp only [orangeryref_CheckTree, cond_true, cond_false] : (orangeryref_CheckTree t1) = (orangeryref_CheckTree_L0 t1 t1 0)).symm⟩ Le4 ?_
  rintro ⟨last1, n1⟩ ⟨hkn1, hck, hf1⟩
  simp only [List.cons_append, List.nil_append]
  refine Tx ?_
  refine Cd (b := decide ((n1 : Int) < (t1.length : Int))) (fun hc1 => ?_) fun hc1 => ?_
  · have hlt0 : n1 < t1.length := Int.ofNat_lt.1 (of_decide_eq_true hc1)
    refine Tx ?_
    refine rw_q rfl rfl rfl (q_idx EPlace n1 rfl rfl (fun _ => rfl) rfl (fun _ => rfl) rfl rfl rfl Mm rfl (fun _ => rfl) (fun _ => by first | assumption | omega)) ?_
    refine rw_q rfl rfl rfl (q_leA EPlace rfl rfl (fun _ => rfl) rfl rfl Mm (fun _ => by first | assumption | omega)) ?_
    refine Al fun g2 => ?_
    refine Tx ?_
    refine Cl (orangeryref_CheckPlace_spec (gt t1 n1)) fun _ => ?_
    refine Tx ?_
    refine Cd (b := ((orangeryref_CheckPlace (gt t1 n1)) != 0)) (fun hc2 => ?_) fun hc2 => ?_
    · have hc2p := bne_iff_ne.1 hc2
      refine Tx ?_
      have hr1 : (orangeryref_CheckTree t1) = (orangeryref_CheckPlace (gt t1 n1)) := by rw [← hf1, drop_gt hlt0]; simp only [orangeryref_CheckTree_L0, hc2, cond_true, cond_false]
      refine cw_ret ?_; rw [hr1]; exact Re () (Vt Vn)
    · have hc2p := eq_of_bne_false hc2
      have hcp := eq_of_bne_false hc2
      refine Tx ?_
      refine Cd (b := decide (((gt t1 n1).node) ≤ last1)) (fun hc3 => ?_) fun hc3 => ?_
      · have hc3p := of_decide_eq_true hc3
        refine Tx ?_
        have hr2 : (orangeryref_CheckTree t1) = 6 := by rw [← hf1, drop_gt hlt0]; simp only [orangeryref_CheckTree_L0, hc2, hc3, cond_true, cond_false]
        refine cw_ret ?_; rw [hr2]; exact Re () (Vt Vn)
      · have hc3p := of_decide_eq_false hc3
        refine Tx ?_
        refine rw_q rfl rfl rfl (q_add rfl rfl (fun _ => rfl) rfl (fun _ => rfl) (fun _ => by omega)) ?_
        refine Tx ?_
        refine ⟨⟨(gt t1 n1).node, (n1 + 1)⟩, ⟨hlt0, (fun i hi => snoc_all hck hcp i hi), (by rw [← hf1, drop_gt hlt0]; simp only [orangeryref_CheckTree_L0, hc2, hc3, cond_true, cond_false] : (orangeryref_CheckTree t1) = (orangeryref_CheckTree_L0 t1 (t1.drop (n1 + 1)) ((gt t1 n1).node))).symm⟩, (by simp only []; omega), Le4⟩
  · have hge0 : t1.length ≤ n1 := by have := of_decide_eq_false hc1; omega
    refine Tx ?_
    (repeat refine cw_seq ?_); refine Lp [1,2,29,30] [true] (fun (n2 : Nat) => (⟨[(31, .v (.int .i64 (n2 : Int)))], [], [], [], (n2 ≤ t1.length) ∧ (orangeryref_CheckTree_L1 t1 (t1.drop n2)) = (orangeryref_CheckTree t1), t1.length - n2⟩ : Ls)) 0 (Sc (Sc (Sc (Sc Sn)))) (.keep (.nil)) ⟨Nat.zero_le _, (by rw [← hf1, List.drop_of_length_le hge0]; simp only [orangeryref_CheckTree_L0, cond_true, cond_false] : (orangeryref_CheckTree t1) = (orangeryref_CheckTree_L1 t1 t1)).symm⟩ Le4 ?_
    rintro n2 ⟨hkn2, hf2⟩
    simp only [List.cons_append, List.nil_append]
    refine Tx ?_
    refine Cd (b := decide ((n2 : Int) < (t1.length : Int))) (fun hc4 => ?_) fun hc4 => ?_
    · have hlt1 : n2 < t1.length := Int.ofNat_lt.1 (of_decide_eq_true hc4)
      refine Tx ?_
      refine rw_q rfl rfl rfl (q_idx EPlace n2 rfl rfl (fun _ => rfl) rfl (fun _ => rfl) rfl rfl rfl Mm rfl (fun _ => rfl) (fun _ => by first | assumption | omega)) ?_
      refine rw_q rfl rfl rfl (q_leA EPlace rfl rfl (fun _ => rfl) rfl rfl Mm (fun _ => by first | assumption | omega)) ?_
      refine Al fun g3 => ?_
      refine Tx ?_
      (repeat refine cw_seq ?_); refine cw_regionA (fun _ => some []) ?_
      refine Rb 0 [2,3,5,6] [1,4,7] rfl Qp ?_
      refine Rb 1 [2,3,5,6] [4,7] rfl Q1 ?_
      refine Rb 2 [5,6] [3,4,7] rfl Qp ?_
      refine Rb 3 [5,6] [4,7] rfl Q1 ?_
      refine Rb 5 [4] [6,7] rfl Qp ?_
      refine Ra 6 [4] rfl Q1 ?_
      refine ra_one 4 Kr ?_
      refine rw_call (orangeryref_chain_spec y1 t1 ((gt t1 n2).parent) (par_of (fun i hi => hck i (by omega)))) (.an rfl rfl) (guard_none rfl) rfl rfl rfl Kr rfl rfl Sm ?_
      intro x1
      refine Pr EInt x1 (orangeryref_chain t1 ((gt t1 n2).parent)) 8 fun hlen2 => ?_
      refine ra_one 7 Kr ?_
      refine rw_call (slices_Contains_int_spec' x1 (orangeryref_chain t1 ((gt t1 n2).parent)) ((gt t1 n2).node)) (.an rfl rfl) (guard_none rfl) rfl rfl rfl Kr rfl rfl Sm ?_
      intro _
      refine ra_nil Kr ?_
      (repeat refine cw_seq ?_)
      refine Cd (b := (decide (((gt t1 n2).node) ∈ (orangeryref_chain t1 ((gt t1 n2).parent))))) (fun hc5 => ?_) fun hc5 => ?_
      · refine Tx ?_
        have hr3 : (orangeryref_CheckTree t1) = 4 := by rw [← hf2, drop_gt hlt1]; simp only [orangeryref_CheckTree_L1, hc5, cond_true, cond_false]
        refine cw_ret ?_; rw [hr3]; exact Re () (Vt Vn)
      · refine Tx ?_
        refine rw_q rfl rfl rfl (q_add rfl rfl (fun _ => rfl) rfl (fun _ => rfl) (fun _ => by omega)) ?_
        refine Tx ?_
        refine ⟨(n2 + 1), ⟨hlt1, (by rw [← hf2, drop_gt hlt1]; simp only [orangeryref_CheckTree_L1, hc5, cond_true, cond_false] : (orangeryref_CheckTree t1) = (orangeryref_CheckTree_L1 t1 (t1.drop (n2 + 1)))).symm⟩, (by simp only []; omega), Le4⟩
    · have hge1 : t1.length ≤ n2 := by have := of_decide_eq_false hc4; omega
      refine Tx ?_
      have hr4 : (orangeryref_CheckTree t1) = 0 := by rw [← hf2, List.drop_of_length_le hge1]; simp only [orangeryref_CheckTree_L1, cond_true, cond_false]
      refine cw_ret ?_; rw [hr4]; exact Re () (Vt Vn)
end Go.Proofs.Ytchdacbjiomplaa

set_option maxHeartbeats 2000000
namespace Go.Proofs.Ytchdacbjiomplaa
open Go Go.Proofs.Ytchdacbjiomplaa.Fw Go.Proofs
attribute [local irreducible] RW CW
theorem CheckPlace_ok {p : Place} (h1 : orangeryref_CheckPlace p = 0) : 1 ≤ p.node ∧ p.node ≤ 15 ∧ 0 ≤ p.parent ∧ p.parent ≤ 16 ∧ 0 ≤ p.name ∧ p.name ≤ 99 := by
  unfold orangeryref_CheckPlace orangeryref_in at h1
  cases hb : (((!(decide (1 ≤ p.node) && decide (p.node ≤ 15))) || (!(decide (0 ≤ p.parent) && decide (p.parent ≤ 16)))) || (!(decide (0 ≤ p.name) && decide (p.name ≤ 99)))) with
  | true => rw [hb] at h1; simp at h1
  | false => simp at hb; omega
theorem CheckTree_L0_ok (t : List Place) : ∀ (r : List Place) (last : Int), orangeryref_CheckTree_L0 t r last = 0 → ∀ p ∈ r, orangeryref_CheckPlace p = 0
  | [], _, _ => by simp
  | p :: r, last, h => by
    rw [orangeryref_CheckTree_L0] at h
    cases h1 : (orangeryref_CheckPlace p != 0) with
    | true => rw [h1, cond_true] at h; rw [h] at h1; simp at h1
    | false =>
      rw [h1, cond_false] at h
      cases h2 : decide (p.node ≤ last) with
      | true => rw [h2] at h; simp at h
      | false =>
        rw [h2, cond_false] at h
        intro q hq
        cases hq with
        | head => exact eq_of_bne_false h1
        | tail _ hq => exact CheckTree_L0_ok t r _ h q hq
theorem CheckTree_par {t : List Place} (h : orangeryref_CheckTree t = 0) : ∀ p ∈ t, 0 ≤ p.parent ∧ p.parent ≤ 16 := fun p hp => by have := CheckPlace_ok (CheckTree_L0_ok t t 0 h p hp); omega
theorem CheckTree_node {t : List Place} (h : orangeryref_CheckTree t = 0) : ∀ p ∈ t, 0 ≤ p.node ∧ p.node < 16 := fun p hp => by have := CheckPlace_ok (CheckTree_L0_ok t t 0 h p hp); omega
theorem CheckOp_node {o : Op} (h : orangeryref_CheckOp o = 0) : 0 ≤ o.node ∧ o.node < 16 := by
  unfold orangeryref_CheckOp at h
  generalize hb : (((((!(orangeryref_in o.time 1 10000)) || (!(orangeryref_in o.who 0 2))) || ((orangeryref_CheckPlace (⟨o.node, o.parent, o.name⟩ : Place)) != 0)) || (!(orangeryref_in o.life 1 50))) || (!(orangeryref_in o.seq 1 30))) = b at h
  cases b with
  | true => simp at h
  | false =>
    simp only [Bool.or_eq_false_iff] at hb
    have := CheckPlace_ok (eq_of_bne_false hb.1.1.2)
    simp only at this
    omega

def orangeryref_IsUnder (l1 : List Place) (node1 : Int) (top1 : Int) : Bool :=
  (decide (top1 ∈ (orangeryref_chain l1 node1)))
theorem orangeryref_IsUnder_spec (y1 : SlV) (l1 : List Place) (node1 : Int) (top1 : Int) (hpar : ∀ p ∈ l1, 0 ≤ p.parent ∧ p.parent ≤ 16) : Does Try.prog 55 [y1.val l1.length, .int .i64 node1, .int .i64 top1] [RdL EPlace y1 l1] (fun (_ : Unit) => .bool (orangeryref_IsUnder l1 node1 top1)) (fun (_ : Unit) => []) := by
  refine does_of tab_ok Try.func55 rfl Try.ntmps55 Try.results55 rfl inferInstance (fun _ => inferInstance) fun C => ?_
  refine Pc EPlace y1 l1 24 fun hlen1 => ?_
  refine Tx ?_
  refine Cl (orangeryref_chain_spec y1 l1 node1 (by first | assumption | omega)) fun x1 => ?_
  refine Pr EInt x1 (orangeryref_chain l1 node1) 8 fun hlen2 => ?_
  refine Rp rfl rfl rfl rfl ?_
  refine Cl (slices_Contains_int_spec' x1 (orangeryref_chain l1 node1) top1) fun _ => ?_
  refine Tx ?_
  have hr1 : (orangeryref_IsUnder l1 node1 top1) = (decide (top1 ∈ (orangeryref_chain l1 node1))) := by simp only [orangeryref_IsUnder, cond_true, cond_false]
  refine cw_ret ?_; rw [hr1]; exact Re () (Vt Vn)

def orangeryref_table_L1  : List Place → (List Place) → (List Place)
  | [], tb2 => tb2
  | pn2 :: rn2, tb2 => (orangeryref_table_L1 rn2 (tb2.set ((pn2.node).toNat) pn2))
def orangeryref_table_L0 (l1 : List Place) : Nat → Nat → (List Place) → (List Place)
  | 0, n1, tb1 => (orangeryref_table_L1 l1 tb1)
  | fn1 + 1, n1, tb1 => (orangeryref_table_L0 l1 fn1 (n1 + 1) (tb1.set n1 (⟨(gt tb1 n1).node, (-1), (gt tb1 n1).name⟩ : Place)))
def orangeryref_table (l1 : List Place) : List Place :=
  (orangeryref_table_L0 l1 (16 - 0) 0 (List.replicate 16 (⟨0, 0, 0⟩ : Place)))
theorem orangeryref_table_spec (y1 : SlV) (l1 : List Place) (hnode : ∀ p ∈ l1, 0 ≤ p.node ∧ p.node < 16) : Does Try.prog 147 [y1.val l1.length] [RdL EPlace y1 l1] (fun (_ : Unit) => .agg ⟨((orangeryref_table l1).flatMap EPlace.enc)⟩) (fun (_ : Unit) => []) := by
  refine does_of tab_ok Try.func147 rfl Try.ntmps147 Try.results147 rfl inferInstance (fun _ => inferInstance) fun C => ?_
  refine Pc EPlace y1 l1 24 fun hlen1 => ?_
  refine Tx ?_
  refine Al fun g1 => ?_
  refine Tx ?_
  refine Al fun g2 => ?_
  refine Tx ?_
  (repeat refine cw_seq ?_); refine Lp [0,2,3] [false, true] (fun (i_ : Nat × List Place) => match i_ with | ⟨n1, tb1⟩ => (⟨[(7, .v (.int .i64 (n1 : Int)))], [⟨g2, 169, (tb1.flatMap EPlace.enc)⟩], [], [], (n1 ≤ 16) ∧ (tb1.length = 16) ∧ (orangeryref_table_L0 l1 (16 - n1) n1 tb1) = (orangeryref_table l1), 16 - n1⟩ : Ls)) ⟨0, (List.replicate 16 (⟨0, 0, 0⟩ : Place))⟩ (Sc (Sc (Sc Sn))) (.drop (.keep (.nil))) ⟨(Nat.zero_le _), List.length_replicate, (by simp only [orangeryref_table, cond_true, cond_false] : (orangeryref_table l1) = (orangeryref_table_L0 l1 (16 - 0) 0 (List.replicate 16 (⟨0, 0, 0⟩ : Place)))).symm⟩ Le4 ?_
  rintro ⟨n1, tb1⟩ ⟨hkn1, hl_tb1, hf1⟩
  simp only [List.cons_append, List.nil_append]
  refine Tx ?_
  refine Cd (b := decide ((n1 : Int) < 16)) (fun hc1 => ?_) fun hc1 => ?_
  · have hlt0 : n1 < 16 := by have := of_decide_eq_true hc1; omega
    have hlt0_ : 16 - n1 = (16 - (n1 + 1)) + 1 := by omega
    refine Tx ?_
    refine rw_q rfl rfl rfl (q_idxB n1 rfl rfl (fun _ => rfl) rfl (fun _ => rfl) rfl rfl rfl (fun _ => rfl) (fun _ => by first | assumption | omega)) ?_
    refine Rp rfl rfl rfl rfl ?_
    refine rw_stT1 EPlace tb1 n1 1 (⟨(gt tb1 n1).node, (-1), (gt tb1 n1).name⟩ : Place) .sq (.inl ⟨_, rfl⟩) (guard_none rfl) rfl rfl rfl rfl rfl rfl rfl rfl rfl rfl rfl rfl (Nat.lt_of_lt_of_eq (m := 16) (by first | assumption | omega) (Eq.symm hl_tb1)) rfl Ub ?_
    refine Tx ?_
    refine rw_q rfl rfl rfl (q_add rfl rfl (fun _ => rfl) rfl (fun _ => rfl) (fun _ => by omega)) ?_
    refine Tx ?_
    refine ⟨⟨(n1 + 1), (tb1.set n1 (⟨(gt tb1 n1).node, (-1), (gt tb1 n1).name⟩ : Place))⟩, ⟨hlt0, (by rw [List.length_set]; exact hl_tb1), (by rw [← hf1]; (conv => lhs; rw [hlt0_]); simp only [orangeryref_table_L0, cond_true, cond_false] : (orangeryref_table l1) = (orangeryref_table_L0 l1 (16 - (n1 + 1)) (n1 + 1) (tb1.set n1 (⟨(gt tb1 n1).node, (-1), (gt tb1 n1).name⟩ : Place)))).symm⟩, (by simp only []; omega), Le4⟩
  · have hge0 : 16 ≤ n1 := by have := of_decide_eq_false hc1; omega
    have hge0_ : 16 - n1 = 0 := by omega
    refine Tx ?_
    (repeat refine cw_seq ?_); refine Lp [2,3,14,15] [false, true] (fun (i_ : Nat × List Place) => match i_ with | ⟨n2, tb2⟩ => (⟨[(16, .v (.int .i64 (n2 : Int)))], [⟨g2, 169, (tb2.flatMap EPlace.enc)⟩], [], [], (n2 ≤ l1.length) ∧ (tb2.length = 16) ∧ (orangeryref_table_L1 (l1.drop n2) tb2) = (orangeryref_table l1), l1.length - n2⟩ : Ls)) ⟨0, tb1⟩ (Sc (Sc (Sc (Sc Sn)))) (.drop (.keep (.nil))) ⟨Nat.zero_le _, hl_tb1, (by rw [← hf1, hge0_]; simp only [orangeryref_table_L0, cond_true, cond_false] : (orangeryref_table l1) = (orangeryref_table_L1 l1 tb1)).symm⟩ Le4 ?_
    rintro ⟨n2, tb2⟩ ⟨hkn2, hl_tb2, hf2⟩
    simp only [List.cons_append, List.nil_append]
    refine Tx ?_
    refine Cd (b := decide ((n2 : Int) < (l1.length : Int))) (fun hc2 => ?_) fun hc2 => ?_
    · have hlt1 : n2 < l1.length := Int.ofNat_lt.1 (of_decide_eq_true hc2)
      have hnb := hnode _ (gt_mem hlt1)
      refine Tx ?_
      refine rw_q rfl rfl rfl (q_idx EPlace n2 rfl rfl (fun _ => rfl) rfl (fun _ => rfl) rfl rfl rfl Mm rfl (fun _ => rfl) (fun _ => by first | assumption | omega)) ?_
      refine rw_q rfl rfl rfl (q_leA EPlace rfl rfl (fun _ => rfl) rfl rfl Mm (fun _ => by first | assumption | omega)) ?_
      refine Al fun g3 => ?_
      refine Tx ?_
      refine rw_q rfl rfl rfl (q_idxB (((gt l1 n2).node).toNat) rfl rfl (fun _ => rfl) rfl (fun _ => rfl) rfl rfl rfl (fun _ => by omega) (fun _ => by first | assumption | omega)) ?_
      refine rw_stT EPlace tb2 (((gt l1 n2).node).toNat) (gt l1 n2) .sq (.inl ⟨_, rfl⟩) (guard_none rfl) rfl rfl rfl rfl rfl rfl rfl rfl rfl (Nat.lt_of_lt_of_eq (m := 16) (by first | assumption | omega) (Eq.symm hl_tb2)) Ub ?_
      refine Tx ?_
      refine rw_q rfl rfl rfl (q_add rfl rfl (fun _ => rfl) rfl (fun _ => rfl) (fun _ => by omega)) ?_
      refine Tx ?_
      refine ⟨⟨(n2 + 1), (tb2.set (((gt l1 n2).node).toNat) (gt l1 n2))⟩, ⟨hlt1, (by rw [List.length_set]; exact hl_tb2), (by rw [← hf2, drop_gt hlt1]; simp only [orangeryref_table_L1, cond_true, cond_false] : (orangeryref_table l1) = (orangeryref_table_L1 (l1.drop (n2 + 1)) (tb2.set (((gt l1 n2).node).toNat) (gt l1 n2)))).symm⟩, (by simp only []; omega), Le4⟩
    · have hge1 : l1.length ≤ n2 := by have := of_decide_eq_false hc2; omega
      refine Tx ?_
      refine rw_q rfl rfl rfl (q_ldA rfl rfl (fun _ => rfl) rfl Mm (flat_len EPlace (n := 16) hl_tb2 rfl)) ?_
      refine rw_stAr EPlace tb2 (n := 16) .sq (.inl ⟨_, rfl⟩) (guard_none rfl) rfl rfl rfl rfl rfl rfl rfl hl_tb2 rfl Ub (by rfl) ?_
      refine Tx ?_
      have hr1 : (orangeryref_table l1) = tb2 := by rw [← hf2, List.drop_of_length_le hge1]; simp only [orangeryref_table_L1, cond_true, cond_false]
      refine cw_ret ?_
      rw [hr1]
      exact ⟨(), _, (.cons (.agg rfl rfl Mm (flat_len EPlace (n := 16) hl_tb2 rfl)) .nil), rfl, Sm, .nil _, .nil _⟩
end Go.Proofs.Ytchdacbjiomplaa

set_option maxHeartbeats 2000000
namespace Go.Proofs.Ytchdacbjiomplaa
open Go Go.Proofs.Ytchdacbjiomplaa.Fw Go.Proofs
attribute [local irreducible] RW CW
theorem table_L1_len : ∀ (l tb : List Place), (orangeryref_table_L1 l tb).length = tb.length
  | [], _ => rfl
  | p :: r, tb => by rw [orangeryref_table_L1, table_L1_len r]; simp
theorem table_L0_len (l : List Place) : ∀ (f k : Nat) (tb : List Place), (orangeryref_table_L0 l f k tb).length = tb.length
  | 0, _, tb => table_L1_len l tb
  | f + 1, k, tb => by rw [orangeryref_table_L0, table_L0_len l f]; simp
theorem table_len (l : List Place) : (orangeryref_table l).length = 16 := (table_L0_len l _ _ _).trans List.length_replicate
theorem par_lt {l : List Place} (h : orangeryref_CheckTree l = 0) : True := trivial

def orangeryref_places_L0 (t1 : List Place) : Nat → Nat → (List Place) → (List Place)
  | 0, n1, l1 => l1
  | fn1 + 1, n1, l1 => (bif (decide ((n1 : Int) > 0) && decide (((gt t1 n1).parent) ≥ 0)) then (orangeryref_places_L0 t1 fn1 (n1 + 1) (l1 ++ [(gt t1 n1)])) else (orangeryref_places_L0 t1 fn1 (n1 + 1) l1))
def orangeryref_places (t1 : List Place) : List Place :=
  (orangeryref_places_L0 t1 (16 - 0) 0 [])
theorem orangeryref_places_spec (t1 : List Place) (hl_t1 : t1.length = 16) : Does Try.prog 148 [.agg ⟨(t1.flatMap EPlace.enc)⟩] [] (fun (X : SlV) => X.val (orangeryref_places t1).length) (fun (X : SlV) => [RdL EPlace X (orangeryref_places t1)]) := by
  refine does_of tab_ok Try.func148 rfl Try.ntmps148 Try.results148 rfl inferInstance (fun _ => inferInstance) fun C => ?_
  refine Tx ?_
  refine Bx fun g1 => ?_
  refine Tx ?_
  refine rw_q rfl rfl rfl (q_ldA rfl rfl (fun _ => rfl) rfl Mm (flat_len EPlace (n := 16) hl_t1 rfl)) ?_
  refine Tx ?_
  (repeat refine cw_seq ?_); refine Lp [2,6] [true] (fun (i_ : List Place × SlV × Option Nat × Nat) => match i_ with | ⟨l1, x1, x1b, n1⟩ => (⟨[(3, .v (x1.val l1.length)), (7, .v (.int .i64 (n1 : Int)))], [], [ownL EPlace 35 x1 x1b l1], [], (n1 ≤ 16) ∧ (l1.length ≤ n1) ∧ (orangeryref_places_L0 t1 (16 - n1) n1 l1) = (orangeryref_places t1), 16 - n1⟩ : Ls)) ⟨[], ⟨none, 0⟩, none, 0⟩ (Sc (Sc Sn)) (.keep (.nil)) ⟨(Nat.zero_le _), (by first | exact Nat.le_refl _ | exact Nat.zero_le _ | omega), (by simp only [orangeryref_places, cond_true, cond_false] : (orangeryref_places t1) = (orangeryref_places_L0 t1 (16 - 0) 0 [])).symm⟩ (Le.trans (le_nilL EPlace 35) Le4) ?_
  rintro ⟨l1, x1, x1b, n1⟩ ⟨hkn1, hl1, hf1⟩
  simp only [List.cons_append, List.nil_append]
  refine Tx ?_
  refine Cd (b := decide ((n1 : Int) < 16)) (fun hc1 => ?_) fun hc1 => ?_
  · have hlt0 : n1 < 16 := by have := of_decide_eq_true hc1; omega
    have hlt0_ : 16 - n1 = (16 - (n1 + 1)) + 1 := by omega
    refine Tx ?_
    refine rw_q rfl rfl rfl (q_ixA EPlace n1 rfl rfl (fun _ => rfl) rfl (fun _ => rfl) rfl rfl rfl (fun _ => rfl) hl_t1 (fun _ => by first | assumption | omega)) ?_
    refine Al fun g2 => ?_
    refine Tx ?_
    refine Cd (b := (decide ((n1 : Int) > 0) && decide (((gt t1 n1).parent) ≥ 0))) (fun hc2 => ?_) fun hc2 => ?_
    · refine Tx ?_
      refine rw_bsliceL EPlace [(gt t1 n1)] .sq (guard_none rfl) rfl rfl rfl rfl rfl rfl rfl rfl rfl rfl rfl rfl rfl rfl rfl fun x2 x2b => ?_
      refine rw_appendL EPlace l1 [(gt t1 n1)] (b := x1b) .sq (fun _ _ => .inl ⟨_, rfl⟩) (guard_none rfl) rfl rfl rfl rfl rfl rfl rfl (fun _ _ => Uo) rfl rfl rfl rfl rfl rfl rfl (reads_ownL (e := 35) (b := x2b) Mm) (by show (l1.length + 1) * 24 ≤ 140737488355328; (try simp only [List.length_append, List.length_cons, List.length_nil]); omega) fun x3 x3b => ?_
      refine Tx ?_
      refine rw_q rfl rfl rfl (q_add rfl rfl (fun _ => rfl) rfl (fun _ => rfl) (fun _ => by omega)) ?_
      refine Tx ?_
      refine ⟨⟨(l1 ++ [(gt t1 n1)]), x3, x3b, (n1 + 1)⟩, ⟨hlt0, (by simp only [List.length_append, List.length_cons, List.length_nil]; omega), (by rw [← hf1]; (conv => lhs; rw [hlt0_]); simp only [orangeryref_places_L0, hc2, cond_true, cond_false] : (orangeryref_places t1) = (orangeryref_places_L0 t1 (16 - (n1 + 1)) (n1 + 1) (l1 ++ [(gt t1 n1)]))).symm⟩, (by simp only []; omega), Le4⟩
    · refine Tx ?_
      refine rw_q rfl rfl rfl (q_add rfl rfl (fun _ => rfl) rfl (fun _ => rfl) (fun _ => by omega)) ?_
      refine Tx ?_
      refine ⟨⟨l1, x1, x1b, (n1 + 1)⟩, ⟨hlt0, (by simp only [List.length_append, List.length_cons, List.length_nil]; omega), (by rw [← hf1]; (conv => lhs; rw [hlt0_]); simp only [orangeryref_places_L0, hc2, cond_true, cond_false] : (orangeryref_places t1) = (orangeryref_places_L0 t1 (16 - (n1 + 1)) (n1 + 1) l1)).symm⟩, (by simp only []; omega), Le4⟩
  · have hge0 : 16 ≤ n1 := by have := of_decide_eq_false hc1; omega
    have hge0_ : 16 - n1 = 0 := by omega
    refine Tx ?_
    refine cw_le (le_freezeL EPlace 35 x1 x1b l1 Uo) ?_
    have hr1 : (orangeryref_places t1) = l1 := by rw [← hf1, hge0_]; simp only [orangeryref_places_L0, cond_true, cond_false]
    refine cw_ret ?_; rw [hr1]; exact Re x1 (Vt Vn)

def orangeryref_done (l1 : List Place) (o1 : Op) : (List Place) × Step :=
  (bif (orangeryref_IsUnder l1 o1.parent o1.node) then (l1, (⟨o1, false, (tree_Find l1 o1.node)⟩ : Step)) else ((orangeryref_places ((orangeryref_table l1).set o1.node.toNat (⟨o1.node, o1.parent, o1.name⟩ : Place))), (⟨o1, true, (tree_Find l1 o1.node)⟩ : Step)))
theorem orangeryref_done_spec (y1 : SlV) (l1 : List Place) (o1 : Op) (hpar : ∀ p ∈ l1, 0 ≤ p.parent ∧ p.parent ≤ 16) (hnode : ∀ p ∈ l1, 0 ≤ p.node ∧ p.node < 16) (ho : 0 ≤ o1.node ∧ o1.node < 16) : Does Try.prog 126 [y1.val l1.length, .agg ⟨[.int .i64 o1.time, .int .i64 o1.who, .int .i64 o1.node, .int .i64 o1.parent, .int .i64 o1.name, .int .i64 o1.life, .int .i64 o1.seq]⟩] [RdL EPlace y1 l1] (fun (X : SlV) => .tuple #[X.val ((orangeryref_done l1 o1).1).length, .agg ⟨[.int .i64 ((((orangeryref_done l1 o1).2).o).time), .int .i64 ((((orangeryref_done l1 o1).2).o).who), .int .i64 ((((orangeryref_done l1 o1).2).o).node), .int .i64 ((((orangeryref_done l1 o1).2).o).parent), .int .i64 ((((orangeryref_done l1 o1).2).o).name), .int .i64 ((((orangeryref_done l1 o1).2).o).life), .int .i64 ((((orangeryref_done l1 o1).2).o).seq), .bool (((orangeryref_done l1 o1).2).did), .int .i64 ((((orangeryref_done l1 o1).2).was).node), .int .i64 ((((orangeryref_done l1 o1).2).was).parent), .int .i64 ((((orangeryref_done l1 o1).2).was).name)]⟩]) (fun (X : SlV) => [RdL EPlace X ((orangeryref_done l1 o1).1)]) := by
  refine does_of tab_ok Try.func126 rfl Try.ntmps126 Try.results126 rfl inferInstance (fun _ => inferInstance) fun C => ?_
  refine Pc EPlace y1 l1 24 fun hlen1 => ?_
  refine Tx ?_
  refine Bx fun g1 => ?_
  refine Rp rfl rfl rfl rfl ?_
  refine Al fun g2 => ?_
  refine Tx ?_
  refine cw_join [0, 3, 4, 5] [true, true] (fun (g3 : Nat) => [(6, .v (.pointer (some ⟨g3, 0, none⟩)))]) (fun (g3 : Nat) => [⟨g3, 37, [.int .i64 o1.time, .int .i64 o1.who, .int .i64 o1.node, .int .i64 o1.parent, .int .i64 o1.name, .int .i64 o1.life, .int .i64 o1.seq, .bool false, .int .i64 ((tree_Find l1 o1.node).node), .int .i64 ((tree_Find l1 o1.node).parent), .int .i64 ((tree_Find l1 o1.node).name)]⟩]) (fun (g3 : Nat) => []) (fun (g3 : Nat) => []) (fun _ => True) (.cons rfl (.cons rfl (.cons rfl (.cons rfl (.nil _))))) (.keep (.keep (.nil))) ?_ ?_
  · refine cw_regionA (fun j => match j with | 7 => none | _ => some []) ?_
    refine Ra 0 [1,2,3,4,6] rfl (q_ldA rfl rfl (fun _ => rfl) rfl Mm rfl) ?_
    refine Rb 1 [2,3,6] [4,5,7] rfl Qp ?_
    refine Rb 2 [6] [3,4,5,7] rfl Qp ?_
    refine Rb 3 [6] [4,5,7] rfl Q1 ?_
    refine ra_two 4 6 Kr ?_ ?_
    · refine rw_call (orangeryref_FindIn_spec' y1 l1 o1.node) (.an rfl rfl) (guard_none rfl) rfl rfl rfl Kr rfl rfl Sm ?_
      intro _
      refine Ra 5 [6] rfl Qp ?_
      refine ra_one 6 Kr ?_
      refine rw_alloc (.an rfl rfl) (guard_none rfl) rfl rfl rfl rfl fun g4 => ?_
      refine ra_one 7 Kr ?_
      refine rw_stA (.lo [g4] rfl rfl) (.inr (by simp)) (guard_none rfl) rfl rfl rfl rfl rfl rfl rfl rfl rfl Ub rfl ?_
      refine ra_nil Kr ?_
      refine ⟨g4, trivial, Le4⟩
    · refine rw_alloc (.an rfl rfl) (guard_none rfl) rfl rfl rfl rfl fun g5 => ?_
      refine ra_one 4 Kr ?_
      refine rw_call (orangeryref_FindIn_spec' y1 l1 o1.node) (.an rfl rfl) (guard_none rfl) rfl rfl rfl Kr rfl rfl Sm ?_
      intro _
      refine Ra 5 [] rfl Qp ?_
      refine ra_one 7 Kr ?_
      refine rw_stA (.lo [g5] rfl rfl) (.inr (by simp)) (guard_none rfl) rfl rfl rfl rfl rfl rfl rfl rfl rfl Ub rfl ?_
      refine ra_nil Kr ?_
      refine ⟨g5, trivial, Le4⟩
  · rintro g3 -
    simp only [List.cons_append, List.nil_append]
    refine Tx ?_
    refine Cl (orangeryref_IsUnder_spec y1 l1 o1.parent o1.node hpar) fun _ => ?_
    refine rw_nil ?_
    (repeat refine cw_seq ?_)
    refine Cd (b := (orangeryref_IsUnder l1 o1.parent o1.node)) (fun hc1 => ?_) fun hc1 => ?_
    · (repeat refine cw_seq ?_); refine cw_regionA (fun j => match j with | 3 => some [g2] | _ => some []) ?_
      refine Ra 0 [1] rfl Qp ?_
      refine Ra 1 [2] rfl (q_ldA rfl rfl (fun _ => rfl) rfl Mm rfl) ?_
      refine Ra 2 [] rfl Qp ?_
      refine ra_one 3 Kr ?_
      refine rw_stA (.an rfl rfl) (.inr (by simp)) (guard_none rfl) rfl rfl rfl rfl rfl rfl rfl rfl rfl Ub rfl ?_
      refine ra_nil Kr ?_
      (repeat refine cw_seq ?_)
      have hr1 : (orangeryref_done l1 o1) = (l1, (⟨o1, false, (tree_Find l1 o1.node)⟩ : Step)) := by simp only [orangeryref_done, hc1, cond_true, cond_false]
      refine cw_ret ?_; rw [hr1]; exact Re y1 (Vt (Va Vn))
    · refine Tx ?_
      refine Cl (orangeryref_table_spec y1 l1 hnode) fun _ => ?_
      refine Al fun g6 => ?_
      refine rw_stAr EPlace (orangeryref_table l1) (n := 16) .sq (.inl ⟨_, rfl⟩) (guard_none rfl) rfl rfl rfl rfl rfl rfl rfl (table_len l1) rfl Ub (by rfl) ?_
      refine Tx ?_
      refine rw_q rfl rfl rfl (q_idxB o1.node.toNat rfl rfl (fun _ => rfl) rfl (fun _ => rfl) rfl rfl rfl (fun _ => by omega) (fun _ => by first | assumption | omega)) ?_
      refine rw_stT EPlace (orangeryref_table l1) o1.node.toNat (⟨o1.node, o1.parent, o1.name⟩ : Place) .sq (.inl ⟨_, rfl⟩) (guard_none rfl) rfl rfl rfl rfl rfl rfl rfl rfl rfl (Nat.lt_of_lt_of_eq (m := 16) (by first | assumption | omega) (Eq.symm (table_len l1))) Ub ?_
      refine rw_nil ?_
      (repeat refine cw_seq ?_); refine cw_regionA (fun j => match j with | 4 => some [g2] | _ => some []) ?_
      refine Ra 0 [2] rfl (q_ldA rfl rfl (fun _ => rfl) rfl Mm (flat_len EPlace (n := 16) (by rw [List.length_set]; exact (table_len l1)) rfl)) ?_
      refine Ra 2 [1,3] rfl (q_ldA rfl rfl (fun _ => rfl) rfl Mm rfl) ?_
      refine ra_one 1 Kr ?_
      refine rw_call (orangeryref_places_spec ((orangeryref_table l1).set o1.node.toNat (⟨o1.node, o1.parent, o1.name⟩ : Place)) (by rw [List.length_set]; exact table_len _)) (.an rfl rfl) (guard_none rfl) rfl rfl rfl Kr rfl rfl Sm ?_
      intro x1
      refine Pr EPlace x1 (orangeryref_places ((orangeryref_table l1).set o1.node.toNat (⟨o1.node, o1.parent, o1.name⟩ : Place))) 24 fun hlen2 => ?_
      refine Ra 3 [] rfl Qp ?_
      refine ra_one 4 Kr ?_
      refine rw_stA (.an rfl rfl) (.inr (by simp)) (guard_none rfl) rfl rfl rfl rfl rfl rfl rfl rfl rfl Ub rfl ?_
      refine ra_nil Kr ?_
      (repeat refine cw_seq ?_)
      have hr2 : (orangeryref_done l1 o1) = ((orangeryref_places ((orangeryref_table l1).set o1.node.toNat (⟨o1.node, o1.parent, o1.name⟩ : Place))), (⟨o1, true, (tree_Find l1 o1.node)⟩ : Step)) := by simp only [orangeryref_done, hc1, cond_true, cond_false]
      refine cw_ret ?_; rw [hr2]; exact Re x1 (Vt (Va Vn))

def orangeryref_Done (t1 : List Place) (o1 : Op) : (List Place) × Step × Int :=
  (bif ((orangeryref_CheckTree t1) != 0) then (([] : List Place), (⟨(⟨0, 0, 0, 0, 0, 0, 0⟩ : Op), false, (⟨0, 0, 0⟩ : Place)⟩ : Step), (orangeryref_CheckTree t1)) else (bif ((orangeryref_CheckOp o1) != 0) then (([] : List Place), (⟨(⟨0, 0, 0, 0, 0, 0, 0⟩ : Op), false, (⟨0, 0, 0⟩ : Place)⟩ : Step), (orangeryref_CheckOp o1)) else ((orangeryref_done t1 o1).1, ((orangeryref_done t1 o1).2), 0)))
theorem orangeryref_Done_spec (y1 : SlV) (t1 : List Place) (o1 : Op) : Does Try.prog 35 [.agg ⟨[y1.val t1.length]⟩, .agg ⟨[.int .i64 o1.time, .int .i64 o1.who, .int .i64 o1.node, .int .i64 o1.parent, .int .i64 o1.name, .int .i64 o1.life, .int .i64 o1.seq]⟩] [RdL EPlace y1 t1] (fun (X : SlV) => .tuple #[.agg ⟨[X.val ((orangeryref_Done t1 o1).1).length]⟩, .agg ⟨[.int .i64 ((((orangeryref_Done t1 o1).2.1).o).time), .int .i64 ((((orangeryref_Done t1 o1).2.1).o).who), .int .i64 ((((orangeryref_Done t1 o1).2.1).o).node), .int .i64 ((((orangeryref_Done t1 o1).2.1).o).parent), .int .i64 ((((orangeryref_Done t1 o1).2.1).o).name), .int .i64 ((((orangeryref_Done t1 o1).2.1).o).life), .int .i64 ((((orangeryref_Done t1 o1).2.1).o).seq), .bool (((orangeryref_Done t1 o1).2.1).did), .int .i64 ((((orangeryref_Done t1 o1).2.1).was).node), .int .i64 ((((orangeryref_Done t1 o1).2.1).was).parent), .int .i64 ((((orangeryref_Done t1 o1).2.1).was).name)]⟩, .int .i64 ((orangeryref_Done t1 o1).2.2)]) (fun (X : SlV) => [RdL EPlace X ((orangeryref_Done t1 o1).1)]) := by
  refine does_of tab_ok Try.func35 rfl Try.ntmps35 Try.results35 rfl inferInstance (fun _ => inferInstance) fun C => ?_
  refine Pc EPlace y1 t1 24 fun hlen1 => ?_
  refine Tx ?_
  refine Bx fun g1 => ?_
  refine Bx fun g2 => ?_
  refine Al fun g3 => ?_
  refine Al fun g4 => ?_
  refine Tx ?_
  refine Cl (orangeryref_CheckTree_spec y1 t1) fun _ => ?_
  refine Tx ?_
  refine Cd (b := ((orangeryref_CheckTree t1) != 0)) (fun hc1 => ?_) fun hc1 => ?_
  · have hc1p := bne_iff_ne.1 hc1
    refine Tx ?_
    refine Fc EPlace ?_
    have hr1 : (orangeryref_Done t1 o1) = (([] : List Place), (⟨(⟨0, 0, 0, 0, 0, 0, 0⟩ : Op), false, (⟨0, 0, 0⟩ : Place)⟩ : Step), (orangeryref_CheckTree t1)) := by simp only [orangeryref_Done, hc1, cond_true, cond_false]
    refine cw_ret ?_; rw [hr1]; exact Re (⟨none, 0⟩ : SlV) (Va (Va (Vt Vn)))
  · have hc1p := eq_of_bne_false hc1
    have hct := eq_of_bne_false hc1
    refine Tx ?_
    refine Cl (orangeryref_CheckOp_spec o1) fun _ => ?_
    refine Tx ?_
    refine Cd (b := ((orangeryref_CheckOp o1) != 0)) (fun hc2 => ?_) fun hc2 => ?_
    · have hc2p := bne_iff_ne.1 hc2
      refine Tx ?_
      refine Fc EPlace ?_
      have hr2 : (orangeryref_Done t1 o1) = (([] : List Place), (⟨(⟨0, 0, 0, 0, 0, 0, 0⟩ : Op), false, (⟨0, 0, 0⟩ : Place)⟩ : Step), (orangeryref_CheckOp o1)) := by simp only [orangeryref_Done, hc1, hc2, cond_true, cond_false]
      refine cw_ret ?_; rw [hr2]; exact Re (⟨none, 0⟩ : SlV) (Va (Va (Vt Vn)))
    · have hc2p := eq_of_bne_false hc2
      have hco := eq_of_bne_false hc2
      refine Tx ?_
      refine Cl (orangeryref_done_spec y1 t1 o1 (CheckTree_par hct) (CheckTree_node hct) (CheckOp_node hco)) fun x1 => ?_
      refine Pr EPlace x1 ((orangeryref_done t1 o1).1) 24 fun hlen2 => ?_
      refine Tx ?_
      refine Al fun g5 => ?_
      refine Tx ?_
      (repeat refine cw_seq ?_); refine cw_regionA (fun j => match j with | 3 => some [g3] | 4 => some [g4] | _ => some []) ?_
      refine Ra 0 [2] rfl Qp ?_
      refine Ra 1 [2] rfl Qp ?_
      refine ra_q (.an (i := 2) (js := [3]) rfl Kr Kr Kr Kr) (.keep (.keep (.drop (SplitB.all _)))) (by intro g hg; simp at hg; simp [hg]) rfl rfl rfl (q_ldA rfl rfl (fun _ => rfl) rfl Mm rfl) ?_
      refine ra_one 3 Kr ?_
      refine rw_stA (.an rfl rfl) (.inr (by simp)) (guard_none rfl) rfl rfl rfl rfl rfl rfl rfl rfl rfl Ub rfl ?_
      refine ra_one 4 Kr ?_
      refine rw_stA (.an rfl rfl) (.inr (by simp)) (guard_none rfl) rfl rfl rfl rfl rfl rfl rfl rfl rfl Ub rfl ?_
      refine Ra 5 [] rfl Qp ?_
      refine ra_nil Kr ?_
      (repeat refine cw_seq ?_)
      have hr3 : (orangeryref_Done t1 o1) = ((orangeryref_done t1 o1).1, ((orangeryref_done t1 o1).2), 0) := by simp only [orangeryref_Done, hc1, hc2, cond_true, cond_false]
      refine cw_ret ?_; rw [hr3]; exact Re x1 (Va (Va (Vt Vn)))
end Go.Proofs.Ytchdacbjiomplaa
