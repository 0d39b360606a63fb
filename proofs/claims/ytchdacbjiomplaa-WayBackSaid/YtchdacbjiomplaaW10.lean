/- Part of this claim. No condition. -/
import Derived.Test.YtchdacbjiomplaaW2
set_option linter.unusedVariables false
set_option linter.unusedSimpArgs false
namespace Go.Proofs.Ytchdacbjiomplaa
open Go Go.Proofs.Ytchdacbjiomplaa.Fw Go.Proofs
theorem tmod_in (k n : Int) (h : 0 < n) : -n < k.tmod n ∧ k.tmod n < n := ⟨Int.lt_tmod_of_pos k h, Int.tmod_lt_of_pos k h⟩

def orangerylaw_at (k1 : Int) (n1 : Int) : Int :=
  (bif decide ((k1.tmod n1) < 0) then ((k1.tmod n1) + n1) else (k1.tmod n1))
theorem orangerylaw_at_spec (k1 : Int) (n1 : Int) (hn : 0 < n1 ∧ n1 ≤ 1000000000000000000) : Does Try.prog 41 [.int .i64 k1, .int .i64 n1] [] (fun (_ : Unit) => .int .i64 (orangerylaw_at k1 n1)) (fun (_ : Unit) => []) := by
  refine does_of tab_ok Try.func41 rfl Try.ntmps41 Try.results41 rfl inferInstance (fun _ => inferInstance) fun C => ?_
  (repeat refine cw_seq ?_); refine cw_region ?_
  refine Rp rfl rfl rfl rfl ?_
  refine rw_nil ?_
  (repeat refine cw_seq ?_); refine cw_region ?_
  refine Rp rfl rfl rfl rfl ?_
  refine Rp rfl rfl rfl rfl ?_
  refine rw_q rfl rfl rfl (q_rem rfl rfl (fun _ => rfl) rfl (fun _ => rfl) (fun _ => by first | omega | (have := tmod_in k1 n1 (by omega); omega))) ?_
  refine Rp rfl rfl rfl rfl ?_
  refine rw_nil ?_
  (repeat refine cw_seq ?_); refine cw_region ?_
  refine Rp rfl rfl rfl rfl ?_
  refine Rp rfl rfl rfl rfl ?_
  refine rw_nil ?_
  (repeat refine cw_seq ?_); refine cw_cond (b := decide ((k1.tmod n1) < 0)) rfl rfl (fun hc1 => ?_) (fun hc1 => ?_)
  · skip
    have hc1p := of_decide_eq_true hc1
    (repeat refine cw_seq ?_); refine cw_region ?_
    refine Rp rfl rfl rfl rfl ?_
    refine Rp rfl rfl rfl rfl ?_
    refine rw_q rfl rfl rfl (q_add rfl rfl (fun _ => rfl) rfl (fun _ => rfl) (fun _ => by first | omega | (have := tmod_in k1 n1 (by omega); omega))) ?_
    refine Rp rfl rfl rfl rfl ?_
    refine rw_nil ?_
    (repeat refine cw_seq ?_); refine cw_region ?_
    refine Rp rfl rfl rfl rfl ?_
    refine Rp rfl rfl rfl rfl ?_
    refine rw_nil ?_
    (repeat refine cw_seq ?_)
    have hr1 : (orangerylaw_at k1 n1) = ((k1.tmod n1) + n1) := by simp only [orangerylaw_at, hc1, cond_true, cond_false]
    refine cw_ret ?_
    rw [hr1]
    exact ⟨(), _, (.cons (.tmp rfl) .nil), rfl, Sm, .nil _, .nil _⟩
  · skip
    have hc1p := of_decide_eq_false hc1
    (repeat refine cw_seq ?_); refine cw_skip ?_
    (repeat refine cw_seq ?_); refine cw_region ?_
    refine Rp rfl rfl rfl rfl ?_
    refine Rp rfl rfl rfl rfl ?_
    refine rw_nil ?_
    (repeat refine cw_seq ?_)
    have hr2 : (orangerylaw_at k1 n1) = (k1.tmod n1) := by simp only [orangerylaw_at, hc1, cond_true, cond_false]
    refine cw_ret ?_
    rw [hr2]
    exact ⟨(), _, (.cons (.tmp rfl) .nil), rfl, Sm, .nil _, .nil _⟩

theorem at_in {k n : Int} (h : 0 < n) : 0 ≤ orangerylaw_at k n ∧ orangerylaw_at k n < n := by
  have := tmod_in k n h
  unfold orangerylaw_at
  cases hb : decide (k.tmod n < 0) with
  | true => simp at hb; simp only [cond_true]; omega
  | false => simp at hb; simp only [cond_false]; omega

def slices_IndexFunc_int_L0 (f1 : Int → Bool) : List Int → Nat → Int
  | [], n1 => (-1)
  | pn1 :: rn1, n1 => (bif (f1 pn1) then (n1 : Int) else (slices_IndexFunc_int_L0 f1 rn1 (n1 + 1)))
def slices_IndexFunc_int (s1 : List Int) (f1 : Int → Bool) : Int :=
  (slices_IndexFunc_int_L0 f1 s1 0)
theorem slices_IndexFunc_int_spec (y1 : SlV) (s1 : List Int) (f2 : Nat) (caps1 : List Value) (pre1 : List Pred) [StabL pre1] (f1 : Int → Bool) (hfb1 : tab.fnb f2 = true) (hfn1 : ∀ (a0_ : Int), Does Try.prog f2 ([.int .i64 a0_] ++ caps1) pre1 (fun (_ : Unit) => .bool (f1 a0_)) (fun (_ : Unit) => [])) : Does Try.prog 204 [y1.val s1.length, .func (.func f2) #[] ⟨caps1⟩] (RdL EInt y1 s1 :: pre1) (fun (_ : Unit) => .int .i64 (slices_IndexFunc_int s1 f1)) (fun (_ : Unit) => []) := by
  refine does_of tab_ok Try.func204 rfl Try.ntmps204 Try.results204 rfl inferInstance (fun _ => inferInstance) fun C => ?_
  refine cw_pure (φ := s1.length * 8 ≤ 140737488355328) [RdL EInt y1 s1] Sf (fun M w h => (allF1 h).len) fun hlen1 => ?_
  (repeat refine cw_seq ?_); refine cw_region ?_
  refine Rp rfl rfl rfl rfl ?_
  refine rw_nil ?_
  (repeat refine cw_seq ?_); refine cw_region ?_
  refine Rp rfl rfl rfl rfl ?_
  refine Rp rfl rfl rfl rfl ?_
  refine Rp rfl rfl rfl rfl ?_
  refine rw_nil ?_
  (repeat refine cw_seq ?_); refine cw_block ?_
  (repeat refine cw_seq ?_); refine cw_loopS [0, 1, 4, 7] [] (fun (n1 : Nat) => [(8, .v (.int .i64 (n1 : Int)))]) (fun (n1 : Nat) => []) (fun (n1 : Nat) => []) (fun (n1 : Nat) => []) (fun (n1 : Nat) => (n1 ≤ s1.length) ∧ (slices_IndexFunc_int_L0 f1 (s1.drop n1) n1) = (slices_IndexFunc_int s1 f1)) (fun (n1 : Nat) => s1.length - n1) 0 (.cons rfl (.cons rfl (.cons rfl (.cons rfl (.nil _))))) (.nil) ⟨Nat.zero_le _, (by simp only [slices_IndexFunc_int, cond_true, cond_false] : (slices_IndexFunc_int s1 f1) = (slices_IndexFunc_int_L0 f1 s1 0)).symm⟩ Le5 ?_
  rintro n1 ⟨hkn1, hf1⟩
  simp only [List.cons_append, List.nil_append]
  (repeat refine cw_seq ?_); refine cw_region ?_
  refine Rp rfl rfl rfl rfl ?_
  refine rw_nil ?_
  (repeat refine cw_seq ?_); refine cw_cond (b := decide ((n1 : Int) < (s1.length : Int))) rfl rfl (fun hc1 => ?_) (fun hc1 => ?_)
  · skip
    have hlt0 : n1 < s1.length := Int.ofNat_lt.1 (of_decide_eq_true hc1)
    (repeat refine cw_seq ?_); refine cw_skip ?_
    (repeat refine cw_seq ?_); refine cw_block ?_
    (repeat refine cw_seq ?_); refine cw_region ?_
    refine Rp rfl rfl rfl rfl ?_
    refine Rp rfl rfl rfl rfl ?_
    refine rw_nil ?_
    (repeat refine cw_seq ?_); refine cw_region ?_
    refine Rp rfl rfl rfl rfl ?_
    refine Rp rfl rfl rfl rfl ?_
    refine Rp rfl rfl rfl rfl ?_
    refine rw_q rfl rfl rfl (q_idx EInt n1 rfl rfl (fun _ => rfl) rfl (fun _ => rfl) rfl rfl rfl Mm rfl (fun _ => rfl) (fun _ => by first | assumption | omega)) ?_
    refine rw_q rfl rfl rfl (q_le1 EInt rfl rfl (fun _ => rfl) rfl rfl Mm (fun _ => by first | assumption | omega) rfl) ?_
    refine rw_callv (hfn1 (gt s1 n1)) .sq (guard_none rfl) rfl rfl rfl rfl rfl (by assumption) rfl rfl rfl Sf ?_
    intro _
    refine rw_nil ?_
    (repeat refine cw_seq ?_); refine cw_cond (b := (f1 (gt s1 n1))) rfl rfl (fun hc2 => ?_) (fun hc2 => ?_)
    · skip
      (repeat refine cw_seq ?_); refine cw_region ?_
      refine Rp rfl rfl rfl rfl ?_
      refine Rp rfl rfl rfl rfl ?_
      refine rw_nil ?_
      (repeat refine cw_seq ?_)
      have hr1 : (slices_IndexFunc_int s1 f1) = (n1 : Int) := by rw [← hf1, drop_gt hlt0]; simp only [slices_IndexFunc_int_L0, hc2, cond_true, cond_false]
      refine cw_ret ?_
      rw [hr1]
      exact ⟨(), _, (.cons (.tmp rfl) .nil), rfl, Sf, .nil _, .nil _⟩
    · skip
      (repeat refine cw_seq ?_); refine cw_skip ?_
      (repeat refine cw_seq ?_); refine cw_region ?_
      refine rw_q rfl rfl rfl (q_add rfl rfl (fun _ => rfl) rfl (fun _ => rfl) (fun _ => by omega)) ?_
      refine Rp rfl rfl rfl rfl ?_
      refine rw_nil ?_
      refine ⟨(n1 + 1), ⟨hlt0, (by rw [← hf1, drop_gt hlt0]; simp only [slices_IndexFunc_int_L0, hc2, cond_true, cond_false] : (slices_IndexFunc_int s1 f1) = (slices_IndexFunc_int_L0 f1 (s1.drop (n1 + 1)) (n1 + 1))).symm⟩, (by simp only []; omega), Le5⟩
  · skip
    have hge0 : s1.length ≤ n1 := by have := of_decide_eq_false hc1; omega
    (repeat refine cw_seq ?_); refine cw_exit ?_
    (repeat refine cw_seq ?_); refine cw_region ?_
    refine Rp rfl rfl rfl rfl ?_
    refine rw_nil ?_
    (repeat refine cw_seq ?_)
    have hr2 : (slices_IndexFunc_int s1 f1) = (-1) := by rw [← hf1, List.drop_of_length_le hge0]; simp only [slices_IndexFunc_int_L0, cond_true, cond_false]
    refine cw_ret ?_
    rw [hr2]
    exact ⟨(), _, (.cons (.tmp rfl) .nil), rfl, Sf, .nil _, .nil _⟩

def slices_ContainsFunc_int (s1 : List Int) (f1 : Int → Bool) : Bool :=
  decide ((slices_IndexFunc_int s1 f1) ≥ 0)
theorem slices_ContainsFunc_int_spec (y1 : SlV) (s1 : List Int) (f2 : Nat) (caps1 : List Value) (pre1 : List Pred) [StabL pre1] (f1 : Int → Bool) (hfb1 : tab.fnb f2 = true) (hfn1 : ∀ (a0_ : Int), Does Try.prog f2 ([.int .i64 a0_] ++ caps1) pre1 (fun (_ : Unit) => .bool (f1 a0_)) (fun (_ : Unit) => [])) : Does Try.prog 181 [y1.val s1.length, .func (.func f2) #[] ⟨caps1⟩] (RdL EInt y1 s1 :: pre1) (fun (_ : Unit) => .bool (slices_ContainsFunc_int s1 f1)) (fun (_ : Unit) => []) := by
  refine does_of tab_ok Try.func181 rfl Try.ntmps181 Try.results181 rfl inferInstance (fun _ => inferInstance) fun C => ?_
  refine cw_pure (φ := s1.length * 8 ≤ 140737488355328) [RdL EInt y1 s1] Sf (fun M w h => (allF1 h).len) fun hlen1 => ?_
  (repeat refine cw_seq ?_); refine cw_region ?_
  refine Rp rfl rfl rfl rfl ?_
  refine rw_nil ?_
  (repeat refine cw_seq ?_); refine cw_region ?_
  refine Rp rfl rfl rfl rfl ?_
  refine Rp rfl rfl rfl rfl ?_
  refine rw_call (slices_IndexFunc_int_spec y1 s1 _ _ _ f1 (by assumption) hfn1) .sq (guard_none rfl) rfl rfl rfl Kr rfl rfl Sf ?_
  intro _
  refine Rp rfl rfl rfl rfl ?_
  refine Rp rfl rfl rfl rfl ?_
  refine rw_nil ?_
  (repeat refine cw_seq ?_)
  have hr1 : (slices_ContainsFunc_int s1 f1) = decide ((slices_IndexFunc_int s1 f1) ≥ 0) := by simp only [slices_ContainsFunc_int, cond_true, cond_false]
  refine cw_ret ?_
  rw [hr1]
  exact ⟨(), _, (.cons (.tmp rfl) .nil), rfl, Sf, .nil _, .nil _⟩

theorem slices_ContainsFunc_int_eq (s : List Int) (f : Int → Bool) : slices_ContainsFunc_int s f = s.any f := by
  have key : ∀ (l : List Int) (k : Nat), decide (slices_IndexFunc_int_L0 f l k ≥ 0) = l.any f := by
    intro l
    induction l with
    | nil => intro k; rfl
    | cons p r ih =>
      intro k
      rw [slices_IndexFunc_int_L0, List.any_cons]
      cases f p with
      | true => simp only [cond_true, Bool.true_or, decide_eq_true_eq]; omega
      | false => rw [cond_false, ih, Bool.false_or]
  exact key s 0
theorem slices_ContainsFunc_int_spec' (y1 : SlV) (s1 : List Int) (f1 : Nat) (caps1 : List Value) (pre1 : List Pred) [StabL pre1] (p1 : Int → Bool) (hfb1 : tab.fnb f1 = true) (hfn1 : ∀ (a0_ : Int), Does Try.prog f1 ([.int .i64 a0_] ++ caps1) pre1 (fun (_ : Unit) => .bool (p1 a0_)) (fun (_ : Unit) => [])) :
    Does Try.prog 181 [y1.val s1.length, .func (.func f1) #[] ⟨caps1⟩] (RdL EInt y1 s1 :: pre1) (fun (_ : Unit) => .bool (s1.any p1)) (fun (_ : Unit) => []) := by
  have := slices_ContainsFunc_int_spec y1 s1 f1 caps1 pre1 p1 hfb1 hfn1
  rw [slices_ContainsFunc_int_eq] at this
  exact this

def slices_Index_Place_L0 (v1 : Place) : List Place → Nat → Int
  | [], n1 => (-1)
  | pn1 :: rn1, n1 => (bif decide (v1 = pn1) then (n1 : Int) else (slices_Index_Place_L0 v1 rn1 (n1 + 1)))
def slices_Index_Place (s1 : List Place) (v1 : Place) : Int :=
  (slices_Index_Place_L0 v1 s1 0)
theorem slices_Index_Place_spec (y1 : SlV) (s1 : List Place) (v1 : Place) : Does Try.prog 132 [y1.val s1.length, .agg ⟨[.int .i64 v1.node, .int .i64 v1.parent, .int .i64 v1.name]⟩] [RdL EPlace y1 s1] (fun (_ : Unit) => .int .i64 (slices_Index_Place s1 v1)) (fun (_ : Unit) => []) := by
  refine does_of tab_ok Try.func132 rfl Try.ntmps132 Try.results132 rfl inferInstance (fun _ => inferInstance) fun C => ?_
  refine cw_pure (φ := s1.length * 24 ≤ 140737488355328) [RdL EPlace y1 s1] Sm (fun M w h => (allF1 h).len) fun hlen1 => ?_
  (repeat refine cw_seq ?_); refine cw_region ?_
  refine rw_box_agg .sq (guard_none rfl) rfl rfl rfl rfl rfl fun g1 => ?_
  refine Rp rfl rfl rfl rfl ?_
  refine rw_nil ?_
  (repeat refine cw_seq ?_); refine cw_region ?_
  refine Rp rfl rfl rfl rfl ?_
  refine Rp rfl rfl rfl rfl ?_
  refine Rp rfl rfl rfl rfl ?_
  refine rw_nil ?_
  (repeat refine cw_seq ?_); refine cw_block ?_
  (repeat refine cw_seq ?_); refine cw_loopS [0, 3, 4, 7] [true] (fun (n1 : Nat) => [(8, .v (.int .i64 (n1 : Int)))]) (fun (n1 : Nat) => []) (fun (n1 : Nat) => []) (fun (n1 : Nat) => []) (fun (n1 : Nat) => (n1 ≤ s1.length) ∧ (slices_Index_Place_L0 v1 (s1.drop n1) n1) = (slices_Index_Place s1 v1)) (fun (n1 : Nat) => s1.length - n1) 0 (.cons rfl (.cons rfl (.cons rfl (.cons rfl (.nil _))))) (.keep (.nil)) ⟨Nat.zero_le _, (by simp only [slices_Index_Place, cond_true, cond_false] : (slices_Index_Place s1 v1) = (slices_Index_Place_L0 v1 s1 0)).symm⟩ Le4 ?_
  rintro n1 ⟨hkn1, hf1⟩
  simp only [List.cons_append, List.nil_append]
  (repeat refine cw_seq ?_); refine cw_region ?_
  refine Rp rfl rfl rfl rfl ?_
  refine rw_nil ?_
  (repeat refine cw_seq ?_); refine cw_cond (b := decide ((n1 : Int) < (s1.length : Int))) rfl rfl (fun hc1 => ?_) (fun hc1 => ?_)
  · skip
    have hlt0 : n1 < s1.length := Int.ofNat_lt.1 (of_decide_eq_true hc1)
    (repeat refine cw_seq ?_); refine cw_skip ?_
    (repeat refine cw_seq ?_); refine cw_block ?_
    (repeat refine cw_seq ?_); refine cw_region ?_
    refine Rp rfl rfl rfl rfl ?_
    refine Rp rfl rfl rfl rfl ?_
    refine rw_nil ?_
    (repeat refine cw_seq ?_); refine cw_regionA (fun _ => some []) ?_
    refine ra_q (.an (i := 0) (js := [1, 2, 3, 4]) rfl Kr Kr Kr Kr) (SplitB.all _) (by simp) rfl rfl rfl (q_ldA rfl rfl (fun _ => rfl) rfl Mm rfl) ?_
    refine ra_q (.ab (i := 1) (js := [2]) [3, 4, 5] rfl Kr Kr Kr Kr Kr) (SplitB.all _) (by simp) rfl rfl rfl (q_pev rfl (fun _ => rfl)) ?_
    refine ra_q (.ab (i := 2) (js := []) [3, 4, 5] rfl Kr Kr Kr Kr Kr) (SplitB.all _) (by simp) rfl rfl rfl (q_pev rfl (fun _ => rfl)) ?_
    refine ra_q (.ab (i := 3) (js := []) [4, 5] rfl Kr Kr Kr Kr Kr) (SplitB.all _) (by simp) rfl rfl rfl (q_idx EPlace n1 rfl rfl (fun _ => rfl) rfl (fun _ => rfl) rfl rfl rfl Mm rfl (fun _ => rfl) (fun _ => by first | assumption | omega)) ?_
    refine ra_q (.an (i := 4) (js := []) rfl Kr Kr Kr Kr) (SplitB.all _) (by simp) rfl rfl rfl (q_leA EPlace rfl rfl (fun _ => rfl) rfl rfl Mm (fun _ => by first | assumption | omega)) ?_
    refine ra_q (.an (i := 5) (js := []) rfl Kr Kr Kr Kr) (SplitB.all _) (by simp) rfl rfl rfl (q_eqE eqT_Place (flatEq_Place v1 (gt s1 n1)) rfl rfl (fun _ => rfl) rfl (fun _ => rfl) rfl rfl) ?_
    refine ra_nil Kr ?_
    (repeat refine cw_seq ?_); refine cw_cond (b := decide (v1 = (gt s1 n1))) rfl rfl (fun hc2 => ?_) (fun hc2 => ?_)
    · skip
      have hc2p := of_decide_eq_true hc2
      (repeat refine cw_seq ?_); refine cw_region ?_
      refine Rp rfl rfl rfl rfl ?_
      refine Rp rfl rfl rfl rfl ?_
      refine rw_nil ?_
      (repeat refine cw_seq ?_)
      have hr1 : (slices_Index_Place s1 v1) = (n1 : Int) := by rw [← hf1, drop_gt hlt0]; simp only [slices_Index_Place_L0, hc2, cond_true, cond_false]
      refine cw_ret ?_
      rw [hr1]
      exact ⟨(), _, (.cons (.tmp rfl) .nil), rfl, Sm, .nil _, .nil _⟩
    · skip
      have hc2p := of_decide_eq_false hc2
      (repeat refine cw_seq ?_); refine cw_skip ?_
      (repeat refine cw_seq ?_); refine cw_region ?_
      refine rw_q rfl rfl rfl (q_add rfl rfl (fun _ => rfl) rfl (fun _ => rfl) (fun _ => by omega)) ?_
      refine Rp rfl rfl rfl rfl ?_
      refine rw_nil ?_
      refine ⟨(n1 + 1), ⟨hlt0, (by rw [← hf1, drop_gt hlt0]; simp only [slices_Index_Place_L0, hc2, cond_true, cond_false] : (slices_Index_Place s1 v1) = (slices_Index_Place_L0 v1 (s1.drop (n1 + 1)) (n1 + 1))).symm⟩, (by simp only []; omega), Le4⟩
  · skip
    have hge0 : s1.length ≤ n1 := by have := of_decide_eq_false hc1; omega
    (repeat refine cw_seq ?_); refine cw_exit ?_
    (repeat refine cw_seq ?_); refine cw_region ?_
    refine Rp rfl rfl rfl rfl ?_
    refine rw_nil ?_
    (repeat refine cw_seq ?_)
    have hr2 : (slices_Index_Place s1 v1) = (-1) := by rw [← hf1, List.drop_of_length_le hge0]; simp only [slices_Index_Place_L0, cond_true, cond_false]
    refine cw_ret ?_
    rw [hr2]
    exact ⟨(), _, (.cons (.tmp rfl) .nil), rfl, Sm, .nil _, .nil _⟩

def slices_Contains_Place (s1 : List Place) (v1 : Place) : Bool :=
  decide ((slices_Index_Place s1 v1) ≥ 0)
theorem slices_Contains_Place_spec (y1 : SlV) (s1 : List Place) (v1 : Place) : Does Try.prog 42 [y1.val s1.length, .agg ⟨[.int .i64 v1.node, .int .i64 v1.parent, .int .i64 v1.name]⟩] [RdL EPlace y1 s1] (fun (_ : Unit) => .bool (slices_Contains_Place s1 v1)) (fun (_ : Unit) => []) := by
  refine does_of tab_ok Try.func42 rfl Try.ntmps42 Try.results42 rfl inferInstance (fun _ => inferInstance) fun C => ?_
  refine cw_pure (φ := s1.length * 24 ≤ 140737488355328) [RdL EPlace y1 s1] Sm (fun M w h => (allF1 h).len) fun hlen1 => ?_
  (repeat refine cw_seq ?_); refine cw_region ?_
  refine rw_box_agg .sq (guard_none rfl) rfl rfl rfl rfl rfl fun g1 => ?_
  refine Rp rfl rfl rfl rfl ?_
  refine rw_nil ?_
  (repeat refine cw_seq ?_); refine cw_region ?_
  refine Rp rfl rfl rfl rfl ?_
  refine rw_q rfl rfl rfl (q_ldA rfl rfl (fun _ => rfl) rfl Mm rfl) ?_
  refine rw_call (slices_Index_Place_spec y1 s1 v1) .sq (guard_none rfl) rfl rfl rfl Kr rfl rfl Sm ?_
  intro _
  refine Rp rfl rfl rfl rfl ?_
  refine Rp rfl rfl rfl rfl ?_
  refine rw_nil ?_
  (repeat refine cw_seq ?_)
  have hr1 : (slices_Contains_Place s1 v1) = decide ((slices_Index_Place s1 v1) ≥ 0) := by simp only [slices_Contains_Place, cond_true, cond_false]
  refine cw_ret ?_
  rw [hr1]
  exact ⟨(), _, (.cons (.tmp rfl) .nil), rfl, Sm, .nil _, .nil _⟩

theorem slices_Contains_Place_eq (s : List Place) (v : Place) : slices_Contains_Place s v = decide (v ∈ s) := by
  have key : ∀ (l : List Place) (k : Nat), decide (slices_Index_Place_L0 v l k ≥ 0) = decide (v ∈ l) := by
    intro l
    induction l with
    | nil => intro k; simp [slices_Index_Place_L0]
    | cons p r ih =>
      intro k
      rw [slices_Index_Place_L0]
      by_cases h : v = p
      · first | (simp [h]; done) | (simp [h]; omega)
      · have : decide (v = p) = false := by simpa using h
        rw [this, cond_false, ih]; simp [h]
  exact key s 0
theorem slices_Contains_Place_spec' (y1 : SlV) (s1 : List Place) (v1 : Place) : Does Try.prog 42 [y1.val s1.length, .agg ⟨[.int .i64 v1.node, .int .i64 v1.parent, .int .i64 v1.name]⟩] [RdL EPlace y1 s1] (fun (_ : Unit) => .bool (decide (v1 ∈ s1))) (fun (_ : Unit) => []) := by
  have := slices_Contains_Place_spec y1 s1 v1
  rw [slices_Contains_Place_eq] at this
  exact this
end Go.Proofs.Ytchdacbjiomplaa
