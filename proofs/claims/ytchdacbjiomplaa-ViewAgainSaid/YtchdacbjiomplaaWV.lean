/- Part of this claim. No condition. -/
import Derived.Test.YtchdacbjiomplaaWA
set_option linter.unusedVariables false
set_option linter.unusedSimpArgs false
set_option maxHeartbeats 2000000
namespace Go.Proofs.Ytchdacbjiomplaa
open Go Go.Proofs.Ytchdacbjiomplaa.Fw Go.Proofs
attribute [local irreducible] RW CW
theorem tmod_in (k n : Int) (h : 0 < n) : -n < k.tmod n ∧ k.tmod n < n := ⟨Int.lt_tmod_of_pos k h, Int.tmod_lt_of_pos k h⟩

def orangerylaw_at (k1 : Int) (n1 : Int) : Int :=
  (bif decide ((k1.tmod n1) < 0) then ((k1.tmod n1) + n1) else (k1.tmod n1))
theorem orangerylaw_at_spec (k1 : Int) (n1 : Int) (hn : 0 < n1 ∧ n1 ≤ 1000000000000000000) : Does Try.prog 41 [.int .i64 k1, .int .i64 n1] [] (fun (_ : Unit) => .int .i64 (orangerylaw_at k1 n1)) (fun (_ : Unit) => []) := by
  refine does_of tab_ok Try.func41 rfl Try.ntmps41 Try.results41 rfl inferInstance (fun _ => inferInstance) fun C => ?_
  refine Tx ?_
  refine rw_q rfl rfl rfl (q_rem rfl rfl (fun _ => rfl) rfl (fun _ => rfl) (fun _ => by first | omega | (have := tmod_in k1 n1 (by omega); omega))) ?_
  refine Tx ?_
  refine Cd (b := decide ((k1.tmod n1) < 0)) (fun hc1 => ?_) fun hc1 => ?_
  · have hc1p := of_decide_eq_true hc1
    refine Tx ?_
    refine rw_q rfl rfl rfl (q_add rfl rfl (fun _ => rfl) rfl (fun _ => rfl) (fun _ => by first | omega | (have := tmod_in k1 n1 (by omega); omega))) ?_
    refine Tx ?_
    have hr1 : (orangerylaw_at k1 n1) = ((k1.tmod n1) + n1) := by simp only [orangerylaw_at, hc1, cond_true, cond_false]
    refine cw_ret ?_; rw [hr1]; exact Re () (Vt Vn)
  · have hc1p := of_decide_eq_false hc1
    refine Tx ?_
    have hr2 : (orangerylaw_at k1 n1) = (k1.tmod n1) := by simp only [orangerylaw_at, hc1, cond_true, cond_false]
    refine cw_ret ?_; rw [hr2]; exact Re () (Vt Vn)

theorem at_in {k n : Int} (h : 0 < n) : 0 ≤ orangerylaw_at k n ∧ orangerylaw_at k n < n := by
  have := tmod_in k n h
  unfold orangerylaw_at
  cases hb : decide (k.tmod n < 0) with
  | true => simp at hb; simp only [cond_true]; omega
  | false => simp at hb; simp only [cond_false]; omega

def slices_IndexFunc_int_L0 (f1 : Int → Bool) : List Int → Nat → Int
  | [], n1 => (-1)
  | pn1 :: rn1, n1 => (bif (f1 pn1) then (n1 : Int) else (slices_IndexFunc_int_L0 f1 rn1 (n1 + 1)))
def slices_IndexFunc_int (s1 : List Int) (f1 : Int → Bool) : Int :=
  (slices_IndexFunc_int_L0 f1 s1 0)
theorem slices_IndexFunc_int_spec (y1 : SlV) (s1 : List Int) (f2 : Nat) (caps1 : List Value) (pre1 : List Pred) [StabL pre1] (f1 : Int → Bool) (hfb1 : tab.fnb f2 = true) (hfn1 : ∀ (a0_ : Int), Does Try.prog f2 ([.int .i64 a0_] ++ caps1) pre1 (fun (_ : Unit) => .bool (f1 a0_)) (fun (_ : Unit) => [])) : Does Try.prog 204 [y1.val s1.length, .func (.func f2) #[] ⟨caps1⟩] (RdL EInt y1 s1 :: pre1) (fun (_ : Unit) => .int .i64 (slices_IndexFunc_int s1 f1)) (fun (_ : Unit) => []) := by
  refine does_of tab_ok Try.func204 rfl Try.ntmps204 Try.results204 rfl inferInstance (fun _ => inferInstance) fun C => ?_
  refine cw_pure (φ := s1.length * 8 ≤ 140737488355328) [RdL EInt y1 s1] Sf (fun M w h => (allF1 h).len) fun hlen1 => ?_
  refine Tx ?_
  (repeat refine cw_seq ?_); refine Lp [0,1,4,7] [] (fun (n1 : Nat) => (⟨[(8, .v (.int .i64 (n1 : Int)))], [], [], [], (n1 ≤ s1.length) ∧ (slices_IndexFunc_int_L0 f1 (s1.drop n1) n1) = (slices_IndexFunc_int s1 f1), s1.length - n1⟩ : Ls)) 0 (Sc (Sc (Sc (Sc Sn)))) (.nil) ⟨Nat.zero_le _, (by simp only [slices_IndexFunc_int, cond_true, cond_false] : (slices_IndexFunc_int s1 f1) = (slices_IndexFunc_int_L0 f1 s1 0)).symm⟩ Le5 ?_
  rintro n1 ⟨hkn1, hf1⟩
  simp only [List.cons_append, List.nil_append]
  refine Tx ?_
  refine Cd (b := decide ((n1 : Int) < (s1.length : Int))) (fun hc1 => ?_) fun hc1 => ?_
  · have hlt0 : n1 < s1.length := Int.ofNat_lt.1 (of_decide_eq_true hc1)
    refine Tx ?_
    refine rw_q rfl rfl rfl (q_idx EInt n1 rfl rfl (fun _ => rfl) rfl (fun _ => rfl) rfl rfl rfl Mm rfl (fun _ => rfl) (fun _ => by first | assumption | omega)) ?_
    refine rw_q rfl rfl rfl (q_le1 EInt rfl rfl (fun _ => rfl) rfl rfl Mm (fun _ => by first | assumption | omega) rfl) ?_
    refine rw_callv (hfn1 (gt s1 n1)) .sq (guard_none rfl) rfl rfl rfl rfl rfl (by assumption) rfl rfl rfl Sf ?_
    intro _
    refine rw_nil ?_
    (repeat refine cw_seq ?_)
    refine Cd (b := (f1 (gt s1 n1))) (fun hc2 => ?_) fun hc2 => ?_
    · refine Tx ?_
      have hr1 : (slices_IndexFunc_int s1 f1) = (n1 : Int) := by rw [← hf1, drop_gt hlt0]; simp only [slices_IndexFunc_int_L0, hc2, cond_true, cond_false]
      refine cw_ret ?_
      rw [hr1]
      exact ⟨(), _, (.cons (.tmp rfl) .nil), rfl, Sf, .nil _, .nil _⟩
    · refine Tx ?_
      refine rw_q rfl rfl rfl (q_add rfl rfl (fun _ => rfl) rfl (fun _ => rfl) (fun _ => by omega)) ?_
      refine Tx ?_
      refine ⟨(n1 + 1), ⟨hlt0, (by rw [← hf1, drop_gt hlt0]; simp only [slices_IndexFunc_int_L0, hc2, cond_true, cond_false] : (slices_IndexFunc_int s1 f1) = (slices_IndexFunc_int_L0 f1 (s1.drop (n1 + 1)) (n1 + 1))).symm⟩, (by simp only []; omega), Le5⟩
  · have hge0 : s1.length ≤ n1 := by have := of_decide_eq_false hc1; omega
    refine Tx ?_
    have hr2 : (slices_IndexFunc_int s1 f1) = (-1) := by rw [← hf1, List.drop_of_length_le hge0]; simp only [slices_IndexFunc_int_L0, cond_true, cond_false]
    refine cw_ret ?_
    rw [hr2]
    exact ⟨(), _, (.cons (.tmp rfl) .nil), rfl, Sf, .nil _, .nil _⟩

def slices_ContainsFunc_int (s1 : List Int) (f1 : Int → Bool) : Bool :=
  decide ((slices_IndexFunc_int s1 f1) ≥ 0)
theorem slices_ContainsFunc_int_spec (y1 : SlV) (s1 : List Int) (f2 : Nat) (caps1 : List Value) (pre1 : List Pred) [StabL pre1] (f1 : Int → Bool) (hfb1 : tab.fnb f2 = true) (hfn1 : ∀ (a0_ : Int), Does Try.prog f2 ([.int .i64 a0_] ++ caps1) pre1 (fun (_ : Unit) => .bool (f1 a0_)) (fun (_ : Unit) => [])) : Does Try.prog 181 [y1.val s1.length, .func (.func f2) #[] ⟨caps1⟩] (RdL EInt y1 s1 :: pre1) (fun (_ : Unit) => .bool (slices_ContainsFunc_int s1 f1)) (fun (_ : Unit) => []) := by
  refine does_of tab_ok Try.func181 rfl Try.ntmps181 Try.results181 rfl inferInstance (fun _ => inferInstance) fun C => ?_
  refine cw_pure (φ := s1.length * 8 ≤ 140737488355328) [RdL EInt y1 s1] Sf (fun M w h => (allF1 h).len) fun hlen1 => ?_
  refine Tx ?_
  refine rw_call (slices_IndexFunc_int_spec y1 s1 _ _ _ f1 (by assumption) hfn1) .sq (guard_none rfl) rfl rfl rfl Kr rfl rfl Sf ?_
  intro _
  refine Tx ?_
  have hr1 : (slices_ContainsFunc_int s1 f1) = decide ((slices_IndexFunc_int s1 f1) ≥ 0) := by simp only [slices_ContainsFunc_int, cond_true, cond_false]
  refine cw_ret ?_
  rw [hr1]
  exact ⟨(), _, (.cons (.tmp rfl) .nil), rfl, Sf, .nil _, .nil _⟩

theorem slices_ContainsFunc_int_eq (s : List Int) (f : Int → Bool) : slices_ContainsFunc_int s f = s.any f := by
  have key : ∀ (l : List Int) (k : Nat), decide (slices_IndexFunc_int_L0 f l k ≥ 0) = l.any f := by
    intro l
    induction l with
    | nil => intro k; rfl
    | cons p r ih =>
      intro k
      rw [slices_IndexFunc_int_L0, List.any_cons]
      cases f p with
      | true => simp only [cond_true, Bool.true_or, decide_eq_true_eq]; omega
      | false => rw [cond_false, ih, Bool.false_or]
  exact key s 0
theorem slices_ContainsFunc_int_spec' (y1 : SlV) (s1 : List Int) (f1 : Nat) (caps1 : List Value) (pre1 : List Pred) [StabL pre1] (p1 : Int → Bool) (hfb1 : tab.fnb f1 = true) (hfn1 : ∀ (a0_ : Int), Does Try.prog f1 ([.int .i64 a0_] ++ caps1) pre1 (fun (_ : Unit) => .bool (p1 a0_)) (fun (_ : Unit) => [])) :
    Does Try.prog 181 [y1.val s1.length, .func (.func f1) #[] ⟨caps1⟩] (RdL EInt y1 s1 :: pre1) (fun (_ : Unit) => .bool (s1.any p1)) (fun (_ : Unit) => []) := by
  have := slices_ContainsFunc_int_spec y1 s1 f1 caps1 pre1 p1 hfb1 hfn1
  rw [slices_ContainsFunc_int_eq] at this
  exact this

def slices_Index_Place_L0 (v1 : Place) : List Place → Nat → Int
  | [], n1 => (-1)
  | pn1 :: rn1, n1 => (bif decide (v1 = pn1) then (n1 : Int) else (slices_Index_Place_L0 v1 rn1 (n1 + 1)))
def slices_Index_Place (s1 : List Place) (v1 : Place) : Int :=
  (slices_Index_Place_L0 v1 s1 0)
theorem slices_Index_Place_spec (y1 : SlV) (s1 : List Place) (v1 : Place) : Does Try.prog 132 [y1.val s1.length, .agg ⟨[.int .i64 v1.node, .int .i64 v1.parent, .int .i64 v1.name]⟩] [RdL EPlace y1 s1] (fun (_ : Unit) => .int .i64 (slices_Index_Place s1 v1)) (fun (_ : Unit) => []) := by
  refine does_of tab_ok Try.func132 rfl Try.ntmps132 Try.results132 rfl inferInstance (fun _ => inferInstance) fun C => ?_
  refine Pc EPlace y1 s1 24 fun hlen1 => ?_
  refine Tx ?_
  refine Bx fun g1 => ?_
  refine Tx ?_
  (repeat refine cw_seq ?_); refine Lp [0,3,4,7] [true] (fun (n1 : Nat) => (⟨[(8, .v (.int .i64 (n1 : Int)))], [], [], [], (n1 ≤ s1.length) ∧ (slices_Index_Place_L0 v1 (s1.drop n1) n1) = (slices_Index_Place s1 v1), s1.length - n1⟩ : Ls)) 0 (Sc (Sc (Sc (Sc Sn)))) (.keep (.nil)) ⟨Nat.zero_le _, (by simp only [slices_Index_Place, cond_true, cond_false] : (slices_Index_Place s1 v1) = (slices_Index_Place_L0 v1 s1 0)).symm⟩ Le4 ?_
  rintro n1 ⟨hkn1, hf1⟩
  simp only [List.cons_append, List.nil_append]
  refine Tx ?_
  refine Cd (b := decide ((n1 : Int) < (s1.length : Int))) (fun hc1 => ?_) fun hc1 => ?_
  · have hlt0 : n1 < s1.length := Int.ofNat_lt.1 (of_decide_eq_true hc1)
    refine Tx ?_
    (repeat refine cw_seq ?_); refine cw_regionA (fun _ => some []) ?_
    refine Ra 0 [1,2,3,4] rfl (q_ldA rfl rfl (fun _ => rfl) rfl Mm rfl) ?_
    refine Rb 1 [2] [3,4,5] rfl Qp ?_
    refine Rb 2 [] [3,4,5] rfl Qp ?_
    refine Rb 3 [] [4,5] rfl (q_idx EPlace n1 rfl rfl (fun _ => rfl) rfl (fun _ => rfl) rfl rfl rfl Mm rfl (fun _ => rfl) (fun _ => by first | assumption | omega)) ?_
    refine Ra 4 [] rfl (q_leA EPlace rfl rfl (fun _ => rfl) rfl rfl Mm (fun _ => by first | assumption | omega)) ?_
    refine Ra 5 [] rfl (q_eqE eqT_Place (flatEq_Place v1 (gt s1 n1)) rfl rfl (fun _ => rfl) rfl (fun _ => rfl) rfl rfl) ?_
    refine ra_nil Kr ?_
    (repeat refine cw_seq ?_)
    refine Cd (b := decide (v1 = (gt s1 n1))) (fun hc2 => ?_) fun hc2 => ?_
    · have hc2p := of_decide_eq_true hc2
      refine Tx ?_
      have hr1 : (slices_Index_Place s1 v1) = (n1 : Int) := by rw [← hf1, drop_gt hlt0]; simp only [slices_Index_Place_L0, hc2, cond_true, cond_false]
      refine cw_ret ?_; rw [hr1]; exact Re () (Vt Vn)
    · have hc2p := of_decide_eq_false hc2
      refine Tx ?_
      refine rw_q rfl rfl rfl (q_add rfl rfl (fun _ => rfl) rfl (fun _ => rfl) (fun _ => by omega)) ?_
      refine Tx ?_
      refine ⟨(n1 + 1), ⟨hlt0, (by rw [← hf1, drop_gt hlt0]; simp only [slices_Index_Place_L0, hc2, cond_true, cond_false] : (slices_Index_Place s1 v1) = (slices_Index_Place_L0 v1 (s1.drop (n1 + 1)) (n1 + 1))).symm⟩, (by simp only []; omega), Le4⟩
  · have hge0 : s1.length ≤ n1 := by have := of_decide_eq_false hc1; omega
    refine Tx ?_
    have hr2 : (slices_Index_Place s1 v1) = (-1) := by rw [← hf1, List.drop_of_length_le hge0]; simp only [slices_Index_Place_L0, cond_true, cond_false]
    refine cw_ret ?_; rw [hr2]; exact Re () (Vt Vn)

def slices_Contains_Place (s1 : List Place) (v1 : Place) : Bool :=
  decide ((slices_Index_Place s1 v1) ≥ 0)
theorem slices_Contains_Place_spec (y1 : SlV) (s1 : List Place) (v1 : Place) : Does Try.prog 42 [y1.val s1.length, .agg ⟨[.int .i64 v1.node, .int .i64 v1.parent, .int .i64 v1.name]⟩] [RdL EPlace y1 s1] (fun (_ : Unit) => .bool (slices_Contains_Place s1 v1)) (fun (_ : Unit) => []) := by
  refine does_of tab_ok Try.func42 rfl Try.ntmps42 Try.results42 rfl inferInstance (fun _ => inferInstance) fun C => ?_
  refine Pc EPlace y1 s1 24 fun hlen1 => ?_
  refine Tx ?_
  refine Bx fun g1 => ?_
  refine Tx ?_
  refine Cl (slices_Index_Place_spec y1 s1 v1) fun _ => ?_
  refine Tx ?_
  have hr1 : (slices_Contains_Place s1 v1) = decide ((slices_Index_Place s1 v1) ≥ 0) := by simp only [slices_Contains_Place, cond_true, cond_false]
  refine cw_ret ?_; rw [hr1]; exact Re () (Vt Vn)

theorem slices_Contains_Place_eq (s : List Place) (v : Place) : slices_Contains_Place s v = decide (v ∈ s) := by
  have key : ∀ (l : List Place) (k : Nat), decide (slices_Index_Place_L0 v l k ≥ 0) = decide (v ∈ l) := by
    intro l
    induction l with
    | nil => intro k; simp [slices_Index_Place_L0]
    | cons p r ih =>
      intro k
      rw [slices_Index_Place_L0]
      by_cases h : v = p
      · first | (simp [h]; done) | (simp [h]; omega)
      · have : decide (v = p) = false := by simpa using h
        rw [this, cond_false, ih]; simp [h]
  exact key s 0
theorem slices_Contains_Place_spec' (y1 : SlV) (s1 : List Place) (v1 : Place) : Does Try.prog 42 [y1.val s1.length, .agg ⟨[.int .i64 v1.node, .int .i64 v1.parent, .int .i64 v1.name]⟩] [RdL EPlace y1 s1] (fun (_ : Unit) => .bool (decide (v1 ∈ s1))) (fun (_ : Unit) => []) := by
  have := slices_Contains_Place_spec y1 s1 v1
  rw [slices_Contains_Place_eq] at this
  exact this
end Go.Proofs.Ytchdacbjiomplaa

set_option maxHeartbeats 2000000
namespace Go.Proofs.Ytchdacbjiomplaa
open Go Go.Proofs.Ytchdacbjiomplaa.Fw Go.Proofs
attribute [local irreducible] RW CW
def view_Roots_L0 (l1 : List Int) : List Int → Nat → Int
  | [], n1 => 0
  | pn1 :: rn1, n1 => (bif (decide (pn1 < 0) || decide (pn1 > 16)) then 5 else (bif (decide ((n1 : Int) > 0) && decide ((gt l1 (n1 - 1)) ≥ pn1)) then 6 else (view_Roots_L0 l1 rn1 (n1 + 1))))
def view_Roots (l1 : List Int) : Int :=
  (bif decide ((l1.length : Int) > 4) then 2 else (view_Roots_L0 l1 l1 0))
theorem view_Roots_spec (y1 : SlV) (l1 : List Int) : Does Try.prog 44 [y1.val l1.length] [RdL EInt y1 l1] (fun (_ : Unit) => .int .i64 (view_Roots l1)) (fun (_ : Unit) => []) := by
  refine does_of tab_ok Try.func44 rfl Try.ntmps44 Try.results44 rfl inferInstance (fun _ => inferInstance) fun C => ?_
  refine Pc EInt y1 l1 8 fun hlen1 => ?_
  refine Tx ?_
  refine Cd (b := decide ((l1.length : Int) > 4)) (fun hc1 => ?_) fun hc1 => ?_
  · have hc1p := of_decide_eq_true hc1
    refine Tx ?_
    have hr1 : (view_Roots l1) = 2 := by simp only [view_Roots, hc1, cond_true, cond_false]
    refine cw_ret ?_; rw [hr1]; exact Re () (Vt Vn)
  · have hc1p := of_decide_eq_false hc1
    refine Tx ?_
    (repeat refine cw_seq ?_); refine Lp [0,2,8,9] [] (fun (n1 : Nat) => (⟨[(10, .v (.int .i64 (n1 : Int)))], [], [], [], (n1 ≤ l1.length) ∧ (view_Roots_L0 l1 (l1.drop n1) n1) = (view_Roots l1), l1.length - n1⟩ : Ls)) 0 (Sc (Sc (Sc (Sc Sn)))) (.nil) ⟨Nat.zero_le _, (by simp only [view_Roots, hc1, cond_true, cond_false] : (view_Roots l1) = (view_Roots_L0 l1 l1 0)).symm⟩ Le4 ?_
    rintro n1 ⟨hkn1, hf1⟩
    simp only [List.cons_append, List.nil_append]
    refine Tx ?_
    refine Cd (b := decide ((n1 : Int) < (l1.length : Int))) (fun hc2 => ?_) fun hc2 => ?_
    · have hlt0 : n1 < l1.length := Int.ofNat_lt.1 (of_decide_eq_true hc2)
      refine Tx ?_
      refine rw_q rfl rfl rfl (q_idx EInt n1 rfl rfl (fun _ => rfl) rfl (fun _ => rfl) rfl rfl rfl Mm rfl (fun _ => rfl) (fun _ => by first | assumption | omega)) ?_
      refine rw_q rfl rfl rfl (q_le1 EInt rfl rfl (fun _ => rfl) rfl rfl Mm (fun _ => by first | assumption | omega) rfl) ?_
      refine Tx ?_
      refine Cd (b := (decide ((gt l1 n1) < 0) || decide ((gt l1 n1) > 16))) (fun hc3 => ?_) fun hc3 => ?_
      · refine Tx ?_
        have hr2 : (view_Roots l1) = 5 := by rw [← hf1, drop_gt hlt0]; simp only [view_Roots_L0, hc3, cond_true, cond_false]
        refine cw_ret ?_; rw [hr2]; exact Re () (Vt Vn)
      · refine Tx ?_
        refine rw_qg (guard_vt rfl rfl rfl) rfl rfl (q_sub rfl rfl Bt rfl Bt (by intro h; first | omega | (simp at h; omega))) ?_
        refine rw_qg (guard_vt rfl rfl rfl) rfl rfl (q_idx EInt (n1 - 1) rfl rfl Bt rfl Bt rfl rfl rfl Mm rfl (by intro h; first | omega | rfl | (simp at h; omega)) (by first | (intro _; first | assumption | omega) | (intro h; simp at h; omega))) ?_
        refine rw_qg (guard_vt rfl rfl rfl) rfl rfl (q_le1 EInt rfl rfl Bt rfl rfl Mm (by first | (intro _; first | assumption | omega) | (intro h; simp at h; omega)) rfl) ?_
        refine Tx ?_
        refine Cd (b := (decide ((n1 : Int) > 0) && decide ((gt l1 (n1 - 1)) ≥ (gt l1 n1)))) (fun hc4 => ?_) fun hc4 => ?_
        · refine Tx ?_
          have hr3 : (view_Roots l1) = 6 := by rw [← hf1, drop_gt hlt0]; simp only [view_Roots_L0, hc3, hc4, cond_true, cond_false]
          refine cw_ret ?_; rw [hr3]; exact Re () (Vt Vn)
        · refine Tx ?_
          refine rw_q rfl rfl rfl (q_add rfl rfl (fun _ => rfl) rfl (fun _ => rfl) (fun _ => by omega)) ?_
          refine Tx ?_
          refine ⟨(n1 + 1), ⟨hlt0, (by rw [← hf1, drop_gt hlt0]; simp only [view_Roots_L0, hc3, hc4, cond_true, cond_false] : (view_Roots l1) = (view_Roots_L0 l1 (l1.drop (n1 + 1)) (n1 + 1))).symm⟩, (by simp only []; omega), Le4⟩
    · have hge0 : l1.length ≤ n1 := by have := of_decide_eq_false hc2; omega
      refine Tx ?_
      have hr4 : (view_Roots l1) = 0 := by rw [← hf1, List.drop_of_length_le hge0]; simp only [view_Roots_L0, cond_true, cond_false]
      refine cw_ret ?_; rw [hr4]; exact Re () (Vt Vn)

def view_below_1 (r1 : Int) (t1 : List Place) (node1 : Int) : Bool :=
  (tree_Stands t1 node1 r1)
theorem view_below_1_spec (r1 : Int) (c1 : Nat) (y1 : SlV) (t1 : List Place) (c2 : Nat) (node1 : Int) : Does Try.prog 182 [.int .i64 r1, .pointer (some ⟨c1, 0, none⟩), .pointer (some ⟨c2, 0, none⟩)] [VarP c1 [y1.val t1.length], RdL EPlace y1 t1, VarP c2 [.int .i64 node1]] (fun (_ : Unit) => .bool (view_below_1 r1 t1 node1)) (fun (_ : Unit) => []) := by
  refine does_of tab_ok Try.func182 rfl Try.ntmps182 Try.results182 rfl inferInstance (fun _ => inferInstance) fun C => ?_
  refine Tx ?_
  refine Cl (tree_Stands_spec y1 t1 node1 r1) fun _ => ?_
  refine Tx ?_
  have hr1 : (view_below_1 r1 t1 node1) = (tree_Stands t1 node1 r1) := by simp only [view_below_1, cond_true, cond_false]
  refine cw_ret ?_; rw [hr1]; exact Re () (Vt Vn)

def view_above_1 (r1 : Int) (node1 : Int) (t1 : List Place) : Bool :=
  ((r1 != node1) && (tree_Stands t1 r1 node1))
theorem view_above_1_spec (r1 : Int) (c1 : Nat) (node1 : Int) (c2 : Nat) (y1 : SlV) (t1 : List Place) : Does Try.prog 183 [.int .i64 r1, .pointer (some ⟨c1, 0, none⟩), .pointer (some ⟨c2, 0, none⟩)] [VarP c1 [.int .i64 node1], VarP c2 [y1.val t1.length], RdL EPlace y1 t1] (fun (_ : Unit) => .bool (view_above_1 r1 node1 t1)) (fun (_ : Unit) => []) := by
  refine does_of tab_ok Try.func183 rfl Try.ntmps183 Try.results183 rfl inferInstance (fun _ => inferInstance) fun C => ?_
  refine Tx ?_
  refine rw_qg (guard_vt rfl rfl rfl) rfl rfl (q_lfA rfl rfl Bt rfl Mm rfl) ?_
  refine Tx ?_
  refine rw_qg (guard_vt rfl rfl rfl) rfl rfl (q_lf1 rfl rfl Bt rfl Mm rfl) ?_
  refine rw_callg (fun hG_ => tree_Stands_spec y1 t1 r1 node1) (fun _ => rfl) .sq (guard_vt rfl rfl rfl) rfl rfl rfl Kr rfl Bt Sm ?_
  refine Tx ?_
  have hr1 : (view_above_1 r1 node1 t1) = ((r1 != node1) && (tree_Stands t1 r1 node1)) := by simp only [view_above_1, cond_true, cond_false]
  refine cw_ret ?_; rw [hr1]; exact Re () (Vt Vn)

def view_below (t1 : List Place) (node1 : Int) (roots1 : List Int) : Bool :=
  (roots1.any (fun a0_ => view_below_1 a0_ t1 node1))
theorem view_below_spec (y1 : SlV) (t1 : List Place) (node1 : Int) (y2 : SlV) (roots1 : List Int) : Does Try.prog 130 [.agg ⟨[y1.val t1.length]⟩, .int .i64 node1, y2.val roots1.length] [RdL EPlace y1 t1, RdL EInt y2 roots1] (fun (_ : Unit) => .bool (view_below t1 node1 roots1)) (fun (_ : Unit) => []) := by
  refine does_of tab_ok Try.func130 rfl Try.ntmps130 Try.results130 rfl inferInstance (fun _ => inferInstance) fun C => ?_
  refine Pc EPlace y1 t1 24 fun hlen1 => ?_
  refine Pc EInt y2 roots1 8 fun hlen2 => ?_
  refine Tx ?_
  refine Bx fun g1 => ?_
  refine rw_box (cs := [_]) .sq (guard_none rfl) rfl rfl rfl rfl rfl rfl fun g2 => ?_
  refine Tx ?_
  refine rw_le (le_var (g := g1) Pk) ?_
  refine rw_le (le_var (g := g2) Pk) ?_
  refine Cl (slices_ContainsFunc_int_spec' y2 roots1 _ _ _ (fun a0_ => view_below_1 a0_ t1 node1) Kr (fun a0_ => view_below_1_spec a0_ g1 y1 t1 g2 node1)) fun _ => ?_
  refine Tx ?_
  have hr1 : (view_below t1 node1 roots1) = (roots1.any (fun a0_ => view_below_1 a0_ t1 node1)) := by simp only [view_below, cond_true, cond_false]
  refine cw_ret ?_; rw [hr1]; exact Re () (Vt Vn)

def view_above (t1 : List Place) (node1 : Int) (roots1 : List Int) : Bool :=
  (roots1.any (fun a0_ => view_above_1 a0_ node1 t1))
theorem view_above_spec (y1 : SlV) (t1 : List Place) (node1 : Int) (y2 : SlV) (roots1 : List Int) : Does Try.prog 131 [.agg ⟨[y1.val t1.length]⟩, .int .i64 node1, y2.val roots1.length] [RdL EPlace y1 t1, RdL EInt y2 roots1] (fun (_ : Unit) => .bool (view_above t1 node1 roots1)) (fun (_ : Unit) => []) := by
  refine does_of tab_ok Try.func131 rfl Try.ntmps131 Try.results131 rfl inferInstance (fun _ => inferInstance) fun C => ?_
  refine Pc EPlace y1 t1 24 fun hlen1 => ?_
  refine Pc EInt y2 roots1 8 fun hlen2 => ?_
  refine Tx ?_
  refine Bx fun g1 => ?_
  refine rw_box (cs := [_]) .sq (guard_none rfl) rfl rfl rfl rfl rfl rfl fun g2 => ?_
  refine Tx ?_
  refine rw_le (le_var (g := g2) Pk) ?_
  refine rw_le (le_var (g := g1) Pk) ?_
  refine Cl (slices_ContainsFunc_int_spec' y2 roots1 _ _ _ (fun a0_ => view_above_1 a0_ node1 t1) Kr (fun a0_ => view_above_1_spec a0_ g2 node1 g1 y1 t1)) fun _ => ?_
  refine Tx ?_
  have hr1 : (view_above t1 node1 roots1) = (roots1.any (fun a0_ => view_above_1 a0_ node1 t1)) := by simp only [view_above, cond_true, cond_false]
  refine cw_ret ?_; rw [hr1]; exact Re () (Vt Vn)

def view_Of_L0 (t1 : List Place) (roots1 : List Int) : List Place → (List Place) → (List Place) → (View × Int)
  | [], known1, way1 => ((⟨roots1, known1, way1⟩ : View), 0)
  | pn1 :: rn1, known1, way1 => (bif (view_below t1 (pn1.node) roots1) then (view_Of_L0 t1 roots1 rn1 (known1 ++ [pn1]) way1) else (bif (view_above t1 (pn1.node) roots1) then (view_Of_L0 t1 roots1 rn1 known1 (way1 ++ [pn1])) else (view_Of_L0 t1 roots1 rn1 known1 way1)))
def view_Of (t1 : List Place) (roots1 : List Int) : View × Int :=
  (bif ((tree_Check t1) != 0) then ((⟨([] : List Int), ([] : List Place), ([] : List Place)⟩ : View), (tree_Check t1)) else (bif ((view_Roots roots1) != 0) then ((⟨([] : List Int), ([] : List Place), ([] : List Place)⟩ : View), (view_Roots roots1)) else (view_Of_L0 t1 roots1 t1 [] [])))
theorem view_Of_spec (y1 : SlV) (t1 : List Place) (y2 : SlV) (roots1 : List Int) : Does Try.prog 39 [.agg ⟨[y1.val t1.length]⟩, y2.val roots1.length] [RdL EPlace y1 t1, RdL EInt y2 roots1] (fun (X : SlV × SlV × SlV) => .tuple #[.agg ⟨[X.1.val (((view_Of t1 roots1).1).roots).length, X.2.1.val (((view_Of t1 roots1).1).known).length, X.2.2.val (((view_Of t1 roots1).1).way).length]⟩, .int .i64 ((view_Of t1 roots1).2)]) (fun (X : SlV × SlV × SlV) => [RdL EInt X.1 (((view_Of t1 roots1).1).roots), RdL EPlace X.2.1 (((view_Of t1 roots1).1).known), RdL EPlace X.2.2 (((view_Of t1 roots1).1).way)]) := by
  refine does_of tab_ok Try.func39 rfl Try.ntmps39 Try.results39 rfl inferInstance (fun _ => inferInstance) fun C => ?_
  refine Pc EPlace y1 t1 24 fun hlen1 => ?_
  refine Pc EInt y2 roots1 8 fun hlen2 => ?_
  refine Tx ?_
  refine Bx fun g1 => ?_
  refine Al fun g2 => ?_
  refine Tx ?_
  refine Cl (tree_Check_spec y1 t1) fun _ => ?_
  refine Tx ?_
  refine Cd (b := ((tree_Check t1) != 0)) (fun hc1 => ?_) fun hc1 => ?_
  · have hc1p := bne_iff_ne.1 hc1
    refine Tx ?_
    refine Fc EInt ?_
    refine Fc EPlace ?_
    have hr1 : (view_Of t1 roots1) = ((⟨([] : List Int), ([] : List Place), ([] : List Place)⟩ : View), (tree_Check t1)) := by simp only [view_Of, hc1, cond_true, cond_false]
    refine cw_ret ?_; rw [hr1]; exact Re ⟨(⟨none, 0⟩ : SlV), (⟨none, 0⟩ : SlV), (⟨none, 0⟩ : SlV)⟩ (Va (Vt Vn))
  · have hc1p := eq_of_bne_false hc1
    refine Tx ?_
    refine Cl (view_Roots_spec y2 roots1) fun _ => ?_
    refine Tx ?_
    refine Cd (b := ((view_Roots roots1) != 0)) (fun hc2 => ?_) fun hc2 => ?_
    · have hc2p := bne_iff_ne.1 hc2
      refine Tx ?_
      refine Fc EInt ?_
      refine Fc EPlace ?_
      have hr2 : (view_Of t1 roots1) = ((⟨([] : List Int), ([] : List Place), ([] : List Place)⟩ : View), (view_Roots roots1)) := by simp only [view_Of, hc1, hc2, cond_true, cond_false]
      refine cw_ret ?_; rw [hr2]; exact Re ⟨(⟨none, 0⟩ : SlV), (⟨none, 0⟩ : SlV), (⟨none, 0⟩ : SlV)⟩ (Va (Vt Vn))
    · have hc2p := eq_of_bne_false hc2
      refine Tx ?_
      refine Cg (slices_Clone_Int_spec y2 roots1) fun x1 => ?_
      refine Rp rfl rfl rfl rfl ?_
      refine Al fun g3 => ?_
      refine Tx ?_
      (repeat refine cw_seq ?_); refine Lp [1,2,4,5,8,27,28] [false, true, true] (fun (i_ : Nat × List Place × SlV × Option Nat × List Place × SlV × Option Nat) => match i_ with | ⟨n1, known1, x2, x2b, way1, x3, x3b⟩ => (⟨[(29, .v (.int .i64 (n1 : Int)))], [⟨g3, 51, [x1.1.val roots1.length, x2.val known1.length, x3.val way1.length]⟩], [ownL EInt 3 x1.1 x1.2 roots1, ownL EPlace 35 x2 x2b known1, ownL EPlace 35 x3 x3b way1], [], (n1 ≤ t1.length) ∧ (known1.length ≤ n1) ∧ (way1.length ≤ n1) ∧ (view_Of_L0 t1 roots1 (t1.drop n1) known1 way1) = (view_Of t1 roots1), t1.length - n1⟩ : Ls)) ⟨0, [], ⟨none, 0⟩, none, [], ⟨none, 0⟩, none⟩ (Sc (Sc (Sc (Sc (Sc (Sc (Sc Sn))))))) (.drop (.keep (.keep (.nil)))) ⟨Nat.zero_le _, (by first | exact Nat.le_refl _ | exact Nat.zero_le _ | omega), (by first | exact Nat.le_refl _ | exact Nat.zero_le _ | omega), (by simp only [view_Of, hc1, hc2, cond_true, cond_false] : (view_Of t1 roots1) = (view_Of_L0 t1 roots1 t1 [] [])).symm⟩ (Le.trans (le_nilL EPlace 35) (Le.trans (le_nilL EPlace 35) Le4)) ?_
      rintro ⟨n1, known1, x2, x2b, way1, x3, x3b⟩ ⟨hkn1, hknown1, hway1, hf1⟩
      simp only [List.cons_append, List.nil_append]
      refine Tx ?_
      refine Cd (b := decide ((n1 : Int) < (t1.length : Int))) (fun hc3 => ?_) fun hc3 => ?_
      · have hlt0 : n1 < t1.length := Int.ofNat_lt.1 (of_decide_eq_true hc3)
        refine Tx ?_
        refine rw_q rfl rfl rfl (q_idx EPlace n1 rfl rfl (fun _ => rfl) rfl (fun _ => rfl) rfl rfl rfl Mm rfl (fun _ => rfl) (fun _ => by first | assumption | omega)) ?_
        refine rw_q rfl rfl rfl (q_leA EPlace rfl rfl (fun _ => rfl) rfl rfl Mm (fun _ => by first | assumption | omega)) ?_
        refine Al fun g4 => ?_
        refine Tx ?_
        refine Cl (view_below_spec y1 t1 ((gt t1 n1).node) y2 roots1) fun _ => ?_
        refine rw_nil ?_
        (repeat refine cw_seq ?_)
        refine Cd (b := (view_below t1 ((gt t1 n1).node) roots1)) (fun hc4 => ?_) fun hc4 => ?_
        · refine Tx ?_
          refine rw_bsliceL EPlace [(gt t1 n1)] .sq (guard_none rfl) rfl rfl rfl rfl rfl rfl rfl rfl rfl rfl rfl rfl rfl rfl rfl fun x4 x4b => ?_
          refine rw_appendL EPlace known1 [(gt t1 n1)] (b := x2b) .sq (fun _ _ => .inl ⟨_, rfl⟩) (guard_none rfl) rfl rfl rfl rfl rfl rfl rfl (fun _ _ => Uo) rfl rfl rfl rfl rfl rfl rfl (reads_ownL (e := 35) (b := x4b) Mm) (by show (known1.length + 1) * 24 ≤ 140737488355328; (try simp only [List.length_append, List.length_cons, List.length_nil]); omega) fun x5 x5b => ?_
          refine Tx ?_
          refine rw_q rfl rfl rfl (q_add rfl rfl (fun _ => rfl) rfl (fun _ => rfl) (fun _ => by omega)) ?_
          refine Tx ?_
          refine ⟨⟨(n1 + 1), (known1 ++ [(gt t1 n1)]), x5, x5b, way1, x3, x3b⟩, ⟨hlt0, (by simp only [List.length_append, List.length_cons, List.length_nil]; omega), (by simp only [List.length_append, List.length_cons, List.length_nil]; omega), (by rw [← hf1, drop_gt hlt0]; simp only [view_Of_L0, hc4, cond_true, cond_false] : (view_Of t1 roots1) = (view_Of_L0 t1 roots1 (t1.drop (n1 + 1)) (known1 ++ [(gt t1 n1)]) way1)).symm⟩, (by simp only []; omega), Le4⟩
        · refine Tx ?_
          refine Cl (view_above_spec y1 t1 ((gt t1 n1).node) y2 roots1) fun _ => ?_
          refine rw_nil ?_
          (repeat refine cw_seq ?_)
          refine Cd (b := (view_above t1 ((gt t1 n1).node) roots1)) (fun hc5 => ?_) fun hc5 => ?_
          · refine Tx ?_
            refine rw_bsliceL EPlace [(gt t1 n1)] .sq (guard_none rfl) rfl rfl rfl rfl rfl rfl rfl rfl rfl rfl rfl rfl rfl rfl rfl fun x6 x6b => ?_
            refine rw_appendL EPlace way1 [(gt t1 n1)] (b := x3b) .sq (fun _ _ => .inl ⟨_, rfl⟩) (guard_none rfl) rfl rfl rfl rfl rfl rfl rfl (fun _ _ => Uo) rfl rfl rfl rfl rfl rfl rfl (reads_ownL (e := 35) (b := x6b) Mm) (by show (way1.length + 1) * 24 ≤ 140737488355328; (try simp only [List.length_append, List.length_cons, List.length_nil]); omega) fun x7 x7b => ?_
            refine Tx ?_
            refine rw_q rfl rfl rfl (q_add rfl rfl (fun _ => rfl) rfl (fun _ => rfl) (fun _ => by omega)) ?_
            refine Tx ?_
            refine ⟨⟨(n1 + 1), known1, x2, x2b, (way1 ++ [(gt t1 n1)]), x7, x7b⟩, ⟨hlt0, (by simp only [List.length_append, List.length_cons, List.length_nil]; omega), (by simp only [List.length_append, List.length_cons, List.length_nil]; omega), (by rw [← hf1, drop_gt hlt0]; simp only [view_Of_L0, hc4, hc5, cond_true, cond_false] : (view_Of t1 roots1) = (view_Of_L0 t1 roots1 (t1.drop (n1 + 1)) known1 (way1 ++ [(gt t1 n1)]))).symm⟩, (by simp only []; omega), Le4⟩
          · refine Tx ?_
            refine rw_q rfl rfl rfl (q_add rfl rfl (fun _ => rfl) rfl (fun _ => rfl) (fun _ => by omega)) ?_
            refine Tx ?_
            refine ⟨⟨(n1 + 1), known1, x2, x2b, way1, x3, x3b⟩, ⟨hlt0, (by simp only [List.length_append, List.length_cons, List.length_nil]; omega), (by simp only [List.length_append, List.length_cons, List.length_nil]; omega), (by rw [← hf1, drop_gt hlt0]; simp only [view_Of_L0, hc4, hc5, cond_true, cond_false] : (view_Of t1 roots1) = (view_Of_L0 t1 roots1 (t1.drop (n1 + 1)) known1 way1)).symm⟩, (by simp only []; omega), Le4⟩
      · have hge0 : t1.length ≤ n1 := by have := of_decide_eq_false hc3; omega
        refine Tx ?_
        refine cw_le (le_freezeL EInt 3 x1.1 x1.2 roots1 Uo) ?_
        refine cw_le (le_freezeL EPlace 35 x2 x2b known1 Uo) ?_
        refine cw_le (le_freezeL EPlace 35 x3 x3b way1 Uo) ?_
        have hr3 : (view_Of t1 roots1) = ((⟨roots1, known1, way1⟩ : View), 0) := by rw [← hf1, List.drop_of_length_le hge0]; simp only [view_Of_L0, cond_true, cond_false]
        refine cw_ret ?_; rw [hr3]; exact Re ⟨x1.1, x2, x3⟩ (Va (Vt Vn))

def view_Same (a1 : View) (b1 : View) : Bool :=
  (((decide (a1.roots = b1.roots)) && (decide (a1.known = b1.known))) && (decide (a1.way = b1.way)))
theorem view_Same_spec (y1 : SlV) (y2 : SlV) (y3 : SlV) (a1 : View) (y4 : SlV) (y5 : SlV) (y6 : SlV) (b1 : View) : Does Try.prog 49 [.agg ⟨[y1.val a1.roots.length, y2.val a1.known.length, y3.val a1.way.length]⟩, .agg ⟨[y4.val b1.roots.length, y5.val b1.known.length, y6.val b1.way.length]⟩] [RdL EInt y1 a1.roots, RdL EPlace y2 a1.known, RdL EPlace y3 a1.way, RdL EInt y4 b1.roots, RdL EPlace y5 b1.known, RdL EPlace y6 b1.way] (fun (_ : Unit) => .bool (view_Same a1 b1)) (fun (_ : Unit) => []) := by
  refine does_of tab_ok Try.func49 rfl Try.ntmps49 Try.results49 rfl inferInstance (fun _ => inferInstance) fun C => ?_
  refine Pc EInt y1 a1.roots 8 fun hlen1 => ?_
  refine Pc EPlace y2 a1.known 24 fun hlen2 => ?_
  refine Pc EPlace y3 a1.way 24 fun hlen3 => ?_
  refine Pc EInt y4 b1.roots 8 fun hlen4 => ?_
  refine Pc EPlace y5 b1.known 24 fun hlen5 => ?_
  refine Pc EPlace y6 b1.way 24 fun hlen6 => ?_
  refine Tx ?_
  refine Bx fun g1 => ?_
  refine Bx fun g2 => ?_
  refine Tx ?_
  refine Cl ((fun y1 a y2 b => slices_Equal_Int_spec' y1 y2 a b) y1 a1.roots y4 b1.roots) fun _ => ?_
  refine Tx ?_
  refine rw_callg (fun hG_ => (fun y1 a y2 b => slices_Equal_Place_spec' y1 y2 a b) y2 a1.known y5 b1.known) (fun _ => rfl) .sq (guard_vt rfl rfl rfl) rfl rfl rfl Kr rfl Bt Sm ?_
  refine Tx ?_
  refine rw_callg (fun hG_ => (fun y1 a y2 b => slices_Equal_Place_spec' y1 y2 a b) y3 a1.way y6 b1.way) (fun _ => rfl) .sq (guard_vt rfl rfl rfl) rfl rfl rfl Kr rfl Bt Sm ?_
  refine Tx ?_
  have hr1 : (view_Same a1 b1) = (((decide (a1.roots = b1.roots)) && (decide (a1.known = b1.known))) && (decide (a1.way = b1.way))) := by simp only [view_Same, cond_true, cond_false]
  refine cw_ret ?_; rw [hr1]; exact Re () (Vt Vn)
end Go.Proofs.Ytchdacbjiomplaa

set_option maxHeartbeats 2000000
namespace Go.Proofs.Ytchdacbjiomplaa
open Go Go.Proofs.Ytchdacbjiomplaa.Fw Go.Proofs
attribute [local irreducible] RW CW
theorem putl_L0_len (p : Place) : ∀ (l : List Place) (d : Bool) (acc : List Place), (tree_Put_L0 p l d acc).length ≤ acc.length + l.length + (bif d then 0 else 1)
  | [], d, acc => by rw [tree_Put_L0]; cases d <;> simp
  | q :: r, d, acc => by
    rw [tree_Put_L0]
    cases h1 : (!d && decide (q.node ≥ p.node)) with
    | true =>
      have hd : d = false := by cases d; rfl; simp at h1
      subst hd
      cases (q.node != p.node) with
      | true => simp only [cond_true]; have := putl_L0_len p r true ((acc ++ [p]) ++ [q]); simp at this ⊢; omega
      | false => simp only [cond_true, cond_false]; have := putl_L0_len p r true (acc ++ [p]); simp at this ⊢; omega
    | false =>
      cases (q.node != p.node) with
      | true => simp only [cond_true, cond_false]; have := putl_L0_len p r d (acc ++ [q]); simp at this ⊢; omega
      | false => simp only [cond_false]; have := putl_L0_len p r d acc; simp at this ⊢; omega
theorem putl_len (l : List Place) (p : Place) : (tree_Put l p).length ≤ l.length + 1 := by
  have := putl_L0_len p l (decide (p.parent < 0)) []
  unfold tree_Put
  generalize decide (p.parent < 0) = d at *
  cases d <;> simp at this ⊢ <;> omega

def view_All_L0  : List Place → (List Place) → (List Place)
  | [], p1 => p1
  | pn1 :: rn1, p1 => (view_All_L0 rn1 (tree_Put p1 pn1))
def view_All (v1 : View) : List Place :=
  (view_All_L0 v1.way v1.known)
theorem view_All_spec (y1 : SlV) (y2 : SlV) (y3 : SlV) (v1 : View) (hk1 : v1.known.length ≤ 1000) (hw1 : v1.way.length ≤ 1000) : Does Try.prog 134 [.agg ⟨[y1.val v1.roots.length, y2.val v1.known.length, y3.val v1.way.length]⟩] [RdL EInt y1 v1.roots, RdL EPlace y2 v1.known, RdL EPlace y3 v1.way] (fun (X : SlV) => .agg ⟨[X.val (view_All v1).length]⟩) (fun (X : SlV) => [RdL EPlace X (view_All v1)]) := by
  refine does_of tab_ok Try.func134 rfl Try.ntmps134 Try.results134 rfl inferInstance (fun _ => inferInstance) fun C => ?_
  refine Pc EInt y1 v1.roots 8 fun hlen1 => ?_
  refine Pc EPlace y2 v1.known 24 fun hlen2 => ?_
  refine Pc EPlace y3 v1.way 24 fun hlen3 => ?_
  refine Tx ?_
  refine Bx fun g1 => ?_
  refine Al fun g2 => ?_
  refine Tx ?_
  refine Cg (slices_Clone_Place_spec y2 v1.known) fun x1 => ?_
  refine Rp rfl rfl rfl rfl ?_
  refine Al fun g3 => ?_
  refine Tx ?_
  (repeat refine cw_seq ?_); refine Lp [2,3,11,12] [false, true, true] (fun (i_ : Nat × List Place × SlV) => match i_ with | ⟨n1, p1, x2⟩ => (⟨[(13, .v (.int .i64 (n1 : Int)))], [⟨g3, 29, [x2.val p1.length]⟩], [], [RdL EPlace x2 p1], (n1 ≤ v1.way.length) ∧ (p1.length ≤ v1.known.length + n1) ∧ (view_All_L0 (v1.way.drop n1) p1) = (view_All v1), v1.way.length - n1⟩ : Ls)) ⟨0, v1.known, x1.1⟩ (Sc (Sc (Sc (Sc Sn)))) (.drop (.keep (.keep (.nil)))) ⟨Nat.zero_le _, (by simp), (by simp only [view_All, cond_true, cond_false] : (view_All v1) = (view_All_L0 v1.way v1.known)).symm⟩ (Le.trans (le_freezeL EPlace 35 x1.1 x1.2 v1.known Uo) Le4) ?_
  rintro ⟨n1, p1, x2⟩ ⟨hkn1, hpb, hf1⟩
  simp only [List.cons_append, List.nil_append]
  refine Tx ?_
  refine Cd (b := decide ((n1 : Int) < (v1.way.length : Int))) (fun hc1 => ?_) fun hc1 => ?_
  · have hlt0 : n1 < v1.way.length := Int.ofNat_lt.1 (of_decide_eq_true hc1)
    refine Tx ?_
    refine rw_q rfl rfl rfl (q_idx EPlace n1 rfl rfl (fun _ => rfl) rfl (fun _ => rfl) rfl rfl rfl Mm rfl (fun _ => rfl) (fun _ => by first | assumption | omega)) ?_
    refine rw_q rfl rfl rfl (q_leA EPlace rfl rfl (fun _ => rfl) rfl rfl Mm (fun _ => by first | assumption | omega)) ?_
    refine Al fun g4 => ?_
    refine Tx ?_
    refine Cl (tree_Put_spec x2 p1 (gt v1.way n1) (by omega)) fun x3 => ?_
    refine Pr EPlace x3 (tree_Put p1 (gt v1.way n1)) 24 fun hlen4 => ?_
    refine Tx ?_
    refine rw_q rfl rfl rfl (q_add rfl rfl (fun _ => rfl) rfl (fun _ => rfl) (fun _ => by omega)) ?_
    refine Tx ?_
    refine ⟨⟨(n1 + 1), (tree_Put p1 (gt v1.way n1)), x3⟩, ⟨hlt0, (by have := putl_len p1 (gt v1.way n1); simp only []; omega), (by rw [← hf1, drop_gt hlt0]; simp only [view_All_L0, cond_true, cond_false] : (view_All v1) = (view_All_L0 (v1.way.drop (n1 + 1)) (tree_Put p1 (gt v1.way n1)))).symm⟩, (by simp only []; omega), Le4⟩
  · have hge0 : v1.way.length ≤ n1 := by have := of_decide_eq_false hc1; omega
    refine Tx ?_
    have hr1 : (view_All v1) = p1 := by rw [← hf1, List.drop_of_length_le hge0]; simp only [view_All_L0, cond_true, cond_false]
    refine cw_ret ?_; rw [hr1]; exact Re x2 (Va Vn)
end Go.Proofs.Ytchdacbjiomplaa

set_option maxHeartbeats 2000000
namespace Go.Proofs.Ytchdacbjiomplaa
open Go Go.Proofs.Ytchdacbjiomplaa.Fw Go.Proofs
attribute [local irreducible] RW CW
def view_Check_U0_2 (v1 : View) : Int :=
  (bif ((((view_Of (view_All v1) v1.roots).2) == 0) && (!(view_Same ((view_Of (view_All v1) v1.roots).1) v1))) then 4 else (view_Of (view_All v1) v1.roots).2)
def view_Check_U0_1 (v1 : View) : Int :=
  (bif ((tree_Check v1.way) != 0) then (tree_Check v1.way) else (view_Check_U0_2 v1))
def view_Check_U0_0 (v1 : View) : Int :=
  (bif ((tree_Check v1.known) != 0) then (tree_Check v1.known) else (view_Check_U0_1 v1))
def view_Check (v1 : View) : Int :=
  (bif ((view_Roots v1.roots) != 0) then (view_Roots v1.roots) else (view_Check_U0_0 v1))
theorem view_Check_spec (y1 : SlV) (y2 : SlV) (y3 : SlV) (v1 : View) : Does Try.prog 47 [.agg ⟨[y1.val v1.roots.length, y2.val v1.known.length, y3.val v1.way.length]⟩] [RdL EInt y1 v1.roots, RdL EPlace y2 v1.known, RdL EPlace y3 v1.way] (fun (_ : Unit) => .int .i64 (view_Check v1)) (fun (_ : Unit) => []) := by
  refine does_of tab_ok Try.func47 rfl Try.ntmps47 Try.results47 rfl inferInstance (fun _ => inferInstance) fun C => ?_
  refine Pc EInt y1 v1.roots 8 fun hlen1 => ?_
  refine Pc EPlace y2 v1.known 24 fun hlen2 => ?_
  refine Pc EPlace y3 v1.way 24 fun hlen3 => ?_
  refine Tx ?_
  refine Bx fun g1 => ?_
  refine Tx ?_
  refine Cl (view_Roots_spec y1 v1.roots) fun _ => ?_
  refine Tx ?_
  refine Cd (b := ((view_Roots v1.roots) != 0)) (fun hc1 => ?_) fun hc1 => ?_
  · have hc1p := bne_iff_ne.1 hc1
    refine Tx ?_
    have hr1 : (view_Check v1) = (view_Roots v1.roots) := by simp only [view_Check, hc1, cond_true, cond_false]
    refine cw_ret ?_; rw [hr1]; exact Re () (Vt Vn)
  · have hc1p := eq_of_bne_false hc1
    refine Tx ?_
    refine rw_q rfl rfl rfl (q_buildA rfl rfl (fun _ => rfl) rfl rfl rfl rfl) ?_
    refine Tx ?_
    (repeat refine cw_seq ?_); refine Lp [1,2,19] [true] (fun (n1 : Nat) => (⟨[(20, .v (.int .i64 (n1 : Int)))], [], [], [], (n1 ≤ 2) ∧ ((1 ≤ n1 → tree_Check v1.known = 0)) ∧ ((2 ≤ n1 → tree_Check v1.way = 0)) ∧ (match n1 with | 0 => (view_Check_U0_0 v1) | 1 => (view_Check_U0_1 v1) | _ => (view_Check_U0_2 v1)) = (view_Check v1), 2 - n1⟩ : Ls)) 0 (Sc (Sc (Sc Sn))) (.keep (.nil)) ⟨Nat.zero_le _, (fun h => absurd h (by omega)), (fun h => absurd h (by omega)), (by simp only [view_Check, hc1, cond_true, cond_false] : (view_Check v1) = (view_Check_U0_0 v1)).symm⟩ Le4 ?_
    rintro n1 ⟨hkn1, hi1, hi2, hf1⟩
    simp only [List.cons_append, List.nil_append]
    have hkn13 : n1 = 0 ∨ n1 = 1 ∨ n1 = 2 := by omega
    rcases hkn13 with rfl | rfl | rfl
    · have hf1 : (view_Check_U0_0 v1) = (view_Check v1) := hf1
      refine Tx ?_
      refine Cd (b := decide ((0 : Int) < 2)) (fun hc2 => ?_) fun hc2 => ?_
      · refine Tx ?_
        refine rw_q rfl rfl rfl (q_ixL 0 rfl rfl (fun _ => rfl) rfl (fun _ => rfl) rfl rfl rfl rfl rfl) ?_
        refine Tx ?_
        refine Cl (tree_Check_spec y2 v1.known) fun _ => ?_
        refine Tx ?_
        refine Cd (b := ((tree_Check v1.known) != 0)) (fun hc3 => ?_) fun hc3 => ?_
        · have hc3p := bne_iff_ne.1 hc3
          refine Tx ?_
          have hr2 : (view_Check v1) = (tree_Check v1.known) := by rw [← hf1]; simp only [view_Check_U0_0, hc3, cond_true, cond_false]
          refine cw_ret ?_; rw [hr2]; exact Re () (Vt Vn)
        · have hc3p := eq_of_bne_false hc3
          have hck := eq_of_bne_false hc3
          refine Tx ?_
          refine rw_q rfl rfl rfl (q_add rfl rfl (fun _ => rfl) rfl (fun _ => rfl) (fun _ => by decide)) ?_
          refine Tx ?_
          refine ⟨1, ⟨by omega, (fun _ => by first | exact hck | exact hi1 (by omega) | omega), (fun _ => by first | exact hck | omega), (by rw [← hf1]; simp only [view_Check_U0_0, hc3, cond_true, cond_false] : (view_Check v1) = (view_Check_U0_1 v1)).symm⟩, (show 2 - 1 < 2 - 0 by decide), Le4⟩
      · exact Bool.noConfusion (hc2.symm.trans (decide_eq_true (by decide)))
    · have hf1 : (view_Check_U0_1 v1) = (view_Check v1) := hf1
      refine Tx ?_
      refine Cd (b := decide ((1 : Int) < 2)) (fun hc4 => ?_) fun hc4 => ?_
      · refine Tx ?_
        refine rw_q rfl rfl rfl (q_ixL 1 rfl rfl (fun _ => rfl) rfl (fun _ => rfl) rfl rfl rfl rfl rfl) ?_
        refine Tx ?_
        refine Cl (tree_Check_spec y3 v1.way) fun _ => ?_
        refine Tx ?_
        refine Cd (b := ((tree_Check v1.way) != 0)) (fun hc5 => ?_) fun hc5 => ?_
        · have hc5p := bne_iff_ne.1 hc5
          refine Tx ?_
          have hr3 : (view_Check v1) = (tree_Check v1.way) := by rw [← hf1]; simp only [view_Check_U0_1, hc5, cond_true, cond_false]
          refine cw_ret ?_; rw [hr3]; exact Re () (Vt Vn)
        · have hc5p := eq_of_bne_false hc5
          have hck := eq_of_bne_false hc5
          refine Tx ?_
          refine rw_q rfl rfl rfl (q_add rfl rfl (fun _ => rfl) rfl (fun _ => rfl) (fun _ => by decide)) ?_
          refine Tx ?_
          refine ⟨2, ⟨by omega, (fun _ => by first | exact hck | exact hi1 (by omega) | omega), (fun _ => by first | exact hck | omega), (by rw [← hf1]; simp only [view_Check_U0_1, hc5, cond_true, cond_false] : (view_Check v1) = (view_Check_U0_2 v1)).symm⟩, (show 2 - 2 < 2 - 1 by decide), Le4⟩
      · exact Bool.noConfusion (hc4.symm.trans (decide_eq_true (by decide)))
    · have hf1 : (view_Check_U0_2 v1) = (view_Check v1) := hf1
      refine Tx ?_
      refine Cd (b := decide ((2 : Int) < 2)) (fun hc6 => ?_) fun hc6 => ?_
      · exact Bool.noConfusion (hc6.symm.trans (decide_eq_false (by decide)))
      · refine Tx ?_
        refine cw_join [1, 2] [true] (fun (i_ : Nat × SlV × SlV × SlV) => match i_ with | ⟨g2, x1, x2, x3⟩ => [(7, .v (.pointer (some ⟨g2, 0, none⟩))), (8, .v (.int .i64 ((view_Of (view_All v1) v1.roots).2)))]) (fun (i_ : Nat × SlV × SlV × SlV) => match i_ with | ⟨g2, x1, x2, x3⟩ => [⟨g2, 51, [x1.val (((view_Of (view_All v1) v1.roots).1).roots).length, x2.val (((view_Of (view_All v1) v1.roots).1).known).length, x3.val (((view_Of (view_All v1) v1.roots).1).way).length]⟩]) (fun (i_ : Nat × SlV × SlV × SlV) => match i_ with | ⟨g2, x1, x2, x3⟩ => []) (fun (i_ : Nat × SlV × SlV × SlV) => match i_ with | ⟨g2, x1, x2, x3⟩ => [RdL EInt x1 (((view_Of (view_All v1) v1.roots).1).roots), RdL EPlace x2 (((view_Of (view_All v1) v1.roots).1).known), RdL EPlace x3 (((view_Of (view_All v1) v1.roots).1).way)]) (fun _ => True) (.cons rfl (.cons rfl (.nil _))) (.keep (.nil)) ?_ ?_
        · refine cw_regionA (fun j => match j with | 9 => none | _ => some []) ?_
          refine Rb 0 [2,3,8] [1,4,5,6,7,9,10] rfl (q_ldA rfl rfl (fun _ => rfl) rfl Mm rfl) ?_
          refine Rb 2 [1,8] [3,4,5,6,7,9,10] rfl Qp ?_
          refine Rb 3 [1,8] [4,5,6,7,9,10] rfl Q1 ?_
          refine ra_two 1 8 Kr ?_ ?_
          · refine rw_call (view_All_spec y1 y2 y3 v1 (Nat.le_trans (check_len (hi1 (by omega))) (by omega)) (Nat.le_trans (check_len (hi2 (by omega))) (by omega))) (.an rfl rfl) (guard_none rfl) rfl rfl rfl Kr rfl rfl Sm ?_
            intro x4
            refine Pr EPlace x4 (view_All v1) 24 fun hlen4 => ?_
            refine ra_two 4 8 Kr ?_ ?_
            · refine rw_call (view_Of_spec x4 (view_All v1) y1 v1.roots) (.an rfl rfl) (guard_none rfl) rfl rfl rfl Kr rfl rfl Sm ?_
              intro x5
              refine Pr EInt x5.1 (((view_Of (view_All v1) v1.roots).1).roots) 8 fun hlen5 => ?_
              refine Pr EPlace x5.2.1 (((view_Of (view_All v1) v1.roots).1).known) 24 fun hlen6 => ?_
              refine Pr EPlace x5.2.2 (((view_Of (view_All v1) v1.roots).1).way) 24 fun hlen7 => ?_
              refine Ra 5 [8] rfl Qp ?_
              refine Ra 6 [7,8] rfl Qp ?_
              refine ra_p (.an (i := 7) (js := [8, 9]) rfl Kr Kr Kr Kr) rfl rfl rfl (q_pev rfl (fun _ => rfl)) ?_
              refine ra_one 8 Kr ?_
              refine rw_alloc (.an rfl rfl) (guard_none rfl) rfl rfl rfl rfl fun g3 => ?_
              refine ra_one 9 Kr ?_
              refine rw_stA (.lo [g3] rfl rfl) (.inr (by simp)) (guard_none rfl) rfl rfl rfl rfl rfl rfl rfl rfl rfl Ub rfl ?_
              refine Ra 10 [] rfl Qp ?_
              refine ra_nil Kr ?_
              refine ⟨⟨g3, x5.1, x5.2.1, x5.2.2⟩, trivial, Le4⟩
            · refine rw_alloc (.an rfl rfl) (guard_none rfl) rfl rfl rfl rfl fun g4 => ?_
              refine ra_one 4 Kr ?_
              refine rw_call (view_Of_spec x4 (view_All v1) y1 v1.roots) (.an rfl rfl) (guard_none rfl) rfl rfl rfl Kr rfl rfl Sm ?_
              intro x6
              refine Pr EInt x6.1 (((view_Of (view_All v1) v1.roots).1).roots) 8 fun hlen8 => ?_
              refine Pr EPlace x6.2.1 (((view_Of (view_All v1) v1.roots).1).known) 24 fun hlen9 => ?_
              refine Pr EPlace x6.2.2 (((view_Of (view_All v1) v1.roots).1).way) 24 fun hlen10 => ?_
              refine Ra 5 [] rfl Qp ?_
              refine Ra 6 [7] rfl Qp ?_
              refine ra_p (.an (i := 7) (js := [9]) rfl Kr Kr Kr Kr) rfl rfl rfl (q_pev rfl (fun _ => rfl)) ?_
              refine ra_one 9 Kr ?_
              refine rw_stA (.lo [g4] rfl rfl) (.inr (by simp)) (guard_none rfl) rfl rfl rfl rfl rfl rfl rfl rfl rfl Ub rfl ?_
              refine Ra 10 [] rfl Qp ?_
              refine ra_nil Kr ?_
              refine ⟨⟨g4, x6.1, x6.2.1, x6.2.2⟩, trivial, Le4⟩
          · refine rw_alloc (.an rfl rfl) (guard_none rfl) rfl rfl rfl rfl fun g5 => ?_
            refine ra_one 1 Kr ?_
            refine rw_call (view_All_spec y1 y2 y3 v1 (Nat.le_trans (check_len (hi1 (by omega))) (by omega)) (Nat.le_trans (check_len (hi2 (by omega))) (by omega))) (.an rfl rfl) (guard_none rfl) rfl rfl rfl Kr rfl rfl Sm ?_
            intro x7
            refine Pr EPlace x7 (view_All v1) 24 fun hlen11 => ?_
            refine ra_one 4 Kr ?_
            refine rw_call (view_Of_spec x7 (view_All v1) y1 v1.roots) (.an rfl rfl) (guard_none rfl) rfl rfl rfl Kr rfl rfl Sm ?_
            intro x8
            refine Pr EInt x8.1 (((view_Of (view_All v1) v1.roots).1).roots) 8 fun hlen12 => ?_
            refine Pr EPlace x8.2.1 (((view_Of (view_All v1) v1.roots).1).known) 24 fun hlen13 => ?_
            refine Pr EPlace x8.2.2 (((view_Of (view_All v1) v1.roots).1).way) 24 fun hlen14 => ?_
            refine Ra 5 [] rfl Qp ?_
            refine Ra 6 [7] rfl Qp ?_
            refine ra_p (.an (i := 7) (js := [9]) rfl Kr Kr Kr Kr) rfl rfl rfl (q_pev rfl (fun _ => rfl)) ?_
            refine ra_one 9 Kr ?_
            refine rw_stA (.lo [g5] rfl rfl) (.inr (by simp)) (guard_none rfl) rfl rfl rfl rfl rfl rfl rfl rfl rfl Ub rfl ?_
            refine Ra 10 [] rfl Qp ?_
            refine ra_nil Kr ?_
            refine ⟨⟨g5, x8.1, x8.2.1, x8.2.2⟩, trivial, Le4⟩
        · rintro ⟨g2, x1, x2, x3⟩ -
          simp only [List.cons_append, List.nil_append]
          refine Tx ?_
          refine rw_callg (fun hG_ => view_Same_spec x1 x2 x3 ((view_Of (view_All v1) v1.roots).1) y1 y2 y3 v1) (fun _ => rfl) .sq (guard_vt rfl rfl rfl) rfl rfl rfl Kr rfl Bt Sm ?_
          refine Tx ?_
          refine Cd (b := ((((view_Of (view_All v1) v1.roots).2) == 0) && (!(view_Same ((view_Of (view_All v1) v1.roots).1) v1)))) (fun hc7 => ?_) fun hc7 => ?_
          · refine Tx ?_
            have hr4 : (view_Check v1) = 4 := by rw [← hf1]; simp only [view_Check_U0_2, hc7, cond_true, cond_false]
            refine cw_ret ?_; rw [hr4]; exact Re () (Vt Vn)
          · refine Tx ?_
            have hr5 : (view_Check v1) = (view_Of (view_All v1) v1.roots).2 := by rw [← hf1]; simp only [view_Check_U0_2, hc7, cond_true, cond_false]
            refine cw_ret ?_; rw [hr5]; exact Re () (Vt Vn)
end Go.Proofs.Ytchdacbjiomplaa
