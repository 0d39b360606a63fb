/- Part of this claim. No condition. -/
import Derived.Test.YtchdacbjiomplaaW23
set_option linter.unusedVariables false
set_option linter.unusedSimpArgs false
namespace Go.Proofs.Ytchdacbjiomplaa
open Go Go.Proofs.Ytchdacbjiomplaa.Fw Go.Proofs
attribute [local irreducible] RdL RdN VarP
def history_Copy (h1 : History) : History :=
  (⟨h1.l, (tree_Copy h1.t)⟩ : History)
theorem history_Copy_spec (y1 : SlV) (y2 : SlV) (h1 : History) : DoesG Try.prog 189 [.agg ⟨[y1.val h1.l.length, y2.val h1.t.length]⟩] [RdL EStep y1 h1.l, RdL EPlace y2 h1.t] ⟨[], []⟩ (fun (X : SlV × Option Nat × SlV) => .agg ⟨[X.1.val ((history_Copy h1).l).length, X.2.2.val ((history_Copy h1).t).length]⟩) (fun (X : SlV × Option Nat × SlV) => [RdL EPlace X.2.2 ((history_Copy h1).t)]) (fun (X : SlV × Option Nat × SlV) => ⟨[], [ownL EStep 37 X.1 X.2.1 ((history_Copy h1).l)]⟩) := by
  refine does_ofG tab_ok Try.func189 rfl Try.ntmps189 Try.results189 rfl inferInstance (fun _ => inferInstance) fun C => ?_
  refine cw_pure (φ := h1.l.length * 88 ≤ 140737488355328) [RdL EStep y1 h1.l] Sm (fun M w h => (allF1 h).len) fun hlen1 => ?_
  refine cw_pure (φ := h1.t.length * 24 ≤ 140737488355328) [RdL EPlace y2 h1.t] Sm (fun M w h => (allF1 h).len) fun hlen2 => ?_
  (repeat refine cw_seq ?_); refine cw_region ?_
  refine rw_box_agg .sq (guard_none rfl) rfl rfl rfl rfl rfl fun g1 => ?_
  refine rw_alloc .sq (guard_none rfl) rfl rfl rfl rfl fun g2 => ?_
  refine rw_nil ?_
  (repeat refine cw_seq ?_); refine cw_regionA (fun j => match j with | 7 => some [g2] | _ => some []) ?_
  refine ra_q (.ab (i := 0) (js := [3, 4]) [1, 2, 5, 6, 7] rfl Kr Kr Kr Kr Kr) (SplitB.all _) (by simp) rfl rfl rfl (q_pev rfl (fun _ => rfl)) ?_
  refine ra_q (.ab (i := 1) (js := [3, 4]) [2, 5, 6, 7] rfl Kr Kr Kr Kr Kr) (SplitB.all _) (by simp) rfl rfl rfl (q_ld1 rfl rfl (fun _ => rfl) rfl Mm rfl) ?_
  refine ra_q (.ab (i := 3) (js := [2]) [4, 5, 6, 7] rfl Kr Kr Kr Kr Kr) (SplitB.all _) (by simp) rfl rfl rfl (q_pev rfl (fun _ => rfl)) ?_
  refine ra_q (.ab (i := 4) (js := [2]) [5, 6, 7] rfl Kr Kr Kr Kr Kr) (SplitB.all _) (by simp) rfl rfl rfl (q_ldP rfl rfl (fun _ => rfl) rfl Mm rfl) ?_
  refine ra_one 2 Kr ?_
  refine rw_callG (slices_Clone_Step_spec y1 h1.l) (.an rfl rfl) (.inr (by simp [Lent.ids])) (guard_none rfl) rfl rfl rfl Kr rfl rfl Sm (.nil _) (.nil _) ?_
  intro x1
  refine ra_one 5 Kr ?_
  refine rw_callG (tree_Copy_spec y2 h1.t) (.an rfl rfl) (.inr (by simp [Lent.ids])) (guard_none rfl) rfl rfl rfl Kr rfl rfl Sm (.nil _) (.nil _) ?_
  intro x2
  refine ra_q (.an (i := 6) (js := []) rfl Kr Kr Kr Kr) (SplitB.all _) (by simp) rfl rfl rfl (q_pev rfl (fun _ => rfl)) ?_
  refine ra_one 7 Kr ?_
  refine rw_stA (.an rfl rfl) (.inr (by simp)) (guard_none rfl) rfl rfl rfl rfl rfl rfl rfl rfl rfl Ub rfl ?_
  refine ra_nil Kr ?_
  (repeat refine cw_seq ?_)
  refine cw_le (le_freezeL EPlace 35 x2.1 x2.2 (tree_Copy h1.t) Uo) ?_
  have hr1 : (history_Copy h1) = (⟨h1.l, (tree_Copy h1.t)⟩ : History) := by simp only [history_Copy, cond_true, cond_false]
  refine cw_ret ?_
  rw [hr1]
  exact ⟨⟨x1.1, x1.2, x2.1⟩, _, (.cons (.agg rfl rfl Mm rfl) .nil), rfl, Sm, .nil _, Sp⟩

def slices_IndexFunc_Step_L0 (f1 : Step → Bool) : List Step → Nat → Int
  | [], n1 => (-1)
  | pn1 :: rn1, n1 => (bif (f1 pn1) then (n1 : Int) else (slices_IndexFunc_Step_L0 f1 rn1 (n1 + 1)))
def slices_IndexFunc_Step (s1 : List Step) (f1 : Step → Bool) : Int :=
  (slices_IndexFunc_Step_L0 f1 s1 0)
theorem slices_IndexFunc_Step_spec (y1 : SlV) (s1 : List Step) (f2 : Nat) (caps1 : List Value) (pre1 : List Pred) [StabL pre1] (f1 : Step → Bool) (hfb1 : tab.fnb f2 = true) (hfn1 : ∀ (a0_ : Step), Does Try.prog f2 ([.agg ⟨[.int .i64 a0_.o.time, .int .i64 a0_.o.who, .int .i64 a0_.o.node, .int .i64 a0_.o.parent, .int .i64 a0_.o.name, .int .i64 a0_.o.life, .int .i64 a0_.o.seq, .bool a0_.did, .int .i64 a0_.was.node, .int .i64 a0_.was.parent, .int .i64 a0_.was.name]⟩] ++ caps1) pre1 (fun (_ : Unit) => .bool (f1 a0_)) (fun (_ : Unit) => [])) : Does Try.prog 208 [y1.val s1.length, .func (.func f2) #[] ⟨caps1⟩] (RdL EStep y1 s1 :: pre1) (fun (_ : Unit) => .int .i64 (slices_IndexFunc_Step s1 f1)) (fun (_ : Unit) => []) := by
  refine does_of tab_ok Try.func208 rfl Try.ntmps208 Try.results208 rfl inferInstance (fun _ => inferInstance) fun C => ?_
  refine cw_pure (φ := s1.length * 88 ≤ 140737488355328) [RdL EStep y1 s1] Sf (fun M w h => (allF1 h).len) fun hlen1 => ?_
  (repeat refine cw_seq ?_); refine cw_region ?_
  refine Rp rfl rfl rfl rfl ?_
  refine rw_nil ?_
  (repeat refine cw_seq ?_); refine cw_region ?_
  refine Rp rfl rfl rfl rfl ?_
  refine Rp rfl rfl rfl rfl ?_
  refine Rp rfl rfl rfl rfl ?_
  refine rw_nil ?_
  (repeat refine cw_seq ?_); refine cw_block ?_
  (repeat refine cw_seq ?_); refine cw_loopS [0, 1, 4, 7] [] (fun (n1 : Nat) => [(8, .v (.int .i64 (n1 : Int)))]) (fun (n1 : Nat) => []) (fun (n1 : Nat) => []) (fun (n1 : Nat) => []) (fun (n1 : Nat) => (n1 ≤ s1.length) ∧ (slices_IndexFunc_Step_L0 f1 (s1.drop n1) n1) = (slices_IndexFunc_Step s1 f1)) (fun (n1 : Nat) => s1.length - n1) 0 (.cons rfl (.cons rfl (.cons rfl (.cons rfl (.nil _))))) (.nil) ⟨Nat.zero_le _, (by simp only [slices_IndexFunc_Step, cond_true, cond_false] : (slices_IndexFunc_Step s1 f1) = (slices_IndexFunc_Step_L0 f1 s1 0)).symm⟩ Le5 ?_
  rintro n1 ⟨hkn1, hf1⟩
  simp only [List.cons_append, List.nil_append]
  (repeat refine cw_seq ?_); refine cw_region ?_
  refine Rp rfl rfl rfl rfl ?_
  refine rw_nil ?_
  (repeat refine cw_seq ?_); refine cw_cond (b := decide ((n1 : Int) < (s1.length : Int))) rfl rfl (fun hc1 => ?_) (fun hc1 => ?_)
  · skip
    have hlt0 : n1 < s1.length := Int.ofNat_lt.1 (of_decide_eq_true hc1)
    (repeat refine cw_seq ?_); refine cw_skip ?_
    (repeat refine cw_seq ?_); refine cw_block ?_
    (repeat refine cw_seq ?_); refine cw_region ?_
    refine Rp rfl rfl rfl rfl ?_
    refine Rp rfl rfl rfl rfl ?_
    refine rw_nil ?_
    (repeat refine cw_seq ?_); refine cw_region ?_
    refine Rp rfl rfl rfl rfl ?_
    refine Rp rfl rfl rfl rfl ?_
    refine Rp rfl rfl rfl rfl ?_
    refine rw_q rfl rfl rfl (q_idx EStep n1 rfl rfl (fun _ => rfl) rfl (fun _ => rfl) rfl rfl rfl Mm rfl (fun _ => rfl) (fun _ => by first | assumption | omega)) ?_
    refine rw_q rfl rfl rfl (q_leA EStep rfl rfl (fun _ => rfl) rfl rfl Mm (fun _ => by first | assumption | omega)) ?_
    refine rw_callv (hfn1 (gt s1 n1)) .sq (guard_none rfl) rfl rfl rfl rfl rfl (by assumption) rfl rfl rfl Sf ?_
    intro _
    refine rw_nil ?_
    (repeat refine cw_seq ?_); refine cw_cond (b := (f1 (gt s1 n1))) rfl rfl (fun hc2 => ?_) (fun hc2 => ?_)
    · skip
      (repeat refine cw_seq ?_); refine cw_region ?_
      refine Rp rfl rfl rfl rfl ?_
      refine Rp rfl rfl rfl rfl ?_
      refine rw_nil ?_
      (repeat refine cw_seq ?_)
      have hr1 : (slices_IndexFunc_Step s1 f1) = (n1 : Int) := by rw [← hf1, drop_gt hlt0]; simp only [slices_IndexFunc_Step_L0, hc2, cond_true, cond_false]
      refine cw_ret ?_
      rw [hr1]
      exact ⟨(), _, (.cons (.tmp rfl) .nil), rfl, Sf, .nil _, .nil _⟩
    · skip
      (repeat refine cw_seq ?_); refine cw_skip ?_
      (repeat refine cw_seq ?_); refine cw_region ?_
      refine rw_q rfl rfl rfl (q_add rfl rfl (fun _ => rfl) rfl (fun _ => rfl) (fun _ => by omega)) ?_
      refine Rp rfl rfl rfl rfl ?_
      refine rw_nil ?_
      refine ⟨(n1 + 1), ⟨hlt0, (by rw [← hf1, drop_gt hlt0]; simp only [slices_IndexFunc_Step_L0, hc2, cond_true, cond_false] : (slices_IndexFunc_Step s1 f1) = (slices_IndexFunc_Step_L0 f1 (s1.drop (n1 + 1)) (n1 + 1))).symm⟩, (by simp only []; omega), Le5⟩
  · skip
    have hge0 : s1.length ≤ n1 := by have := of_decide_eq_false hc1; omega
    (repeat refine cw_seq ?_); refine cw_exit ?_
    (repeat refine cw_seq ?_); refine cw_region ?_
    refine Rp rfl rfl rfl rfl ?_
    refine rw_nil ?_
    (repeat refine cw_seq ?_)
    have hr2 : (slices_IndexFunc_Step s1 f1) = (-1) := by rw [← hf1, List.drop_of_length_le hge0]; simp only [slices_IndexFunc_Step_L0, cond_true, cond_false]
    refine cw_ret ?_
    rw [hr2]
    exact ⟨(), _, (.cons (.tmp rfl) .nil), rfl, Sf, .nil _, .nil _⟩
def slices_ContainsFunc_Step (s1 : List Step) (f1 : Step → Bool) : Bool :=
  decide ((slices_IndexFunc_Step s1 f1) ≥ 0)
theorem slices_ContainsFunc_Step_spec (y1 : SlV) (s1 : List Step) (f2 : Nat) (caps1 : List Value) (pre1 : List Pred) [StabL pre1] (f1 : Step → Bool) (hfb1 : tab.fnb f2 = true) (hfn1 : ∀ (a0_ : Step), Does Try.prog f2 ([.agg ⟨[.int .i64 a0_.o.time, .int .i64 a0_.o.who, .int .i64 a0_.o.node, .int .i64 a0_.o.parent, .int .i64 a0_.o.name, .int .i64 a0_.o.life, .int .i64 a0_.o.seq, .bool a0_.did, .int .i64 a0_.was.node, .int .i64 a0_.was.parent, .int .i64 a0_.was.name]⟩] ++ caps1) pre1 (fun (_ : Unit) => .bool (f1 a0_)) (fun (_ : Unit) => [])) : Does Try.prog 187 [y1.val s1.length, .func (.func f2) #[] ⟨caps1⟩] (RdL EStep y1 s1 :: pre1) (fun (_ : Unit) => .bool (slices_ContainsFunc_Step s1 f1)) (fun (_ : Unit) => []) := by
  refine does_of tab_ok Try.func187 rfl Try.ntmps187 Try.results187 rfl inferInstance (fun _ => inferInstance) fun C => ?_
  refine cw_pure (φ := s1.length * 88 ≤ 140737488355328) [RdL EStep y1 s1] Sf (fun M w h => (allF1 h).len) fun hlen1 => ?_
  (repeat refine cw_seq ?_); refine cw_region ?_
  refine Rp rfl rfl rfl rfl ?_
  refine rw_nil ?_
  (repeat refine cw_seq ?_); refine cw_region ?_
  refine Rp rfl rfl rfl rfl ?_
  refine Rp rfl rfl rfl rfl ?_
  refine rw_call (slices_IndexFunc_Step_spec y1 s1 _ _ _ f1 (by assumption) hfn1) .sq (guard_none rfl) rfl rfl rfl Kr rfl rfl Sf ?_
  intro _
  refine Rp rfl rfl rfl rfl ?_
  refine Rp rfl rfl rfl rfl ?_
  refine rw_nil ?_
  (repeat refine cw_seq ?_)
  have hr1 : (slices_ContainsFunc_Step s1 f1) = decide ((slices_IndexFunc_Step s1 f1) ≥ 0) := by simp only [slices_ContainsFunc_Step, cond_true, cond_false]
  refine cw_ret ?_
  rw [hr1]
  exact ⟨(), _, (.cons (.tmp rfl) .nil), rfl, Sf, .nil _, .nil _⟩
theorem slices_ContainsFunc_Step_eq (s : List Step) (f : Step → Bool) : slices_ContainsFunc_Step s f = s.any f := by
  have key : ∀ (l : List Step) (k : Nat), decide (slices_IndexFunc_Step_L0 f l k ≥ 0) = l.any f := by
    intro l
    induction l with
    | nil => intro k; rfl
    | cons p r ih =>
      intro k
      rw [slices_IndexFunc_Step_L0, List.any_cons]
      cases f p with
      | true => simp only [cond_true, Bool.true_or, decide_eq_true_eq]; omega
      | false => rw [cond_false, ih, Bool.false_or]
  exact key s 0
theorem slices_ContainsFunc_Step_spec' (y1 : SlV) (s1 : List Step) (f1 : Nat) (caps1 : List Value) (pre1 : List Pred) [StabL pre1] (p1 : Step → Bool) (hfb1 : tab.fnb f1 = true) (hfn1 : ∀ (a0_ : Step), Does Try.prog f1 ([.agg ⟨[.int .i64 a0_.o.time, .int .i64 a0_.o.who, .int .i64 a0_.o.node, .int .i64 a0_.o.parent, .int .i64 a0_.o.name, .int .i64 a0_.o.life, .int .i64 a0_.o.seq, .bool a0_.did, .int .i64 a0_.was.node, .int .i64 a0_.was.parent, .int .i64 a0_.was.name]⟩] ++ caps1) pre1 (fun (_ : Unit) => .bool (p1 a0_)) (fun (_ : Unit) => [])) :
    Does Try.prog 187 [y1.val s1.length, .func (.func f1) #[] ⟨caps1⟩] (RdL EStep y1 s1 :: pre1) (fun (_ : Unit) => .bool (s1.any p1)) (fun (_ : Unit) => []) := by
  have := slices_ContainsFunc_Step_spec y1 s1 f1 caps1 pre1 p1 hfb1 hfn1
  rw [slices_ContainsFunc_Step_eq] at this
  exact this

def history_Put_1 (s1 : Step) (o1 : Op) : Bool :=
  decide ((⟨s1.o.time, s1.o.who⟩ : Stamp) = (⟨o1.time, o1.who⟩ : Stamp))
theorem history_Put_1_spec (s1 : Step) (c1 : Nat) (o1 : Op) : Does Try.prog 188 [.agg ⟨[.int .i64 s1.o.time, .int .i64 s1.o.who, .int .i64 s1.o.node, .int .i64 s1.o.parent, .int .i64 s1.o.name, .int .i64 s1.o.life, .int .i64 s1.o.seq, .bool s1.did, .int .i64 s1.was.node, .int .i64 s1.was.parent, .int .i64 s1.was.name]⟩, .pointer (some ⟨c1, 0, none⟩)] [VarP c1 [.int .i64 o1.time, .int .i64 o1.who, .int .i64 o1.node, .int .i64 o1.parent, .int .i64 o1.name, .int .i64 o1.life, .int .i64 o1.seq]] (fun (_ : Unit) => .bool (history_Put_1 s1 o1)) (fun (_ : Unit) => []) := by
  refine does_of tab_ok Try.func188 rfl Try.ntmps188 Try.results188 rfl inferInstance (fun _ => inferInstance) fun C => ?_
  (repeat refine cw_seq ?_); refine cw_region ?_
  refine rw_box_agg .sq (guard_none rfl) rfl rfl rfl rfl rfl fun g1 => ?_
  refine Rp rfl rfl rfl rfl ?_
  refine rw_nil ?_
  (repeat refine cw_seq ?_); refine cw_region ?_
  refine Rp rfl rfl rfl rfl ?_
  refine Rp rfl rfl rfl rfl ?_
  refine rw_q rfl rfl rfl (q_ldP rfl rfl (fun _ => rfl) rfl Mm rfl) ?_
  refine Rp rfl rfl rfl rfl ?_
  refine rw_q rfl rfl rfl (q_lfP rfl rfl (fun _ => rfl) rfl Mm rfl) ?_
  refine rw_q rfl rfl rfl (q_eqE eqT_Stamp (flatEq_Stamp (⟨s1.o.time, s1.o.who⟩ : Stamp) (⟨o1.time, o1.who⟩ : Stamp)) rfl rfl (fun _ => rfl) rfl (fun _ => rfl) rfl rfl) ?_
  refine Rp rfl rfl rfl rfl ?_
  refine rw_nil ?_
  (repeat refine cw_seq ?_)
  have hr1 : (history_Put_1 s1 o1) = decide ((⟨s1.o.time, s1.o.who⟩ : Stamp) = (⟨o1.time, o1.who⟩ : Stamp)) := by simp only [history_Put_1, cond_true, cond_false]
  refine cw_ret ?_
  rw [hr1]
  exact ⟨(), _, (.cons (.tmp rfl) .nil), rfl, Sm, .nil _, .nil _⟩

def history_Put_L1  : List Op → (List Step) → (List Place) → (History × Int)
  | [], l2, p2 => ((⟨l2, p2⟩ : History), 0)
  | pn2 :: rn2, l2, p2 => (bif (((move_Do p2 pn2).2.2) != 0) then ((⟨([] : List Step), ([] : List Place)⟩ : History), (move_Do p2 pn2).2.2) else (history_Put_L1 rn2 (l2 ++ [((move_Do p2 pn2).2.1)]) ((move_Do p2 pn2).1)))
def history_Put_L0 (o1 : Op) : Nat → (List Op) → Int → (List Step) → (List Place) → (History × Int)
  | 0, later1, n1, l1, p1 => default
  | f_k0 + 1, later1, n1, l1, p1 => (bif (decide (n1 > 0) && (move_Before (⟨o1.time, o1.who⟩ : Stamp) (⟨((gt l1 ((n1 - 1).toNat)).o).time, ((gt l1 ((n1 - 1).toNat)).o).who⟩ : Stamp))) then (bif (((move_Undo p1 (gt l1 ((n1 - 1).toNat))).2) != 0) then ((⟨([] : List Step), ([] : List Place)⟩ : History), (move_Undo p1 (gt l1 ((n1 - 1).toNat))).2) else (history_Put_L0 o1 f_k0 (later1 ++ [((gt l1 ((n1 - 1).toNat)).o)]) (n1 - 1) (l1.take ((n1 - 1).toNat)) ((move_Undo p1 (gt l1 ((n1 - 1).toNat))).1))) else (history_Put_L1 (slices_ReverseK_Op later1 1) l1 p1))
def history_Put (h1 : History) (o1 : Op) : History × Int :=
  (bif ((move_Check o1) != 0) then ((⟨([] : List Step), ([] : List Place)⟩ : History), (move_Check o1)) else (bif (h1.l.any (fun a0_ => history_Put_1 a0_ o1)) then ((⟨([] : List Step), ([] : List Place)⟩ : History), 6) else (bif ((h1.l.length : Int) == 30) then ((⟨([] : List Step), ([] : List Place)⟩ : History), 2) else (history_Put_L0 o1 (h1.l.length + 1) [o1] (h1.l.length : Int) h1.l h1.t))))
theorem history_Put_spec (y1 : SlV) (y2 : SlV) (h1 : History) (o1 : Op) (hl : h1.l.length ≤ 1000) : Does Try.prog 159 [.agg ⟨[y1.val h1.l.length, y2.val h1.t.length]⟩, .agg ⟨[.int .i64 o1.time, .int .i64 o1.who, .int .i64 o1.node, .int .i64 o1.parent, .int .i64 o1.name, .int .i64 o1.life, .int .i64 o1.seq]⟩] [RdL EStep y1 h1.l, RdL EPlace y2 h1.t] (fun (X : SlV × SlV) => .tuple #[.agg ⟨[X.1.val (((history_Put h1 o1).1).l).length, X.2.val (((history_Put h1 o1).1).t).length]⟩, .int .i64 ((history_Put h1 o1).2)]) (fun (X : SlV × SlV) => [RdL EStep X.1 (((history_Put h1 o1).1).l), RdL EPlace X.2 (((history_Put h1 o1).1).t)]) := by
  refine does_of tab_ok Try.func159 rfl Try.ntmps159 Try.results159 rfl inferInstance (fun _ => inferInstance) fun C => ?_
  refine cw_pure (φ := h1.l.length * 88 ≤ 140737488355328) [RdL EStep y1 h1.l] Sm (fun M w h => (allF1 h).len) fun hlen1 => ?_
  refine cw_pure (φ := h1.t.length * 24 ≤ 140737488355328) [RdL EPlace y2 h1.t] Sm (fun M w h => (allF1 h).len) fun hlen2 => ?_
  (repeat refine cw_seq ?_); refine cw_region ?_
  refine rw_box_agg .sq (guard_none rfl) rfl rfl rfl rfl rfl fun g1 => ?_
  refine rw_box_agg .sq (guard_none rfl) rfl rfl rfl rfl rfl fun g2 => ?_
  refine rw_alloc .sq (guard_none rfl) rfl rfl rfl rfl fun g3 => ?_
  refine Rp rfl rfl rfl rfl ?_
  refine rw_nil ?_
  (repeat refine cw_seq ?_); refine cw_region ?_
  refine rw_q rfl rfl rfl (q_ldA rfl rfl (fun _ => rfl) rfl Mm rfl) ?_
  refine rw_call (move_Check_spec o1) .sq (guard_none rfl) rfl rfl rfl Kr rfl rfl Sm ?_
  intro _
  refine Rp rfl rfl rfl rfl ?_
  refine rw_nil ?_
  (repeat refine cw_seq ?_); refine cw_region ?_
  refine Rp rfl rfl rfl rfl ?_
  refine Rp rfl rfl rfl rfl ?_
  refine rw_nil ?_
  (repeat refine cw_seq ?_); refine cw_cond (b := ((move_Check o1) != 0)) rfl rfl (fun hc1 => ?_) (fun hc1 => ?_)
  · skip
    have hc1p := bne_iff_ne.1 hc1
    (repeat refine cw_seq ?_); refine cw_region ?_
    refine Rp rfl rfl rfl rfl ?_
    refine Rp rfl rfl rfl rfl ?_
    refine rw_stA .sq (.inl ⟨_, rfl⟩) (guard_none rfl) rfl rfl rfl rfl rfl rfl rfl rfl rfl Ub rfl ?_
    refine Rp rfl rfl rfl rfl ?_
    refine rw_nil ?_
    (repeat refine cw_seq ?_)
    refine cw_fact (F := RdL EStep ⟨none, 0⟩ ([] : List Step)) [] (.nil _) (fun M w _ => RdL.nil _ _ _ (by omega) M w) ?_
    refine cw_fact (F := RdL EPlace ⟨none, 0⟩ ([] : List Place)) [] (.nil _) (fun M w _ => RdL.nil _ _ _ (by omega) M w) ?_
    have hr1 : (history_Put h1 o1) = ((⟨([] : List Step), ([] : List Place)⟩ : History), (move_Check o1)) := by simp only [history_Put, hc1, cond_true, cond_false]
    refine cw_ret ?_
    rw [hr1]
    exact ⟨⟨(⟨none, 0⟩ : SlV), (⟨none, 0⟩ : SlV)⟩, _, (.cons (.agg rfl rfl Mm rfl) (.cons (.tmp rfl) .nil)), rfl, Sm, .nil _, .nil _⟩
  · skip
    have hc1p := eq_of_bne_false hc1
    (repeat refine cw_seq ?_); refine cw_skip ?_
    (repeat refine cw_seq ?_); refine cw_region ?_
    refine Rp rfl rfl rfl rfl ?_
    refine rw_q rfl rfl rfl (q_ld1 rfl rfl (fun _ => rfl) rfl Mm rfl) ?_
    refine Rp rfl rfl rfl rfl ?_
    refine rw_le (le_var (g := g2) Pk) ?_
    refine rw_call (slices_ContainsFunc_Step_spec' y1 h1.l _ _ _ (fun a0_ => history_Put_1 a0_ o1) Kr (fun a0_ => history_Put_1_spec a0_ g2 o1)) .sq (guard_none rfl) rfl rfl rfl Kr rfl rfl Sm ?_
    intro _
    refine rw_nil ?_
    (repeat refine cw_seq ?_); refine cw_cond (b := (h1.l.any (fun a0_ => history_Put_1 a0_ o1))) rfl rfl (fun hc2 => ?_) (fun hc2 => ?_)
    · skip
      (repeat refine cw_seq ?_); refine cw_region ?_
      refine Rp rfl rfl rfl rfl ?_
      refine rw_stA .sq (.inl ⟨_, rfl⟩) (guard_none rfl) rfl rfl rfl rfl rfl rfl rfl rfl rfl Ub rfl ?_
      refine Rp rfl rfl rfl rfl ?_
      refine rw_nil ?_
      (repeat refine cw_seq ?_)
      refine cw_fact (F := RdL EStep ⟨none, 0⟩ ([] : List Step)) [] (.nil _) (fun M w _ => RdL.nil _ _ _ (by omega) M w) ?_
      refine cw_fact (F := RdL EPlace ⟨none, 0⟩ ([] : List Place)) [] (.nil _) (fun M w _ => RdL.nil _ _ _ (by omega) M w) ?_
      have hr2 : (history_Put h1 o1) = ((⟨([] : List Step), ([] : List Place)⟩ : History), 6) := by simp only [history_Put, hc1, hc2, cond_true, cond_false]
      refine cw_ret ?_
      rw [hr2]
      exact ⟨⟨(⟨none, 0⟩ : SlV), (⟨none, 0⟩ : SlV)⟩, _, (.cons (.agg rfl rfl Mm rfl) (.cons (.tmp rfl) .nil)), rfl, Sm, .nil _, .nil _⟩
    · skip
      (repeat refine cw_seq ?_); refine cw_skip ?_
      (repeat refine cw_seq ?_); refine cw_region ?_
      refine Rp rfl rfl rfl rfl ?_
      refine rw_q rfl rfl rfl (q_ld1 rfl rfl (fun _ => rfl) rfl Mm rfl) ?_
      refine Rp rfl rfl rfl rfl ?_
      refine Rp rfl rfl rfl rfl ?_
      refine rw_nil ?_
      (repeat refine cw_seq ?_); refine cw_cond (b := ((h1.l.length : Int) == 30)) rfl rfl (fun hc3 => ?_) (fun hc3 => ?_)
      · skip
        have hc3p := eq_of_beq hc3
        (repeat refine cw_seq ?_); refine cw_region ?_
        refine Rp rfl rfl rfl rfl ?_
        refine rw_stA .sq (.inl ⟨_, rfl⟩) (guard_none rfl) rfl rfl rfl rfl rfl rfl rfl rfl rfl Ub rfl ?_
        refine Rp rfl rfl rfl rfl ?_
        refine rw_nil ?_
        (repeat refine cw_seq ?_)
        refine cw_fact (F := RdL EStep ⟨none, 0⟩ ([] : List Step)) [] (.nil _) (fun M w _ => RdL.nil _ _ _ (by omega) M w) ?_
        refine cw_fact (F := RdL EPlace ⟨none, 0⟩ ([] : List Place)) [] (.nil _) (fun M w _ => RdL.nil _ _ _ (by omega) M w) ?_
        have hr3 : (history_Put h1 o1) = ((⟨([] : List Step), ([] : List Place)⟩ : History), 2) := by simp only [history_Put, hc1, hc2, hc3, cond_true, cond_false]
        refine cw_ret ?_
        rw [hr3]
        exact ⟨⟨(⟨none, 0⟩ : SlV), (⟨none, 0⟩ : SlV)⟩, _, (.cons (.agg rfl rfl Mm rfl) (.cons (.tmp rfl) .nil)), rfl, Sm, .nil _, .nil _⟩
      · skip
        have hc3p := ne_of_beq_false hc3
        (repeat refine cw_seq ?_); refine cw_skip ?_
        (repeat refine cw_seq ?_); refine cw_region ?_
        refine rw_q rfl rfl rfl (q_ldA rfl rfl (fun _ => rfl) rfl Mm rfl) ?_
        refine rw_callG (history_Copy_spec y1 y2 h1) .sq (.inl ⟨_, rfl⟩) (guard_none rfl) rfl rfl rfl Kr rfl rfl Sm (.nil _) (.nil _) ?_
        intro x1
        refine rw_pure (φ := h1.t.length * 24 ≤ 140737488355328) [RdL EPlace x1.2.2 h1.t] Sm (fun M w h => (allF1 h).len) fun hlen3 => ?_
        refine rw_stA .sq (.inl ⟨_, rfl⟩) (guard_none rfl) rfl rfl rfl rfl rfl rfl rfl rfl rfl Ub rfl ?_
        refine rw_nil ?_
        (repeat refine cw_seq ?_); refine cw_region ?_
        refine rw_q rfl rfl rfl (q_lfA rfl rfl (fun _ => rfl) rfl Mm rfl) ?_
        refine rw_bsliceL EOp [o1] .sq (guard_none rfl) rfl rfl rfl rfl rfl rfl rfl rfl rfl rfl rfl rfl rfl rfl rfl fun x2 x2b => ?_
        refine Rp rfl rfl rfl rfl ?_
        refine rw_nil ?_
        (repeat refine cw_seq ?_); refine cw_region ?_
        refine Rp rfl rfl rfl rfl ?_
        refine rw_q rfl rfl rfl (q_ld1 rfl rfl (fun _ => rfl) rfl Mm rfl) ?_
        refine Rp rfl rfl rfl rfl ?_
        refine Rp rfl rfl rfl rfl ?_
        refine rw_nil ?_
        (repeat refine cw_seq ?_); refine cw_block ?_
        (repeat refine cw_seq ?_); refine cw_loopS [2, 3, 4, 5] [true, false] (fun (i_ : List Op × SlV × Option Nat × Int × List Step × List Place × SlV × Nat) => match i_ with | ⟨later1, x3, x3b, n1, l1, p1, x5, fz1⟩ => [(7, .v (x3.val later1.length)), (8, .v (.int .i64 n1))]) (fun (i_ : List Op × SlV × Option Nat × Int × List Step × List Place × SlV × Nat) => match i_ with | ⟨later1, x3, x3b, n1, l1, p1, x5, fz1⟩ => [⟨g1, 94, [x1.1.val l1.length, x5.val p1.length]⟩]) (fun (i_ : List Op × SlV × Option Nat × Int × List Step × List Place × SlV × Nat) => match i_ with | ⟨later1, x3, x3b, n1, l1, p1, x5, fz1⟩ => [ownL EOp 33 x3 x3b later1, ownL EStep 37 x1.1 x1.2.1 l1]) (fun (i_ : List Op × SlV × Option Nat × Int × List Step × List Place × SlV × Nat) => match i_ with | ⟨later1, x3, x3b, n1, l1, p1, x5, fz1⟩ => [RdL EPlace x5 p1]) (fun (i_ : List Op × SlV × Option Nat × Int × List Step × List Place × SlV × Nat) => match i_ with | ⟨later1, x3, x3b, n1, l1, p1, x5, fz1⟩ => (n1 = (l1.length : Int) ∧ 1 ≤ later1.length ∧ later1.length + l1.length = h1.l.length + 1) ∧ (n1.toNat < fz1) ∧ (history_Put_L0 o1 (fz1) later1 n1 l1 p1) = (history_Put h1 o1)) (fun (i_ : List Op × SlV × Option Nat × Int × List Step × List Place × SlV × Nat) => match i_ with | ⟨later1, x3, x3b, n1, l1, p1, x5, fz1⟩ => fz1) ⟨[o1], x2, x2b, (h1.l.length : Int), h1.l, h1.t, x1.2.2, h1.l.length + 1⟩ (.cons rfl (.cons rfl (.cons rfl (.cons rfl (.nil _))))) (.keep (.drop (.nil))) ⟨⟨rfl, Nat.le_refl _, by simp only [List.length_cons, List.length_nil]; omega⟩, (by first | exact Nat.le_refl _ | exact Nat.zero_le _ | omega), (by simp only [history_Put, hc1, hc2, hc3, cond_true, cond_false] : (history_Put h1 o1) = (history_Put_L0 o1 (h1.l.length + 1) [o1] (h1.l.length : Int) h1.l h1.t)).symm⟩ Le4 ?_
        rintro ⟨later1, x3, x3b, n1, l1, p1, x5, fz1⟩ ⟨hi, hzfz1, hf1⟩
        simp only [List.cons_append, List.nil_append]
        have hlt0_ : fz1 = (fz1 - 1) + 1 := by omega
        (repeat refine cw_seq ?_); refine cw_regionA (fun _ => some []) ?_
        refine ra_q (.ab (i := 0) (js := []) [1, 2, 3, 4, 5, 6, 7, 8, 9, 10, 11, 12, 13, 14] rfl Kr Kr Kr Kr Kr) (SplitB.all _) (by simp) rfl rfl rfl (q_pev rfl (fun _ => rfl)) ?_
        refine ra_q (.ab (i := 1) (js := []) [2, 3, 4, 5, 6, 7, 8, 9, 10, 11, 12, 13, 14] rfl Kr Kr Kr Kr Kr) (SplitB.all _) (by simp) rfl rfl rfl (q_pev rfl (fun _ => rfl)) ?_
        refine ra_q (.an (i := 2) (js := []) rfl Kr Kr Kr Kr) (SplitB.all _) (by simp) rfl rfl rfl (q_pev rfl (fun _ => rfl)) ?_
        refine ra_qg (.ab (i := 3) (js := [5, 6, 7, 8, 9, 10, 11, 12]) [4, 13, 14] rfl Kr Kr Kr Kr Kr) (SplitB.all _) (by simp) (guard_vt rfl rfl rfl) rfl rfl (q_pev rfl Bt) ?_
        refine ra_qg (.ab (i := 4) (js := [5, 6, 7, 8, 9, 10, 11, 12]) [13, 14] rfl Kr Kr Kr Kr Kr) (SplitB.all _) (by simp) (guard_vt rfl rfl rfl) rfl rfl (q_lfP rfl rfl Bt rfl Mm rfl) ?_
        refine ra_qg (.ab (i := 5) (js := [7, 8]) [6, 9, 10, 11, 12, 13, 14] rfl Kr Kr Kr Kr Kr) (SplitB.all _) (by simp) (guard_vt rfl rfl rfl) rfl rfl (q_pev rfl Bt) ?_
        refine ra_qg (.ab (i := 6) (js := [7, 8]) [9, 10, 11, 12, 13, 14] rfl Kr Kr Kr Kr Kr) (SplitB.all _) (by simp) (guard_vt rfl rfl rfl) rfl rfl (q_ld1 rfl rfl Bt rfl Mm rfl) ?_
        refine ra_qg (.ab (i := 7) (js := []) [8, 9, 10, 11, 12, 13, 14] rfl Kr Kr Kr Kr Kr) (SplitB.all _) (by simp) (guard_vt rfl rfl rfl) rfl rfl (q_pev rfl Bt) ?_
        refine ra_qg (.ab (i := 8) (js := []) [9, 10, 11, 12, 13, 14] rfl Kr Kr Kr Kr Kr) (SplitB.all _) (by simp) (guard_vt rfl rfl rfl) rfl rfl (q_sub rfl rfl Bt rfl Bt (by intro h; first | omega | (simp at h; omega))) ?_
        refine rw_qgO EStep (e := 37) (X := x1.1) (b := x1.2.1) (l := l1) Mm (.ab (i := 9) (js := []) [10, 11, 12, 13, 14] rfl Kr Kr Kr Kr Kr) (guard_vt rfl rfl rfl) rfl rfl (q_idx EStep ((n1 - 1).toNat) rfl rfl Bt rfl Bt rfl rfl rfl (.head _) rfl (by intro h; first | omega | rfl | (simp at h; omega)) (by first | (intro _; first | assumption | omega | (simp only [List.length_set]; omega)) | (intro h; simp at h; omega))) ?_
        refine ra_qg (.ab (i := 10) (js := []) [11, 12, 13, 14] rfl Kr Kr Kr Kr Kr) (SplitB.all _) (by simp) (guard_vt rfl rfl rfl) rfl rfl (q_fae rfl rfl Bt rfl rfl) ?_
        refine ra_qg (.ab (i := 11) (js := []) [12, 13, 14] rfl Kr Kr Kr Kr Kr) (SplitB.all _) (by simp) (guard_vt rfl rfl rfl) rfl rfl (q_fae rfl rfl Bt rfl rfl) ?_
        refine rw_qgO EStep (e := 37) (X := x1.1) (b := x1.2.1) (l := l1) Mm (.ab (i := 12) (js := []) [13, 14] rfl Kr Kr Kr Kr Kr) (guard_vt rfl rfl rfl) rfl rfl (q_leP EStep rfl rfl Bt rfl rfl (.head _) (by first | (intro _; first | assumption | omega | (simp only [List.length_set]; omega)) | (intro h; simp at h; omega)) rfl) ?_
        refine ra_one 13 Kr ?_
        refine rw_callg (fun hG_ => move_Before_spec (⟨o1.time, o1.who⟩ : Stamp) (⟨((gt l1 ((n1 - 1).toNat)).o).time, ((gt l1 ((n1 - 1).toNat)).o).who⟩ : Stamp)) (fun _ => rfl) (.an rfl rfl) (guard_vt rfl rfl rfl) rfl rfl rfl Kr rfl Bt Sm ?_
        refine ra_q (.an (i := 14) (js := []) rfl Kr Kr Kr Kr) (SplitB.all _) (by simp) rfl rfl rfl (q_pev rfl Bt) ?_
        refine ra_nil Kr ?_
        (repeat refine cw_seq ?_); refine cw_cond (b := (decide (n1 > 0) && (move_Before (⟨o1.time, o1.who⟩ : Stamp) (⟨((gt l1 ((n1 - 1).toNat)).o).time, ((gt l1 ((n1 - 1).toNat)).o).who⟩ : Stamp)))) rfl rfl (fun hc4 => ?_) (fun hc4 => ?_)
        · skip
          have hn0 := of_decide_eq_true (Bool.and_eq_true_iff.1 hc4).1
          (repeat refine cw_seq ?_); refine cw_skip ?_
          (repeat refine cw_seq ?_); refine cw_block ?_
          (repeat refine cw_seq ?_)
          refine cw_join [2, 3, 4, 5, 7, 8, 39, 40, 41, 53] [true, true] (fun (i_ : Nat × SlV) => match i_ with | ⟨g4, x6⟩ => [(9, .v (.pointer (some ⟨g4, 0, none⟩))), (10, .v (.int .i64 ((move_Undo p1 (gt l1 ((n1 - 1).toNat))).2))), (56, .v (.tuple #[.agg ⟨[x6.val ((move_Undo p1 (gt l1 ((n1 - 1).toNat))).1).length]⟩, .int .i64 ((move_Undo p1 (gt l1 ((n1 - 1).toNat))).2)])), (57, .v (.pointer (some ⟨g1, 1, none⟩))), (58, .v (.agg ⟨[x5.val p1.length]⟩)), (59, .v (.pointer (some ⟨g1, 0, none⟩))), (60, .v (x1.1.val l1.length)), (61, .v (.int .i64 n1)), (62, .v (.int .i64 (n1 - 1))), (64, .v (.agg ⟨[.int .i64 (((gt l1 ((n1 - 1).toNat)).o).time), .int .i64 (((gt l1 ((n1 - 1).toNat)).o).who), .int .i64 (((gt l1 ((n1 - 1).toNat)).o).node), .int .i64 (((gt l1 ((n1 - 1).toNat)).o).parent), .int .i64 (((gt l1 ((n1 - 1).toNat)).o).name), .int .i64 (((gt l1 ((n1 - 1).toNat)).o).life), .int .i64 (((gt l1 ((n1 - 1).toNat)).o).seq), .bool ((gt l1 ((n1 - 1).toNat)).did), .int .i64 (((gt l1 ((n1 - 1).toNat)).was).node), .int .i64 (((gt l1 ((n1 - 1).toNat)).was).parent), .int .i64 (((gt l1 ((n1 - 1).toNat)).was).name)]⟩)), (65, .v (.tuple #[.agg ⟨[x6.val ((move_Undo p1 (gt l1 ((n1 - 1).toNat))).1).length]⟩, .int .i64 ((move_Undo p1 (gt l1 ((n1 - 1).toNat))).2)])), (66, .v (.agg ⟨[x6.val ((move_Undo p1 (gt l1 ((n1 - 1).toNat))).1).length]⟩)), (67, .v (.int .i64 ((move_Undo p1 (gt l1 ((n1 - 1).toNat))).2)))]) (fun (i_ : Nat × SlV) => match i_ with | ⟨g4, x6⟩ => [⟨g4, 29, [x6.val ((move_Undo p1 (gt l1 ((n1 - 1).toNat))).1).length]⟩]) (fun (i_ : Nat × SlV) => match i_ with | ⟨g4, x6⟩ => [ownL EOp 33 x3 x3b later1, ownL EStep 37 x1.1 x1.2.1 l1]) (fun (i_ : Nat × SlV) => match i_ with | ⟨g4, x6⟩ => [RdL EPlace x6 ((move_Undo p1 (gt l1 ((n1 - 1).toNat))).1), RdL EPlace x5 p1]) (fun _ => True) (.cons rfl (.cons rfl (.cons rfl (.cons rfl (.cons rfl (.cons rfl (.cons rfl (.cons rfl (.cons rfl (.cons rfl (.nil _))))))))))) (.keep (.keep (.nil))) ?_ ?_
          · skip
            refine cw_regionA (fun j => match j with | 13 => none | _ => some []) ?_
            refine ra_q (.ab (i := 0) (js := [2, 3, 4, 5, 6, 7, 12]) [1, 8, 9, 10, 11, 13, 14] rfl Kr Kr Kr Kr Kr) (SplitB.all _) (by simp) rfl rfl rfl (q_pev rfl (fun _ => rfl)) ?_
            refine ra_q (.ab (i := 1) (js := [2, 3, 4, 5, 6, 7, 12]) [8, 9, 10, 11, 13, 14] rfl Kr Kr Kr Kr Kr) (SplitB.all _) (by simp) rfl rfl rfl (q_ldP rfl rfl (fun _ => rfl) rfl Mm rfl) ?_
            refine ra_q (.ab (i := 2) (js := [4, 5, 12]) [3, 6, 7, 8, 9, 10, 11, 13, 14] rfl Kr Kr Kr Kr Kr) (SplitB.all _) (by simp) rfl rfl rfl (q_pev rfl (fun _ => rfl)) ?_
            refine ra_q (.ab (i := 3) (js := [4, 5, 12]) [6, 7, 8, 9, 10, 11, 13, 14] rfl Kr Kr Kr Kr Kr) (SplitB.all _) (by simp) rfl rfl rfl (q_ld1 rfl rfl (fun _ => rfl) rfl Mm rfl) ?_
            refine ra_q (.ab (i := 4) (js := [12]) [5, 6, 7, 8, 9, 10, 11, 13, 14] rfl Kr Kr Kr Kr Kr) (SplitB.all _) (by simp) rfl rfl rfl (q_pev rfl (fun _ => rfl)) ?_
            refine ra_q (.ab (i := 5) (js := [12]) [6, 7, 8, 9, 10, 11, 13, 14] rfl Kr Kr Kr Kr Kr) (SplitB.all _) (by simp) rfl rfl rfl (q_sub rfl rfl (fun _ => rfl) rfl (fun _ => rfl) (fun _ => by omega)) ?_
            refine rw_qO EStep (e := 37) (X := x1.1) (b := x1.2.1) (l := l1) Mm (.ab (i := 6) (js := [12]) [7, 8, 9, 10, 11, 13, 14] rfl Kr Kr Kr Kr Kr) rfl rfl rfl (q_idx EStep ((n1 - 1).toNat) rfl rfl (fun _ => rfl) rfl (fun _ => rfl) rfl rfl rfl (.head _) rfl (fun _ => by omega) (fun _ => by first | assumption | omega | (simp only [List.length_set]; omega))) ?_
            refine rw_qO EStep (e := 37) (X := x1.1) (b := x1.2.1) (l := l1) Mm (.ab (i := 7) (js := [12]) [8, 9, 10, 11, 13, 14] rfl Kr Kr Kr Kr Kr) rfl rfl rfl (q_leA EStep rfl rfl (fun _ => rfl) rfl rfl (.head _) (fun _ => by first | assumption | omega | (simp only [List.length_set]; omega))) ?_
            refine ra_two 8 12 Kr ?_ ?_
            · skip
              refine rw_call (move_Undo_spec x5 p1 (gt l1 ((n1 - 1).toNat))) (.an rfl rfl) (guard_none rfl) rfl rfl rfl Kr rfl rfl Sm ?_
              intro x7
              refine rw_pure (φ := ((move_Undo p1 (gt l1 ((n1 - 1).toNat))).1).length * 24 ≤ 140737488355328) [RdL EPlace x7 ((move_Undo p1 (gt l1 ((n1 - 1).toNat))).1)] Sm (fun M w h => (allF1 h).len) fun hlen4 => ?_
              refine ra_q (.an (i := 9) (js := [12]) rfl Kr Kr Kr Kr) (SplitB.all _) (by simp) rfl rfl rfl (q_pev rfl (fun _ => rfl)) ?_
              refine ra_q (.an (i := 10) (js := [11, 12]) rfl Kr Kr Kr Kr) (SplitB.all _) (by simp) rfl rfl rfl (q_pev rfl (fun _ => rfl)) ?_
              refine ra_p (.an (i := 11) (js := [12, 13]) rfl Kr Kr Kr Kr) rfl rfl rfl (q_pev rfl (fun _ => rfl)) ?_
              refine ra_one 12 Kr ?_
              refine rw_alloc (.an rfl rfl) (guard_none rfl) rfl rfl rfl rfl fun g5 => ?_
              refine ra_one 13 Kr ?_
              refine rw_stA (.lo [g5] rfl rfl) (.inr (by simp)) (guard_none rfl) rfl rfl rfl rfl rfl rfl rfl rfl rfl Ub rfl ?_
              refine ra_q (.an (i := 14) (js := []) rfl Kr Kr Kr Kr) (SplitB.all _) (by simp) rfl rfl rfl (q_pev rfl (fun _ => rfl)) ?_
              refine ra_nil Kr ?_
              refine ⟨⟨g5, x7⟩, trivial, Le4⟩
            · skip
              refine rw_alloc (.an rfl rfl) (guard_none rfl) rfl rfl rfl rfl fun g6 => ?_
              refine ra_one 8 Kr ?_
              refine rw_call (move_Undo_spec x5 p1 (gt l1 ((n1 - 1).toNat))) (.an rfl rfl) (guard_none rfl) rfl rfl rfl Kr rfl rfl Sm ?_
              intro x8
              refine rw_pure (φ := ((move_Undo p1 (gt l1 ((n1 - 1).toNat))).1).length * 24 ≤ 140737488355328) [RdL EPlace x8 ((move_Undo p1 (gt l1 ((n1 - 1).toNat))).1)] Sm (fun M w h => (allF1 h).len) fun hlen5 => ?_
              refine ra_q (.an (i := 9) (js := []) rfl Kr Kr Kr Kr) (SplitB.all _) (by simp) rfl rfl rfl (q_pev rfl (fun _ => rfl)) ?_
              refine ra_q (.an (i := 10) (js := [11]) rfl Kr Kr Kr Kr) (SplitB.all _) (by simp) rfl rfl rfl (q_pev rfl (fun _ => rfl)) ?_
              refine ra_p (.an (i := 11) (js := [13]) rfl Kr Kr Kr Kr) rfl rfl rfl (q_pev rfl (fun _ => rfl)) ?_
              refine ra_one 13 Kr ?_
              refine rw_stA (.lo [g6] rfl rfl) (.inr (by simp)) (guard_none rfl) rfl rfl rfl rfl rfl rfl rfl rfl rfl Ub rfl ?_
              refine ra_q (.an (i := 14) (js := []) rfl Kr Kr Kr Kr) (SplitB.all _) (by simp) rfl rfl rfl (q_pev rfl (fun _ => rfl)) ?_
              refine ra_nil Kr ?_
              refine ⟨⟨g6, x8⟩, trivial, Le4⟩
          · skip
            rintro ⟨g4, x6⟩ -
            simp only [List.cons_append, List.nil_append]
            (repeat refine cw_seq ?_); refine cw_region ?_
            refine Rp rfl rfl rfl rfl ?_
            refine Rp rfl rfl rfl rfl ?_
            refine rw_nil ?_
            (repeat refine cw_seq ?_); refine cw_cond (b := (((move_Undo p1 (gt l1 ((n1 - 1).toNat))).2) != 0)) rfl rfl (fun hc5 => ?_) (fun hc5 => ?_)
            · skip
              have hc5p := bne_iff_ne.1 hc5
              (repeat refine cw_seq ?_); refine cw_region ?_
              refine Rp rfl rfl rfl rfl ?_
              refine Rp rfl rfl rfl rfl ?_
              refine rw_stA .sq (.inl ⟨_, rfl⟩) (guard_none rfl) rfl rfl rfl rfl rfl rfl rfl rfl rfl Ub rfl ?_
              refine Rp rfl rfl rfl rfl ?_
              refine rw_nil ?_
              (repeat refine cw_seq ?_)
              refine cw_fact (F := RdL EStep ⟨none, 0⟩ ([] : List Step)) [] (.nil _) (fun M w _ => RdL.nil _ _ _ (by omega) M w) ?_
              refine cw_fact (F := RdL EPlace ⟨none, 0⟩ ([] : List Place)) [] (.nil _) (fun M w _ => RdL.nil _ _ _ (by omega) M w) ?_
              have hr4 : (history_Put h1 o1) = ((⟨([] : List Step), ([] : List Place)⟩ : History), (move_Undo p1 (gt l1 ((n1 - 1).toNat))).2) := by rw [← hf1]; (conv => lhs; rw [hlt0_]); simp only [history_Put_L0, hc4, hc5, cond_true, cond_false]
              refine cw_ret ?_
              rw [hr4]
              exact ⟨⟨(⟨none, 0⟩ : SlV), (⟨none, 0⟩ : SlV)⟩, _, (.cons (.agg rfl rfl Mm rfl) (.cons (.tmp rfl) .nil)), rfl, Sm, .nil _, .nil _⟩
            · skip
              have hc5p := eq_of_bne_false hc5
              (repeat refine cw_seq ?_); refine cw_skip ?_
              (repeat refine cw_seq ?_); refine cw_region ?_
              refine Rp rfl rfl rfl rfl ?_
              refine Rp rfl rfl rfl rfl ?_
              refine rw_q rfl rfl rfl (q_ld1 rfl rfl (fun _ => rfl) rfl Mm rfl) ?_
              refine Rp rfl rfl rfl rfl ?_
              refine rw_q rfl rfl rfl (q_sub rfl rfl (fun _ => rfl) rfl (fun _ => rfl) (fun _ => by omega)) ?_
              refine rw_qO EStep (e := 37) (X := x1.1) (b := x1.2.1) (l := l1) Mm .sq rfl rfl rfl (q_idx EStep ((n1 - 1).toNat) rfl rfl (fun _ => rfl) rfl (fun _ => rfl) rfl rfl rfl (.head _) rfl (fun _ => by omega) (fun _ => by first | assumption | omega | (simp only [List.length_set]; omega))) ?_
              refine rw_q rfl rfl rfl (q_fae rfl rfl (fun _ => rfl) rfl rfl) ?_
              refine rw_qO EStep (e := 37) (X := x1.1) (b := x1.2.1) (l := l1) Mm .sq rfl rfl rfl (q_leP EStep rfl rfl (fun _ => rfl) rfl rfl (.head _) (fun _ => by first | assumption | omega | (simp only [List.length_set]; omega)) rfl) ?_
              refine rw_bsliceL EOp [((gt l1 ((n1 - 1).toNat)).o)] .sq (guard_none rfl) rfl rfl rfl rfl rfl rfl rfl rfl rfl rfl rfl rfl rfl rfl rfl fun x9 x9b => ?_
              refine rw_appendL EOp later1 [((gt l1 ((n1 - 1).toNat)).o)] (b := x3b) .sq (fun _ _ => .inl ⟨_, rfl⟩) (guard_none rfl) rfl rfl rfl rfl rfl rfl rfl (fun _ _ => Uo) rfl rfl rfl rfl rfl rfl rfl (reads_ownL (e := 33) (b := x9b) Mm) (by show (later1.length + 1) * 56 ≤ 140737488355328; (try simp only [List.length_append, List.length_cons, List.length_nil]); omega) fun x10 x10b => ?_
              refine Rp rfl rfl rfl rfl ?_
              refine rw_nil ?_
              (repeat refine cw_seq ?_); refine cw_regionA (fun j => match j with | 7 => some [g1] | 9 => some [g1] | _ => some []) ?_
              refine ra_q (.an (i := 0) (js := [1, 2, 3, 4, 5]) rfl Kr Kr Kr Kr) (SplitB.all _) (by simp) rfl rfl rfl (q_ldA rfl rfl (fun _ => rfl) rfl Mm rfl) ?_
              refine ra_q (.ab (i := 1) (js := [3, 4]) [2, 5, 6, 7, 8, 9] rfl Kr Kr Kr Kr Kr) (SplitB.all _) (by simp) rfl rfl rfl (q_pev rfl (fun _ => rfl)) ?_
              refine ra_q (.an (i := 2) (js := [3, 4]) rfl Kr Kr Kr Kr) (SplitB.all _) (by simp) rfl rfl rfl (q_ld1 rfl rfl (fun _ => rfl) rfl Mm rfl) ?_
              refine ra_q (.ab (i := 3) (js := [6, 7]) [4, 5, 8, 9] rfl Kr Kr Kr Kr Kr) (.keep (.drop (SplitB.all _))) (by intro g hg; simp at hg; simp [hg]) rfl rfl rfl (q_pev rfl (fun _ => rfl)) ?_
              refine ra_q (.an (i := 4) (js := [6, 7]) rfl Kr Kr Kr Kr) (.keep (.drop (SplitB.all _))) (by intro g hg; simp at hg; simp [hg]) rfl rfl rfl (q_sub rfl rfl (fun _ => rfl) rfl (fun _ => rfl) (fun _ => by omega)) ?_
              refine ra_q (.an (i := 6) (js := [5]) rfl Kr Kr Kr Kr) (SplitB.all _) (by simp) rfl rfl rfl (q_pev rfl (fun _ => rfl)) ?_
              refine ra_two 5 7 Kr ?_ ?_
              · skip
                refine rw_takeOL EStep l1 ((n1 - 1).toNat) (e := 37) (X := x1.1) (ob := x1.2.1) (.an rfl rfl) (guard_none rfl) rfl rfl rfl rfl rfl rfl rfl rfl rfl Uo (by omega) (by first | omega | (simp only [List.length_set]; omega)) ?_
                refine ra_one 7 Kr ?_
                refine rw_stP (.an rfl rfl) (.inr (by simp)) (guard_none rfl) rfl rfl rfl rfl rfl rfl rfl rfl rfl Ub rfl ?_
                refine ra_q (.an (i := 8) (js := []) rfl Kr Kr Kr Kr) (SplitB.all _) (by simp) rfl rfl rfl (q_pev rfl (fun _ => rfl)) ?_
                refine ra_one 9 Kr ?_
                refine rw_st1 (.an rfl rfl) (.inr (by simp)) (guard_none rfl) rfl rfl rfl rfl rfl rfl rfl rfl rfl Ub rfl ?_
                refine ra_nil Kr ?_
                (repeat refine cw_seq ?_); refine cw_region ?_
                refine Rp rfl rfl rfl rfl ?_
                refine rw_q rfl rfl rfl (q_sub rfl rfl (fun _ => rfl) rfl (fun _ => rfl) (fun _ => by omega)) ?_
                refine Rp rfl rfl rfl rfl ?_
                refine rw_nil ?_
                refine ⟨⟨(later1 ++ [((gt l1 ((n1 - 1).toNat)).o)]), x10, x10b, (n1 - 1), (l1.take ((n1 - 1).toNat)), (move_Undo p1 (gt l1 ((n1 - 1).toNat))).1, x6, (fz1 - 1)⟩, ⟨(by (try simp only [List.length_append, List.length_cons, List.length_nil, List.length_take]); omega), (by (try simp only []); first | omega | (simp only [List.length_append, List.length_cons, List.length_nil]; omega)), (by rw [← hf1]; (conv => lhs; rw [hlt0_]); simp only [history_Put_L0, hc4, hc5, cond_true, cond_false] : (history_Put h1 o1) = (history_Put_L0 o1 (fz1 - 1) (later1 ++ [((gt l1 ((n1 - 1).toNat)).o)]) (n1 - 1) (l1.take ((n1 - 1).toNat)) ((move_Undo p1 (gt l1 ((n1 - 1).toNat))).1))).symm⟩, (by simp only []; omega), Le4⟩
              · skip
                refine rw_stP (.an rfl rfl) (.inr (by simp)) (guard_none rfl) rfl rfl rfl rfl rfl rfl rfl rfl rfl Ub rfl ?_
                refine ra_one 5 Kr ?_
                refine rw_takeOL EStep l1 ((n1 - 1).toNat) (e := 37) (X := x1.1) (ob := x1.2.1) (.an rfl rfl) (guard_none rfl) rfl rfl rfl rfl rfl rfl rfl rfl rfl Uo (by omega) (by first | omega | (simp only [List.length_set]; omega)) ?_
                refine ra_q (.an (i := 8) (js := []) rfl Kr Kr Kr Kr) (SplitB.all _) (by simp) rfl rfl rfl (q_pev rfl (fun _ => rfl)) ?_
                refine ra_one 9 Kr ?_
                refine rw_st1 (.an rfl rfl) (.inr (by simp)) (guard_none rfl) rfl rfl rfl rfl rfl rfl rfl rfl rfl Ub rfl ?_
                refine ra_nil Kr ?_
                (repeat refine cw_seq ?_); refine cw_region ?_
                refine Rp rfl rfl rfl rfl ?_
                refine rw_q rfl rfl rfl (q_sub rfl rfl (fun _ => rfl) rfl (fun _ => rfl) (fun _ => by omega)) ?_
                refine Rp rfl rfl rfl rfl ?_
                refine rw_nil ?_
                refine ⟨⟨(later1 ++ [((gt l1 ((n1 - 1).toNat)).o)]), x10, x10b, (n1 - 1), (l1.take ((n1 - 1).toNat)), (move_Undo p1 (gt l1 ((n1 - 1).toNat))).1, x6, (fz1 - 1)⟩, ⟨(by (try simp only [List.length_append, List.length_cons, List.length_nil, List.length_take]); omega), (by (try simp only []); first | omega | (simp only [List.length_append, List.length_cons, List.length_nil]; omega)), (by rw [← hf1]; (conv => lhs; rw [hlt0_]); simp only [history_Put_L0, hc4, hc5, cond_true, cond_false] : (history_Put h1 o1) = (history_Put_L0 o1 (fz1 - 1) (later1 ++ [((gt l1 ((n1 - 1).toNat)).o)]) (n1 - 1) (l1.take ((n1 - 1).toNat)) ((move_Undo p1 (gt l1 ((n1 - 1).toNat))).1))).symm⟩, (by simp only []; omega), Le4⟩
        · skip
          (repeat refine cw_seq ?_); refine cw_exit ?_
          (repeat refine cw_seq ?_); refine cw_region ?_
          refine Rp rfl rfl rfl rfl ?_
          refine rw_q rfl rfl rfl (q_drop EOp 1 (l := later1) (X := x3) rfl rfl (fun _ => rfl) rfl (fun _ => rfl) rfl rfl (fun _ => by first | omega | (simp only [List.length_set]; omega)) (fun _ => by first | omega | (simp only [List.length_set]; omega))) ?_
          refine rw_callG (slices_ReverseK_Op_spec x3 x3b later1 1 (by omega)) .sq (.inl ⟨_, rfl⟩) (guard_none rfl) rfl rfl rfl Kr rfl rfl Sm (.nil _) (by first | exact .cons (.here _ _) (.nil _) | exact .cons (.there _ (.here _ _)) (.nil _) | exact .cons (.there _ (.there _ (.here _ _))) (.nil _) | exact .cons (.there _ (.there _ (.there _ (.here _ _)))) (.nil _)) ?_
          intro _
          have hv1l : later1.length = (slices_ReverseK_Op later1 1).length := (RK_Op_len later1 1 (by omega)).symm
          have hv1 : x3.val later1.length = x3.val (slices_ReverseK_Op later1 1).length := congrArg (SlV.val x3) hv1l
          try rw [hv1]
          have hv2 : (⟨slA x3.a x3.c 1 EOp.esz, x3.c - 1⟩ : SlV).val (later1.drop 1).length = (⟨slA x3.a x3.c 1 EOp.esz, x3.c - 1⟩ : SlV).val ((slices_ReverseK_Op later1 1).drop 1).length := by congr 1; simp only [List.length_drop, List.length_set] <;> omega
          try rw [hv2]
          refine rw_nil ?_
          (repeat refine cw_seq ?_); refine cw_region ?_
          refine Rp rfl rfl rfl rfl ?_
          refine Rp rfl rfl rfl rfl ?_
          refine Rp rfl rfl rfl rfl ?_
          refine rw_nil ?_
          (repeat refine cw_seq ?_); refine cw_block ?_
          refine cw_le (le_freezeL EOp 33 x3 x3b (slices_ReverseK_Op later1 1) Uo) ?_
          refine cw_pure (φ := (slices_ReverseK_Op later1 1).length * 56 ≤ 140737488355328) [RdL EOp x3 (slices_ReverseK_Op later1 1)] Sm (fun M w h => (allF1 h).len) fun hlen6 => ?_
          (repeat refine cw_seq ?_); refine cw_loopS [2, 4, 5, 93, 94] [false, true] (fun (i_ : Nat × List Step × SlV × Option Nat × List Place × SlV) => match i_ with | ⟨n2, l2, x11, x11b, p2, x12⟩ => [(95, .v (.int .i64 (n2 : Int)))]) (fun (i_ : Nat × List Step × SlV × Option Nat × List Place × SlV) => match i_ with | ⟨n2, l2, x11, x11b, p2, x12⟩ => [⟨g1, 94, [x11.val l2.length, x12.val p2.length]⟩]) (fun (i_ : Nat × List Step × SlV × Option Nat × List Place × SlV) => match i_ with | ⟨n2, l2, x11, x11b, p2, x12⟩ => [ownL EStep 37 x11 x11b l2]) (fun (i_ : Nat × List Step × SlV × Option Nat × List Place × SlV) => match i_ with | ⟨n2, l2, x11, x11b, p2, x12⟩ => [RdL EPlace x12 p2]) (fun (i_ : Nat × List Step × SlV × Option Nat × List Place × SlV) => match i_ with | ⟨n2, l2, x11, x11b, p2, x12⟩ => (n2 ≤ (slices_ReverseK_Op later1 1).length) ∧ (l2.length ≤ n2 + l1.length) ∧ (history_Put_L1 ((slices_ReverseK_Op later1 1).drop n2) l2 p2) = (history_Put h1 o1)) (fun (i_ : Nat × List Step × SlV × Option Nat × List Place × SlV) => match i_ with | ⟨n2, l2, x11, x11b, p2, x12⟩ => (slices_ReverseK_Op later1 1).length - n2) ⟨0, l1, x1.1, x1.2.1, p1, x5⟩ (.cons rfl (.cons rfl (.cons rfl (.cons rfl (.cons rfl (.nil _)))))) (.drop (.keep (.nil))) ⟨Nat.zero_le _, (by first | exact Nat.le_refl _ | exact Nat.zero_le _ | omega), (by rw [← hf1]; (conv => lhs; rw [hlt0_]); simp only [history_Put_L0, hc4, cond_true, cond_false] : (history_Put h1 o1) = (history_Put_L1 (slices_ReverseK_Op later1 1) l1 p1)).symm⟩ Le4 ?_
          rintro ⟨n2, l2, x11, x11b, p2, x12⟩ ⟨hkn2, hl2, hf2⟩
          simp only [List.cons_append, List.nil_append]
          (repeat refine cw_seq ?_); refine cw_region ?_
          refine Rp rfl rfl rfl rfl ?_
          refine rw_nil ?_
          (repeat refine cw_seq ?_); refine cw_cond (b := decide ((n2 : Int) < ((slices_ReverseK_Op later1 1).length : Int))) rfl rfl (fun hc6 => ?_) (fun hc6 => ?_)
          · skip
            have hlt1 : n2 < (slices_ReverseK_Op later1 1).length := Int.ofNat_lt.1 (of_decide_eq_true hc6)
            (repeat refine cw_seq ?_); refine cw_skip ?_
            (repeat refine cw_seq ?_); refine cw_block ?_
            (repeat refine cw_seq ?_); refine cw_region ?_
            refine rw_q rfl rfl rfl (q_idx EOp n2 rfl rfl (fun _ => rfl) rfl (fun _ => rfl) rfl rfl rfl Mm rfl (fun _ => rfl) (fun _ => by first | assumption | omega)) ?_
            refine rw_q rfl rfl rfl (q_leA EOp rfl rfl (fun _ => rfl) rfl rfl Mm (fun _ => by first | assumption | omega)) ?_
            refine rw_alloc .sq (guard_none rfl) rfl rfl rfl rfl fun g7 => ?_
            refine rw_stA .sq (.inl ⟨_, rfl⟩) (guard_none rfl) rfl rfl rfl rfl rfl rfl rfl rfl rfl Ub rfl ?_
            refine rw_nil ?_
            (repeat refine cw_seq ?_); refine cw_region ?_
            refine Rp rfl rfl rfl rfl ?_
            refine rw_q rfl rfl rfl (q_ldP rfl rfl (fun _ => rfl) rfl Mm rfl) ?_
            refine rw_q rfl rfl rfl (q_ldA rfl rfl (fun _ => rfl) rfl Mm rfl) ?_
            refine rw_call (move_Do_spec x12 p2 (gt (slices_ReverseK_Op later1 1) n2)) .sq (guard_none rfl) rfl rfl rfl Kr rfl rfl Sm ?_
            intro x13
            refine rw_pure (φ := ((move_Do p2 (gt (slices_ReverseK_Op later1 1) n2)).1).length * 24 ≤ 140737488355328) [RdL EPlace x13 ((move_Do p2 (gt (slices_ReverseK_Op later1 1) n2)).1)] Sm (fun M w h => (allF1 h).len) fun hlen7 => ?_
            refine Rp rfl rfl rfl rfl ?_
            refine Rp rfl rfl rfl rfl ?_
            refine Rp rfl rfl rfl rfl ?_
            refine Rp rfl rfl rfl rfl ?_
            refine rw_alloc .sq (guard_none rfl) rfl rfl rfl rfl fun g8 => ?_
            refine rw_alloc .sq (guard_none rfl) rfl rfl rfl rfl fun g9 => ?_
            refine rw_stA .sq (.inl ⟨_, rfl⟩) (guard_none rfl) rfl rfl rfl rfl rfl rfl rfl rfl rfl Ub rfl ?_
            refine rw_stA .sq (.inl ⟨_, rfl⟩) (guard_none rfl) rfl rfl rfl rfl rfl rfl rfl rfl rfl Ub rfl ?_
            refine Rp rfl rfl rfl rfl ?_
            refine rw_nil ?_
            (repeat refine cw_seq ?_); refine cw_region ?_
            refine Rp rfl rfl rfl rfl ?_
            refine Rp rfl rfl rfl rfl ?_
            refine rw_nil ?_
            (repeat refine cw_seq ?_); refine cw_cond (b := (((move_Do p2 (gt (slices_ReverseK_Op later1 1) n2)).2.2) != 0)) rfl rfl (fun hc7 => ?_) (fun hc7 => ?_)
            · skip
              have hc7p := bne_iff_ne.1 hc7
              (repeat refine cw_seq ?_); refine cw_region ?_
              refine Rp rfl rfl rfl rfl ?_
              refine Rp rfl rfl rfl rfl ?_
              refine rw_stA .sq (.inl ⟨_, rfl⟩) (guard_none rfl) rfl rfl rfl rfl rfl rfl rfl rfl rfl Ub rfl ?_
              refine Rp rfl rfl rfl rfl ?_
              refine rw_nil ?_
              (repeat refine cw_seq ?_)
              refine cw_fact (F := RdL EStep ⟨none, 0⟩ ([] : List Step)) [] (.nil _) (fun M w _ => RdL.nil _ _ _ (by omega) M w) ?_
              refine cw_fact (F := RdL EPlace ⟨none, 0⟩ ([] : List Place)) [] (.nil _) (fun M w _ => RdL.nil _ _ _ (by omega) M w) ?_
              have hr5 : (history_Put h1 o1) = ((⟨([] : List Step), ([] : List Place)⟩ : History), (move_Do p2 (gt (slices_ReverseK_Op later1 1) n2)).2.2) := by rw [← hf2, drop_gt hlt1]; simp only [history_Put_L1, hc7, cond_true, cond_false]
              refine cw_ret ?_
              rw [hr5]
              exact ⟨⟨(⟨none, 0⟩ : SlV), (⟨none, 0⟩ : SlV)⟩, _, (.cons (.agg rfl rfl Mm rfl) (.cons (.tmp rfl) .nil)), rfl, Sm, .nil _, .nil _⟩
            · skip
              have hc7p := eq_of_bne_false hc7
              (repeat refine cw_seq ?_); refine cw_skip ?_
              (repeat refine cw_seq ?_); refine cw_regionA (fun j => match j with | 5 => some x11b.toList | 7 => some [g1] | 9 => some [g1] | _ => some []) ?_
              refine ra_q (.an (i := 0) (js := [1, 2, 3, 4, 5]) rfl Kr Kr Kr Kr) (SplitB.all _) (by intro g hg; simp only [List.mem_append, List.mem_singleton, List.not_mem_nil, or_false, false_or, Option.mem_toList, Option.mem_def, List.append_nil] at hg; first | exact .inr ⟨ownL EStep 37 x11 x11b l2, Mm, hg⟩) rfl rfl rfl (q_ldA rfl rfl (fun _ => rfl) rfl Mm rfl) ?_
              refine ra_q (.ab (i := 1) (js := [3, 4]) [2, 5, 6, 7, 8, 9] rfl Kr Kr Kr Kr Kr) (SplitB.all _) (by simp) rfl rfl rfl (q_pev rfl (fun _ => rfl)) ?_
              refine ra_q (.an (i := 2) (js := [3, 4]) rfl Kr Kr Kr Kr) (SplitB.all _) (by simp) rfl rfl rfl (q_ld1 rfl rfl (fun _ => rfl) rfl Mm rfl) ?_
              refine ra_q (.ab (i := 3) (js := [6]) [4, 5, 7, 8, 9] rfl Kr Kr Kr Kr Kr) (SplitB.all _) (by simp) rfl rfl rfl (q_ldA rfl rfl (fun _ => rfl) rfl Mm rfl) ?_
              refine ra_q (.an (i := 6) (js := [4, 5]) rfl Kr Kr Kr Kr) (SplitB.all _) (by intro g hg; simp only [List.mem_append, List.mem_singleton, List.not_mem_nil, or_false, false_or, Option.mem_toList, Option.mem_def, List.append_nil] at hg; first | exact .inr ⟨ownL EStep 37 x11 x11b l2, Mm, hg⟩) rfl rfl rfl (q_pev rfl (fun _ => rfl)) ?_
              refine ra_one 4 Kr ?_
              refine rw_bsliceL EStep [((move_Do p2 (gt (slices_ReverseK_Op later1 1) n2)).2.1)] (.an rfl rfl) (guard_none rfl) rfl rfl rfl rfl rfl rfl rfl rfl rfl rfl rfl rfl rfl rfl rfl fun x14 x14b => ?_
              refine ra_one 5 Kr ?_
              refine rw_appendL EStep l2 [((move_Do p2 (gt (slices_ReverseK_Op later1 1) n2)).2.1)] (b := x11b) (.an rfl rfl) (fun g h => .inr (by simp [h])) (guard_none rfl) rfl rfl rfl rfl rfl rfl rfl (fun _ _ => Uo) rfl rfl rfl rfl rfl rfl rfl (reads_ownL (e := 37) (b := x14b) Mm) (by show (l2.length + 1) * 88 ≤ 140737488355328; (try simp only [List.length_append, List.length_cons, List.length_nil]); omega) fun x15 x15b => ?_
              refine ra_one 7 Kr ?_
              refine rw_stP (.an rfl rfl) (.inr (by simp)) (guard_none rfl) rfl rfl rfl rfl rfl rfl rfl rfl rfl Ub rfl ?_
              refine ra_q (.an (i := 8) (js := []) rfl Kr Kr Kr Kr) (SplitB.all _) (by simp) rfl rfl rfl (q_pev rfl (fun _ => rfl)) ?_
              refine ra_one 9 Kr ?_
              refine rw_st1 (.an rfl rfl) (.inr (by simp)) (guard_none rfl) rfl rfl rfl rfl rfl rfl rfl rfl rfl Ub rfl ?_
              refine ra_nil Kr ?_
              (repeat refine cw_seq ?_); refine cw_region ?_
              refine rw_q rfl rfl rfl (q_add rfl rfl (fun _ => rfl) rfl (fun _ => rfl) (fun _ => by omega)) ?_
              refine Rp rfl rfl rfl rfl ?_
              refine rw_nil ?_
              refine ⟨⟨(n2 + 1), (l2 ++ [((move_Do p2 (gt (slices_ReverseK_Op later1 1) n2)).2.1)]), x15, x15b, (move_Do p2 (gt (slices_ReverseK_Op later1 1) n2)).1, x13⟩, ⟨hlt1, (by simp only [List.length_append, List.length_cons, List.length_nil]; omega), (by rw [← hf2, drop_gt hlt1]; simp only [history_Put_L1, hc7, cond_true, cond_false] : (history_Put h1 o1) = (history_Put_L1 ((slices_ReverseK_Op later1 1).drop (n2 + 1)) (l2 ++ [((move_Do p2 (gt (slices_ReverseK_Op later1 1) n2)).2.1)]) ((move_Do p2 (gt (slices_ReverseK_Op later1 1) n2)).1))).symm⟩, (by simp only []; omega), Le4⟩
          · skip
            have hge1 : (slices_ReverseK_Op later1 1).length ≤ n2 := by have := of_decide_eq_false hc6; omega
            (repeat refine cw_seq ?_); refine cw_exit ?_
            (repeat refine cw_seq ?_); refine cw_region ?_
            refine rw_q rfl rfl rfl (q_ldA rfl rfl (fun _ => rfl) rfl Mm rfl) ?_
            refine rw_stA .sq (.inl ⟨_, rfl⟩) (guard_none rfl) rfl rfl rfl rfl rfl rfl rfl rfl rfl Ub rfl ?_
            refine Rp rfl rfl rfl rfl ?_
            refine rw_nil ?_
            (repeat refine cw_seq ?_)
            refine cw_le (le_freezeL EStep 37 x11 x11b l2 Uo) ?_
            have hr6 : (history_Put h1 o1) = ((⟨l2, p2⟩ : History), 0) := by rw [← hf2, List.drop_of_length_le hge1]; simp only [history_Put_L1, cond_true, cond_false]
            refine cw_ret ?_
            rw [hr6]
            exact ⟨⟨x11, x12⟩, _, (.cons (.agg rfl rfl Mm rfl) (.cons (.tmp rfl) .nil)), rfl, Sm, .nil _, .nil _⟩
end Go.Proofs.Ytchdacbjiomplaa
