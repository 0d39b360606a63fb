/- Part of this claim. No condition. -/
import Derived.Test.YtccmadehnoihnaaGreatDoorG6
import Derived.Test.YtccmadehnoihnaaGreatDoorG4
import Derived.Test.YtccmadehnoihnaaGreatDoorG3
set_option linter.unusedVariables false
set_option linter.unusedSimpArgs false
set_option maxHeartbeats 2000000
namespace Go.Proofs.YtccmadehnoihnaaGreatDoor
open Go Go.Proofs.YtccmadehnoihnaaGreatDoor.Fw Go.Proofs
attribute [local irreducible] RdL RdN VarP RW CW
def history_Copy (h1 : History) : History :=
  (⟨h1.l, (tree_Copy h1.t)⟩ : History)
theorem history_Copy_spec (y1 : SlV) (y2 : SlV) (h1 : History) : DoesG Tryz.prog 44 [.agg ⟨[y1.val h1.l.length, y2.val h1.t.length]⟩] [RdL EStep y1 h1.l, RdL EPlace y2 h1.t] ⟨[], []⟩ (fun (X : SlV × Option Nat × SlV) => .agg ⟨[X.1.val ((history_Copy h1).l).length, X.2.2.val ((history_Copy h1).t).length]⟩) (fun (X : SlV × Option Nat × SlV) => [RdL EPlace X.2.2 ((history_Copy h1).t)]) (fun (X : SlV × Option Nat × SlV) => ⟨[], [ownL EStep 98 X.1 X.2.1 ((history_Copy h1).l)]⟩) := by
  refine does_ofG tab_ok Tryz.func44 rfl Tryz.ntmps44 Tryz.results44 rfl inferInstance (fun _ => inferInstance) fun C => ?_
  refine Pc EStep y1 h1.l 88 fun hlen1 => ?_
  refine Pc EPlace y2 h1.t 24 fun hlen2 => ?_
  refine Tx ?_
  refine Bx fun g1 => ?_
  refine Al fun g2 => ?_
  refine rw_nil ?_
  (repeat refine cw_seq ?_); refine cw_regionA (fun j => match j with | 7 => some [g2] | _ => some []) ?_
  refine Rb 0 [3,4] [1,2,5,6,7] rfl Qp ?_
  refine Rb 1 [3,4] [2,5,6,7] rfl Q1 ?_
  refine Rb 3 [2] [4,5,6,7] rfl Qp ?_
  refine Rb 4 [2] [5,6,7] rfl (q_ldP rfl rfl (fun _ => rfl) rfl Mm rfl) ?_
  refine ra_one 2 Kr ?_
  refine rw_callG (slices_Clone_Step_spec y1 h1.l) (.an rfl rfl) (.inr (by simp [Lent.ids])) (guard_none rfl) rfl rfl rfl Kr rfl rfl Sm (.nil _) (.nil _) ?_
  intro x1
  refine ra_one 5 Kr ?_
  refine rw_callG (tree_Copy_spec y2 h1.t) (.an rfl rfl) (.inr (by simp [Lent.ids])) (guard_none rfl) rfl rfl rfl Kr rfl rfl Sm (.nil _) (.nil _) ?_
  intro x2
  refine Ra 6 [] rfl Qp ?_
  refine ra_one 7 Kr ?_
  refine rw_stA (.an rfl rfl) (.inr (by simp)) (guard_none rfl) rfl rfl rfl rfl rfl rfl rfl rfl rfl Ub rfl ?_
  refine ra_nil Kr ?_
  (repeat refine cw_seq ?_)
  refine cw_le (le_freezeL EPlace 96 x2.1 x2.2 (tree_Copy h1.t) Uo) ?_
  have hr1 : (history_Copy h1) = (⟨h1.l, (tree_Copy h1.t)⟩ : History) := by simp only [history_Copy, cond_true, cond_false]
  refine cw_ret ?_; rw [hr1]; exact Re ⟨x1.1, x1.2, x2.1⟩ (Va Vn)

def slices_IndexFunc_Step_L0 (f1 : Step → Bool) : List Step → Nat → Int
  | [], n1 => (-1)
  | pn1 :: rn1, n1 => (bif (f1 pn1) then (n1 : Int) else (slices_IndexFunc_Step_L0 f1 rn1 (n1 + 1)))
def slices_IndexFunc_Step (s1 : List Step) (f1 : Step → Bool) : Int :=
  (slices_IndexFunc_Step_L0 f1 s1 0)
theorem slices_IndexFunc_Step_spec (y1 : SlV) (s1 : List Step) (f2 : Nat) (caps1 : List Value) (pre1 : List Pred) [StabL pre1] (f1 : Step → Bool) (hfb1 : tab.fnb f2 = true) (hfn1 : ∀ (a0_ : Step), Does Tryz.prog f2 ([.agg ⟨[.int .i64 a0_.o.time, .int .i64 a0_.o.who, .int .i64 a0_.o.node, .int .i64 a0_.o.parent, .int .i64 a0_.o.name, .int .i64 a0_.o.life, .int .i64 a0_.o.seq, .bool a0_.did, .int .i64 a0_.was.node, .int .i64 a0_.was.parent, .int .i64 a0_.was.name]⟩] ++ caps1) pre1 (fun (_ : Unit) => .bool (f1 a0_)) (fun (_ : Unit) => [])) : Does Tryz.prog 78 [y1.val s1.length, .func (.func f2) #[] ⟨caps1⟩] (RdL EStep y1 s1 :: pre1) (fun (_ : Unit) => .int .i64 (slices_IndexFunc_Step s1 f1)) (fun (_ : Unit) => []) := by
  refine does_of tab_ok Tryz.func78 rfl Tryz.ntmps78 Tryz.results78 rfl inferInstance (fun _ => inferInstance) fun C => ?_
  refine cw_pure (φ := s1.length * 88 ≤ 140737488355328) [RdL EStep y1 s1] Sf (fun M w h => (allF1 h).len) fun hlen1 => ?_
  refine Tx ?_
  (repeat refine cw_seq ?_); refine Lp [0,1,4,7] [] (fun (n1 : Nat) => (⟨[(8, .v (.int .i64 (n1 : Int)))], [], [], [], (n1 ≤ s1.length) ∧ (slices_IndexFunc_Step_L0 f1 (s1.drop n1) n1) = (slices_IndexFunc_Step s1 f1), s1.length - n1⟩ : Ls)) 0 (Sc (Sc (Sc (Sc Sn)))) (.nil) ⟨Nat.zero_le _, (by simp only [slices_IndexFunc_Step, cond_true, cond_false] : (slices_IndexFunc_Step s1 f1) = (slices_IndexFunc_Step_L0 f1 s1 0)).symm⟩ Le5 ?_
  rintro n1 ⟨hkn1, hf1⟩
  simp only [List.cons_append, List.nil_append]
  refine Tx ?_
  refine Cd (b := decide ((n1 : Int) < (s1.length : Int))) (fun hc1 => ?_) fun hc1 => ?_
  · have hlt0 : n1 < s1.length := Int.ofNat_lt.1 (of_decide_eq_true hc1)
    refine Tx ?_
    refine rw_q rfl rfl rfl (q_idx EStep n1 rfl rfl (fun _ => rfl) rfl (fun _ => rfl) rfl rfl rfl Mm rfl (fun _ => rfl) (fun _ => by first | assumption | omega)) ?_
    refine rw_q rfl rfl rfl (q_leA EStep rfl rfl (fun _ => rfl) rfl rfl Mm (fun _ => by first | assumption | omega)) ?_
    refine rw_callv (hfn1 (gt s1 n1)) .sq (guard_none rfl) rfl rfl rfl rfl rfl (by assumption) rfl rfl rfl Sf ?_
    intro _
    refine rw_nil ?_
    (repeat refine cw_seq ?_)
    refine Cd (b := (f1 (gt s1 n1))) (fun hc2 => ?_) fun hc2 => ?_
    · refine Tx ?_
      have hr1 : (slices_IndexFunc_Step s1 f1) = (n1 : Int) := by rw [← hf1, drop_gt hlt0]; simp only [slices_IndexFunc_Step_L0, hc2, cond_true, cond_false]
      refine cw_ret ?_
      rw [hr1]
      exact ⟨(), _, (.cons (.tmp rfl) .nil), rfl, Sf, .nil _, .nil _⟩
    · refine Tx ?_
      refine rw_q rfl rfl rfl (q_add rfl rfl (fun _ => rfl) rfl (fun _ => rfl) (fun _ => by omega)) ?_
      refine Tx ?_
      refine ⟨(n1 + 1), ⟨hlt0, (by rw [← hf1, drop_gt hlt0]; simp only [slices_IndexFunc_Step_L0, hc2, cond_true, cond_false] : (slices_IndexFunc_Step s1 f1) = (slices_IndexFunc_Step_L0 f1 (s1.drop (n1 + 1)) (n1 + 1))).symm⟩, (by simp only []; omega), Le5⟩
  · have hge0 : s1.length ≤ n1 := by have := of_decide_eq_false hc1; omega
    refine Tx ?_
    have hr2 : (slices_IndexFunc_Step s1 f1) = (-1) := by rw [← hf1, List.drop_of_length_le hge0]; simp only [slices_IndexFunc_Step_L0, cond_true, cond_false]
    refine cw_ret ?_
    rw [hr2]
    exact ⟨(), _, (.cons (.tmp rfl) .nil), rfl, Sf, .nil _, .nil _⟩
def slices_ContainsFunc_Step (s1 : List Step) (f1 : Step → Bool) : Bool :=
  decide ((slices_IndexFunc_Step s1 f1) ≥ 0)
theorem slices_ContainsFunc_Step_spec (y1 : SlV) (s1 : List Step) (f2 : Nat) (caps1 : List Value) (pre1 : List Pred) [StabL pre1] (f1 : Step → Bool) (hfb1 : tab.fnb f2 = true) (hfn1 : ∀ (a0_ : Step), Does Tryz.prog f2 ([.agg ⟨[.int .i64 a0_.o.time, .int .i64 a0_.o.who, .int .i64 a0_.o.node, .int .i64 a0_.o.parent, .int .i64 a0_.o.name, .int .i64 a0_.o.life, .int .i64 a0_.o.seq, .bool a0_.did, .int .i64 a0_.was.node, .int .i64 a0_.was.parent, .int .i64 a0_.was.name]⟩] ++ caps1) pre1 (fun (_ : Unit) => .bool (f1 a0_)) (fun (_ : Unit) => [])) : Does Tryz.prog 58 [y1.val s1.length, .func (.func f2) #[] ⟨caps1⟩] (RdL EStep y1 s1 :: pre1) (fun (_ : Unit) => .bool (slices_ContainsFunc_Step s1 f1)) (fun (_ : Unit) => []) := by
  refine does_of tab_ok Tryz.func58 rfl Tryz.ntmps58 Tryz.results58 rfl inferInstance (fun _ => inferInstance) fun C => ?_
  refine cw_pure (φ := s1.length * 88 ≤ 140737488355328) [RdL EStep y1 s1] Sf (fun M w h => (allF1 h).len) fun hlen1 => ?_
  refine Tx ?_
  refine rw_call (slices_IndexFunc_Step_spec y1 s1 _ _ _ f1 (by assumption) hfn1) .sq (guard_none rfl) rfl rfl rfl Kr rfl rfl Sf ?_
  intro _
  refine Tx ?_
  have hr1 : (slices_ContainsFunc_Step s1 f1) = decide ((slices_IndexFunc_Step s1 f1) ≥ 0) := by simp only [slices_ContainsFunc_Step, cond_true, cond_false]
  refine cw_ret ?_
  rw [hr1]
  exact ⟨(), _, (.cons (.tmp rfl) .nil), rfl, Sf, .nil _, .nil _⟩
theorem slices_ContainsFunc_Step_eq (s : List Step) (f : Step → Bool) : slices_ContainsFunc_Step s f = s.any f := by
  have key : ∀ (l : List Step) (k : Nat), decide (slices_IndexFunc_Step_L0 f l k ≥ 0) = l.any f := by
    intro l
    induction l with
    | nil => intro k; rfl
    | cons p r ih =>
      intro k
      rw [slices_IndexFunc_Step_L0, List.any_cons]
      cases f p with
      | true => simp only [cond_true, Bool.true_or, decide_eq_true_eq]; omega
      | false => rw [cond_false, ih, Bool.false_or]
  exact key s 0
theorem slices_ContainsFunc_Step_spec' (y1 : SlV) (s1 : List Step) (f1 : Nat) (caps1 : List Value) (pre1 : List Pred) [StabL pre1] (p1 : Step → Bool) (hfb1 : tab.fnb f1 = true) (hfn1 : ∀ (a0_ : Step), Does Tryz.prog f1 ([.agg ⟨[.int .i64 a0_.o.time, .int .i64 a0_.o.who, .int .i64 a0_.o.node, .int .i64 a0_.o.parent, .int .i64 a0_.o.name, .int .i64 a0_.o.life, .int .i64 a0_.o.seq, .bool a0_.did, .int .i64 a0_.was.node, .int .i64 a0_.was.parent, .int .i64 a0_.was.name]⟩] ++ caps1) pre1 (fun (_ : Unit) => .bool (p1 a0_)) (fun (_ : Unit) => [])) :
    Does Tryz.prog 58 [y1.val s1.length, .func (.func f1) #[] ⟨caps1⟩] (RdL EStep y1 s1 :: pre1) (fun (_ : Unit) => .bool (s1.any p1)) (fun (_ : Unit) => []) := by
  have := slices_ContainsFunc_Step_spec y1 s1 f1 caps1 pre1 p1 hfb1 hfn1
  rw [slices_ContainsFunc_Step_eq] at this
  exact this

def history_Put_1 (s1 : Step) (o1 : Op) : Bool :=
  decide ((⟨s1.o.time, s1.o.who⟩ : Stamp) = (⟨o1.time, o1.who⟩ : Stamp))
theorem history_Put_1_spec (s1 : Step) (c1 : Nat) (o1 : Op) : Does Tryz.prog 59 [.agg ⟨[.int .i64 s1.o.time, .int .i64 s1.o.who, .int .i64 s1.o.node, .int .i64 s1.o.parent, .int .i64 s1.o.name, .int .i64 s1.o.life, .int .i64 s1.o.seq, .bool s1.did, .int .i64 s1.was.node, .int .i64 s1.was.parent, .int .i64 s1.was.name]⟩, .pointer (some ⟨c1, 0, none⟩)] [VarP c1 [.int .i64 o1.time, .int .i64 o1.who, .int .i64 o1.node, .int .i64 o1.parent, .int .i64 o1.name, .int .i64 o1.life, .int .i64 o1.seq]] (fun (_ : Unit) => .bool (history_Put_1 s1 o1)) (fun (_ : Unit) => []) := by
  refine does_of tab_ok Tryz.func59 rfl Tryz.ntmps59 Tryz.results59 rfl inferInstance (fun _ => inferInstance) fun C => ?_
  refine Tx ?_
  refine Bx fun g1 => ?_
  refine Tx ?_
  refine rw_q rfl rfl rfl (q_eqE eqT_Stamp (flatEq_Stamp (⟨s1.o.time, s1.o.who⟩ : Stamp) (⟨o1.time, o1.who⟩ : Stamp)) rfl rfl (fun _ => rfl) rfl (fun _ => rfl) rfl rfl) ?_
  refine Tx ?_
  have hr1 : (history_Put_1 s1 o1) = decide ((⟨s1.o.time, s1.o.who⟩ : Stamp) = (⟨o1.time, o1.who⟩ : Stamp)) := by simp only [history_Put_1, cond_true, cond_false]
  refine cw_ret ?_; rw [hr1]; exact Re () (Vt Vn)

def history_Put_L1  : List Op → (List Step) → (List Place) → (History × Int)
  | [], l2, p2 => ((⟨l2, p2⟩ : History), 0)
  | pn2 :: rn2, l2, p2 => (bif (((move_Do p2 pn2).2.2) != 0) then ((⟨([] : List Step), ([] : List Place)⟩ : History), (move_Do p2 pn2).2.2) else (history_Put_L1 rn2 (l2 ++ [((move_Do p2 pn2).2.1)]) ((move_Do p2 pn2).1)))
def history_Put_L0 (o1 : Op) : Nat → (List Op) → Int → (List Step) → (List Place) → (History × Int)
  | 0, later1, n1, l1, p1 => default
  | f_k0 + 1, later1, n1, l1, p1 => (bif (decide (n1 > 0) && (move_Before (⟨o1.time, o1.who⟩ : Stamp) (⟨((gt l1 ((n1 - 1).toNat)).o).time, ((gt l1 ((n1 - 1).toNat)).o).who⟩ : Stamp))) then (bif (((move_Undo p1 (gt l1 ((n1 - 1).toNat))).2) != 0) then ((⟨([] : List Step), ([] : List Place)⟩ : History), (move_Undo p1 (gt l1 ((n1 - 1).toNat))).2) else (history_Put_L0 o1 f_k0 (later1 ++ [((gt l1 ((n1 - 1).toNat)).o)]) (n1 - 1) (l1.take ((n1 - 1).toNat)) ((move_Undo p1 (gt l1 ((n1 - 1).toNat))).1))) else (history_Put_L1 (slices_ReverseK_Op later1 1) l1 p1))
def history_Put (h1 : History) (o1 : Op) : History × Int :=
  (bif ((move_Check o1) != 0) then ((⟨([] : List Step), ([] : List Place)⟩ : History), (move_Check o1)) else (bif (h1.l.any (fun a0_ => history_Put_1 a0_ o1)) then ((⟨([] : List Step), ([] : List Place)⟩ : History), 6) else (bif ((h1.l.length : Int) == 30) then ((⟨([] : List Step), ([] : List Place)⟩ : History), 2) else (history_Put_L0 o1 (h1.l.length + 1) [o1] (h1.l.length : Int) h1.l h1.t))))
theorem history_Put_spec (y1 : SlV) (y2 : SlV) (h1 : History) (o1 : Op) (hl : h1.l.length ≤ 1000) : Does Tryz.prog 46 [.agg ⟨[y1.val h1.l.length, y2.val h1.t.length]⟩, .agg ⟨[.int .i64 o1.time, .int .i64 o1.who, .int .i64 o1.node, .int .i64 o1.parent, .int .i64 o1.name, .int .i64 o1.life, .int .i64 o1.seq]⟩] [RdL EStep y1 h1.l, RdL EPlace y2 h1.t] (fun (X : SlV × SlV) => .tuple #[.agg ⟨[X.1.val (((history_Put h1 o1).1).l).length, X.2.val (((history_Put h1 o1).1).t).length]⟩, .int .i64 ((history_Put h1 o1).2)]) (fun (X : SlV × SlV) => [RdL EStep X.1 (((history_Put h1 o1).1).l), RdL EPlace X.2 (((history_Put h1 o1).1).t)]) := by
  refine does_of tab_ok Tryz.func46 rfl Tryz.ntmps46 Tryz.results46 rfl inferInstance (fun _ => inferInstance) fun C => ?_
  refine Pc EStep y1 h1.l 88 fun hlen1 => ?_
  refine Pc EPlace y2 h1.t 24 fun hlen2 => ?_
  refine Tx ?_
  refine Bx fun g1 => ?_
  refine Bx fun g2 => ?_
  refine Al fun g3 => ?_
  refine Tx ?_
  refine Cl (move_Check_spec o1) fun _ => ?_
  refine Tx ?_
  refine Cd (b := ((move_Check o1) != 0)) (fun hc1 => ?_) fun hc1 => ?_
  · have hc1p := bne_iff_ne.1 hc1
    refine Tx ?_
    refine Fc EStep ?_
    refine Fc EPlace ?_
    have hr1 : (history_Put h1 o1) = ((⟨([] : List Step), ([] : List Place)⟩ : History), (move_Check o1)) := by simp only [history_Put, hc1, cond_true, cond_false]
    refine cw_ret ?_; rw [hr1]; exact Re ⟨(⟨none, 0⟩ : SlV), (⟨none, 0⟩ : SlV)⟩ (Va (Vt Vn))
  · have hc1p := eq_of_bne_false hc1
    refine Tx ?_
    refine rw_le (le_var (g := g2) Pk) ?_
    refine Cl (slices_ContainsFunc_Step_spec' y1 h1.l _ _ _ (fun a0_ => history_Put_1 a0_ o1) Kr (fun a0_ => history_Put_1_spec a0_ g2 o1)) fun _ => ?_
    refine rw_nil ?_
    (repeat refine cw_seq ?_)
    refine Cd (b := (h1.l.any (fun a0_ => history_Put_1 a0_ o1))) (fun hc2 => ?_) fun hc2 => ?_
    · refine Tx ?_
      refine Fc EStep ?_
      refine Fc EPlace ?_
      have hr2 : (history_Put h1 o1) = ((⟨([] : List Step), ([] : List Place)⟩ : History), 6) := by simp only [history_Put, hc1, hc2, cond_true, cond_false]
      refine cw_ret ?_; rw [hr2]; exact Re ⟨(⟨none, 0⟩ : SlV), (⟨none, 0⟩ : SlV)⟩ (Va (Vt Vn))
    · refine Tx ?_
      refine Cd (b := ((h1.l.length : Int) == 30)) (fun hc3 => ?_) fun hc3 => ?_
      · have hc3p := eq_of_beq hc3
        refine Tx ?_
        refine Fc EStep ?_
        refine Fc EPlace ?_
        have hr3 : (history_Put h1 o1) = ((⟨([] : List Step), ([] : List Place)⟩ : History), 2) := by simp only [history_Put, hc1, hc2, hc3, cond_true, cond_false]
        refine cw_ret ?_; rw [hr3]; exact Re ⟨(⟨none, 0⟩ : SlV), (⟨none, 0⟩ : SlV)⟩ (Va (Vt Vn))
      · have hc3p := ne_of_beq_false hc3
        refine Tx ?_
        refine Cg (history_Copy_spec y1 y2 h1) fun x1 => ?_
        refine Pr EPlace x1.2.2 h1.t 24 fun hlen3 => ?_
        refine Tx ?_
        refine rw_bsliceL EOp [o1] .sq (guard_none rfl) rfl rfl rfl rfl rfl rfl rfl rfl rfl rfl rfl rfl rfl rfl rfl fun x2 x2b => ?_
        refine Tx ?_
        (repeat refine cw_seq ?_); refine Lp [2,3,4,5] [true, false] (fun (i_ : List Op × SlV × Option Nat × Int × List Step × List Place × SlV × Nat) => match i_ with | ⟨later1, x3, x3b, n1, l1, p1, x5, fz1⟩ => (⟨[(7, .v (x3.val later1.length)), (8, .v (.int .i64 n1))], [⟨g1, 28, [x1.1.val l1.length, x5.val p1.length]⟩], [ownL EOp 41 x3 x3b later1, ownL EStep 98 x1.1 x1.2.1 l1], [RdL EPlace x5 p1], (n1 = (l1.length : Int) ∧ 1 ≤ later1.length ∧ later1.length + l1.length = h1.l.length + 1) ∧ (n1.toNat < fz1) ∧ (history_Put_L0 o1 (fz1) later1 n1 l1 p1) = (history_Put h1 o1), fz1⟩ : Ls)) ⟨[o1], x2, x2b, (h1.l.length : Int), h1.l, h1.t, x1.2.2, h1.l.length + 1⟩ (Sc (Sc (Sc (Sc Sn)))) (.keep (.drop (.nil))) ⟨⟨rfl, Nat.le_refl _, by simp only [List.length_cons, List.length_nil]; omega⟩, (by first | exact Nat.le_refl _ | exact Nat.zero_le _ | omega), (by simp only [history_Put, hc1, hc2, hc3, cond_true, cond_false] : (history_Put h1 o1) = (history_Put_L0 o1 (h1.l.length + 1) [o1] (h1.l.length : Int) h1.l h1.t)).symm⟩ Le4 ?_
        rintro ⟨later1, x3, x3b, n1, l1, p1, x5, fz1⟩ ⟨hi, hzfz1, hf1⟩
        simp only [List.cons_append, List.nil_append]
        have hlt0_ : (fz1 - 1) + 1 = fz1 := by omega
        (repeat refine cw_seq ?_); refine cw_regionA (fun _ => some []) ?_
        refine Rb 0 [] [1,2,3,4,5,6,7,8,9,10,11,12,13,14] rfl Qp ?_
        refine Rb 1 [] [2,3,4,5,6,7,8,9,10,11,12,13,14] rfl Qp ?_
        refine Ra 2 [] rfl Qp ?_
        refine Gb 3 [5,6,7,8,9,10,11,12] [4,13,14] rfl (guard_vt rfl rfl rfl) (q_pev rfl Bt) ?_
        refine Gb 4 [5,6,7,8,9,10,11,12] [13,14] rfl (guard_vt rfl rfl rfl) (q_lfP rfl rfl Bt rfl Mm rfl) ?_
        refine Gb 5 [7,8] [6,9,10,11,12,13,14] rfl (guard_vt rfl rfl rfl) (q_pev rfl Bt) ?_
        refine Gb 6 [7,8] [9,10,11,12,13,14] rfl (guard_vt rfl rfl rfl) (q_ld1 rfl rfl Bt rfl Mm rfl) ?_
        refine Gb 7 [] [8,9,10,11,12,13,14] rfl (guard_vt rfl rfl rfl) (q_pev rfl Bt) ?_
        refine Gb 8 [] [9,10,11,12,13,14] rfl (guard_vt rfl rfl rfl) (q_sub rfl rfl Bt rfl Bt (by intro h; first | omega | (simp at h; omega))) ?_
        refine rw_qgO EStep (e := 98) (X := x1.1) (b := x1.2.1) (l := l1) Mm (.ab (i := 9) (js := []) [10, 11, 12, 13, 14] rfl Kr Kr Kr Kr Kr) (guard_vt rfl rfl rfl) rfl rfl (q_idx EStep ((n1 - 1).toNat) rfl rfl Bt rfl Bt rfl rfl rfl (.head _) rfl (by intro h; first | omega | rfl | (simp at h; omega)) (by first | (intro _; first | assumption | omega | (simp only [List.length_set]; omega)) | (intro h; simp at h; omega))) ?_
        refine Gb 10 [] [11,12,13,14] rfl (guard_vt rfl rfl rfl) (q_fae rfl rfl Bt rfl rfl) ?_
        refine Gb 11 [] [12,13,14] rfl (guard_vt rfl rfl rfl) (q_fae rfl rfl Bt rfl rfl) ?_
        refine rw_qgO EStep (e := 98) (X := x1.1) (b := x1.2.1) (l := l1) Mm (.ab (i := 12) (js := []) [13, 14] rfl Kr Kr Kr Kr Kr) (guard_vt rfl rfl rfl) rfl rfl (q_leP EStep rfl rfl Bt rfl rfl (.head _) (by first | (intro _; first | assumption | omega | (simp only [List.length_set]; omega)) | (intro h; simp at h; omega)) rfl) ?_
        refine ra_one 13 Kr ?_
        refine rw_callg (fun hG_ => move_Before_spec (⟨o1.time, o1.who⟩ : Stamp) (⟨((gt l1 ((n1 - 1).toNat)).o).time, ((gt l1 ((n1 - 1).toNat)).o).who⟩ : Stamp)) (fun _ => rfl) (.an rfl rfl) (guard_vt rfl rfl rfl) rfl rfl rfl Kr rfl Bt Sm ?_
        refine Ra 14 [] rfl (q_pev rfl Bt) ?_
        refine ra_nil Kr ?_
        (repeat refine cw_seq ?_)
        refine Cd (b := (decide (n1 > 0) && (move_Before (⟨o1.time, o1.who⟩ : Stamp) (⟨((gt l1 ((n1 - 1).toNat)).o).time, ((gt l1 ((n1 - 1).toNat)).o).who⟩ : Stamp)))) (fun hc4 => ?_) fun hc4 => ?_
        · have hn0 := of_decide_eq_true (Bool.and_eq_true_iff.1 hc4).1
          refine Tx ?_
          refine cw_join [2, 3, 4, 5, 7, 8, 39, 40, 41, 53] [true, true] (fun (i_ : Nat × SlV) => match i_ with | ⟨g4, x6⟩ => [(9, .v (.pointer (some ⟨g4, 0, none⟩))), (10, .v (.int .i64 ((move_Undo p1 (gt l1 ((n1 - 1).toNat))).2))), (56, .v (.tuple #[.agg ⟨[x6.val ((move_Undo p1 (gt l1 ((n1 - 1).toNat))).1).length]⟩, .int .i64 ((move_Undo p1 (gt l1 ((n1 - 1).toNat))).2)])), (57, .v (.pointer (some ⟨g1, 1, none⟩))), (58, .v (.agg ⟨[x5.val p1.length]⟩)), (59, .v (.pointer (some ⟨g1, 0, none⟩))), (60, .v (x1.1.val l1.length)), (61, .v (.int .i64 n1)), (62, .v (.int .i64 (n1 - 1))), (64, .v (.agg ⟨[.int .i64 (((gt l1 ((n1 - 1).toNat)).o).time), .int .i64 (((gt l1 ((n1 - 1).toNat)).o).who), .int .i64 (((gt l1 ((n1 - 1).toNat)).o).node), .int .i64 (((gt l1 ((n1 - 1).toNat)).o).parent), .int .i64 (((gt l1 ((n1 - 1).toNat)).o).name), .int .i64 (((gt l1 ((n1 - 1).toNat)).o).life), .int .i64 (((gt l1 ((n1 - 1).toNat)).o).seq), .bool ((gt l1 ((n1 - 1).toNat)).did), .int .i64 (((gt l1 ((n1 - 1).toNat)).was).node), .int .i64 (((gt l1 ((n1 - 1).toNat)).was).parent), .int .i64 (((gt l1 ((n1 - 1).toNat)).was).name)]⟩)), (65, .v (.tuple #[.agg ⟨[x6.val ((move_Undo p1 (gt l1 ((n1 - 1).toNat))).1).length]⟩, .int .i64 ((move_Undo p1 (gt l1 ((n1 - 1).toNat))).2)])), (66, .v (.agg ⟨[x6.val ((move_Undo p1 (gt l1 ((n1 - 1).toNat))).1).length]⟩)), (67, .v (.int .i64 ((move_Undo p1 (gt l1 ((n1 - 1).toNat))).2)))]) (fun (i_ : Nat × SlV) => match i_ with | ⟨g4, x6⟩ => [⟨g4, 26, [x6.val ((move_Undo p1 (gt l1 ((n1 - 1).toNat))).1).length]⟩]) (fun (i_ : Nat × SlV) => match i_ with | ⟨g4, x6⟩ => [ownL EOp 41 x3 x3b later1, ownL EStep 98 x1.1 x1.2.1 l1]) (fun (i_ : Nat × SlV) => match i_ with | ⟨g4, x6⟩ => [RdL EPlace x6 ((move_Undo p1 (gt l1 ((n1 - 1).toNat))).1), RdL EPlace x5 p1]) (fun _ => True) (.cons rfl (.cons rfl (.cons rfl (.cons rfl (.cons rfl (.cons rfl (.cons rfl (.cons rfl (.cons rfl (.cons rfl (.nil _))))))))))) (.keep (.keep (.nil))) ?_ ?_
          · refine cw_regionA (fun j => match j with | 13 => none | _ => some []) ?_
            refine Rb 0 [2,3,4,5,6,7,12] [1,8,9,10,11,13,14] rfl Qp ?_
            refine Rb 1 [2,3,4,5,6,7,12] [8,9,10,11,13,14] rfl (q_ldP rfl rfl (fun _ => rfl) rfl Mm rfl) ?_
            refine Rb 2 [4,5,12] [3,6,7,8,9,10,11,13,14] rfl Qp ?_
            refine Rb 3 [4,5,12] [6,7,8,9,10,11,13,14] rfl Q1 ?_
            refine Rb 4 [12] [5,6,7,8,9,10,11,13,14] rfl Qp ?_
            refine Rb 5 [12] [6,7,8,9,10,11,13,14] rfl (q_sub rfl rfl (fun _ => rfl) rfl (fun _ => rfl) (fun _ => by omega)) ?_
            refine rw_qO EStep (e := 98) (X := x1.1) (b := x1.2.1) (l := l1) Mm (.ab (i := 6) (js := [12]) [7, 8, 9, 10, 11, 13, 14] rfl Kr Kr Kr Kr Kr) rfl rfl rfl (q_idx EStep ((n1 - 1).toNat) rfl rfl (fun _ => rfl) rfl (fun _ => rfl) rfl rfl rfl (.head _) rfl (fun _ => by omega) (fun _ => by first | assumption | omega | (simp only [List.length_set]; omega))) ?_
            refine rw_qO EStep (e := 98) (X := x1.1) (b := x1.2.1) (l := l1) Mm (.ab (i := 7) (js := [12]) [8, 9, 10, 11, 13, 14] rfl Kr Kr Kr Kr Kr) rfl rfl rfl (q_leA EStep rfl rfl (fun _ => rfl) rfl rfl (.head _) (fun _ => by first | assumption | omega | (simp only [List.length_set]; omega))) ?_
            refine ra_two 8 12 Kr ?_ ?_
            · refine rw_call (move_Undo_spec x5 p1 (gt l1 ((n1 - 1).toNat))) (.an rfl rfl) (guard_none rfl) rfl rfl rfl Kr rfl rfl Sm ?_
              intro x7
              refine Pr EPlace x7 ((move_Undo p1 (gt l1 ((n1 - 1).toNat))).1) 24 fun hlen4 => ?_
              refine Ra 9 [12] rfl Qp ?_
              refine Ra 10 [11,12] rfl Qp ?_
              refine ra_p (.an (i := 11) (js := [12, 13]) rfl Kr Kr Kr Kr) rfl rfl rfl (q_pev rfl (fun _ => rfl)) ?_
              refine ra_one 12 Kr ?_
              refine rw_alloc (.an rfl rfl) (guard_none rfl) rfl rfl rfl rfl fun g5 => ?_
              refine ra_one 13 Kr ?_
              refine rw_stA (.lo [g5] rfl rfl) (.inr (by simp)) (guard_none rfl) rfl rfl rfl rfl rfl rfl rfl rfl rfl Ub rfl ?_
              refine Ra 14 [] rfl Qp ?_
              refine ra_nil Kr ?_
              refine ⟨⟨g5, x7⟩, trivial, Le4⟩
            · refine rw_alloc (.an rfl rfl) (guard_none rfl) rfl rfl rfl rfl fun g6 => ?_
              refine ra_one 8 Kr ?_
              refine rw_call (move_Undo_spec x5 p1 (gt l1 ((n1 - 1).toNat))) (.an rfl rfl) (guard_none rfl) rfl rfl rfl Kr rfl rfl Sm ?_
              intro x8
              refine Pr EPlace x8 ((move_Undo p1 (gt l1 ((n1 - 1).toNat))).1) 24 fun hlen5 => ?_
              refine Ra 9 [] rfl Qp ?_
              refine Ra 10 [11] rfl Qp ?_
              refine ra_p (.an (i := 11) (js := [13]) rfl Kr Kr Kr Kr) rfl rfl rfl (q_pev rfl (fun _ => rfl)) ?_
              refine ra_one 13 Kr ?_
              refine rw_stA (.lo [g6] rfl rfl) (.inr (by simp)) (guard_none rfl) rfl rfl rfl rfl rfl rfl rfl rfl rfl Ub rfl ?_
              refine Ra 14 [] rfl Qp ?_
              refine ra_nil Kr ?_
              refine ⟨⟨g6, x8⟩, trivial, Le4⟩
          · rintro ⟨g4, x6⟩ -
            simp only [List.cons_append, List.nil_append]
            refine Tx ?_
            refine Cd (b := (((move_Undo p1 (gt l1 ((n1 - 1).toNat))).2) != 0)) (fun hc5 => ?_) fun hc5 => ?_
            · have hc5p := bne_iff_ne.1 hc5
              refine Tx ?_
              refine Fc EStep ?_
              refine Fc EPlace ?_
              have hr4 : (history_Put h1 o1) = ((⟨([] : List Step), ([] : List Place)⟩ : History), (move_Undo p1 (gt l1 ((n1 - 1).toNat))).2) := by rw [← hf1]; (conv => lhs; rw [← hlt0_]); simp only [history_Put_L0, hc4, hc5, cond_true, cond_false]
              refine cw_ret ?_; rw [hr4]; exact Re ⟨(⟨none, 0⟩ : SlV), (⟨none, 0⟩ : SlV)⟩ (Va (Vt Vn))
            · have hc5p := eq_of_bne_false hc5
              refine Tx ?_
              refine rw_q rfl rfl rfl (q_sub rfl rfl (fun _ => rfl) rfl (fun _ => rfl) (fun _ => by omega)) ?_
              refine rw_qO EStep (e := 98) (X := x1.1) (b := x1.2.1) (l := l1) Mm .sq rfl rfl rfl (q_idx EStep ((n1 - 1).toNat) rfl rfl (fun _ => rfl) rfl (fun _ => rfl) rfl rfl rfl (.head _) rfl (fun _ => by omega) (fun _ => by first | assumption | omega | (simp only [List.length_set]; omega))) ?_
              refine rw_q rfl rfl rfl (q_fae rfl rfl (fun _ => rfl) rfl rfl) ?_
              refine rw_qO EStep (e := 98) (X := x1.1) (b := x1.2.1) (l := l1) Mm .sq rfl rfl rfl (q_leP EStep rfl rfl (fun _ => rfl) rfl rfl (.head _) (fun _ => by first | assumption | omega | (simp only [List.length_set]; omega)) rfl) ?_
              refine rw_bsliceL EOp [((gt l1 ((n1 - 1).toNat)).o)] .sq (guard_none rfl) rfl rfl rfl rfl rfl rfl rfl rfl rfl rfl rfl rfl rfl rfl rfl fun x9 x9b => ?_
              refine rw_appendL EOp later1 [((gt l1 ((n1 - 1).toNat)).o)] (b := x3b) .sq (fun _ _ => .inl ⟨_, rfl⟩) (guard_none rfl) rfl rfl rfl rfl rfl rfl rfl (fun _ _ => Uo) rfl rfl rfl rfl rfl rfl rfl (reads_ownL (e := 41) (b := x9b) Mm) (by show (later1.length + 1) * 56 ≤ 140737488355328; (try simp only [List.length_append, List.length_cons, List.length_nil]); omega) fun x10 x10b => ?_
              refine Tx ?_
              (repeat refine cw_seq ?_); refine cw_regionA (fun j => match j with | 7 => some [g1] | 9 => some [g1] | _ => some []) ?_
              refine Ra 0 [1,2,3,4,5] rfl (q_ldA rfl rfl (fun _ => rfl) rfl Mm rfl) ?_
              refine Rb 1 [3,4] [2,5,6,7,8,9] rfl Qp ?_
              refine Ra 2 [3,4] rfl Q1 ?_
              refine ra_q (.ab (i := 3) (js := [6, 7]) [4, 5, 8, 9] rfl Kr Kr Kr Kr Kr) (.keep (.drop (SplitB.all _))) (by intro g hg; simp at hg; simp [hg]) rfl rfl rfl (q_pev rfl (fun _ => rfl)) ?_
              refine ra_q (.an (i := 4) (js := [6, 7]) rfl Kr Kr Kr Kr) (.keep (.drop (SplitB.all _))) (by intro g hg; simp at hg; simp [hg]) rfl rfl rfl (q_sub rfl rfl (fun _ => rfl) rfl (fun _ => rfl) (fun _ => by omega)) ?_
              refine Ra 6 [5] rfl Qp ?_
              refine ra_two 5 7 Kr ?_ ?_
              · refine rw_takeOL EStep l1 ((n1 - 1).toNat) (e := 98) (X := x1.1) (ob := x1.2.1) (.an rfl rfl) (guard_none rfl) rfl rfl rfl rfl rfl rfl rfl rfl rfl Uo (by omega) (by first | omega | (simp only [List.length_set]; omega)) ?_
                refine ra_one 7 Kr ?_
                refine rw_stP (.an rfl rfl) (.inr (by simp)) (guard_none rfl) rfl rfl rfl rfl rfl rfl rfl rfl rfl Ub rfl ?_
                refine Ra 8 [] rfl Qp ?_
                refine ra_one 9 Kr ?_
                refine rw_st1 (.an rfl rfl) (.inr (by simp)) (guard_none rfl) rfl rfl rfl rfl rfl rfl rfl rfl rfl Ub rfl ?_
                refine ra_nil Kr ?_
                refine Tx ?_
                refine rw_q rfl rfl rfl (q_sub rfl rfl (fun _ => rfl) rfl (fun _ => rfl) (fun _ => by omega)) ?_
                refine Tx ?_
                refine ⟨⟨(later1 ++ [((gt l1 ((n1 - 1).toNat)).o)]), x10, x10b, (n1 - 1), (l1.take ((n1 - 1).toNat)), (move_Undo p1 (gt l1 ((n1 - 1).toNat))).1, x6, (fz1 - 1)⟩, ⟨(by (try simp only [List.length_append, List.length_cons, List.length_nil, List.length_take]); omega), (by (try simp only []); first | omega | (simp only [List.length_append, List.length_cons, List.length_nil]; omega)), (by rw [← hf1]; (conv => lhs; rw [← hlt0_]); simp only [history_Put_L0, hc4, hc5, cond_true, cond_false] : (history_Put h1 o1) = (history_Put_L0 o1 (fz1 - 1) (later1 ++ [((gt l1 ((n1 - 1).toNat)).o)]) (n1 - 1) (l1.take ((n1 - 1).toNat)) ((move_Undo p1 (gt l1 ((n1 - 1).toNat))).1))).symm⟩, (by simp only []; omega), Le4⟩
              · refine rw_stP (.an rfl rfl) (.inr (by simp)) (guard_none rfl) rfl rfl rfl rfl rfl rfl rfl rfl rfl Ub rfl ?_
                refine ra_one 5 Kr ?_
                refine rw_takeOL EStep l1 ((n1 - 1).toNat) (e := 98) (X := x1.1) (ob := x1.2.1) (.an rfl rfl) (guard_none rfl) rfl rfl rfl rfl rfl rfl rfl rfl rfl Uo (by omega) (by first | omega | (simp only [List.length_set]; omega)) ?_
                refine Ra 8 [] rfl Qp ?_
                refine ra_one 9 Kr ?_
                refine rw_st1 (.an rfl rfl) (.inr (by simp)) (guard_none rfl) rfl rfl rfl rfl rfl rfl rfl rfl rfl Ub rfl ?_
                refine ra_nil Kr ?_
                refine Tx ?_
                refine rw_q rfl rfl rfl (q_sub rfl rfl (fun _ => rfl) rfl (fun _ => rfl) (fun _ => by omega)) ?_
                refine Tx ?_
                refine ⟨⟨(later1 ++ [((gt l1 ((n1 - 1).toNat)).o)]), x10, x10b, (n1 - 1), (l1.take ((n1 - 1).toNat)), (move_Undo p1 (gt l1 ((n1 - 1).toNat))).1, x6, (fz1 - 1)⟩, ⟨(by (try simp only [List.length_append, List.length_cons, List.length_nil, List.length_take]); omega), (by (try simp only []); first | omega | (simp only [List.length_append, List.length_cons, List.length_nil]; omega)), (by rw [← hf1]; (conv => lhs; rw [← hlt0_]); simp only [history_Put_L0, hc4, hc5, cond_true, cond_false] : (history_Put h1 o1) = (history_Put_L0 o1 (fz1 - 1) (later1 ++ [((gt l1 ((n1 - 1).toNat)).o)]) (n1 - 1) (l1.take ((n1 - 1).toNat)) ((move_Undo p1 (gt l1 ((n1 - 1).toNat))).1))).symm⟩, (by simp only []; omega), Le4⟩
        · refine Tx ?_
          refine rw_q rfl rfl rfl (q_drop EOp 1 (l := later1) (X := x3) rfl rfl (fun _ => rfl) rfl (fun _ => rfl) rfl rfl (fun _ => by first | omega | (simp only [List.length_set]; omega)) (fun _ => by first | omega | (simp only [List.length_set]; omega))) ?_
          refine rw_callG (slices_ReverseK_Op_spec x3 x3b later1 1 (by omega)) .sq (.inl ⟨_, rfl⟩) (guard_none rfl) rfl rfl rfl Kr rfl rfl Sm (.nil _) (by first | exact .cons (.here _ _) (.nil _) | exact .cons (.there _ (.here _ _)) (.nil _) | exact .cons (.there _ (.there _ (.here _ _))) (.nil _) | exact .cons (.there _ (.there _ (.there _ (.here _ _)))) (.nil _)) ?_
          intro _
          have hv1l : later1.length = (slices_ReverseK_Op later1 1).length := (RK_Op_len later1 1 (by omega)).symm
          have hv1 : x3.val later1.length = x3.val (slices_ReverseK_Op later1 1).length := congrArg (SlV.val x3) hv1l
          try rw [hv1]
          have hv2 : (⟨slA x3.a x3.c 1 EOp.esz, x3.c - 1⟩ : SlV).val (later1.drop 1).length = (⟨slA x3.a x3.c 1 EOp.esz, x3.c - 1⟩ : SlV).val ((slices_ReverseK_Op later1 1).drop 1).length := by congr 1; simp only [List.length_drop, List.length_set] <;> omega
          try rw [hv2]
          refine Tx ?_
          refine cw_le (le_freezeL EOp 41 x3 x3b (slices_ReverseK_Op later1 1) Uo) ?_
          refine Pc EOp x3 (slices_ReverseK_Op later1 1) 56 fun hlen6 => ?_
          (repeat refine cw_seq ?_); refine Lp [2,4,5,93,94] [false, true] (fun (i_ : Nat × List Step × SlV × Option Nat × List Place × SlV) => match i_ with | ⟨n2, l2, x11, x11b, p2, x12⟩ => (⟨[(95, .v (.int .i64 (n2 : Int)))], [⟨g1, 28, [x11.val l2.length, x12.val p2.length]⟩], [ownL EStep 98 x11 x11b l2], [RdL EPlace x12 p2], (n2 ≤ (slices_ReverseK_Op later1 1).length) ∧ (l2.length ≤ n2 + l1.length) ∧ (history_Put_L1 ((slices_ReverseK_Op later1 1).drop n2) l2 p2) = (history_Put h1 o1), (slices_ReverseK_Op later1 1).length - n2⟩ : Ls)) ⟨0, l1, x1.1, x1.2.1, p1, x5⟩ (Sc (Sc (Sc (Sc (Sc Sn))))) (.drop (.keep (.nil))) ⟨Nat.zero_le _, (by first | exact Nat.le_refl _ | exact Nat.zero_le _ | omega), (by rw [← hf1]; (conv => lhs; rw [← hlt0_]); simp only [history_Put_L0, hc4, cond_true, cond_false] : (history_Put h1 o1) = (history_Put_L1 (slices_ReverseK_Op later1 1) l1 p1)).symm⟩ Le4 ?_
          rintro ⟨n2, l2, x11, x11b, p2, x12⟩ ⟨hkn2, hl2, hf2⟩
          simp only [List.cons_append, List.nil_append]
          refine Tx ?_
          refine Cd (b := decide ((n2 : Int) < ((slices_ReverseK_Op later1 1).length : Int))) (fun hc6 => ?_) fun hc6 => ?_
          · have hlt1 : n2 < (slices_ReverseK_Op later1 1).length := Int.ofNat_lt.1 (of_decide_eq_true hc6)
            refine Tx ?_
            refine rw_q rfl rfl rfl (q_idx EOp n2 rfl rfl (fun _ => rfl) rfl (fun _ => rfl) rfl rfl rfl Mm rfl (fun _ => rfl) (fun _ => by first | assumption | omega)) ?_
            refine rw_q rfl rfl rfl (q_leA EOp rfl rfl (fun _ => rfl) rfl rfl Mm (fun _ => by first | assumption | omega)) ?_
            refine Al fun g7 => ?_
            refine Tx ?_
            refine Cl (move_Do_spec x12 p2 (gt (slices_ReverseK_Op later1 1) n2)) fun x13 => ?_
            refine Pr EPlace x13 ((move_Do p2 (gt (slices_ReverseK_Op later1 1) n2)).1) 24 fun hlen7 => ?_
            refine Tx ?_
            refine Al fun g8 => ?_
            refine Al fun g9 => ?_
            refine Tx ?_
            refine Cd (b := (((move_Do p2 (gt (slices_ReverseK_Op later1 1) n2)).2.2) != 0)) (fun hc7 => ?_) fun hc7 => ?_
            · have hc7p := bne_iff_ne.1 hc7
              refine Tx ?_
              refine Fc EStep ?_
              refine Fc EPlace ?_
              have hr5 : (history_Put h1 o1) = ((⟨([] : List Step), ([] : List Place)⟩ : History), (move_Do p2 (gt (slices_ReverseK_Op later1 1) n2)).2.2) := by rw [← hf2, drop_gt hlt1]; simp only [history_Put_L1, hc7, cond_true, cond_false]
              refine cw_ret ?_; rw [hr5]; exact Re ⟨(⟨none, 0⟩ : SlV), (⟨none, 0⟩ : SlV)⟩ (Va (Vt Vn))
            · have hc7p := eq_of_bne_false hc7
              refine Tx ?_
              (repeat refine cw_seq ?_); refine cw_regionA (fun j => match j with | 5 => some x11b.toList | 7 => some [g1] | 9 => some [g1] | _ => some []) ?_
              refine ra_q (.an (i := 0) (js := [1, 2, 3, 4, 5]) rfl Kr Kr Kr Kr) (SplitB.all _) (by intro g hg; simp only [List.mem_append, List.mem_singleton, List.not_mem_nil, or_false, false_or, Option.mem_toList, Option.mem_def, List.append_nil] at hg; first | exact .inr ⟨ownL EStep 98 x11 x11b l2, Mm, hg⟩) rfl rfl rfl (q_ldA rfl rfl (fun _ => rfl) rfl Mm rfl) ?_
              refine Rb 1 [3,4] [2,5,6,7,8,9] rfl Qp ?_
              refine Ra 2 [3,4] rfl Q1 ?_
              refine Rb 3 [6] [4,5,7,8,9] rfl (q_ldA rfl rfl (fun _ => rfl) rfl Mm rfl) ?_
              refine ra_q (.an (i := 6) (js := [4, 5]) rfl Kr Kr Kr Kr) (SplitB.all _) (by intro g hg; simp only [List.mem_append, List.mem_singleton, List.not_mem_nil, or_false, false_or, Option.mem_toList, Option.mem_def, List.append_nil] at hg; first | exact .inr ⟨ownL EStep 98 x11 x11b l2, Mm, hg⟩) rfl rfl rfl (q_pev rfl (fun _ => rfl)) ?_
              refine ra_one 4 Kr ?_
              refine rw_bsliceL EStep [((move_Do p2 (gt (slices_ReverseK_Op later1 1) n2)).2.1)] (.an rfl rfl) (guard_none rfl) rfl rfl rfl rfl rfl rfl rfl rfl rfl rfl rfl rfl rfl rfl rfl fun x14 x14b => ?_
              refine ra_one 5 Kr ?_
              refine rw_appendL EStep l2 [((move_Do p2 (gt (slices_ReverseK_Op later1 1) n2)).2.1)] (b := x11b) (.an rfl rfl) (fun g h => .inr (by simp [h])) (guard_none rfl) rfl rfl rfl rfl rfl rfl rfl (fun _ _ => Uo) rfl rfl rfl rfl rfl rfl rfl (reads_ownL (e := 98) (b := x14b) Mm) (by show (l2.length + 1) * 88 ≤ 140737488355328; (try simp only [List.length_append, List.length_cons, List.length_nil]); omega) fun x15 x15b => ?_
              refine ra_one 7 Kr ?_
              refine rw_stP (.an rfl rfl) (.inr (by simp)) (guard_none rfl) rfl rfl rfl rfl rfl rfl rfl rfl rfl Ub rfl ?_
              refine Ra 8 [] rfl Qp ?_
              refine ra_one 9 Kr ?_
              refine rw_st1 (.an rfl rfl) (.inr (by simp)) (guard_none rfl) rfl rfl rfl rfl rfl rfl rfl rfl rfl Ub rfl ?_
              refine ra_nil Kr ?_
              refine Tx ?_
              refine rw_q rfl rfl rfl (q_add rfl rfl (fun _ => rfl) rfl (fun _ => rfl) (fun _ => by omega)) ?_
              refine Tx ?_
              refine ⟨⟨(n2 + 1), (l2 ++ [((move_Do p2 (gt (slices_ReverseK_Op later1 1) n2)).2.1)]), x15, x15b, (move_Do p2 (gt (slices_ReverseK_Op later1 1) n2)).1, x13⟩, ⟨hlt1, (by simp only [List.length_append, List.length_cons, List.length_nil]; omega), (by rw [← hf2, drop_gt hlt1]; simp only [history_Put_L1, hc7, cond_true, cond_false] : (history_Put h1 o1) = (history_Put_L1 ((slices_ReverseK_Op later1 1).drop (n2 + 1)) (l2 ++ [((move_Do p2 (gt (slices_ReverseK_Op later1 1) n2)).2.1)]) ((move_Do p2 (gt (slices_ReverseK_Op later1 1) n2)).1))).symm⟩, (by simp only []; omega), Le4⟩
          · have hge1 : (slices_ReverseK_Op later1 1).length ≤ n2 := by have := of_decide_eq_false hc6; omega
            refine Tx ?_
            refine cw_le (le_freezeL EStep 98 x11 x11b l2 Uo) ?_
            have hr6 : (history_Put h1 o1) = ((⟨l2, p2⟩ : History), 0) := by rw [← hf2, List.drop_of_length_le hge1]; simp only [history_Put_L1, cond_true, cond_false]
            refine cw_ret ?_; rw [hr6]; exact Re ⟨x11, x12⟩ (Va (Vt Vn))
end Go.Proofs.YtccmadehnoihnaaGreatDoor

set_option maxHeartbeats 2000000
namespace Go.Proofs.YtccmadehnoihnaaGreatDoor
open Go Go.Proofs.YtccmadehnoihnaaGreatDoor.Fw Go.Proofs
attribute [local irreducible] RW CW

def orangerylaw_op (time1 : Int) (who1 : Int) (node1 : Int) (parent1 : Int) : Op :=
  (⟨time1, who1, node1, parent1, 0, 1, time1⟩ : Op)
theorem orangerylaw_op_spec (time1 : Int) (who1 : Int) (node1 : Int) (parent1 : Int) : Does Tryz.prog 18 [.int .i64 time1, .int .i64 who1, .int .i64 node1, .int .i64 parent1] [] (fun (_ : Unit) => .agg ⟨[.int .i64 ((orangerylaw_op time1 who1 node1 parent1).time), .int .i64 ((orangerylaw_op time1 who1 node1 parent1).who), .int .i64 ((orangerylaw_op time1 who1 node1 parent1).node), .int .i64 ((orangerylaw_op time1 who1 node1 parent1).parent), .int .i64 ((orangerylaw_op time1 who1 node1 parent1).name), .int .i64 ((orangerylaw_op time1 who1 node1 parent1).life), .int .i64 ((orangerylaw_op time1 who1 node1 parent1).seq)]⟩) (fun (_ : Unit) => []) := by
  refine does_of tab_ok Tryz.func18 rfl Tryz.ntmps18 Tryz.results18 rfl inferInstance (fun _ => inferInstance) fun C => ?_
  refine Tx ?_
  refine Al fun g1 => ?_
  refine Tx ?_
  have hr1 : (orangerylaw_op time1 who1 node1 parent1) = (⟨time1, who1, node1, parent1, 0, 1, time1⟩ : Op) := by simp only [orangerylaw_op, cond_true, cond_false]
  refine cw_ret ?_; rw [hr1]; exact Re () (Va Vn)
end Go.Proofs.YtccmadehnoihnaaGreatDoor

set_option maxHeartbeats 2000000
namespace Go.Proofs.YtccmadehnoihnaaGreatDoor
open Go Go.Proofs.YtccmadehnoihnaaGreatDoor.Fw Go.Proofs
attribute [local irreducible] RdL RdN VarP RW CW
theorem history_Ops_eq (h : History) : history_Ops h = h.l.map (·.o) := by
  have key : ∀ (l : List Step) (acc : List Op), history_Ops_L0 l acc = acc ++ l.map (·.o) := by
    intro l
    induction l with
    | nil => intro acc; simp [history_Ops_L0]
    | cons p r ih => intro acc; rw [history_Ops_L0, ih]; simp
  unfold history_Ops
  rw [key]; simp
theorem history_Fold_len {l : List Op} (h : (history_Fold l).2 = 0) : l.length ≤ 30 := by
  unfold history_Fold at h
  cases hc : decide ((l.length : Int) > 30) with
  | true => rw [hc, cond_true] at h; cases h
  | false => have := of_decide_eq_false hc; omega
theorem history_Check_fold {h : History} (hc : history_Check h = 0) : (history_Fold (history_Ops h)).2 = 0 ∧ history_Same (history_Fold (history_Ops h)).1 h = true := by
  unfold history_Check at hc
  cases h1 : ((history_Fold (history_Ops h)).2 == 0 && !history_Same (history_Fold (history_Ops h)).1 h) with
  | true => rw [h1, cond_true] at hc; cases hc
  | false =>
    rw [h1, cond_false] at hc
    rw [hc] at h1
    exact ⟨hc, by simpa using h1⟩
theorem history_Check_len {h : History} (hc : history_Check h = 0) : h.l.length ≤ 30 := by
  have := history_Fold_len (history_Check_fold hc).1
  rw [history_Ops_eq, List.length_map] at this
  exact this
end Go.Proofs.YtccmadehnoihnaaGreatDoor

set_option maxHeartbeats 2000000
namespace Go.Proofs.YtccmadehnoihnaaGreatDoor
open Go Go.Proofs.YtccmadehnoihnaaGreatDoor.Fw Go.Proofs
attribute [local irreducible] RW CW
theorem tmod_in (k n : Int) (h : 0 < n) : -n < k.tmod n ∧ k.tmod n < n := ⟨Int.lt_tmod_of_pos k h, Int.tmod_lt_of_pos k h⟩

def orangerylaw_at (k1 : Int) (n1 : Int) : Int :=
  (bif decide ((k1.tmod n1) < 0) then ((k1.tmod n1) + n1) else (k1.tmod n1))
theorem orangerylaw_at_spec (k1 : Int) (n1 : Int) (hn : 0 < n1 ∧ n1 ≤ 1000000000000000000) : Does Tryz.prog 6 [.int .i64 k1, .int .i64 n1] [] (fun (_ : Unit) => .int .i64 (orangerylaw_at k1 n1)) (fun (_ : Unit) => []) := by
  refine does_of tab_ok Tryz.func6 rfl Tryz.ntmps6 Tryz.results6 rfl inferInstance (fun _ => inferInstance) fun C => ?_
  refine Tx ?_
  refine rw_q rfl rfl rfl (q_rem rfl rfl (fun _ => rfl) rfl (fun _ => rfl) (fun _ => by first | omega | (have := tmod_in k1 n1 (by omega); omega))) ?_
  refine Tx ?_
  refine Cd (b := decide ((k1.tmod n1) < 0)) (fun hc1 => ?_) fun hc1 => ?_
  · have hc1p := of_decide_eq_true hc1
    refine Tx ?_
    refine rw_q rfl rfl rfl (q_add rfl rfl (fun _ => rfl) rfl (fun _ => rfl) (fun _ => by first | omega | (have := tmod_in k1 n1 (by omega); omega))) ?_
    refine Tx ?_
    have hr1 : (orangerylaw_at k1 n1) = ((k1.tmod n1) + n1) := by simp only [orangerylaw_at, hc1, cond_true, cond_false]
    refine cw_ret ?_; rw [hr1]; exact Re () (Vt Vn)
  · have hc1p := of_decide_eq_false hc1
    refine Tx ?_
    have hr2 : (orangerylaw_at k1 n1) = (k1.tmod n1) := by simp only [orangerylaw_at, hc1, cond_true, cond_false]
    refine cw_ret ?_; rw [hr2]; exact Re () (Vt Vn)

theorem at_in {k n : Int} (h : 0 < n) : 0 ≤ orangerylaw_at k n ∧ orangerylaw_at k n < n := by
  have := tmod_in k n h
  unfold orangerylaw_at
  cases hb : decide (k.tmod n < 0) with
  | true => simp at hb; simp only [cond_true]; omega
  | false => simp at hb; simp only [cond_false]; omega

def slices_IndexFunc_int_L0 (f1 : Int → Bool) : List Int → Nat → Int
  | [], n1 => (-1)
  | pn1 :: rn1, n1 => (bif (f1 pn1) then (n1 : Int) else (slices_IndexFunc_int_L0 f1 rn1 (n1 + 1)))
def slices_IndexFunc_int (s1 : List Int) (f1 : Int → Bool) : Int :=
  (slices_IndexFunc_int_L0 f1 s1 0)
theorem slices_IndexFunc_int_spec (y1 : SlV) (s1 : List Int) (f2 : Nat) (caps1 : List Value) (pre1 : List Pred) [StabL pre1] (f1 : Int → Bool) (hfb1 : tab.fnb f2 = true) (hfn1 : ∀ (a0_ : Int), Does Tryz.prog f2 ([.int .i64 a0_] ++ caps1) pre1 (fun (_ : Unit) => .bool (f1 a0_)) (fun (_ : Unit) => [])) : Does Tryz.prog 81 [y1.val s1.length, .func (.func f2) #[] ⟨caps1⟩] (RdL EInt y1 s1 :: pre1) (fun (_ : Unit) => .int .i64 (slices_IndexFunc_int s1 f1)) (fun (_ : Unit) => []) := by
  refine does_of tab_ok Tryz.func81 rfl Tryz.ntmps81 Tryz.results81 rfl inferInstance (fun _ => inferInstance) fun C => ?_
  refine cw_pure (φ := s1.length * 8 ≤ 140737488355328) [RdL EInt y1 s1] Sf (fun M w h => (allF1 h).len) fun hlen1 => ?_
  refine Tx ?_
  (repeat refine cw_seq ?_); refine Lp [0,1,4,7] [] (fun (n1 : Nat) => (⟨[(8, .v (.int .i64 (n1 : Int)))], [], [], [], (n1 ≤ s1.length) ∧ (slices_IndexFunc_int_L0 f1 (s1.drop n1) n1) = (slices_IndexFunc_int s1 f1), s1.length - n1⟩ : Ls)) 0 (Sc (Sc (Sc (Sc Sn)))) (.nil) ⟨Nat.zero_le _, (by simp only [slices_IndexFunc_int, cond_true, cond_false] : (slices_IndexFunc_int s1 f1) = (slices_IndexFunc_int_L0 f1 s1 0)).symm⟩ Le5 ?_
  rintro n1 ⟨hkn1, hf1⟩
  simp only [List.cons_append, List.nil_append]
  refine Tx ?_
  refine Cd (b := decide ((n1 : Int) < (s1.length : Int))) (fun hc1 => ?_) fun hc1 => ?_
  · have hlt0 : n1 < s1.length := Int.ofNat_lt.1 (of_decide_eq_true hc1)
    refine Tx ?_
    refine rw_q rfl rfl rfl (q_idx EInt n1 rfl rfl (fun _ => rfl) rfl (fun _ => rfl) rfl rfl rfl Mm rfl (fun _ => rfl) (fun _ => by first | assumption | omega)) ?_
    refine rw_q rfl rfl rfl (q_le1 EInt rfl rfl (fun _ => rfl) rfl rfl Mm (fun _ => by first | assumption | omega) rfl) ?_
    refine rw_callv (hfn1 (gt s1 n1)) .sq (guard_none rfl) rfl rfl rfl rfl rfl (by assumption) rfl rfl rfl Sf ?_
    intro _
    refine rw_nil ?_
    (repeat refine cw_seq ?_)
    refine Cd (b := (f1 (gt s1 n1))) (fun hc2 => ?_) fun hc2 => ?_
    · refine Tx ?_
      have hr1 : (slices_IndexFunc_int s1 f1) = (n1 : Int) := by rw [← hf1, drop_gt hlt0]; simp only [slices_IndexFunc_int_L0, hc2, cond_true, cond_false]
      refine cw_ret ?_
      rw [hr1]
      exact ⟨(), _, (.cons (.tmp rfl) .nil), rfl, Sf, .nil _, .nil _⟩
    · refine Tx ?_
      refine rw_q rfl rfl rfl (q_add rfl rfl (fun _ => rfl) rfl (fun _ => rfl) (fun _ => by omega)) ?_
      refine Tx ?_
      refine ⟨(n1 + 1), ⟨hlt0, (by rw [← hf1, drop_gt hlt0]; simp only [slices_IndexFunc_int_L0, hc2, cond_true, cond_false] : (slices_IndexFunc_int s1 f1) = (slices_IndexFunc_int_L0 f1 (s1.drop (n1 + 1)) (n1 + 1))).symm⟩, (by simp only []; omega), Le5⟩
  · have hge0 : s1.length ≤ n1 := by have := of_decide_eq_false hc1; omega
    refine Tx ?_
    have hr2 : (slices_IndexFunc_int s1 f1) = (-1) := by rw [← hf1, List.drop_of_length_le hge0]; simp only [slices_IndexFunc_int_L0, cond_true, cond_false]
    refine cw_ret ?_
    rw [hr2]
    exact ⟨(), _, (.cons (.tmp rfl) .nil), rfl, Sf, .nil _, .nil _⟩

def slices_ContainsFunc_int (s1 : List Int) (f1 : Int → Bool) : Bool :=
  decide ((slices_IndexFunc_int s1 f1) ≥ 0)
theorem slices_ContainsFunc_int_spec (y1 : SlV) (s1 : List Int) (f2 : Nat) (caps1 : List Value) (pre1 : List Pred) [StabL pre1] (f1 : Int → Bool) (hfb1 : tab.fnb f2 = true) (hfn1 : ∀ (a0_ : Int), Does Tryz.prog f2 ([.int .i64 a0_] ++ caps1) pre1 (fun (_ : Unit) => .bool (f1 a0_)) (fun (_ : Unit) => [])) : Does Tryz.prog 66 [y1.val s1.length, .func (.func f2) #[] ⟨caps1⟩] (RdL EInt y1 s1 :: pre1) (fun (_ : Unit) => .bool (slices_ContainsFunc_int s1 f1)) (fun (_ : Unit) => []) := by
  refine does_of tab_ok Tryz.func66 rfl Tryz.ntmps66 Tryz.results66 rfl inferInstance (fun _ => inferInstance) fun C => ?_
  refine cw_pure (φ := s1.length * 8 ≤ 140737488355328) [RdL EInt y1 s1] Sf (fun M w h => (allF1 h).len) fun hlen1 => ?_
  refine Tx ?_
  refine rw_call (slices_IndexFunc_int_spec y1 s1 _ _ _ f1 (by assumption) hfn1) .sq (guard_none rfl) rfl rfl rfl Kr rfl rfl Sf ?_
  intro _
  refine Tx ?_
  have hr1 : (slices_ContainsFunc_int s1 f1) = decide ((slices_IndexFunc_int s1 f1) ≥ 0) := by simp only [slices_ContainsFunc_int, cond_true, cond_false]
  refine cw_ret ?_
  rw [hr1]
  exact ⟨(), _, (.cons (.tmp rfl) .nil), rfl, Sf, .nil _, .nil _⟩

theorem slices_ContainsFunc_int_eq (s : List Int) (f : Int → Bool) : slices_ContainsFunc_int s f = s.any f := by
  have key : ∀ (l : List Int) (k : Nat), decide (slices_IndexFunc_int_L0 f l k ≥ 0) = l.any f := by
    intro l
    induction l with
    | nil => intro k; rfl
    | cons p r ih =>
      intro k
      rw [slices_IndexFunc_int_L0, List.any_cons]
      cases f p with
      | true => simp only [cond_true, Bool.true_or, decide_eq_true_eq]; omega
      | false => rw [cond_false, ih, Bool.false_or]
  exact key s 0
theorem slices_ContainsFunc_int_spec' (y1 : SlV) (s1 : List Int) (f1 : Nat) (caps1 : List Value) (pre1 : List Pred) [StabL pre1] (p1 : Int → Bool) (hfb1 : tab.fnb f1 = true) (hfn1 : ∀ (a0_ : Int), Does Tryz.prog f1 ([.int .i64 a0_] ++ caps1) pre1 (fun (_ : Unit) => .bool (p1 a0_)) (fun (_ : Unit) => [])) :
    Does Tryz.prog 66 [y1.val s1.length, .func (.func f1) #[] ⟨caps1⟩] (RdL EInt y1 s1 :: pre1) (fun (_ : Unit) => .bool (s1.any p1)) (fun (_ : Unit) => []) := by
  have := slices_ContainsFunc_int_spec y1 s1 f1 caps1 pre1 p1 hfb1 hfn1
  rw [slices_ContainsFunc_int_eq] at this
  exact this
end Go.Proofs.YtccmadehnoihnaaGreatDoor

set_option maxHeartbeats 2000000
namespace Go.Proofs.YtccmadehnoihnaaGreatDoor
open Go Go.Proofs.YtccmadehnoihnaaGreatDoor.Fw Go.Proofs
attribute [local irreducible] RW CW
def view_Roots_L0 (l1 : List Int) : List Int → Nat → Int
  | [], n1 => 0
  | pn1 :: rn1, n1 => (bif (decide (pn1 < 0) || decide (pn1 > 16)) then 5 else (bif (decide ((n1 : Int) > 0) && decide ((gt l1 (n1 - 1)) ≥ pn1)) then 6 else (view_Roots_L0 l1 rn1 (n1 + 1))))
def view_Roots (l1 : List Int) : Int :=
  (bif decide ((l1.length : Int) > 4) then 2 else (view_Roots_L0 l1 l1 0))
theorem view_Roots_spec (y1 : SlV) (l1 : List Int) : Does Tryz.prog 36 [y1.val l1.length] [RdL EInt y1 l1] (fun (_ : Unit) => .int .i64 (view_Roots l1)) (fun (_ : Unit) => []) := by
  refine does_of tab_ok Tryz.func36 rfl Tryz.ntmps36 Tryz.results36 rfl inferInstance (fun _ => inferInstance) fun C => ?_
  refine Pc EInt y1 l1 8 fun hlen1 => ?_
  refine Tx ?_
  refine Cd (b := decide ((l1.length : Int) > 4)) (fun hc1 => ?_) fun hc1 => ?_
  · have hc1p := of_decide_eq_true hc1
    refine Tx ?_
    have hr1 : (view_Roots l1) = 2 := by simp only [view_Roots, hc1, cond_true, cond_false]
    refine cw_ret ?_; rw [hr1]; exact Re () (Vt Vn)
  · have hc1p := of_decide_eq_false hc1
    refine Tx ?_
    (repeat refine cw_seq ?_); refine Lp [0,2,8,9] [] (fun (n1 : Nat) => (⟨[(10, .v (.int .i64 (n1 : Int)))], [], [], [], (n1 ≤ l1.length) ∧ (view_Roots_L0 l1 (l1.drop n1) n1) = (view_Roots l1), l1.length - n1⟩ : Ls)) 0 (Sc (Sc (Sc (Sc Sn)))) (.nil) ⟨Nat.zero_le _, (by simp only [view_Roots, hc1, cond_true, cond_false] : (view_Roots l1) = (view_Roots_L0 l1 l1 0)).symm⟩ Le4 ?_
    rintro n1 ⟨hkn1, hf1⟩
    simp only [List.cons_append, List.nil_append]
    refine Tx ?_
    refine Cd (b := decide ((n1 : Int) < (l1.length : Int))) (fun hc2 => ?_) fun hc2 => ?_
    · have hlt0 : n1 < l1.length := Int.ofNat_lt.1 (of_decide_eq_true hc2)
      refine Tx ?_
      refine rw_q rfl rfl rfl (q_idx EInt n1 rfl rfl (fun _ => rfl) rfl (fun _ => rfl) rfl rfl rfl Mm rfl (fun _ => rfl) (fun _ => by first | assumption | omega)) ?_
      refine rw_q rfl rfl rfl (q_le1 EInt rfl rfl (fun _ => rfl) rfl rfl Mm (fun _ => by first | assumption | omega) rfl) ?_
      refine Tx ?_
      refine Cd (b := (decide ((gt l1 n1) < 0) || decide ((gt l1 n1) > 16))) (fun hc3 => ?_) fun hc3 => ?_
      · refine Tx ?_
        have hr2 : (view_Roots l1) = 5 := by rw [← hf1, drop_gt hlt0]; simp only [view_Roots_L0, hc3, cond_true, cond_false]
        refine cw_ret ?_; rw [hr2]; exact Re () (Vt Vn)
      · refine Tx ?_
        refine rw_qg (guard_vt rfl rfl rfl) rfl rfl (q_sub rfl rfl Bt rfl Bt (by intro h; first | omega | (simp at h; omega))) ?_
        refine rw_qg (guard_vt rfl rfl rfl) rfl rfl (q_idx EInt (n1 - 1) rfl rfl Bt rfl Bt rfl rfl rfl Mm rfl (by intro h; first | omega | rfl | (simp at h; omega)) (by first | (intro _; first | assumption | omega) | (intro h; simp at h; omega))) ?_
        refine rw_qg (guard_vt rfl rfl rfl) rfl rfl (q_le1 EInt rfl rfl Bt rfl rfl Mm (by first | (intro _; first | assumption | omega) | (intro h; simp at h; omega)) rfl) ?_
        refine Tx ?_
        refine Cd (b := (decide ((n1 : Int) > 0) && decide ((gt l1 (n1 - 1)) ≥ (gt l1 n1)))) (fun hc4 => ?_) fun hc4 => ?_
        · refine Tx ?_
          have hr3 : (view_Roots l1) = 6 := by rw [← hf1, drop_gt hlt0]; simp only [view_Roots_L0, hc3, hc4, cond_true, cond_false]
          refine cw_ret ?_; rw [hr3]; exact Re () (Vt Vn)
        · refine Tx ?_
          refine rw_q rfl rfl rfl (q_add rfl rfl (fun _ => rfl) rfl (fun _ => rfl) (fun _ => by omega)) ?_
          refine Tx ?_
          refine ⟨(n1 + 1), ⟨hlt0, (by rw [← hf1, drop_gt hlt0]; simp only [view_Roots_L0, hc3, hc4, cond_true, cond_false] : (view_Roots l1) = (view_Roots_L0 l1 (l1.drop (n1 + 1)) (n1 + 1))).symm⟩, (by simp only []; omega), Le4⟩
    · have hge0 : l1.length ≤ n1 := by have := of_decide_eq_false hc2; omega
      refine Tx ?_
      have hr4 : (view_Roots l1) = 0 := by rw [← hf1, List.drop_of_length_le hge0]; simp only [view_Roots_L0, cond_true, cond_false]
      refine cw_ret ?_; rw [hr4]; exact Re () (Vt Vn)

def view_below_1 (r1 : Int) (t1 : List Place) (node1 : Int) : Bool :=
  (tree_Stands t1 node1 r1)
theorem view_below_1_spec (r1 : Int) (c1 : Nat) (y1 : SlV) (t1 : List Place) (c2 : Nat) (node1 : Int) : Does Tryz.prog 67 [.int .i64 r1, .pointer (some ⟨c1, 0, none⟩), .pointer (some ⟨c2, 0, none⟩)] [VarP c1 [y1.val t1.length], RdL EPlace y1 t1, VarP c2 [.int .i64 node1]] (fun (_ : Unit) => .bool (view_below_1 r1 t1 node1)) (fun (_ : Unit) => []) := by
  refine does_of tab_ok Tryz.func67 rfl Tryz.ntmps67 Tryz.results67 rfl inferInstance (fun _ => inferInstance) fun C => ?_
  refine Tx ?_
  refine Cl (tree_Stands_spec y1 t1 node1 r1) fun _ => ?_
  refine Tx ?_
  have hr1 : (view_below_1 r1 t1 node1) = (tree_Stands t1 node1 r1) := by simp only [view_below_1, cond_true, cond_false]
  refine cw_ret ?_; rw [hr1]; exact Re () (Vt Vn)

def view_above_1 (r1 : Int) (node1 : Int) (t1 : List Place) : Bool :=
  ((r1 != node1) && (tree_Stands t1 r1 node1))
theorem view_above_1_spec (r1 : Int) (c1 : Nat) (node1 : Int) (c2 : Nat) (y1 : SlV) (t1 : List Place) : Does Tryz.prog 68 [.int .i64 r1, .pointer (some ⟨c1, 0, none⟩), .pointer (some ⟨c2, 0, none⟩)] [VarP c1 [.int .i64 node1], VarP c2 [y1.val t1.length], RdL EPlace y1 t1] (fun (_ : Unit) => .bool (view_above_1 r1 node1 t1)) (fun (_ : Unit) => []) := by
  refine does_of tab_ok Tryz.func68 rfl Tryz.ntmps68 Tryz.results68 rfl inferInstance (fun _ => inferInstance) fun C => ?_
  refine Tx ?_
  refine rw_qg (guard_vt rfl rfl rfl) rfl rfl (q_lfA rfl rfl Bt rfl Mm rfl) ?_
  refine Tx ?_
  refine rw_qg (guard_vt rfl rfl rfl) rfl rfl (q_lf1 rfl rfl Bt rfl Mm rfl) ?_
  refine rw_callg (fun hG_ => tree_Stands_spec y1 t1 r1 node1) (fun _ => rfl) .sq (guard_vt rfl rfl rfl) rfl rfl rfl Kr rfl Bt Sm ?_
  refine Tx ?_
  have hr1 : (view_above_1 r1 node1 t1) = ((r1 != node1) && (tree_Stands t1 r1 node1)) := by simp only [view_above_1, cond_true, cond_false]
  refine cw_ret ?_; rw [hr1]; exact Re () (Vt Vn)

def view_below (t1 : List Place) (node1 : Int) (roots1 : List Int) : Bool :=
  (roots1.any (fun a0_ => view_below_1 a0_ t1 node1))
theorem view_below_spec (y1 : SlV) (t1 : List Place) (node1 : Int) (y2 : SlV) (roots1 : List Int) : Does Tryz.prog 48 [.agg ⟨[y1.val t1.length]⟩, .int .i64 node1, y2.val roots1.length] [RdL EPlace y1 t1, RdL EInt y2 roots1] (fun (_ : Unit) => .bool (view_below t1 node1 roots1)) (fun (_ : Unit) => []) := by
  refine does_of tab_ok Tryz.func48 rfl Tryz.ntmps48 Tryz.results48 rfl inferInstance (fun _ => inferInstance) fun C => ?_
  refine Pc EPlace y1 t1 24 fun hlen1 => ?_
  refine Pc EInt y2 roots1 8 fun hlen2 => ?_
  refine Tx ?_
  refine Bx fun g1 => ?_
  refine rw_box (cs := [_]) .sq (guard_none rfl) rfl rfl rfl rfl rfl rfl fun g2 => ?_
  refine Tx ?_
  refine rw_le (le_var (g := g1) Pk) ?_
  refine rw_le (le_var (g := g2) Pk) ?_
  refine Cl (slices_ContainsFunc_int_spec' y2 roots1 _ _ _ (fun a0_ => view_below_1 a0_ t1 node1) Kr (fun a0_ => view_below_1_spec a0_ g1 y1 t1 g2 node1)) fun _ => ?_
  refine Tx ?_
  have hr1 : (view_below t1 node1 roots1) = (roots1.any (fun a0_ => view_below_1 a0_ t1 node1)) := by simp only [view_below, cond_true, cond_false]
  refine cw_ret ?_; rw [hr1]; exact Re () (Vt Vn)

def view_above (t1 : List Place) (node1 : Int) (roots1 : List Int) : Bool :=
  (roots1.any (fun a0_ => view_above_1 a0_ node1 t1))
theorem view_above_spec (y1 : SlV) (t1 : List Place) (node1 : Int) (y2 : SlV) (roots1 : List Int) : Does Tryz.prog 49 [.agg ⟨[y1.val t1.length]⟩, .int .i64 node1, y2.val roots1.length] [RdL EPlace y1 t1, RdL EInt y2 roots1] (fun (_ : Unit) => .bool (view_above t1 node1 roots1)) (fun (_ : Unit) => []) := by
  refine does_of tab_ok Tryz.func49 rfl Tryz.ntmps49 Tryz.results49 rfl inferInstance (fun _ => inferInstance) fun C => ?_
  refine Pc EPlace y1 t1 24 fun hlen1 => ?_
  refine Pc EInt y2 roots1 8 fun hlen2 => ?_
  refine Tx ?_
  refine Bx fun g1 => ?_
  refine rw_box (cs := [_]) .sq (guard_none rfl) rfl rfl rfl rfl rfl rfl fun g2 => ?_
  refine Tx ?_
  refine rw_le (le_var (g := g2) Pk) ?_
  refine rw_le (le_var (g := g1) Pk) ?_
  refine Cl (slices_ContainsFunc_int_spec' y2 roots1 _ _ _ (fun a0_ => view_above_1 a0_ node1 t1) Kr (fun a0_ => view_above_1_spec a0_ g2 node1 g1 y1 t1)) fun _ => ?_
  refine Tx ?_
  have hr1 : (view_above t1 node1 roots1) = (roots1.any (fun a0_ => view_above_1 a0_ node1 t1)) := by simp only [view_above, cond_true, cond_false]
  refine cw_ret ?_; rw [hr1]; exact Re () (Vt Vn)

def view_Of_L0 (t1 : List Place) (roots1 : List Int) : List Place → (List Place) → (List Place) → (View × Int)
  | [], known1, way1 => ((⟨roots1, known1, way1⟩ : View), 0)
  | pn1 :: rn1, known1, way1 => (bif (view_below t1 (pn1.node) roots1) then (view_Of_L0 t1 roots1 rn1 (known1 ++ [pn1]) way1) else (bif (view_above t1 (pn1.node) roots1) then (view_Of_L0 t1 roots1 rn1 known1 (way1 ++ [pn1])) else (view_Of_L0 t1 roots1 rn1 known1 way1)))
def view_Of (t1 : List Place) (roots1 : List Int) : View × Int :=
  (bif ((tree_Check t1) != 0) then ((⟨([] : List Int), ([] : List Place), ([] : List Place)⟩ : View), (tree_Check t1)) else (bif ((view_Roots roots1) != 0) then ((⟨([] : List Int), ([] : List Place), ([] : List Place)⟩ : View), (view_Roots roots1)) else (view_Of_L0 t1 roots1 t1 [] [])))
theorem view_Of_spec (y1 : SlV) (t1 : List Place) (y2 : SlV) (roots1 : List Int) : Does Tryz.prog 34 [.agg ⟨[y1.val t1.length]⟩, y2.val roots1.length] [RdL EPlace y1 t1, RdL EInt y2 roots1] (fun (X : SlV × SlV × SlV) => .tuple #[.agg ⟨[X.1.val (((view_Of t1 roots1).1).roots).length, X.2.1.val (((view_Of t1 roots1).1).known).length, X.2.2.val (((view_Of t1 roots1).1).way).length]⟩, .int .i64 ((view_Of t1 roots1).2)]) (fun (X : SlV × SlV × SlV) => [RdL EInt X.1 (((view_Of t1 roots1).1).roots), RdL EPlace X.2.1 (((view_Of t1 roots1).1).known), RdL EPlace X.2.2 (((view_Of t1 roots1).1).way)]) := by
  refine does_of tab_ok Tryz.func34 rfl Tryz.ntmps34 Tryz.results34 rfl inferInstance (fun _ => inferInstance) fun C => ?_
  refine Pc EPlace y1 t1 24 fun hlen1 => ?_
  refine Pc EInt y2 roots1 8 fun hlen2 => ?_
  refine Tx ?_
  refine Bx fun g1 => ?_
  refine Al fun g2 => ?_
  refine Tx ?_
  refine Cl (tree_Check_spec y1 t1) fun _ => ?_
  refine Tx ?_
  refine Cd (b := ((tree_Check t1) != 0)) (fun hc1 => ?_) fun hc1 => ?_
  · have hc1p := bne_iff_ne.1 hc1
    refine Tx ?_
    refine Fc EInt ?_
    refine Fc EPlace ?_
    have hr1 : (view_Of t1 roots1) = ((⟨([] : List Int), ([] : List Place), ([] : List Place)⟩ : View), (tree_Check t1)) := by simp only [view_Of, hc1, cond_true, cond_false]
    refine cw_ret ?_; rw [hr1]; exact Re ⟨(⟨none, 0⟩ : SlV), (⟨none, 0⟩ : SlV), (⟨none, 0⟩ : SlV)⟩ (Va (Vt Vn))
  · have hc1p := eq_of_bne_false hc1
    refine Tx ?_
    refine Cl (view_Roots_spec y2 roots1) fun _ => ?_
    refine Tx ?_
    refine Cd (b := ((view_Roots roots1) != 0)) (fun hc2 => ?_) fun hc2 => ?_
    · have hc2p := bne_iff_ne.1 hc2
      refine Tx ?_
      refine Fc EInt ?_
      refine Fc EPlace ?_
      have hr2 : (view_Of t1 roots1) = ((⟨([] : List Int), ([] : List Place), ([] : List Place)⟩ : View), (view_Roots roots1)) := by simp only [view_Of, hc1, hc2, cond_true, cond_false]
      refine cw_ret ?_; rw [hr2]; exact Re ⟨(⟨none, 0⟩ : SlV), (⟨none, 0⟩ : SlV), (⟨none, 0⟩ : SlV)⟩ (Va (Vt Vn))
    · have hc2p := eq_of_bne_false hc2
      refine Tx ?_
      refine Cg (slices_Clone_Int_spec y2 roots1) fun x1 => ?_
      refine Rp rfl rfl rfl rfl ?_
      refine Al fun g3 => ?_
      refine Tx ?_
      (repeat refine cw_seq ?_); refine Lp [1,2,4,5,8,27,28] [false, true, true] (fun (i_ : Nat × List Place × SlV × Option Nat × List Place × SlV × Option Nat) => match i_ with | ⟨n1, known1, x2, x2b, way1, x3, x3b⟩ => (⟨[(29, .v (.int .i64 (n1 : Int)))], [⟨g3, 62, [x1.1.val roots1.length, x2.val known1.length, x3.val way1.length]⟩], [ownL EInt 3 x1.1 x1.2 roots1, ownL EPlace 96 x2 x2b known1, ownL EPlace 96 x3 x3b way1], [], (n1 ≤ t1.length) ∧ (known1.length ≤ n1) ∧ (way1.length ≤ n1) ∧ (view_Of_L0 t1 roots1 (t1.drop n1) known1 way1) = (view_Of t1 roots1), t1.length - n1⟩ : Ls)) ⟨0, [], ⟨none, 0⟩, none, [], ⟨none, 0⟩, none⟩ (Sc (Sc (Sc (Sc (Sc (Sc (Sc Sn))))))) (.drop (.keep (.keep (.nil)))) ⟨Nat.zero_le _, (by first | exact Nat.le_refl _ | exact Nat.zero_le _ | omega), (by first | exact Nat.le_refl _ | exact Nat.zero_le _ | omega), (by simp only [view_Of, hc1, hc2, cond_true, cond_false] : (view_Of t1 roots1) = (view_Of_L0 t1 roots1 t1 [] [])).symm⟩ (Le.trans (le_nilL EPlace 96) (Le.trans (le_nilL EPlace 96) Le4)) ?_
      rintro ⟨n1, known1, x2, x2b, way1, x3, x3b⟩ ⟨hkn1, hknown1, hway1, hf1⟩
      simp only [List.cons_append, List.nil_append]
      refine Tx ?_
      refine Cd (b := decide ((n1 : Int) < (t1.length : Int))) (fun hc3 => ?_) fun hc3 => ?_
      · have hlt0 : n1 < t1.length := Int.ofNat_lt.1 (of_decide_eq_true hc3)
        refine Tx ?_
        refine rw_q rfl rfl rfl (q_idx EPlace n1 rfl rfl (fun _ => rfl) rfl (fun _ => rfl) rfl rfl rfl Mm rfl (fun _ => rfl) (fun _ => by first | assumption | omega)) ?_
        refine rw_q rfl rfl rfl (q_leA EPlace rfl rfl (fun _ => rfl) rfl rfl Mm (fun _ => by first | assumption | omega)) ?_
        refine Al fun g4 => ?_
        refine Tx ?_
        refine Cl (view_below_spec y1 t1 ((gt t1 n1).node) y2 roots1) fun _ => ?_
        refine rw_nil ?_
        (repeat refine cw_seq ?_)
        refine Cd (b := (view_below t1 ((gt t1 n1).node) roots1)) (fun hc4 => ?_) fun hc4 => ?_
        · refine Tx ?_
          refine rw_bsliceL EPlace [(gt t1 n1)] .sq (guard_none rfl) rfl rfl rfl rfl rfl rfl rfl rfl rfl rfl rfl rfl rfl rfl rfl fun x4 x4b => ?_
          refine rw_appendL EPlace known1 [(gt t1 n1)] (b := x2b) .sq (fun _ _ => .inl ⟨_, rfl⟩) (guard_none rfl) rfl rfl rfl rfl rfl rfl rfl (fun _ _ => Uo) rfl rfl rfl rfl rfl rfl rfl (reads_ownL (e := 96) (b := x4b) Mm) (by show (known1.length + 1) * 24 ≤ 140737488355328; (try simp only [List.length_append, List.length_cons, List.length_nil]); omega) fun x5 x5b => ?_
          refine Tx ?_
          refine rw_q rfl rfl rfl (q_add rfl rfl (fun _ => rfl) rfl (fun _ => rfl) (fun _ => by omega)) ?_
          refine Tx ?_
          refine ⟨⟨(n1 + 1), (known1 ++ [(gt t1 n1)]), x5, x5b, way1, x3, x3b⟩, ⟨hlt0, (by simp only [List.length_append, List.length_cons, List.length_nil]; omega), (by simp only [List.length_append, List.length_cons, List.length_nil]; omega), (by rw [← hf1, drop_gt hlt0]; simp only [view_Of_L0, hc4, cond_true, cond_false] : (view_Of t1 roots1) = (view_Of_L0 t1 roots1 (t1.drop (n1 + 1)) (known1 ++ [(gt t1 n1)]) way1)).symm⟩, (by simp only []; omega), Le4⟩
        · refine Tx ?_
          refine Cl (view_above_spec y1 t1 ((gt t1 n1).node) y2 roots1) fun _ => ?_
          refine rw_nil ?_
          (repeat refine cw_seq ?_)
          refine Cd (b := (view_above t1 ((gt t1 n1).node) roots1)) (fun hc5 => ?_) fun hc5 => ?_
          · refine Tx ?_
            refine rw_bsliceL EPlace [(gt t1 n1)] .sq (guard_none rfl) rfl rfl rfl rfl rfl rfl rfl rfl rfl rfl rfl rfl rfl rfl rfl fun x6 x6b => ?_
            refine rw_appendL EPlace way1 [(gt t1 n1)] (b := x3b) .sq (fun _ _ => .inl ⟨_, rfl⟩) (guard_none rfl) rfl rfl rfl rfl rfl rfl rfl (fun _ _ => Uo) rfl rfl rfl rfl rfl rfl rfl (reads_ownL (e := 96) (b := x6b) Mm) (by show (way1.length + 1) * 24 ≤ 140737488355328; (try simp only [List.length_append, List.length_cons, List.length_nil]); omega) fun x7 x7b => ?_
            refine Tx ?_
            refine rw_q rfl rfl rfl (q_add rfl rfl (fun _ => rfl) rfl (fun _ => rfl) (fun _ => by omega)) ?_
            refine Tx ?_
            refine ⟨⟨(n1 + 1), known1, x2, x2b, (way1 ++ [(gt t1 n1)]), x7, x7b⟩, ⟨hlt0, (by simp only [List.length_append, List.length_cons, List.length_nil]; omega), (by simp only [List.length_append, List.length_cons, List.length_nil]; omega), (by rw [← hf1, drop_gt hlt0]; simp only [view_Of_L0, hc4, hc5, cond_true, cond_false] : (view_Of t1 roots1) = (view_Of_L0 t1 roots1 (t1.drop (n1 + 1)) known1 (way1 ++ [(gt t1 n1)]))).symm⟩, (by simp only []; omega), Le4⟩
          · refine Tx ?_
            refine rw_q rfl rfl rfl (q_add rfl rfl (fun _ => rfl) rfl (fun _ => rfl) (fun _ => by omega)) ?_
            refine Tx ?_
            refine ⟨⟨(n1 + 1), known1, x2, x2b, way1, x3, x3b⟩, ⟨hlt0, (by simp only [List.length_append, List.length_cons, List.length_nil]; omega), (by simp only [List.length_append, List.length_cons, List.length_nil]; omega), (by rw [← hf1, drop_gt hlt0]; simp only [view_Of_L0, hc4, hc5, cond_true, cond_false] : (view_Of t1 roots1) = (view_Of_L0 t1 roots1 (t1.drop (n1 + 1)) known1 way1)).symm⟩, (by simp only []; omega), Le4⟩
      · have hge0 : t1.length ≤ n1 := by have := of_decide_eq_false hc3; omega
        refine Tx ?_
        refine cw_le (le_freezeL EInt 3 x1.1 x1.2 roots1 Uo) ?_
        refine cw_le (le_freezeL EPlace 96 x2 x2b known1 Uo) ?_
        refine cw_le (le_freezeL EPlace 96 x3 x3b way1 Uo) ?_
        have hr3 : (view_Of t1 roots1) = ((⟨roots1, known1, way1⟩ : View), 0) := by rw [← hf1, List.drop_of_length_le hge0]; simp only [view_Of_L0, cond_true, cond_false]
        refine cw_ret ?_; rw [hr3]; exact Re ⟨x1.1, x2, x3⟩ (Va (Vt Vn))
end Go.Proofs.YtccmadehnoihnaaGreatDoor

set_option maxHeartbeats 2000000
namespace Go.Proofs.YtccmadehnoihnaaGreatDoor
open Go Go.Proofs.YtccmadehnoihnaaGreatDoor.Fw Go.Proofs
attribute [local irreducible] RdL RdN VarP RW CW
theorem slices_Clone_PeerP_spec (x : SlV) (l : List (NPeer.G × Peer)) : DoesG Tryz.prog 45 [x.val l.length] [RdL NPeer.E x l] ⟨[], []⟩ (fun (X : SlV × Option Nat) => X.1.val l.length) (fun (_ : SlV × Option Nat) => []) (fun (X : SlV × Option Nat) => ⟨[], [ownL NPeer.E 66 X.1 X.2 l]⟩) := by
  refine does_ofG tab_ok Tryz.func45 rfl Tryz.ntmps45 Tryz.results45 rfl inferInstance (fun _ => inferInstance) fun C => ?_
  refine cw_pure (φ := l.length * NPeer.E.by_ ≤ 140737488355328) [RdL NPeer.E x l] Sm (fun M w h => (allF1 h).len) fun hlen => ?_
  refine Tx ?_
  refine rw_q rfl rfl rfl (q_eqnil rfl rfl (fun _ => rfl) rfl) ?_
  refine rw_nil ?_
  (repeat refine cw_seq ?_); refine cw_cond rfl rfl (fun hc0 => ?_) (fun hc0 => ?_)
  · refine cw_pure [RdL NPeer.E x l] Sm (fun M w h => (allF1 h).nil_of hc0) fun hnil => ?_
    subst hnil
    refine cw_le (le_nilL NPeer.E 66) ?_
    refine Tx ?_
    (repeat refine cw_seq ?_); refine cw_ret ?_
    exact ⟨(⟨none, 0⟩, none), _, (.cons (.tmp rfl) .nil), rfl, .nil _, .nil _, Sp⟩
  · refine Tx ?_
    refine rw_bsliceL NPeer.E [] .sq (guard_none rfl) rfl rfl rfl rfl rfl rfl rfl rfl rfl rfl rfl rfl rfl rfl rfl fun x1 x1b => ?_
    refine Rp rfl rfl rfl rfl ?_
    refine rw_appendL NPeer.E [] l (b := x1b) .sq (fun _ _ => .inl ⟨_, rfl⟩) (guard_none rfl) rfl rfl rfl rfl rfl rfl rfl (fun _ _ => Uo) rfl rfl rfl rfl rfl rfl rfl (reads_rdL Mm) (by simpa using hlen) fun x2 x2b => ?_
    refine Tx ?_
    (repeat refine cw_seq ?_); refine cw_ret ?_
    exact ⟨(x2, x2b), _, (.cons (.tmp rfl) .nil), rfl, .nil _, .nil _, Sp⟩
theorem slices_Clone_Peer_spec (x : SlV) (γ : Nat → NPeer.G) (l : List Peer) : DoesG Tryz.prog 45 [x.val l.length] [RdG NPeer x γ l] ⟨[], []⟩ (fun (X : SlV × Option Nat) => X.1.val l.length) (fun (_ : SlV × Option Nat) => []) (fun (X : SlV × Option Nat) => ⟨[], [ownL NPeer.E 66 X.1 X.2 (zipG γ 0 l)]⟩) := by
  have := slices_Clone_PeerP_spec x (zipG γ 0 l)
  rw [zipG_len] at this
  exact this

def hub_Check_L0  : List Peer → Int
  | [] => 0
  | pn1 :: rn1 => (bif (((decide ((pn1.life) < 0) || decide ((pn1.life) > 50)) || decide ((pn1.seq) < 0)) || decide ((pn1.seq) > 30)) then 3 else (bif (((pn1.life) == 0) && (decide ((pn1.seq) > 0) || decide (((pn1.roots).length : Int) > 0))) then 4 else (bif ((view_Roots (pn1.roots)) != 0) then (view_Roots (pn1.roots)) else (hub_Check_L0 rn1))))
def hub_Check (h1 : Hub) : Int :=
  (bif ((history_Check h1.h) != 0) then (history_Check h1.h) else (bif (decide (h1.version < 0) || decide (h1.version > 60)) then 3 else (bif ((h1.peers.length : Int) != 3) then 4 else (hub_Check_L0 h1.peers))))
theorem hub_Check_spec (y1 : SlV) (y2 : SlV) (y3 : SlV) (h1 : Hub) : Does Tryz.prog 20 [.agg ⟨[y1.val h1.h.l.length, y2.val h1.h.t.length, .int .i64 h1.version, y3.val h1.peers.length]⟩] [RdL EStep y1 h1.h.l, RdL EPlace y2 h1.h.t, RdN NPeer y3 h1.peers] (fun (_ : Unit) => .int .i64 (hub_Check h1)) (fun (_ : Unit) => []) := by
  refine does_of tab_ok Tryz.func20 rfl Tryz.ntmps20 Tryz.results20 rfl inferInstance (fun _ => inferInstance) fun C => ?_
  refine Pc EStep y1 h1.h.l 88 fun hlen1 => ?_
  refine Pc EPlace y2 h1.h.t 24 fun hlen2 => ?_
  refine Pn NPeer y3 h1.peers 40 fun hlen3 => ?_
  refine Tx ?_
  refine Bx fun g1 => ?_
  refine Tx ?_
  refine Cl (history_Check_spec y1 y2 h1.h) fun _ => ?_
  refine Tx ?_
  refine Cd (b := ((history_Check h1.h) != 0)) (fun hc1 => ?_) fun hc1 => ?_
  · have hc1p := bne_iff_ne.1 hc1
    refine Tx ?_
    have hr1 : (hub_Check h1) = (history_Check h1.h) := by simp only [hub_Check, hc1, cond_true, cond_false]
    refine cw_ret ?_; rw [hr1]; exact Re () (Vt Vn)
  · have hc1p := eq_of_bne_false hc1
    refine Tx ?_
    refine Cd (b := (decide (h1.version < 0) || decide (h1.version > 60))) (fun hc2 => ?_) fun hc2 => ?_
    · refine Tx ?_
      have hr2 : (hub_Check h1) = 3 := by simp only [hub_Check, hc1, hc2, cond_true, cond_false]
      refine cw_ret ?_; rw [hr2]; exact Re () (Vt Vn)
    · refine Tx ?_
      refine Cd (b := ((h1.peers.length : Int) != 3)) (fun hc3 => ?_) fun hc3 => ?_
      · have hc3p := bne_iff_ne.1 hc3
        refine Tx ?_
        have hr3 : (hub_Check h1) = 4 := by simp only [hub_Check, hc1, hc2, hc3, cond_true, cond_false]
        refine cw_ret ?_; rw [hr3]; exact Re () (Vt Vn)
      · have hc3p := eq_of_bne_false hc3
        refine Tx ?_
        (repeat refine cw_seq ?_); refine Lp [2,26,27] [true] (fun (n1 : Nat) => (⟨[(28, .v (.int .i64 (n1 : Int)))], [], [], [], (n1 ≤ h1.peers.length) ∧ (hub_Check_L0 (h1.peers.drop n1)) = (hub_Check h1), h1.peers.length - n1⟩ : Ls)) 0 (Sc (Sc (Sc Sn))) (.keep (.nil)) ⟨Nat.zero_le _, (by simp only [hub_Check, hc1, hc2, hc3, cond_true, cond_false] : (hub_Check h1) = (hub_Check_L0 h1.peers)).symm⟩ Le4 ?_
        rintro n1 ⟨hkn1, hf1⟩
        simp only [List.cons_append, List.nil_append]
        refine Tx ?_
        refine Cd (b := decide ((n1 : Int) < (h1.peers.length : Int))) (fun hc4 => ?_) fun hc4 => ?_
        · have hlt0 : n1 < h1.peers.length := Int.ofNat_lt.1 (of_decide_eq_true hc4)
          refine Tx ?_
          refine rw_exN NPeer (X := y3) (l := h1.peers) Mm fun (γ1 : Nat → SlV) => ?_
          refine rw_q rfl rfl rfl (q_idxN NPeer γ1 n1 rfl rfl (fun _ => rfl) rfl (fun _ => rfl) rfl rfl rfl Mm rfl (fun _ => rfl) (fun _ => by first | assumption | omega)) ?_
          refine rw_q rfl rfl rfl (q_is (v' := .agg ⟨[.int .i64 ((gt h1.peers n1).life), .int .i64 ((gt h1.peers n1).seq), (γ1 n1).val ((gt h1.peers n1).roots).length]⟩) (q_leAN NPeer γ1 rfl rfl (fun _ => rfl) rfl rfl Mm (fun _ => by first | assumption | omega)) rfl) ?_
          refine rw_fact (F := RdL EInt (γ1 n1) ((gt h1.peers n1).roots)) [FactsG NPeer γ1 h1.peers] Sm (fun M w h => (allF1 h) n1 (by first | assumption | omega) _ (.head _)) ?_
          refine Al fun g2 => ?_
          refine Tx ?_
          refine Cd (b := (((decide (((gt h1.peers n1).life) < 0) || decide (((gt h1.peers n1).life) > 50)) || decide (((gt h1.peers n1).seq) < 0)) || decide (((gt h1.peers n1).seq) > 30))) (fun hc5 => ?_) fun hc5 => ?_
          · refine Tx ?_
            have hr4 : (hub_Check h1) = 3 := by rw [← hf1, drop_gt hlt0]; simp only [hub_Check_L0, hc5, cond_true, cond_false]
            refine cw_ret ?_; rw [hr4]; exact Re () (Vt Vn)
          · refine Tx ?_
            refine Cd (b := ((((gt h1.peers n1).life) == 0) && (decide (((gt h1.peers n1).seq) > 0) || decide ((((gt h1.peers n1).roots).length : Int) > 0)))) (fun hc6 => ?_) fun hc6 => ?_
            · refine Tx ?_
              have hr5 : (hub_Check h1) = 4 := by rw [← hf1, drop_gt hlt0]; simp only [hub_Check_L0, hc5, hc6, cond_true, cond_false]
              refine cw_ret ?_; rw [hr5]; exact Re () (Vt Vn)
            · refine Tx ?_
              refine Cl (view_Roots_spec (γ1 n1) ((gt h1.peers n1).roots)) fun _ => ?_
              refine Tx ?_
              refine Cd (b := ((view_Roots ((gt h1.peers n1).roots)) != 0)) (fun hc7 => ?_) fun hc7 => ?_
              · have hc7p := bne_iff_ne.1 hc7
                refine Tx ?_
                have hr6 : (hub_Check h1) = (view_Roots ((gt h1.peers n1).roots)) := by rw [← hf1, drop_gt hlt0]; simp only [hub_Check_L0, hc5, hc6, hc7, cond_true, cond_false]
                refine cw_ret ?_; rw [hr6]; exact Re () (Vt Vn)
              · have hc7p := eq_of_bne_false hc7
                refine Tx ?_
                refine rw_q rfl rfl rfl (q_add rfl rfl (fun _ => rfl) rfl (fun _ => rfl) (fun _ => by omega)) ?_
                refine Tx ?_
                refine ⟨(n1 + 1), ⟨hlt0, (by rw [← hf1, drop_gt hlt0]; simp only [hub_Check_L0, hc5, hc6, hc7, cond_true, cond_false] : (hub_Check h1) = (hub_Check_L0 (h1.peers.drop (n1 + 1)))).symm⟩, (by simp only []; omega), Le4⟩
        · have hge0 : h1.peers.length ≤ n1 := by have := of_decide_eq_false hc4; omega
          refine Tx ?_
          have hr7 : (hub_Check h1) = 0 := by rw [← hf1, List.drop_of_length_le hge0]; simp only [hub_Check_L0, cond_true, cond_false]
          refine cw_ret ?_; rw [hr7]; exact Re () (Vt Vn)

theorem hub_Check_len {h : Hub} (hc : hub_Check h = 0) : history_Check h.h = 0 ∧ 0 ≤ h.version ∧ h.version ≤ 60 ∧ h.peers.length = 3 := by
  unfold hub_Check at hc
  cases h1 : (history_Check h.h != 0) with
  | true => rw [h1, cond_true] at hc; rw [hc] at h1; cases h1
  | false =>
  rw [h1, cond_false] at hc
  cases h2 : (decide (h.version < 0) || decide (h.version > 60)) with
  | true => rw [h2, cond_true] at hc; cases hc
  | false =>
  rw [h2, cond_false] at hc
  cases h3 : ((h.peers.length : Int) != 3) with
  | true => rw [h3, cond_true] at hc; cases hc
  | false =>
  simp only [Bool.or_eq_false_iff, decide_eq_false_iff_not] at h2
  exact ⟨eq_of_bne_false h1, by omega, by omega, by have := eq_of_bne_false h3; omega⟩

def hub_Copy_L0 (h1 : Hub) : List Peer → Nat → (List Peer) → Hub
  | [], n1, l1 => (⟨h1.h, h1.version, l1⟩ : Hub)
  | pn1 :: rn1, n1, l1 => (hub_Copy_L0 h1 rn1 (n1 + 1) (l1.set n1 (gt l1 n1)))
def hub_Copy (h1 : Hub) : Hub :=
  (hub_Copy_L0 h1 h1.peers 0 h1.peers)
theorem hub_Copy_spec (y1 : SlV) (y2 : SlV) (y3 : SlV) (h1 : Hub) : DoesG Tryz.prog 31 [.agg ⟨[y1.val h1.h.l.length, y2.val h1.h.t.length, .int .i64 h1.version, y3.val h1.peers.length]⟩] [RdL EStep y1 h1.h.l, RdL EPlace y2 h1.h.t, RdN NPeer y3 h1.peers] ⟨[], []⟩ (fun (X : SlV × SlV × SlV × Option Nat × (Nat → SlV)) => .agg ⟨[X.1.val (((hub_Copy h1).h).l).length, X.2.1.val (((hub_Copy h1).h).t).length, .int .i64 ((hub_Copy h1).version), X.2.2.1.val ((hub_Copy h1).peers).length]⟩) (fun (X : SlV × SlV × SlV × Option Nat × (Nat → SlV)) => [RdL EStep X.1 (((hub_Copy h1).h).l), RdL EPlace X.2.1 (((hub_Copy h1).h).t), FactsG NPeer X.2.2.2.2 ((hub_Copy h1).peers)]) (fun (X : SlV × SlV × SlV × Option Nat × (Nat → SlV)) => ⟨[], [ownL NPeer.E 66 X.2.2.1 X.2.2.2.1 (zipG X.2.2.2.2 0 ((hub_Copy h1).peers))]⟩) := by
  refine does_ofG tab_ok Tryz.func31 rfl Tryz.ntmps31 Tryz.results31 rfl inferInstance (fun _ => inferInstance) fun C => ?_
  refine Pc EStep y1 h1.h.l 88 fun hlen1 => ?_
  refine Pc EPlace y2 h1.h.t 24 fun hlen2 => ?_
  refine Pn NPeer y3 h1.peers 40 fun hlen3 => ?_
  refine Tx ?_
  refine Bx fun g1 => ?_
  refine Al fun g2 => ?_
  refine rw_nil ?_
  (repeat refine cw_seq ?_); refine cw_regionA (fun j => match j with | 7 => some [g1] | 9 => some [g1] | _ => some []) ?_
  refine Rb 0 [3,4] [1,2,5,6,7,8,9] rfl Qp ?_
  refine Rb 1 [3,4] [2,5,6,7,8,9] rfl (q_ldP rfl rfl (fun _ => rfl) rfl Mm rfl) ?_
  refine Rb 3 [2] [4,5,6,7,8,9] rfl Qp ?_
  refine Ra 4 [2] rfl Q1 ?_
  refine ra_one 2 Kr ?_
  refine rw_callG (history_Copy_spec y1 y2 h1.h) (.an rfl rfl) (.inr (by simp [Lent.ids])) (guard_none rfl) rfl rfl rfl Kr rfl rfl Sm (.nil _) (.nil _) ?_
  intro x1
  refine Pr EPlace x1.2.2 h1.h.t 24 fun hlen4 => ?_
  refine Ra 6 [5] rfl Qp ?_
  refine ra_one 5 Kr ?_
  refine rw_exN NPeer (X := y3) (l := h1.peers) Mm fun (γ1 : Nat → SlV) => ?_
  refine rw_callG (slices_Clone_Peer_spec y3 γ1 h1.peers) (.an rfl rfl) (.inr (by simp [Lent.ids])) (guard_none rfl) rfl rfl rfl Kr rfl rfl Sm (.nil _) (.nil _) ?_
  intro x2
  refine ra_one 7 Kr ?_
  refine rw_stP (.an rfl rfl) (.inr (by simp)) (guard_none rfl) rfl rfl rfl rfl rfl rfl rfl rfl rfl Ub rfl ?_
  refine Ra 8 [] rfl Qp ?_
  refine ra_one 9 Kr ?_
  refine rw_st1 (.an rfl rfl) (.inr (by simp)) (guard_none rfl) rfl rfl rfl rfl rfl rfl rfl rfl rfl Ub rfl ?_
  refine ra_nil Kr ?_
  refine Tx ?_
  (repeat refine cw_seq ?_); refine Lp [1,2,15] [true, false] (fun (i_ : List Peer × (Nat → SlV) × Nat) => match i_ with | ⟨l1, γ2, n1⟩ => (⟨[(14, .v (x2.1.val l1.length)), (16, .v (.int .i64 (n1 : Int)))], [⟨g1, 31, [x1.1.val h1.h.l.length, x1.2.2.val h1.h.t.length, .int .i64 h1.version, x2.1.val l1.length]⟩], [ownL NPeer.E 66 x2.1 x2.2 (zipG γ2 0 l1), ownL EStep 98 x1.1 x1.2.1 h1.h.l], [FactsG NPeer γ2 l1], (n1 ≤ h1.peers.length) ∧ (l1.length = h1.peers.length) ∧ (hub_Copy_L0 h1 (h1.peers.drop n1) n1 l1) = (hub_Copy h1), h1.peers.length - n1⟩ : Ls)) ⟨h1.peers, γ1, 0⟩ (Sc (Sc (Sc Sn))) (.keep (.drop (.nil))) ⟨Nat.zero_le _, rfl, (by simp only [hub_Copy, cond_true, cond_false] : (hub_Copy h1) = (hub_Copy_L0 h1 h1.peers 0 h1.peers)).symm⟩ Le4 ?_
  rintro ⟨l1, γ2, n1⟩ ⟨hkn1, hll, hf1⟩
  simp only [List.cons_append, List.nil_append]
  refine Tx ?_
  refine Cd (b := decide ((n1 : Int) < (h1.peers.length : Int))) (fun hc1 => ?_) fun hc1 => ?_
  · have hlt0 : n1 < h1.peers.length := Int.ofNat_lt.1 (of_decide_eq_true hc1)
    refine Tx ?_
    refine rw_qO NPeer.E (e := 66) (X := x2.1) (b := x2.2) (l := zipG γ2 0 l1) Mm .sq rfl rfl rfl (q_idxN NPeer γ2 n1 rfl rfl (fun _ => rfl) rfl (fun _ => rfl) rfl rfl rfl (.head _) rfl (fun _ => rfl) (fun _ => by first | assumption | omega | (simp only [List.length_set]; omega))) ?_
    refine rw_qO NPeer.E (e := 66) (X := x2.1) (b := x2.2) (l := zipG γ2 0 l1) Mm .sq rfl rfl rfl (q_is (v' := .agg ⟨[.int .i64 ((gt l1 n1).life), .int .i64 ((gt l1 n1).seq), (γ2 n1).val ((gt l1 n1).roots).length]⟩) (q_leAN NPeer γ2 rfl rfl (fun _ => rfl) rfl rfl (.head _) (fun _ => by first | assumption | omega | (simp only [List.length_set]; omega))) rfl) ?_
    refine rw_fact (F := RdL EInt (γ2 n1) ((gt l1 n1).roots)) [FactsG NPeer γ2 l1] Sm (fun M w h => (allF1 h) n1 (by first | assumption | omega) _ (.head _)) ?_
    refine Al fun g3 => ?_
    refine Tx ?_
    (repeat refine cw_seq ?_); refine cw_regionA (fun j => match j with | 8 => some x2.2.toList | _ => some []) ?_
    refine Ra 0 [2,3,4,5] rfl Qp ?_
    refine Ra 1 [2,3,4,5] rfl Q1 ?_
    refine Ra 2 [3,4,5] rfl Qp ?_
    refine Rb 3 [] [4,5,6,7,8] rfl Qp ?_
    refine Ra 4 [] rfl Q1 ?_
    refine ra_one 5 Kr ?_
    refine rw_callG (slices_Clone_Int_spec (γ2 n1) ((gt l1 n1).roots)) (.an rfl rfl) (.inr (by simp [Lent.ids])) (guard_none rfl) rfl rfl rfl Kr rfl rfl Sm (.nil _) (.nil _) ?_
    intro x5
    refine rw_qO NPeer.E (e := 66) (X := x2.1) (b := x2.2) (l := zipG γ2 0 l1) Mm (.ab (i := 6) (js := []) [7, 8] rfl Kr Kr Kr Kr Kr) rfl rfl rfl (q_idxN NPeer γ2 n1 rfl rfl (fun _ => rfl) rfl (fun _ => rfl) rfl rfl rfl (.head _) rfl (fun _ => rfl) (fun _ => by first | assumption | omega | (simp only [List.length_set]; omega))) ?_
    refine Ra 7 [] rfl (q_fae rfl rfl (fun _ => rfl) rfl rfl) ?_
    refine ra_one 8 Kr ?_
    refine rw_le (le_freezeL EInt 3 x5.1 x5.2 ((gt l1 n1).roots) Uo) ?_
    refine rw_stON NPeer γ2 l1 n1 2 x5.1 (gt l1 n1) (e := 66) (X := x2.1) (b := x2.2) (.an rfl rfl) (.inr (fun g h => by simp [h])) (guard_none rfl) rfl rfl rfl rfl rfl rfl rfl rfl rfl rfl rfl (by first | assumption | omega | (simp only [List.length_set]; omega)) rfl Uo ?_
    refine rw_fact (F := FactsG NPeer (updG γ2 n1 x5.1) (l1.set n1 (gt l1 n1))) [FactsG NPeer γ2 l1, RdL EInt x5.1 ((gt l1 n1).roots)] Sm (fun M w h => FactsG.upd NPeer (h _ (.head _)) (allF_sub Sm h)) ?_
    have hv1 : x2.1.val l1.length = x2.1.val (l1.set n1 (gt l1 n1)).length := congrArg (SlV.val x2.1) List.length_set.symm
    try rw [hv1]
    refine ra_nil Kr ?_
    refine Tx ?_
    refine rw_q rfl rfl rfl (q_add rfl rfl (fun _ => rfl) rfl (fun _ => rfl) (fun _ => by omega)) ?_
    refine Tx ?_
    refine ⟨⟨(l1.set n1 (gt l1 n1)), (updG γ2 n1 x5.1), (n1 + 1)⟩, ⟨hlt0, (by (try simp only [List.length_set]); omega), (by rw [← hf1, drop_gt hlt0]; simp only [hub_Copy_L0, cond_true, cond_false] : (hub_Copy h1) = (hub_Copy_L0 h1 (h1.peers.drop (n1 + 1)) (n1 + 1) (l1.set n1 (gt l1 n1)))).symm⟩, (by simp only []; omega), Le4⟩
  · have hge0 : h1.peers.length ≤ n1 := by have := of_decide_eq_false hc1; omega
    refine Tx ?_
    refine cw_le (le_freezeL EStep 98 x1.1 x1.2.1 h1.h.l Uo) ?_
    have hr1 : (hub_Copy h1) = (⟨h1.h, h1.version, l1⟩ : Hub) := by rw [← hf1, List.drop_of_length_le hge0]; simp only [hub_Copy_L0, cond_true, cond_false]
    refine cw_ret ?_; rw [hr1]; exact Re ⟨x1.1, x1.2.2, x2.1, x2.2, γ2⟩ (Va Vn)
theorem hub_Copy_L0_eq (h : Hub) : ∀ (r : List Peer) (n : Nat) (l : List Peer), hub_Copy_L0 h r n l = ⟨h.h, h.version, l⟩
  | [], _, _ => rfl
  | _ :: r, n, l => by
    have : l.set n (gt l n) = l := by
      by_cases h : n < l.length
      · rw [gt_eq h]; exact List.set_getElem_self h
      · exact List.set_eq_of_length_le (Nat.le_of_not_lt h)
    rw [hub_Copy_L0, this]; exact hub_Copy_L0_eq h r (n + 1) l
theorem hub_Copy_eq (h : Hub) : hub_Copy h = h := hub_Copy_L0_eq h _ 0 h.peers
theorem hub_Copy_spec' (y1 : SlV) (y2 : SlV) (y3 : SlV) (h1 : Hub) : DoesG Tryz.prog 31 [.agg ⟨[y1.val h1.h.l.length, y2.val h1.h.t.length, .int .i64 h1.version, y3.val h1.peers.length]⟩] [RdL EStep y1 h1.h.l, RdL EPlace y2 h1.h.t, RdN NPeer y3 h1.peers] ⟨[], []⟩ (fun (X : SlV × SlV × SlV × Option Nat × (Nat → SlV)) => .agg ⟨[X.1.val ((h1.h).l).length, X.2.1.val ((h1.h).t).length, .int .i64 (h1.version), X.2.2.1.val (h1.peers).length]⟩) (fun (X : SlV × SlV × SlV × Option Nat × (Nat → SlV)) => [RdL EStep X.1 ((h1.h).l), RdL EPlace X.2.1 ((h1.h).t), FactsG NPeer X.2.2.2.2 (h1.peers)]) (fun (X : SlV × SlV × SlV × Option Nat × (Nat → SlV)) => ⟨[], [ownL NPeer.E 66 X.2.2.1 X.2.2.2.1 (zipG X.2.2.2.2 0 (h1.peers))]⟩) := by
  have := hub_Copy_spec y1 y2 y3 h1
  rw [hub_Copy_eq] at this
  exact this

def note_Check (r1 : Rec) : Int :=
  (bif (decide (r1.kind < 1) || decide (r1.kind > 3)) then 4 else (bif (r1.kind == 1) then (bif (((r1.who != 0) || (r1.life != 0)) || decide ((r1.roots.length : Int) > 0)) then 4 else (move_Check r1.o)) else (bif (((!(decide (r1.o = (⟨0, 0, 0, 0, 0, 0, 0⟩ : Op)))) || ((r1.kind == 3) && (r1.life != 0))) || ((r1.kind == 2) && decide ((r1.roots.length : Int) > 0))) then 4 else (bif ((decide (r1.who < 0) || decide (r1.who ≥ 3)) || ((r1.kind == 2) && (decide (r1.life < 1) || decide (r1.life > 50)))) then 3 else (view_Roots r1.roots)))))
theorem note_Check_spec (y1 : SlV) (r1 : Rec) : Does Tryz.prog 30 [.agg ⟨[.int .i64 r1.kind, .int .i64 r1.who, .int .i64 r1.life, y1.val r1.roots.length, .int .i64 r1.o.time, .int .i64 r1.o.who, .int .i64 r1.o.node, .int .i64 r1.o.parent, .int .i64 r1.o.name, .int .i64 r1.o.life, .int .i64 r1.o.seq]⟩] [RdL EInt y1 r1.roots] (fun (_ : Unit) => .int .i64 (note_Check r1)) (fun (_ : Unit) => []) := by
  refine does_of tab_ok Tryz.func30 rfl Tryz.ntmps30 Tryz.results30 rfl inferInstance (fun _ => inferInstance) fun C => ?_
  refine Pc EInt y1 r1.roots 8 fun hlen1 => ?_
  refine Tx ?_
  refine Bx fun g1 => ?_
  refine Tx ?_
  refine Cd (b := (decide (r1.kind < 1) || decide (r1.kind > 3))) (fun hc1 => ?_) fun hc1 => ?_
  · refine Tx ?_
    have hr1 : (note_Check r1) = 4 := by simp only [note_Check, hc1, cond_true, cond_false]
    refine cw_ret ?_; rw [hr1]; exact Re () (Vt Vn)
  · refine Tx ?_
    refine Cd (b := (r1.kind == 1)) (fun hc2 => ?_) fun hc2 => ?_
    · have hc2p := eq_of_beq hc2
      refine Tx ?_
      refine Cd (b := (((r1.who != 0) || (r1.life != 0)) || decide ((r1.roots.length : Int) > 0))) (fun hc3 => ?_) fun hc3 => ?_
      · refine Tx ?_
        have hr2 : (note_Check r1) = 4 := by simp only [note_Check, hc1, hc2, hc3, cond_true, cond_false]
        refine cw_ret ?_; rw [hr2]; exact Re () (Vt Vn)
      · refine Tx ?_
        refine Cl (move_Check_spec r1.o) fun _ => ?_
        refine Tx ?_
        have hr3 : (note_Check r1) = (move_Check r1.o) := by simp only [note_Check, hc1, hc2, hc3, cond_true, cond_false]
        refine cw_ret ?_; rw [hr3]; exact Re () (Vt Vn)
    · have hc2p := ne_of_beq_false hc2
      refine Tx ?_
      refine rw_q rfl rfl rfl (q_neE eqT_Op (flatEq_Op r1.o (⟨0, 0, 0, 0, 0, 0, 0⟩ : Op)) rfl rfl (fun _ => rfl) rfl (fun _ => rfl) rfl rfl) ?_
      refine Tx ?_
      refine Cd (b := (((!(decide (r1.o = (⟨0, 0, 0, 0, 0, 0, 0⟩ : Op)))) || ((r1.kind == 3) && (r1.life != 0))) || ((r1.kind == 2) && decide ((r1.roots.length : Int) > 0)))) (fun hc4 => ?_) fun hc4 => ?_
      · refine Tx ?_
        have hr4 : (note_Check r1) = 4 := by simp only [note_Check, hc1, hc2, hc4, cond_true, cond_false]
        refine cw_ret ?_; rw [hr4]; exact Re () (Vt Vn)
      · refine Tx ?_
        refine Cd (b := ((decide (r1.who < 0) || decide (r1.who ≥ 3)) || ((r1.kind == 2) && (decide (r1.life < 1) || decide (r1.life > 50))))) (fun hc5 => ?_) fun hc5 => ?_
        · refine Tx ?_
          have hr5 : (note_Check r1) = 3 := by simp only [note_Check, hc1, hc2, hc4, hc5, cond_true, cond_false]
          refine cw_ret ?_; rw [hr5]; exact Re () (Vt Vn)
        · refine Tx ?_
          refine Cl (view_Roots_spec y1 r1.roots) fun _ => ?_
          refine Tx ?_
          have hr6 : (note_Check r1) = (view_Roots r1.roots) := by simp only [note_Check, hc1, hc2, hc4, hc5, cond_true, cond_false]
          refine cw_ret ?_; rw [hr6]; exact Re () (Vt Vn)

def hub_Same_1 (x1 : Peer) (y1 : Peer) : Bool :=
  (((x1.life == y1.life) && (x1.seq == y1.seq)) && (decide (x1.roots = y1.roots)))
theorem hub_Same_1_spec (y2 : SlV) (x1 : Peer) (y3 : SlV) (y1 : Peer) : Does Tryz.prog 28 [.agg ⟨[.int .i64 x1.life, .int .i64 x1.seq, y2.val x1.roots.length]⟩, .agg ⟨[.int .i64 y1.life, .int .i64 y1.seq, y3.val y1.roots.length]⟩] [RdL EInt y2 x1.roots, RdL EInt y3 y1.roots] (fun (_ : Unit) => .bool (hub_Same_1 x1 y1)) (fun (_ : Unit) => []) := by
  refine does_of tab_ok Tryz.func28 rfl Tryz.ntmps28 Tryz.results28 rfl inferInstance (fun _ => inferInstance) fun C => ?_
  refine Pc EInt y2 x1.roots 8 fun hlen1 => ?_
  refine Pc EInt y3 y1.roots 8 fun hlen2 => ?_
  refine Tx ?_
  refine Bx fun g1 => ?_
  refine Bx fun g2 => ?_
  refine Tx ?_
  refine rw_callg (fun hG_ => (fun y1 a y2 b => slices_Equal_Int_spec' y1 y2 a b) y2 x1.roots y3 y1.roots) (fun _ => rfl) .sq (guard_vt rfl rfl rfl) rfl rfl rfl Kr rfl Bt Sm ?_
  refine Tx ?_
  have hr1 : (hub_Same_1 x1 y1) = (((x1.life == y1.life) && (x1.seq == y1.seq)) && (decide (x1.roots = y1.roots))) := by simp only [hub_Same_1, cond_true, cond_false]
  refine cw_ret ?_; rw [hr1]; exact Re () (Vt Vn)

def slices_EqualFunc_Peer_L0 (s2 : List Peer) (eq1 : Peer → Peer → Bool) : List Peer → Nat → Bool
  | [], n1 => true
  | pn1 :: rn1, n1 => (bif (!(eq1 pn1 (gt s2 n1))) then false else (slices_EqualFunc_Peer_L0 s2 eq1 rn1 (n1 + 1)))
def slices_EqualFunc_Peer (s1 : List Peer) (s2 : List Peer) (eq1 : Peer → Peer → Bool) : Bool :=
  (bif ((s1.length : Int) != (s2.length : Int)) then false else (slices_EqualFunc_Peer_L0 s2 eq1 s1 0))
theorem slices_EqualFunc_Peer_spec (y1 : SlV) (s1 : List Peer) (y2 : SlV) (s2 : List Peer) (f1 : Nat) (caps1 : List Value) (pre1 : List Pred) [StabL pre1] (eq1 : Peer → Peer → Bool) (hfb1 : tab.fnb f1 = true) (hfn1 : ∀ (z0a_ : SlV) (a0_ : Peer) (z1a_ : SlV) (a1_ : Peer), Does Tryz.prog f1 ([.agg ⟨[.int .i64 a0_.life, .int .i64 a0_.seq, z0a_.val a0_.roots.length]⟩, .agg ⟨[.int .i64 a1_.life, .int .i64 a1_.seq, z1a_.val a1_.roots.length]⟩] ++ caps1) (RdL EInt z0a_ a0_.roots :: RdL EInt z1a_ a1_.roots :: pre1) (fun (_ : Unit) => .bool (eq1 a0_ a1_)) (fun (_ : Unit) => [])) : Does Tryz.prog 27 [y1.val s1.length, y2.val s2.length, .func (.func f1) #[] ⟨caps1⟩] (RdN NPeer y1 s1 :: RdN NPeer y2 s2 :: pre1) (fun (_ : Unit) => .bool (slices_EqualFunc_Peer s1 s2 eq1)) (fun (_ : Unit) => []) := by
  refine does_of tab_ok Tryz.func27 rfl Tryz.ntmps27 Tryz.results27 rfl inferInstance (fun _ => inferInstance) fun C => ?_
  refine cw_pure (φ := s1.length * 40 ≤ 140737488355328) [RdN NPeer y1 s1] Sf (fun M w h => (allF1 h).len) fun hlen1 => ?_
  refine cw_pure (φ := s2.length * 40 ≤ 140737488355328) [RdN NPeer y2 s2] Sf (fun M w h => (allF1 h).len) fun hlen2 => ?_
  refine Tx ?_
  refine Cd (b := ((s1.length : Int) != (s2.length : Int))) (fun hc1 => ?_) fun hc1 => ?_
  · have hc1p := bne_iff_ne.1 hc1
    refine Tx ?_
    have hr1 : (slices_EqualFunc_Peer s1 s2 eq1) = false := by simp only [slices_EqualFunc_Peer, hc1, cond_true, cond_false]
    refine cw_ret ?_
    rw [hr1]
    exact ⟨(), _, (.cons (.tmp rfl) .nil), rfl, Sf, .nil _, .nil _⟩
  · have hc1p := eq_of_bne_false hc1
    refine Tx ?_
    (repeat refine cw_seq ?_); refine Lp [1,2,6,15,16] [] (fun (n1 : Nat) => (⟨[(17, .v (.int .i64 (n1 : Int)))], [], [], [], (n1 ≤ s1.length) ∧ (slices_EqualFunc_Peer_L0 s2 eq1 (s1.drop n1) n1) = (slices_EqualFunc_Peer s1 s2 eq1), s1.length - n1⟩ : Ls)) 0 (Sc (Sc (Sc (Sc (Sc Sn))))) (.nil) ⟨Nat.zero_le _, (by simp only [slices_EqualFunc_Peer, hc1, cond_true, cond_false] : (slices_EqualFunc_Peer s1 s2 eq1) = (slices_EqualFunc_Peer_L0 s2 eq1 s1 0)).symm⟩ Le5 ?_
    rintro n1 ⟨hkn1, hf1⟩
    simp only [List.cons_append, List.nil_append]
    refine Tx ?_
    refine Cd (b := decide ((n1 : Int) < (s1.length : Int))) (fun hc2 => ?_) fun hc2 => ?_
    · have hlt0 : n1 < s1.length := Int.ofNat_lt.1 (of_decide_eq_true hc2)
      refine Tx ?_
      refine rw_exN NPeer (X := y1) (l := s1) Mm fun (γ1 : Nat → SlV) => ?_
      refine rw_q rfl rfl rfl (q_idxN NPeer γ1 n1 rfl rfl (fun _ => rfl) rfl (fun _ => rfl) rfl rfl rfl Mm rfl (fun _ => rfl) (fun _ => by first | assumption | omega)) ?_
      refine rw_q rfl rfl rfl (q_is (v' := .agg ⟨[.int .i64 ((gt s1 n1).life), .int .i64 ((gt s1 n1).seq), (γ1 n1).val ((gt s1 n1).roots).length]⟩) (q_leAN NPeer γ1 rfl rfl (fun _ => rfl) rfl rfl Mm (fun _ => by first | assumption | omega)) rfl) ?_
      refine rw_fact (F := RdL EInt (γ1 n1) ((gt s1 n1).roots)) [FactsG NPeer γ1 s1] Sf (fun M w h => (allF1 h) n1 (by first | assumption | omega) _ (.head _)) ?_
      refine Al fun g1 => ?_
      refine Tx ?_
      refine rw_exN NPeer (X := y2) (l := s2) Mm fun (γ2 : Nat → SlV) => ?_
      refine rw_q rfl rfl rfl (q_idxN NPeer γ2 n1 rfl rfl (fun _ => rfl) rfl (fun _ => rfl) rfl rfl rfl Mm rfl (fun _ => rfl) (fun _ => by first | assumption | omega)) ?_
      refine rw_q rfl rfl rfl (q_is (v' := .agg ⟨[.int .i64 ((gt s2 n1).life), .int .i64 ((gt s2 n1).seq), (γ2 n1).val ((gt s2 n1).roots).length]⟩) (q_leAN NPeer γ2 rfl rfl (fun _ => rfl) rfl rfl Mm (fun _ => by first | assumption | omega)) rfl) ?_
      refine rw_fact (F := RdL EInt (γ2 n1) ((gt s2 n1).roots)) [FactsG NPeer γ2 s2] Sf (fun M w h => (allF1 h) n1 (by first | assumption | omega) _ (.head _)) ?_
      refine Al fun g2 => ?_
      refine Tx ?_
      refine rw_callv (hfn1 (γ1 n1) (gt s1 n1) (γ2 n1) (gt s2 n1)) .sq (guard_none rfl) rfl rfl rfl rfl rfl (by assumption) rfl rfl rfl Sf ?_
      intro _
      refine Tx ?_
      refine Cd (b := (!(eq1 (gt s1 n1) (gt s2 n1)))) (fun hc3 => ?_) fun hc3 => ?_
      · refine Tx ?_
        have hr2 : (slices_EqualFunc_Peer s1 s2 eq1) = false := by rw [← hf1, drop_gt hlt0]; simp only [slices_EqualFunc_Peer_L0, hc3, cond_true, cond_false]
        refine cw_ret ?_
        rw [hr2]
        exact ⟨(), _, (.cons (.tmp rfl) .nil), rfl, Sf, .nil _, .nil _⟩
      · refine Tx ?_
        refine rw_q rfl rfl rfl (q_add rfl rfl (fun _ => rfl) rfl (fun _ => rfl) (fun _ => by omega)) ?_
        refine Tx ?_
        refine ⟨(n1 + 1), ⟨hlt0, (by rw [← hf1, drop_gt hlt0]; simp only [slices_EqualFunc_Peer_L0, hc3, cond_true, cond_false] : (slices_EqualFunc_Peer s1 s2 eq1) = (slices_EqualFunc_Peer_L0 s2 eq1 (s1.drop (n1 + 1)) (n1 + 1))).symm⟩, (by simp only []; omega), Le5⟩
    · have hge0 : s1.length ≤ n1 := by have := of_decide_eq_false hc2; omega
      refine Tx ?_
      have hr3 : (slices_EqualFunc_Peer s1 s2 eq1) = true := by rw [← hf1, List.drop_of_length_le hge0]; simp only [slices_EqualFunc_Peer_L0, cond_true, cond_false]
      refine cw_ret ?_
      rw [hr3]
      exact ⟨(), _, (.cons (.tmp rfl) .nil), rfl, Sf, .nil _, .nil _⟩

def hub_Same (a1 : Hub) (b1 : Hub) : Bool :=
  (((history_Same a1.h b1.h) && (a1.version == b1.version)) && (slices_EqualFunc_Peer a1.peers b1.peers hub_Same_1))
theorem hub_Same_spec (y1 : SlV) (y2 : SlV) (y3 : SlV) (a1 : Hub) (y4 : SlV) (y5 : SlV) (y6 : SlV) (b1 : Hub) : Does Tryz.prog 11 [.agg ⟨[y1.val a1.h.l.length, y2.val a1.h.t.length, .int .i64 a1.version, y3.val a1.peers.length]⟩, .agg ⟨[y4.val b1.h.l.length, y5.val b1.h.t.length, .int .i64 b1.version, y6.val b1.peers.length]⟩] [RdL EStep y1 a1.h.l, RdL EPlace y2 a1.h.t, RdN NPeer y3 a1.peers, RdL EStep y4 b1.h.l, RdL EPlace y5 b1.h.t, RdN NPeer y6 b1.peers] (fun (_ : Unit) => .bool (hub_Same a1 b1)) (fun (_ : Unit) => []) := by
  refine does_of tab_ok Tryz.func11 rfl Tryz.ntmps11 Tryz.results11 rfl inferInstance (fun _ => inferInstance) fun C => ?_
  refine Pc EStep y1 a1.h.l 88 fun hlen1 => ?_
  refine Pc EPlace y2 a1.h.t 24 fun hlen2 => ?_
  refine Pn NPeer y3 a1.peers 40 fun hlen3 => ?_
  refine Pc EStep y4 b1.h.l 88 fun hlen4 => ?_
  refine Pc EPlace y5 b1.h.t 24 fun hlen5 => ?_
  refine Pn NPeer y6 b1.peers 40 fun hlen6 => ?_
  refine Tx ?_
  refine Bx fun g1 => ?_
  refine Bx fun g2 => ?_
  refine Tx ?_
  refine Cl (history_Same_spec y1 y2 a1.h y4 y5 b1.h) fun _ => ?_
  refine Tx ?_
  refine rw_callg (fun hG_ => slices_EqualFunc_Peer_spec y3 a1.peers y6 b1.peers _ _ _ hub_Same_1 Kr (fun z0a_ a0_ z1a_ a1_ => hub_Same_1_spec z0a_ a0_ z1a_ a1_)) (fun _ => rfl) .sq (guard_vt rfl rfl rfl) rfl rfl rfl Kr rfl Bt Sm ?_
  refine Tx ?_
  have hr1 : (hub_Same a1 b1) = (((history_Same a1.h b1.h) && (a1.version == b1.version)) && (slices_EqualFunc_Peer a1.peers b1.peers hub_Same_1)) := by simp only [hub_Same, cond_true, cond_false]
  refine cw_ret ?_; rw [hr1]; exact Re () (Vt Vn)

def hub_Sees (h1 : Hub) (who1 : Int) : View × Int :=
  (bif ((hub_Check h1) != 0) then ((⟨([] : List Int), ([] : List Place), ([] : List Place)⟩ : View), (hub_Check h1)) else (bif (decide (who1 < 0) || decide (who1 ≥ 3)) then ((⟨([] : List Int), ([] : List Place), ([] : List Place)⟩ : View), 5) else (((view_Of h1.h.t ((gt h1.peers who1.toNat).roots)).1), (view_Of h1.h.t ((gt h1.peers who1.toNat).roots)).2)))
theorem hub_Sees_spec (y1 : SlV) (y2 : SlV) (y3 : SlV) (h1 : Hub) (who1 : Int) : Does Tryz.prog 19 [.agg ⟨[y1.val h1.h.l.length, y2.val h1.h.t.length, .int .i64 h1.version, y3.val h1.peers.length]⟩, .int .i64 who1] [RdL EStep y1 h1.h.l, RdL EPlace y2 h1.h.t, RdN NPeer y3 h1.peers] (fun (X : SlV × SlV × SlV) => .tuple #[.agg ⟨[X.1.val (((hub_Sees h1 who1).1).roots).length, X.2.1.val (((hub_Sees h1 who1).1).known).length, X.2.2.val (((hub_Sees h1 who1).1).way).length]⟩, .int .i64 ((hub_Sees h1 who1).2)]) (fun (X : SlV × SlV × SlV) => [RdL EInt X.1 (((hub_Sees h1 who1).1).roots), RdL EPlace X.2.1 (((hub_Sees h1 who1).1).known), RdL EPlace X.2.2 (((hub_Sees h1 who1).1).way)]) := by
  refine does_of tab_ok Tryz.func19 rfl Tryz.ntmps19 Tryz.results19 rfl inferInstance (fun _ => inferInstance) fun C => ?_
  refine Pc EStep y1 h1.h.l 88 fun hlen1 => ?_
  refine Pc EPlace y2 h1.h.t 24 fun hlen2 => ?_
  refine Pn NPeer y3 h1.peers 40 fun hlen3 => ?_
  refine Tx ?_
  refine Bx fun g1 => ?_
  refine Al fun g2 => ?_
  refine Tx ?_
  refine Cl (hub_Check_spec y1 y2 y3 h1) fun _ => ?_
  refine Tx ?_
  refine Cd (b := ((hub_Check h1) != 0)) (fun hc1 => ?_) fun hc1 => ?_
  · have hc1p := bne_iff_ne.1 hc1
    refine Tx ?_
    refine Fc EInt ?_
    refine Fc EPlace ?_
    have hr1 : (hub_Sees h1 who1) = ((⟨([] : List Int), ([] : List Place), ([] : List Place)⟩ : View), (hub_Check h1)) := by simp only [hub_Sees, hc1, cond_true, cond_false]
    refine cw_ret ?_; rw [hr1]; exact Re ⟨(⟨none, 0⟩ : SlV), (⟨none, 0⟩ : SlV), (⟨none, 0⟩ : SlV)⟩ (Va (Vt Vn))
  · have hc1p := eq_of_bne_false hc1
    have hpl := hub_Check_len (eq_of_bne_false hc1)
    refine Tx ?_
    refine Cd (b := (decide (who1 < 0) || decide (who1 ≥ 3))) (fun hc2 => ?_) fun hc2 => ?_
    · refine Tx ?_
      refine Fc EInt ?_
      refine Fc EPlace ?_
      have hr2 : (hub_Sees h1 who1) = ((⟨([] : List Int), ([] : List Place), ([] : List Place)⟩ : View), 5) := by simp only [hub_Sees, hc1, hc2, cond_true, cond_false]
      refine cw_ret ?_; rw [hr2]; exact Re ⟨(⟨none, 0⟩ : SlV), (⟨none, 0⟩ : SlV), (⟨none, 0⟩ : SlV)⟩ (Va (Vt Vn))
    · have hwr := hc2
      simp only [Bool.or_eq_false_iff, decide_eq_false_iff_not] at hwr
      refine Tx ?_
      (repeat refine cw_seq ?_); refine cw_regionA (fun j => match j with | 12 => some [g2] | _ => some []) ?_
      refine Rb 0 [3,4,5,6,7,8] [1,2,9,10,11,12,13] rfl Qp ?_
      refine Rb 1 [3,4,5,6,7,8] [2,9,10,11,12,13] rfl Qp ?_
      refine Rb 2 [3,4,5,6,7,8] [9,10,11,12,13] rfl (q_ldP rfl rfl (fun _ => rfl) rfl Mm rfl) ?_
      refine Rb 3 [5] [4,6,7,8,9,10,11,12,13] rfl Qp ?_
      refine Rb 4 [5] [6,7,8,9,10,11,12,13] rfl Q1 ?_
      refine Rb 5 [] [6,7,8,9,10,11,12,13] rfl Qp ?_
      refine rw_exN NPeer (X := y3) (l := h1.peers) Mm fun (γ1 : Nat → SlV) => ?_
      refine Rb 6 [] [7,8,9,10,11,12,13] rfl (q_idxN NPeer γ1 who1.toNat rfl rfl (fun _ => rfl) rfl (fun _ => rfl) rfl rfl rfl Mm rfl (fun _ => by omega) (fun _ => by first | assumption | omega)) ?_
      refine Rb 7 [] [8,9,10,11,12,13] rfl (q_fae rfl rfl (fun _ => rfl) rfl rfl) ?_
      refine Rb 8 [] [9,10,11,12,13] rfl (q_le1N NPeer γ1 (v := (γ1 who1.toNat).val ((gt h1.peers who1.toNat).roots).length) rfl rfl (fun _ => rfl) rfl rfl Mm (fun _ => by first | assumption | omega) rfl) ?_
      refine rw_fact (F := RdL EInt (γ1 who1.toNat) ((gt h1.peers who1.toNat).roots)) [FactsG NPeer γ1 h1.peers] Sm (fun M w h => (allF1 h) who1.toNat (by first | assumption | omega) _ (.head _)) ?_
      refine ra_one 9 Kr ?_
      refine rw_call (view_Of_spec y2 h1.h.t (γ1 who1.toNat) ((gt h1.peers who1.toNat).roots)) (.an rfl rfl) (guard_none rfl) rfl rfl rfl Kr rfl rfl Sm ?_
      intro x1
      refine Pr EInt x1.1 (((view_Of h1.h.t ((gt h1.peers who1.toNat).roots)).1).roots) 8 fun hlen4 => ?_
      refine Pr EPlace x1.2.1 (((view_Of h1.h.t ((gt h1.peers who1.toNat).roots)).1).known) 24 fun hlen5 => ?_
      refine Pr EPlace x1.2.2 (((view_Of h1.h.t ((gt h1.peers who1.toNat).roots)).1).way) 24 fun hlen6 => ?_
      refine Ra 10 [11] rfl Qp ?_
      refine Ra 11 [] rfl Qp ?_
      refine ra_one 12 Kr ?_
      refine rw_stA (.an rfl rfl) (.inr (by simp)) (guard_none rfl) rfl rfl rfl rfl rfl rfl rfl rfl rfl Ub rfl ?_
      refine Ra 13 [] rfl Qp ?_
      refine ra_nil Kr ?_
      (repeat refine cw_seq ?_)
      have hr3 : (hub_Sees h1 who1) = (((view_Of h1.h.t ((gt h1.peers who1.toNat).roots)).1), (view_Of h1.h.t ((gt h1.peers who1.toNat).roots)).2) := by simp only [hub_Sees, hc1, hc2, cond_true, cond_false]
      refine cw_ret ?_; rw [hr3]; exact Re ⟨x1.1, x1.2.1, x1.2.2⟩ (Va (Vt Vn))
end Go.Proofs.YtccmadehnoihnaaGreatDoor

set_option maxHeartbeats 2000000
namespace Go.Proofs.YtccmadehnoihnaaGreatDoor
open Go Go.Proofs.YtccmadehnoihnaaGreatDoor.Fw Go.Proofs
attribute [local irreducible] RdL RdN VarP RW CW
def hub_New  : Hub :=
  (⟨(⟨([] : List Step), ([] : List Place)⟩ : History), 0, [(⟨0, 0, ([] : List Int)⟩ : Peer), (⟨0, 0, ([] : List Int)⟩ : Peer), (⟨0, 0, ([] : List Int)⟩ : Peer)]⟩ : Hub)
theorem hub_New_spec  : Does Tryz.prog 14 [] [] (fun (X : SlV × SlV × SlV) => .agg ⟨[X.1.val (((hub_New).h).l).length, X.2.1.val (((hub_New).h).t).length, .int .i64 ((hub_New).version), X.2.2.val ((hub_New).peers).length]⟩) (fun (X : SlV × SlV × SlV) => [RdL EStep X.1 (((hub_New).h).l), RdL EPlace X.2.1 (((hub_New).h).t), RdN NPeer X.2.2 ((hub_New).peers)]) := by
  refine does_of tab_ok Tryz.func14 rfl Tryz.ntmps14 Tryz.results14 rfl inferInstance (fun _ => inferInstance) fun C => ?_
  refine Tx ?_
  refine Al fun g1 => ?_
  refine Tx ?_
  refine rw_mksliceL NPeer.E (zipG (fun _ => (⟨none, 0⟩ : SlV)) 0 [(⟨0, 0, ([] : List Int)⟩ : Peer), (⟨0, 0, ([] : List Int)⟩ : Peer), (⟨0, 0, ([] : List Int)⟩ : Peer)]) .sq (guard_none rfl) rfl rfl rfl rfl rfl rfl rfl rfl rfl rfl rfl rfl rfl rfl rfl rfl rfl fun x1 x1b => ?_
  refine Fr EInt ?_
  refine rw_fact (F := FactsG NPeer (fun _ => (⟨none, 0⟩ : SlV)) [(⟨0, 0, ([] : List Int)⟩ : Peer), (⟨0, 0, ([] : List Int)⟩ : Peer), (⟨0, 0, ([] : List Int)⟩ : Peer)]) [RdL EInt (⟨none, 0⟩ : SlV) ([] : List Int)] Sm (fun M w h => FactsG.const NPeer (by intro a ha; simp only [List.mem_cons, List.not_mem_nil, or_false, or_self] at ha; subst ha; exact allF_sub Sm h)) ?_
  refine Tx ?_
  refine Fc EStep ?_
  refine Fc EPlace ?_
  refine cw_le (le_freezeL NPeer.E 66 x1 x1b (zipG (fun _ => (⟨none, 0⟩ : SlV)) 0 [(⟨0, 0, ([] : List Int)⟩ : Peer), (⟨0, 0, ([] : List Int)⟩ : Peer), (⟨0, 0, ([] : List Int)⟩ : Peer)]) Uo) ?_
  refine cw_fact (F := RdN NPeer x1 [(⟨0, 0, ([] : List Int)⟩ : Peer), (⟨0, 0, ([] : List Int)⟩ : Peer), (⟨0, 0, ([] : List Int)⟩ : Peer)]) [RdG NPeer x1 (fun _ => (⟨none, 0⟩ : SlV)) [(⟨0, 0, ([] : List Int)⟩ : Peer), (⟨0, 0, ([] : List Int)⟩ : Peer), (⟨0, 0, ([] : List Int)⟩ : Peer)], FactsG NPeer (fun _ => (⟨none, 0⟩ : SlV)) [(⟨0, 0, ([] : List Int)⟩ : Peer), (⟨0, 0, ([] : List Int)⟩ : Peer), (⟨0, 0, ([] : List Int)⟩ : Peer)]] Sm (fun M w h => RdN.ofG NPeer (h _ (.head _)) (h _ (.tail _ (.head _)))) ?_
  have hr1 : (hub_New) = (⟨(⟨([] : List Step), ([] : List Place)⟩ : History), 0, [(⟨0, 0, ([] : List Int)⟩ : Peer), (⟨0, 0, ([] : List Int)⟩ : Peer), (⟨0, 0, ([] : List Int)⟩ : Peer)]⟩ : Hub) := by simp only [hub_New, cond_true, cond_false]
  refine cw_ret ?_; rw [hr1]; exact Re ⟨(⟨none, 0⟩ : SlV), (⟨none, 0⟩ : SlV), x1⟩ (Va Vn)
end Go.Proofs.YtccmadehnoihnaaGreatDoor

namespace Go.Proofs.YtccmadehnoihnaaGreatDoor
open Go Go.Proofs.YtccmadehnoihnaaGreatDoor.Fw Go.Proofs
/-! ### tree -/
def find : List Place → Int → Place
  | [], _ => ⟨0, 0, 0⟩
  | p :: r, n => bif p.node == n then p else find r n
def place (p : Place) : Int := bif (decide (p.node < 1) || decide (p.node ≥ 16) || decide (p.parent < 0) || decide (p.parent > 16) || decide (p.name < 0) || decide (p.name > 99)) then 3 else 0
def standsF (l : List Place) (top : Int) : Nat → Int → Bool
  | 0, _ => false
  | k + 1, nd => bif nd == top then true else bif (find l nd).node == 0 then false else standsF l top k (find l nd).parent
def stands (l : List Place) (nd top : Int) : Bool := standsF l top (l.length + 1) nd
/-- the first loop of Check: from place number k on -/
def chk1 (l : List Place) : Nat → Nat → Int
  | 0, _ => 0
  | f + 1, k => bif place (gt l k) != 0 then place (gt l k) else bif (decide ((k : Int) > 0) && decide ((gt l (k - 1)).node ≥ (gt l k).node)) then 6 else chk1 l f (k + 1)
def chk2 (t : List Place) : List Place → Int
  | [] => 0
  | p :: r => bif stands t p.parent p.node then 4 else chk2 t r
def checkT (l : List Place) : Int := bif chk1 l l.length 0 != 0 then chk1 l l.length 0 else chk2 l l
def put (p : Place) : Bool → List Place → List Place
  | d, [] => bif !d then [p] else []
  | d, q :: r => bif (!d && decide (q.node ≥ p.node)) then p :: (bif q.node != p.node then q :: put p true r else put p true r) else (bif q.node != p.node then q :: put p d r else put p d r)
def putT (l : List Place) (p : Place) : List Place := put p (decide (p.parent < 0)) l
def under (l : List Place) (nd top : Int) : Bool × Int := bif checkT l != 0 then (false, checkT l) else bif (decide (nd < 0) || decide (nd > 16) || decide (top < 0) || decide (top > 16)) then (false, 5) else (stands l nd top, 0)

/-! ### move -/
def chkO (o : Op) : Int := bif (decide (o.time < 1) || decide (o.time > 10000) || decide (o.who < 0) || decide (o.who ≥ 3) || decide (o.node < 1) || decide (o.node ≥ 16) || decide (o.parent < 0) || decide (o.parent > 16) || decide (o.name < 0) || decide (o.name > 99) || decide (o.life < 1) || decide (o.life > 50) || decide (o.seq < 1) || decide (o.seq > 30)) then 3 else 0
def moveDo (l : List Place) (o : Op) : List Place × Step × Int :=
  bif checkT l != 0 then ([], default, checkT l) else bif chkO o != 0 then ([], default, chkO o) else
  bif stands l o.parent o.node then (l, ⟨o, false, find l o.node⟩, 0) else (putT l ⟨o.node, o.parent, o.name⟩, ⟨o, true, find l o.node⟩, 0)
def wasOf (s : Step) : Place := bif s.was.node == 0 then ⟨s.o.node, -1, 0⟩ else s.was
def moveUndo (l : List Place) (s : Step) : List Place × Int :=
  bif checkT l != 0 then ([], checkT l) else bif chkO s.o != 0 then ([], chkO s.o) else bif !s.did then (l, 0) else
  bif ((wasOf s).node != s.o.node || find l s.o.node != ⟨s.o.node, s.o.parent, s.o.name⟩) then ([], 4) else
  bif checkT (putT l (wasOf s)) != 0 then ([], checkT (putT l (wasOf s))) else (putT l (wasOf s), 0)
end Go.Proofs.YtccmadehnoihnaaGreatDoor

namespace Go.Proofs.YtccmadehnoihnaaGreatDoor
open Go Go.Proofs.YtccmadehnoihnaaGreatDoor.Fw Go.Proofs

/-! ### Plain facts of trees -/
theorem chk1_ok (l : List Place) : ∀ (f k : Nat), k + f = l.length → chk1 l f k = 0 → (∀ i, k ≤ i → i < l.length → place (gt l i) = 0) ∧ ∀ i, k ≤ i → i < l.length → 0 < i → (gt l (i - 1)).node < (gt l i).node
  | 0, k, h, _ => ⟨fun i h1 h2 => by omega, fun i h1 h2 => by omega⟩
  | f + 1, k, h, hc => by
    rw [chk1] at hc
    cases h1 : place (gt l k) != 0 with
    | true => rw [h1, cond_true] at hc; simp [hc] at h1
    | false =>
      rw [h1, cond_false] at hc
      cases h2 : (decide ((k : Int) > 0) && decide ((gt l (k - 1)).node ≥ (gt l k).node)) with
      | true => rw [h2, cond_true] at hc; cases hc
      | false =>
        rw [h2, cond_false] at hc
        obtain ⟨ha, hb⟩ := chk1_ok l f (k + 1) (by omega) hc
        refine ⟨fun i hi hlt => ?_, fun i hi hlt hp => ?_⟩
        · rcases Nat.eq_or_lt_of_le hi with rfl | hi
          · simpa using h1
          · exact ha i hi hlt
        · rcases Nat.eq_or_lt_of_le hi with rfl | hi
          · simp only [Bool.and_eq_false_iff, decide_eq_false_iff_not] at h2
            rcases h2 with h2 | h2 <;> omega
          · exact hb i hi hlt hp

theorem checkT_1 {l : List Place} (h : checkT l = 0) : chk1 l l.length 0 = 0 := by
  unfold checkT at h
  cases h1 : chk1 l l.length 0 != 0 with
  | true => rw [h1, cond_true] at h; exact h
  | false => simpa using h1

theorem plc_ok {p : Place} (h : place p = 0) : 1 ≤ p.node ∧ p.node < 16 ∧ 0 ≤ p.parent ∧ p.parent ≤ 16 ∧ 0 ≤ p.name ∧ p.name ≤ 99 := by
  unfold place at h
  generalize hb : (decide (p.node < 1) || decide (p.node ≥ 16) || decide (p.parent < 0) || decide (p.parent > 16) || decide (p.name < 0) || decide (p.name > 99)) = b at h
  cases b with
  | true => simp at h
  | false => simp only [Bool.or_eq_false_iff, decide_eq_false_iff_not] at hb; omega

end Go.Proofs.YtccmadehnoihnaaGreatDoor
