/- Part of this claim. No condition. -/
import Derived.Test.YtaiefncoholnnaaDoorY0
set_option linter.unusedVariables false
set_option linter.unusedSimpArgs false
set_option maxHeartbeats 2000000
namespace Go.Proofs.YtaiefncoholnnaaDoor
open Go Go.Proofs.YtaiefncoholnnaaDoor.Fw Go.Proofs
attribute [local irreducible] RW CW
def move_Check (o1 : Op) : Int :=
  (bif (((((((((((((decide (o1.time < 1) || decide (o1.time > 10000)) || decide (o1.who < 0)) || decide (o1.who ≥ 3)) || decide (o1.node < 1)) || decide (o1.node ≥ 16)) || decide (o1.parent < 0)) || decide (o1.parent > 16)) || decide (o1.name < 0)) || decide (o1.name > 99)) || decide (o1.life < 1)) || decide (o1.life > 50)) || decide (o1.seq < 1)) || decide (o1.seq > 30)) then 3 else 0)
theorem move_Check_spec (o1 : Op) : Does Tryd.prog 39 [.agg ⟨[.int .i64 o1.time, .int .i64 o1.who, .int .i64 o1.node, .int .i64 o1.parent, .int .i64 o1.name, .int .i64 o1.life, .int .i64 o1.seq]⟩] [] (fun (_ : Unit) => .int .i64 (move_Check o1)) (fun (_ : Unit) => []) := by
  refine does_of tab_ok Tryd.func39 rfl Tryd.ntmps39 Tryd.results39 rfl inferInstance (fun _ => inferInstance) fun C => ?_
  refine Tx ?_
  refine Bx fun g1 => ?_
  refine Tx ?_
  refine Cd (b := (((((((((((((decide (o1.time < 1) || decide (o1.time > 10000)) || decide (o1.who < 0)) || decide (o1.who ≥ 3)) || decide (o1.node < 1)) || decide (o1.node ≥ 16)) || decide (o1.parent < 0)) || decide (o1.parent > 16)) || decide (o1.name < 0)) || decide (o1.name > 99)) || decide (o1.life < 1)) || decide (o1.life > 50)) || decide (o1.seq < 1)) || decide (o1.seq > 30))) (fun hc1 => ?_) fun hc1 => ?_
  · refine Tx ?_
    have hr1 : (move_Check o1) = 3 := by simp only [move_Check, hc1, cond_true, cond_false]
    refine cw_ret ?_; rw [hr1]; exact Re () (Vt Vn)
  · refine Tx ?_
    have hr2 : (move_Check o1) = 0 := by simp only [move_Check, hc1, cond_true, cond_false]
    refine cw_ret ?_; rw [hr2]; exact Re () (Vt Vn)

def view_Roots_L0 (l1 : List Int) : List Int → Nat → Int
  | [], n1 => 0
  | pn1 :: rn1, n1 => (bif (decide (pn1 < 0) || decide (pn1 > 16)) then 5 else (bif (decide ((n1 : Int) > 0) && decide ((gt l1 (n1 - 1)) ≥ pn1)) then 6 else (view_Roots_L0 l1 rn1 (n1 + 1))))
def view_Roots (l1 : List Int) : Int :=
  (bif decide ((l1.length : Int) > 4) then 2 else (view_Roots_L0 l1 l1 0))
theorem view_Roots_spec (y1 : SlV) (l1 : List Int) : Does Tryd.prog 40 [y1.val l1.length] [RdL EInt y1 l1] (fun (_ : Unit) => .int .i64 (view_Roots l1)) (fun (_ : Unit) => []) := by
  refine does_of tab_ok Tryd.func40 rfl Tryd.ntmps40 Tryd.results40 rfl inferInstance (fun _ => inferInstance) fun C => ?_
  refine Pc EInt y1 l1 8 fun hlen1 => ?_
  refine Tx ?_
  refine Cd (b := decide ((l1.length : Int) > 4)) (fun hc1 => ?_) fun hc1 => ?_
  · have hc1p := of_decide_eq_true hc1
    refine Tx ?_
    have hr1 : (view_Roots l1) = 2 := by simp only [view_Roots, hc1, cond_true, cond_false]
    refine cw_ret ?_; rw [hr1]; exact Re () (Vt Vn)
  · have hc1p := of_decide_eq_false hc1
    refine Tx ?_
    (repeat refine cw_seq ?_); refine Lp [0,2,8,9] [] (fun (n1 : Nat) => (⟨[(10, .v (.int .i64 (n1 : Int)))], [], [], [], (n1 ≤ l1.length) ∧ (view_Roots_L0 l1 (l1.drop n1) n1) = (view_Roots l1), l1.length - n1⟩ : Ls)) 0 (Sc (Sc (Sc (Sc Sn)))) (.nil) ⟨Nat.zero_le _, (by simp only [view_Roots, hc1, cond_true, cond_false] : (view_Roots l1) = (view_Roots_L0 l1 l1 0)).symm⟩ Le4 ?_
    rintro n1 ⟨hkn1, hf1⟩
    simp only [List.cons_append, List.nil_append]
    refine Tx ?_
    refine Cd (b := decide ((n1 : Int) < (l1.length : Int))) (fun hc2 => ?_) fun hc2 => ?_
    · have hlt0 : n1 < l1.length := Int.ofNat_lt.1 (of_decide_eq_true hc2)
      refine Tx ?_
      refine rw_q rfl rfl rfl (q_idx EInt n1 rfl rfl (fun _ => rfl) rfl (fun _ => rfl) rfl rfl rfl Mm rfl (fun _ => rfl) (fun _ => by first | assumption | omega)) ?_
      refine rw_q rfl rfl rfl (q_le1 EInt rfl rfl (fun _ => rfl) rfl rfl Mm (fun _ => by first | assumption | omega) rfl) ?_
      refine Tx ?_
      refine Cd (b := (decide ((gt l1 n1) < 0) || decide ((gt l1 n1) > 16))) (fun hc3 => ?_) fun hc3 => ?_
      · refine Tx ?_
        have hr2 : (view_Roots l1) = 5 := by rw [← hf1, drop_gt hlt0]; simp only [view_Roots_L0, hc3, cond_true, cond_false]
        refine cw_ret ?_; rw [hr2]; exact Re () (Vt Vn)
      · refine Tx ?_
        refine rw_qg (guard_vt rfl rfl rfl) rfl rfl (q_sub rfl rfl Bt rfl Bt (by intro h; first | omega | (simp at h; omega))) ?_
        refine rw_qg (guard_vt rfl rfl rfl) rfl rfl (q_idx EInt (n1 - 1) rfl rfl Bt rfl Bt rfl rfl rfl Mm rfl (by intro h; first | omega | rfl | (simp at h; omega)) (by first | (intro _; first | assumption | omega) | (intro h; simp at h; omega))) ?_
        refine rw_qg (guard_vt rfl rfl rfl) rfl rfl (q_le1 EInt rfl rfl Bt rfl rfl Mm (by first | (intro _; first | assumption | omega) | (intro h; simp at h; omega)) rfl) ?_
        refine Tx ?_
        refine Cd (b := (decide ((n1 : Int) > 0) && decide ((gt l1 (n1 - 1)) ≥ (gt l1 n1)))) (fun hc4 => ?_) fun hc4 => ?_
        · refine Tx ?_
          have hr3 : (view_Roots l1) = 6 := by rw [← hf1, drop_gt hlt0]; simp only [view_Roots_L0, hc3, hc4, cond_true, cond_false]
          refine cw_ret ?_; rw [hr3]; exact Re () (Vt Vn)
        · refine Tx ?_
          refine rw_q rfl rfl rfl (q_add rfl rfl (fun _ => rfl) rfl (fun _ => rfl) (fun _ => by omega)) ?_
          refine Tx ?_
          refine ⟨(n1 + 1), ⟨hlt0, (by rw [← hf1, drop_gt hlt0]; simp only [view_Roots_L0, hc3, hc4, cond_true, cond_false] : (view_Roots l1) = (view_Roots_L0 l1 (l1.drop (n1 + 1)) (n1 + 1))).symm⟩, (by simp only []; omega), Le4⟩
    · have hge0 : l1.length ≤ n1 := by have := of_decide_eq_false hc2; omega
      refine Tx ?_
      have hr4 : (view_Roots l1) = 0 := by rw [← hf1, List.drop_of_length_le hge0]; simp only [view_Roots_L0, cond_true, cond_false]
      refine cw_ret ?_; rw [hr4]; exact Re () (Vt Vn)

def orangeryref_in (n1 : Int) (from1 : Int) (to1 : Int) : Bool :=
  (decide (from1 ≤ n1) && decide (n1 ≤ to1))
theorem orangeryref_in_spec (n1 : Int) (from1 : Int) (to1 : Int) : Does Tryd.prog 55 [.int .i64 n1, .int .i64 from1, .int .i64 to1] [] (fun (_ : Unit) => .bool (orangeryref_in n1 from1 to1)) (fun (_ : Unit) => []) := by
  refine does_of tab_ok Tryd.func55 rfl Tryd.ntmps55 Tryd.results55 rfl inferInstance (fun _ => inferInstance) fun C => ?_
  refine Tx ?_
  have hr1 : (orangeryref_in n1 from1 to1) = (decide (from1 ≤ n1) && decide (n1 ≤ to1)) := by simp only [orangeryref_in, cond_true, cond_false]
  refine cw_ret ?_; rw [hr1]; exact Re () (Vt Vn)

def orangeryref_CheckPlace (p1 : Place) : Int :=
  (bif (((!(orangeryref_in p1.node 1 15)) || (!(orangeryref_in p1.parent 0 16))) || (!(orangeryref_in p1.name 0 99))) then 3 else 0)
theorem orangeryref_CheckPlace_spec (p1 : Place) : Does Tryd.prog 73 [.agg ⟨[.int .i64 p1.node, .int .i64 p1.parent, .int .i64 p1.name]⟩] [] (fun (_ : Unit) => .int .i64 (orangeryref_CheckPlace p1)) (fun (_ : Unit) => []) := by
  refine does_of tab_ok Tryd.func73 rfl Tryd.ntmps73 Tryd.results73 rfl inferInstance (fun _ => inferInstance) fun C => ?_
  refine Tx ?_
  refine Bx fun g1 => ?_
  refine Tx ?_
  refine Cl (orangeryref_in_spec p1.node 1 15) fun _ => ?_
  refine Tx ?_
  refine rw_callg (fun hG_ => orangeryref_in_spec p1.parent 0 16) (fun _ => rfl) .sq (guard_vf rfl rfl rfl) rfl rfl rfl Kr rfl Bt Sm ?_
  refine Tx ?_
  refine rw_callg (fun hG_ => orangeryref_in_spec p1.name 0 99) (fun _ => rfl) .sq (guard_vf rfl rfl rfl) rfl rfl rfl Kr rfl Bt Sm ?_
  refine Tx ?_
  refine Cd (b := (((!(orangeryref_in p1.node 1 15)) || (!(orangeryref_in p1.parent 0 16))) || (!(orangeryref_in p1.name 0 99)))) (fun hc1 => ?_) fun hc1 => ?_
  · refine Tx ?_
    have hr1 : (orangeryref_CheckPlace p1) = 3 := by simp only [orangeryref_CheckPlace, hc1, cond_true, cond_false]
    refine cw_ret ?_; rw [hr1]; exact Re () (Vt Vn)
  · refine Tx ?_
    have hr2 : (orangeryref_CheckPlace p1) = 0 := by simp only [orangeryref_CheckPlace, hc1, cond_true, cond_false]
    refine cw_ret ?_; rw [hr2]; exact Re () (Vt Vn)

def orangeryref_CheckOp (o1 : Op) : Int :=
  (bif (((((!(orangeryref_in o1.time 1 10000)) || (!(orangeryref_in o1.who 0 2))) || ((orangeryref_CheckPlace (⟨o1.node, o1.parent, o1.name⟩ : Place)) != 0)) || (!(orangeryref_in o1.life 1 50))) || (!(orangeryref_in o1.seq 1 30))) then 3 else 0)
theorem orangeryref_CheckOp_spec (o1 : Op) : Does Tryd.prog 54 [.agg ⟨[.int .i64 o1.time, .int .i64 o1.who, .int .i64 o1.node, .int .i64 o1.parent, .int .i64 o1.name, .int .i64 o1.life, .int .i64 o1.seq]⟩] [] (fun (_ : Unit) => .int .i64 (orangeryref_CheckOp o1)) (fun (_ : Unit) => []) := by
  refine does_of tab_ok Tryd.func54 rfl Tryd.ntmps54 Tryd.results54 rfl inferInstance (fun _ => inferInstance) fun C => ?_
  refine Tx ?_
  refine Bx fun g1 => ?_
  refine Tx ?_
  refine Cl (orangeryref_in_spec o1.time 1 10000) fun _ => ?_
  refine Tx ?_
  refine rw_callg (fun hG_ => orangeryref_in_spec o1.who 0 2) (fun _ => rfl) .sq (guard_vf rfl rfl rfl) rfl rfl rfl Kr rfl Bt Sm ?_
  refine Tx ?_
  refine rw_callg (fun hG_ => orangeryref_CheckPlace_spec (⟨o1.node, o1.parent, o1.name⟩ : Place)) (fun _ => rfl) .sq (guard_vf rfl rfl rfl) rfl rfl rfl Kr rfl Bt Sm ?_
  refine Tx ?_
  refine rw_callg (fun hG_ => orangeryref_in_spec o1.life 1 50) (fun _ => rfl) .sq (guard_vf rfl rfl rfl) rfl rfl rfl Kr rfl Bt Sm ?_
  refine Tx ?_
  refine rw_callg (fun hG_ => orangeryref_in_spec o1.seq 1 30) (fun _ => rfl) .sq (guard_vf rfl rfl rfl) rfl rfl rfl Kr rfl Bt Sm ?_
  refine Tx ?_
  refine Cd (b := (((((!(orangeryref_in o1.time 1 10000)) || (!(orangeryref_in o1.who 0 2))) || ((orangeryref_CheckPlace (⟨o1.node, o1.parent, o1.name⟩ : Place)) != 0)) || (!(orangeryref_in o1.life 1 50))) || (!(orangeryref_in o1.seq 1 30)))) (fun hc1 => ?_) fun hc1 => ?_
  · refine Tx ?_
    have hr1 : (orangeryref_CheckOp o1) = 3 := by simp only [orangeryref_CheckOp, hc1, cond_true, cond_false]
    refine cw_ret ?_; rw [hr1]; exact Re () (Vt Vn)
  · refine Tx ?_
    have hr2 : (orangeryref_CheckOp o1) = 0 := by simp only [orangeryref_CheckOp, hc1, cond_true, cond_false]
    refine cw_ret ?_; rw [hr2]; exact Re () (Vt Vn)

def orangeryref_CheckRoots_L0  : List Int → Int → Int
  | [], last1 => 0
  | pn1 :: rn1, last1 => (bif (!(orangeryref_in pn1 0 16)) then 5 else (bif decide (pn1 ≤ last1) then 6 else (orangeryref_CheckRoots_L0 rn1 pn1)))
def orangeryref_CheckRoots (l1 : List Int) : Int :=
  (bif decide ((l1.length : Int) > 4) then 2 else (orangeryref_CheckRoots_L0 l1 (-1)))
theorem orangeryref_CheckRoots_spec (y1 : SlV) (l1 : List Int) : Does Tryd.prog 56 [y1.val l1.length] [RdL EInt y1 l1] (fun (_ : Unit) => .int .i64 (orangeryref_CheckRoots l1)) (fun (_ : Unit) => []) := by
  refine does_of tab_ok Tryd.func56 rfl Tryd.ntmps56 Tryd.results56 rfl inferInstance (fun _ => inferInstance) fun C => ?_
  refine Pc EInt y1 l1 8 fun hlen1 => ?_
  refine Tx ?_
  refine Cd (b := decide ((l1.length : Int) > 4)) (fun hc1 => ?_) fun hc1 => ?_
  · have hc1p := of_decide_eq_true hc1
    refine Tx ?_
    have hr1 : (orangeryref_CheckRoots l1) = 2 := by simp only [orangeryref_CheckRoots, hc1, cond_true, cond_false]
    refine cw_ret ?_; rw [hr1]; exact Re () (Vt Vn)
  · have hc1p := of_decide_eq_false hc1
    refine Tx ?_
    (repeat refine cw_seq ?_); refine Lp [2,9,10] [] (fun (i_ : Int × Nat) => match i_ with | ⟨last1, n1⟩ => (⟨[(3, .v (.int .i64 last1)), (11, .v (.int .i64 (n1 : Int)))], [], [], [], (n1 ≤ l1.length) ∧ (orangeryref_CheckRoots_L0 (l1.drop n1) last1) = (orangeryref_CheckRoots l1), l1.length - n1⟩ : Ls)) ⟨(-1), 0⟩ (Sc (Sc (Sc Sn))) (.nil) ⟨Nat.zero_le _, (by simp only [orangeryref_CheckRoots, hc1, cond_true, cond_false] : (orangeryref_CheckRoots l1) = (orangeryref_CheckRoots_L0 l1 (-1))).symm⟩ Le4 ?_
    rintro ⟨last1, n1⟩ ⟨hkn1, hf1⟩
    simp only [List.cons_append, List.nil_append]
    refine Tx ?_
    refine Cd (b := decide ((n1 : Int) < (l1.length : Int))) (fun hc2 => ?_) fun hc2 => ?_
    · have hlt0 : n1 < l1.length := Int.ofNat_lt.1 (of_decide_eq_true hc2)
      refine Tx ?_
      refine rw_q rfl rfl rfl (q_idx EInt n1 rfl rfl (fun _ => rfl) rfl (fun _ => rfl) rfl rfl rfl Mm rfl (fun _ => rfl) (fun _ => by first | assumption | omega)) ?_
      refine rw_q rfl rfl rfl (q_le1 EInt rfl rfl (fun _ => rfl) rfl rfl Mm (fun _ => by first | assumption | omega) rfl) ?_
      refine Tx ?_
      refine Cl (orangeryref_in_spec (gt l1 n1) 0 16) fun _ => ?_
      refine Tx ?_
      refine Cd (b := (!(orangeryref_in (gt l1 n1) 0 16))) (fun hc3 => ?_) fun hc3 => ?_
      · refine Tx ?_
        have hr2 : (orangeryref_CheckRoots l1) = 5 := by rw [← hf1, drop_gt hlt0]; simp only [orangeryref_CheckRoots_L0, hc3, cond_true, cond_false]
        refine cw_ret ?_; rw [hr2]; exact Re () (Vt Vn)
      · refine Tx ?_
        refine Cd (b := decide ((gt l1 n1) ≤ last1)) (fun hc4 => ?_) fun hc4 => ?_
        · have hc4p := of_decide_eq_true hc4
          refine Tx ?_
          have hr3 : (orangeryref_CheckRoots l1) = 6 := by rw [← hf1, drop_gt hlt0]; simp only [orangeryref_CheckRoots_L0, hc3, hc4, cond_true, cond_false]
          refine cw_ret ?_; rw [hr3]; exact Re () (Vt Vn)
        · have hc4p := of_decide_eq_false hc4
          refine Tx ?_
          refine rw_q rfl rfl rfl (q_add rfl rfl (fun _ => rfl) rfl (fun _ => rfl) (fun _ => by omega)) ?_
          refine Tx ?_
          refine ⟨⟨(gt l1 n1), (n1 + 1)⟩, ⟨hlt0, (by rw [← hf1, drop_gt hlt0]; simp only [orangeryref_CheckRoots_L0, hc3, hc4, cond_true, cond_false] : (orangeryref_CheckRoots l1) = (orangeryref_CheckRoots_L0 (l1.drop (n1 + 1)) (gt l1 n1))).symm⟩, (by simp only []; omega), Le4⟩
    · have hge0 : l1.length ≤ n1 := by have := of_decide_eq_false hc2; omega
      refine Tx ?_
      have hr4 : (orangeryref_CheckRoots l1) = 0 := by rw [← hf1, List.drop_of_length_le hge0]; simp only [orangeryref_CheckRoots_L0, cond_true, cond_false]
      refine cw_ret ?_; rw [hr4]; exact Re () (Vt Vn)

def orangeryref_CheckRec (r1 : Rec) : Int :=
  (bif (r1.kind == 1) then (bif (((r1.who != 0) || (r1.life != 0)) || ((r1.roots.length : Int) != 0)) then 4 else (orangeryref_CheckOp r1.o)) else (bif (r1.kind == 2) then (bif ((!(decide (r1.o = (⟨0, 0, 0, 0, 0, 0, 0⟩ : Op)))) || ((r1.roots.length : Int) != 0)) then 4 else (bif ((!(orangeryref_in r1.who 0 2)) || (!(orangeryref_in r1.life 1 50))) then 3 else 0)) else (bif (r1.kind == 3) then (bif ((!(decide (r1.o = (⟨0, 0, 0, 0, 0, 0, 0⟩ : Op)))) || (r1.life != 0)) then 4 else (bif (!(orangeryref_in r1.who 0 2)) then 3 else (orangeryref_CheckRoots r1.roots))) else 4)))
theorem orangeryref_CheckRec_spec (y1 : SlV) (r1 : Rec) : Does Tryd.prog 36 [.agg ⟨[.int .i64 r1.kind, .int .i64 r1.who, .int .i64 r1.life, y1.val r1.roots.length, .int .i64 r1.o.time, .int .i64 r1.o.who, .int .i64 r1.o.node, .int .i64 r1.o.parent, .int .i64 r1.o.name, .int .i64 r1.o.life, .int .i64 r1.o.seq]⟩] [RdL EInt y1 r1.roots] (fun (_ : Unit) => .int .i64 (orangeryref_CheckRec r1)) (fun (_ : Unit) => []) := by
  refine does_of tab_ok Tryd.func36 rfl Tryd.ntmps36 Tryd.results36 rfl inferInstance (fun _ => inferInstance) fun C => ?_
  refine Pc EInt y1 r1.roots 8 fun hlen1 => ?_
  refine Tx ?_
  refine Bx fun g1 => ?_
  refine Tx ?_
  refine Cd (b := (r1.kind == 1)) (fun hc1 => ?_) fun hc1 => ?_
  · have hc1p := eq_of_beq hc1
    refine Tx ?_
    refine Cd (b := (((r1.who != 0) || (r1.life != 0)) || ((r1.roots.length : Int) != 0))) (fun hc2 => ?_) fun hc2 => ?_
    · refine Tx ?_
      have hr1 : (orangeryref_CheckRec r1) = 4 := by simp only [orangeryref_CheckRec, hc1, hc2, cond_true, cond_false]
      refine cw_ret ?_; rw [hr1]; exact Re () (Vt Vn)
    · refine Tx ?_
      refine Cl (orangeryref_CheckOp_spec r1.o) fun _ => ?_
      refine Tx ?_
      have hr2 : (orangeryref_CheckRec r1) = (orangeryref_CheckOp r1.o) := by simp only [orangeryref_CheckRec, hc1, hc2, cond_true, cond_false]
      refine cw_ret ?_; rw [hr2]; exact Re () (Vt Vn)
  · have hc1p := ne_of_beq_false hc1
    refine Tx ?_
    refine Cd (b := (r1.kind == 2)) (fun hc3 => ?_) fun hc3 => ?_
    · have hc3p := eq_of_beq hc3
      refine Tx ?_
      refine rw_q rfl rfl rfl (q_neE eqT_Op (flatEq_Op r1.o (⟨0, 0, 0, 0, 0, 0, 0⟩ : Op)) rfl rfl (fun _ => rfl) rfl (fun _ => rfl) rfl rfl) ?_
      refine Tx ?_
      refine Cd (b := ((!(decide (r1.o = (⟨0, 0, 0, 0, 0, 0, 0⟩ : Op)))) || ((r1.roots.length : Int) != 0))) (fun hc4 => ?_) fun hc4 => ?_
      · refine Tx ?_
        have hr3 : (orangeryref_CheckRec r1) = 4 := by simp only [orangeryref_CheckRec, hc1, hc3, hc4, cond_true, cond_false]
        refine cw_ret ?_; rw [hr3]; exact Re () (Vt Vn)
      · refine Tx ?_
        refine Cl (orangeryref_in_spec r1.who 0 2) fun _ => ?_
        refine Tx ?_
        refine rw_callg (fun hG_ => orangeryref_in_spec r1.life 1 50) (fun _ => rfl) .sq (guard_vf rfl rfl rfl) rfl rfl rfl Kr rfl Bt Sm ?_
        refine Tx ?_
        refine Cd (b := ((!(orangeryref_in r1.who 0 2)) || (!(orangeryref_in r1.life 1 50)))) (fun hc5 => ?_) fun hc5 => ?_
        · refine Tx ?_
          have hr4 : (orangeryref_CheckRec r1) = 3 := by simp only [orangeryref_CheckRec, hc1, hc3, hc4, hc5, cond_true, cond_false]
          refine cw_ret ?_; rw [hr4]; exact Re () (Vt Vn)
        · refine Tx ?_
          have hr5 : (orangeryref_CheckRec r1) = 0 := by simp only [orangeryref_CheckRec, hc1, hc3, hc4, hc5, cond_true, cond_false]
          refine cw_ret ?_; rw [hr5]; exact Re () (Vt Vn)
    · have hc3p := ne_of_beq_false hc3
      refine Tx ?_
      refine Cd (b := (r1.kind == 3)) (fun hc6 => ?_) fun hc6 => ?_
      · have hc6p := eq_of_beq hc6
        refine Tx ?_
        refine rw_q rfl rfl rfl (q_neE eqT_Op (flatEq_Op r1.o (⟨0, 0, 0, 0, 0, 0, 0⟩ : Op)) rfl rfl (fun _ => rfl) rfl (fun _ => rfl) rfl rfl) ?_
        refine Tx ?_
        refine Cd (b := ((!(decide (r1.o = (⟨0, 0, 0, 0, 0, 0, 0⟩ : Op)))) || (r1.life != 0))) (fun hc7 => ?_) fun hc7 => ?_
        · refine Tx ?_
          have hr6 : (orangeryref_CheckRec r1) = 4 := by simp only [orangeryref_CheckRec, hc1, hc3, hc6, hc7, cond_true, cond_false]
          refine cw_ret ?_; rw [hr6]; exact Re () (Vt Vn)
        · refine Tx ?_
          refine Cl (orangeryref_in_spec r1.who 0 2) fun _ => ?_
          refine Tx ?_
          refine Cd (b := (!(orangeryref_in r1.who 0 2))) (fun hc8 => ?_) fun hc8 => ?_
          · refine Tx ?_
            have hr7 : (orangeryref_CheckRec r1) = 3 := by simp only [orangeryref_CheckRec, hc1, hc3, hc6, hc7, hc8, cond_true, cond_false]
            refine cw_ret ?_; rw [hr7]; exact Re () (Vt Vn)
          · refine Tx ?_
            refine Cl (orangeryref_CheckRoots_spec y1 r1.roots) fun _ => ?_
            refine Tx ?_
            have hr8 : (orangeryref_CheckRec r1) = (orangeryref_CheckRoots r1.roots) := by simp only [orangeryref_CheckRec, hc1, hc3, hc6, hc7, hc8, cond_true, cond_false]
            refine cw_ret ?_; rw [hr8]; exact Re () (Vt Vn)
      · have hc6p := ne_of_beq_false hc6
        refine Tx ?_
        have hr9 : (orangeryref_CheckRec r1) = 4 := by simp only [orangeryref_CheckRec, hc1, hc3, hc6, cond_true, cond_false]
        refine cw_ret ?_; rw [hr9]; exact Re () (Vt Vn)

def note_Check (r1 : Rec) : Int :=
  (bif (decide (r1.kind < 1) || decide (r1.kind > 3)) then 4 else (bif (r1.kind == 1) then (bif (((r1.who != 0) || (r1.life != 0)) || decide ((r1.roots.length : Int) > 0)) then 4 else (move_Check r1.o)) else (bif (((!(decide (r1.o = (⟨0, 0, 0, 0, 0, 0, 0⟩ : Op)))) || ((r1.kind == 3) && (r1.life != 0))) || ((r1.kind == 2) && decide ((r1.roots.length : Int) > 0))) then 4 else (bif ((decide (r1.who < 0) || decide (r1.who ≥ 3)) || ((r1.kind == 2) && (decide (r1.life < 1) || decide (r1.life > 50)))) then 3 else (view_Roots r1.roots)))))
theorem note_Check_spec (y1 : SlV) (r1 : Rec) : Does Tryd.prog 12 [.agg ⟨[.int .i64 r1.kind, .int .i64 r1.who, .int .i64 r1.life, y1.val r1.roots.length, .int .i64 r1.o.time, .int .i64 r1.o.who, .int .i64 r1.o.node, .int .i64 r1.o.parent, .int .i64 r1.o.name, .int .i64 r1.o.life, .int .i64 r1.o.seq]⟩] [RdL EInt y1 r1.roots] (fun (_ : Unit) => .int .i64 (note_Check r1)) (fun (_ : Unit) => []) := by
  refine does_of tab_ok Tryd.func12 rfl Tryd.ntmps12 Tryd.results12 rfl inferInstance (fun _ => inferInstance) fun C => ?_
  refine Pc EInt y1 r1.roots 8 fun hlen1 => ?_
  refine Tx ?_
  refine Bx fun g1 => ?_
  refine Tx ?_
  refine Cd (b := (decide (r1.kind < 1) || decide (r1.kind > 3))) (fun hc1 => ?_) fun hc1 => ?_
  · refine Tx ?_
    have hr1 : (note_Check r1) = 4 := by simp only [note_Check, hc1, cond_true, cond_false]
    refine cw_ret ?_; rw [hr1]; exact Re () (Vt Vn)
  · refine Tx ?_
    refine Cd (b := (r1.kind == 1)) (fun hc2 => ?_) fun hc2 => ?_
    · have hc2p := eq_of_beq hc2
      refine Tx ?_
      refine Cd (b := (((r1.who != 0) || (r1.life != 0)) || decide ((r1.roots.length : Int) > 0))) (fun hc3 => ?_) fun hc3 => ?_
      · refine Tx ?_
        have hr2 : (note_Check r1) = 4 := by simp only [note_Check, hc1, hc2, hc3, cond_true, cond_false]
        refine cw_ret ?_; rw [hr2]; exact Re () (Vt Vn)
      · refine Tx ?_
        refine Cl (move_Check_spec r1.o) fun _ => ?_
        refine Tx ?_
        have hr3 : (note_Check r1) = (move_Check r1.o) := by simp only [note_Check, hc1, hc2, hc3, cond_true, cond_false]
        refine cw_ret ?_; rw [hr3]; exact Re () (Vt Vn)
    · have hc2p := ne_of_beq_false hc2
      refine Tx ?_
      refine rw_q rfl rfl rfl (q_neE eqT_Op (flatEq_Op r1.o (⟨0, 0, 0, 0, 0, 0, 0⟩ : Op)) rfl rfl (fun _ => rfl) rfl (fun _ => rfl) rfl rfl) ?_
      refine Tx ?_
      refine Cd (b := (((!(decide (r1.o = (⟨0, 0, 0, 0, 0, 0, 0⟩ : Op)))) || ((r1.kind == 3) && (r1.life != 0))) || ((r1.kind == 2) && decide ((r1.roots.length : Int) > 0)))) (fun hc4 => ?_) fun hc4 => ?_
      · refine Tx ?_
        have hr4 : (note_Check r1) = 4 := by simp only [note_Check, hc1, hc2, hc4, cond_true, cond_false]
        refine cw_ret ?_; rw [hr4]; exact Re () (Vt Vn)
      · refine Tx ?_
        refine Cd (b := ((decide (r1.who < 0) || decide (r1.who ≥ 3)) || ((r1.kind == 2) && (decide (r1.life < 1) || decide (r1.life > 50))))) (fun hc5 => ?_) fun hc5 => ?_
        · refine Tx ?_
          have hr5 : (note_Check r1) = 3 := by simp only [note_Check, hc1, hc2, hc4, hc5, cond_true, cond_false]
          refine cw_ret ?_; rw [hr5]; exact Re () (Vt Vn)
        · refine Tx ?_
          refine Cl (view_Roots_spec y1 r1.roots) fun _ => ?_
          refine Tx ?_
          have hr6 : (note_Check r1) = (view_Roots r1.roots) := by simp only [note_Check, hc1, hc2, hc4, hc5, cond_true, cond_false]
          refine cw_ret ?_; rw [hr6]; exact Re () (Vt Vn)

def note_Same (a1 : Rec) (b1 : Rec) : Bool :=
  (((((a1.kind == b1.kind) && (a1.who == b1.who)) && (a1.life == b1.life)) && decide (a1.o = b1.o)) && (decide (a1.roots = b1.roots)))
theorem note_Same_spec (y1 : SlV) (a1 : Rec) (y2 : SlV) (b1 : Rec) : Does Tryd.prog 9 [.agg ⟨[.int .i64 a1.kind, .int .i64 a1.who, .int .i64 a1.life, y1.val a1.roots.length, .int .i64 a1.o.time, .int .i64 a1.o.who, .int .i64 a1.o.node, .int .i64 a1.o.parent, .int .i64 a1.o.name, .int .i64 a1.o.life, .int .i64 a1.o.seq]⟩, .agg ⟨[.int .i64 b1.kind, .int .i64 b1.who, .int .i64 b1.life, y2.val b1.roots.length, .int .i64 b1.o.time, .int .i64 b1.o.who, .int .i64 b1.o.node, .int .i64 b1.o.parent, .int .i64 b1.o.name, .int .i64 b1.o.life, .int .i64 b1.o.seq]⟩] [RdL EInt y1 a1.roots, RdL EInt y2 b1.roots] (fun (_ : Unit) => .bool (note_Same a1 b1)) (fun (_ : Unit) => []) := by
  refine does_of tab_ok Tryd.func9 rfl Tryd.ntmps9 Tryd.results9 rfl inferInstance (fun _ => inferInstance) fun C => ?_
  refine Pc EInt y1 a1.roots 8 fun hlen1 => ?_
  refine Pc EInt y2 b1.roots 8 fun hlen2 => ?_
  refine Tx ?_
  refine Bx fun g1 => ?_
  refine Bx fun g2 => ?_
  refine Tx ?_
  refine rw_qg (guard_vt rfl rfl rfl) rfl rfl (q_eqE eqT_Op (flatEq_Op a1.o b1.o) rfl rfl Bt rfl Bt rfl rfl) ?_
  refine Tx ?_
  refine rw_callg (fun hG_ => (fun y1 a y2 b => slices_Equal_Int_spec' y1 y2 a b) y1 a1.roots y2 b1.roots) (fun _ => rfl) .sq (guard_vt rfl rfl rfl) rfl rfl rfl Kr rfl Bt Sm ?_
  refine Tx ?_
  have hr1 : (note_Same a1 b1) = (((((a1.kind == b1.kind) && (a1.who == b1.who)) && (a1.life == b1.life)) && decide (a1.o = b1.o)) && (decide (a1.roots = b1.roots))) := by simp only [note_Same, cond_true, cond_false]
  refine cw_ret ?_; rw [hr1]; exact Re () (Vt Vn)

def orangeryref_SameRec (a1 : Rec) (b1 : Rec) : Bool :=
  (((((a1.kind == b1.kind) && (a1.who == b1.who)) && (a1.life == b1.life)) && (decide (a1.roots = b1.roots))) && decide (a1.o = b1.o))
theorem orangeryref_SameRec_spec (y1 : SlV) (a1 : Rec) (y2 : SlV) (b1 : Rec) : Does Tryd.prog 13 [.agg ⟨[.int .i64 a1.kind, .int .i64 a1.who, .int .i64 a1.life, y1.val a1.roots.length, .int .i64 a1.o.time, .int .i64 a1.o.who, .int .i64 a1.o.node, .int .i64 a1.o.parent, .int .i64 a1.o.name, .int .i64 a1.o.life, .int .i64 a1.o.seq]⟩, .agg ⟨[.int .i64 b1.kind, .int .i64 b1.who, .int .i64 b1.life, y2.val b1.roots.length, .int .i64 b1.o.time, .int .i64 b1.o.who, .int .i64 b1.o.node, .int .i64 b1.o.parent, .int .i64 b1.o.name, .int .i64 b1.o.life, .int .i64 b1.o.seq]⟩] [RdL EInt y1 a1.roots, RdL EInt y2 b1.roots] (fun (_ : Unit) => .bool (orangeryref_SameRec a1 b1)) (fun (_ : Unit) => []) := by
  refine does_of tab_ok Tryd.func13 rfl Tryd.ntmps13 Tryd.results13 rfl inferInstance (fun _ => inferInstance) fun C => ?_
  refine Pc EInt y1 a1.roots 8 fun hlen1 => ?_
  refine Pc EInt y2 b1.roots 8 fun hlen2 => ?_
  refine Tx ?_
  refine Bx fun g1 => ?_
  refine Bx fun g2 => ?_
  refine Tx ?_
  refine rw_callg (fun hG_ => (fun y1 a y2 b => slices_Equal_Int_spec' y1 y2 a b) y1 a1.roots y2 b1.roots) (fun _ => rfl) .sq (guard_vt rfl rfl rfl) rfl rfl rfl Kr rfl Bt Sm ?_
  refine Tx ?_
  refine rw_qg (guard_vt rfl rfl rfl) rfl rfl (q_eqE eqT_Op (flatEq_Op a1.o b1.o) rfl rfl Bt rfl Bt rfl rfl) ?_
  refine Tx ?_
  have hr1 : (orangeryref_SameRec a1 b1) = (((((a1.kind == b1.kind) && (a1.who == b1.who)) && (a1.life == b1.life)) && (decide (a1.roots = b1.roots))) && decide (a1.o = b1.o)) := by simp only [orangeryref_SameRec, cond_true, cond_false]
  refine cw_ret ?_; rw [hr1]; exact Re () (Vt Vn)

def orangerylaw_op (time1 : Int) (who1 : Int) (node1 : Int) (parent1 : Int) : Op :=
  (⟨time1, who1, node1, parent1, 0, 1, time1⟩ : Op)
theorem orangerylaw_op_spec (time1 : Int) (who1 : Int) (node1 : Int) (parent1 : Int) : Does Tryd.prog 32 [.int .i64 time1, .int .i64 who1, .int .i64 node1, .int .i64 parent1] [] (fun (_ : Unit) => .agg ⟨[.int .i64 ((orangerylaw_op time1 who1 node1 parent1).time), .int .i64 ((orangerylaw_op time1 who1 node1 parent1).who), .int .i64 ((orangerylaw_op time1 who1 node1 parent1).node), .int .i64 ((orangerylaw_op time1 who1 node1 parent1).parent), .int .i64 ((orangerylaw_op time1 who1 node1 parent1).name), .int .i64 ((orangerylaw_op time1 who1 node1 parent1).life), .int .i64 ((orangerylaw_op time1 who1 node1 parent1).seq)]⟩) (fun (_ : Unit) => []) := by
  refine does_of tab_ok Tryd.func32 rfl Tryd.ntmps32 Tryd.results32 rfl inferInstance (fun _ => inferInstance) fun C => ?_
  refine Tx ?_
  refine Al fun g1 => ?_
  refine Tx ?_
  have hr1 : (orangerylaw_op time1 who1 node1 parent1) = (⟨time1, who1, node1, parent1, 0, 1, time1⟩ : Op) := by simp only [orangerylaw_op, cond_true, cond_false]
  refine cw_ret ?_; rw [hr1]; exact Re () (Va Vn)
end Go.Proofs.YtaiefncoholnnaaDoor
