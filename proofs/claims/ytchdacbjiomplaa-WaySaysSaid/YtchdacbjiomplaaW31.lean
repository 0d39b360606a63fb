/- Part of this claim. No condition. -/
import Derived.Test.YtchdacbjiomplaaW17
import Derived.Test.YtchdacbjiomplaaFx
set_option linter.unusedVariables false
set_option linter.unusedSimpArgs false
set_option maxHeartbeats 2000000
namespace Go.Proofs.Ytchdacbjiomplaa
open Go Go.Proofs.Ytchdacbjiomplaa.Fw Go.Proofs
attribute [local irreducible] RdL RdN VarP RW CW
def view_Copy (v1 : View) : View :=
  v1
theorem view_Copy_spec (y1 : SlV) (y2 : SlV) (y3 : SlV) (v1 : View) : DoesG Try.prog 166 [.agg ⟨[y1.val v1.roots.length, y2.val v1.known.length, y3.val v1.way.length]⟩] [RdL EInt y1 v1.roots, RdL EPlace y2 v1.known, RdL EPlace y3 v1.way] ⟨[], []⟩ (fun (X : SlV × Option Nat × SlV × Option Nat × SlV × Option Nat) => .agg ⟨[X.1.val ((view_Copy v1).roots).length, X.2.2.1.val ((view_Copy v1).known).length, X.2.2.2.2.1.val ((view_Copy v1).way).length]⟩) (fun (X : SlV × Option Nat × SlV × Option Nat × SlV × Option Nat) => []) (fun (X : SlV × Option Nat × SlV × Option Nat × SlV × Option Nat) => ⟨[], [ownL EInt 3 X.1 X.2.1 ((view_Copy v1).roots), ownL EPlace 35 X.2.2.1 X.2.2.2.1 ((view_Copy v1).known), ownL EPlace 35 X.2.2.2.2.1 X.2.2.2.2.2 ((view_Copy v1).way)]⟩) := by
  refine does_ofG tab_ok Try.func166 rfl Try.ntmps166 Try.results166 rfl inferInstance (fun _ => inferInstance) fun C => ?_
  refine Pc EInt y1 v1.roots 8 fun hlen1 => ?_
  refine Pc EPlace y2 v1.known 24 fun hlen2 => ?_
  refine Pc EPlace y3 v1.way 24 fun hlen3 => ?_
  refine Tx ?_
  refine Bx fun g1 => ?_
  refine Al fun g2 => ?_
  refine rw_nil ?_
  (repeat refine cw_seq ?_); refine cw_regionA (fun j => match j with | 10 => some [g2] | _ => some []) ?_
  refine Rb 0 [3,4,6,7] [1,2,5,8,9,10] rfl Qp ?_
  refine Rb 1 [3,4,6,7] [2,5,8,9,10] rfl Q1 ?_
  refine Rb 3 [2,6,7] [4,5,8,9,10] rfl Qp ?_
  refine Rb 4 [2,6,7] [5,8,9,10] rfl Q1 ?_
  refine Rb 6 [2,5] [7,8,9,10] rfl Qp ?_
  refine Rb 7 [2,5] [8,9,10] rfl Q1 ?_
  refine ra_one 2 Kr ?_
  refine rw_callG (slices_Clone_Int_spec y1 v1.roots) (.an rfl rfl) (.inr (by simp [Lent.ids])) (guard_none rfl) rfl rfl rfl Kr rfl rfl Sm (.nil _) (.nil _) ?_
  intro x1
  refine ra_one 5 Kr ?_
  refine rw_callG (slices_Clone_Place_spec y2 v1.known) (.an rfl rfl) (.inr (by simp [Lent.ids])) (guard_none rfl) rfl rfl rfl Kr rfl rfl Sm (.nil _) (.nil _) ?_
  intro x2
  refine ra_one 8 Kr ?_
  refine rw_callG (slices_Clone_Place_spec y3 v1.way) (.an rfl rfl) (.inr (by simp [Lent.ids])) (guard_none rfl) rfl rfl rfl Kr rfl rfl Sm (.nil _) (.nil _) ?_
  intro x3
  refine Ra 9 [] rfl Qp ?_
  refine ra_one 10 Kr ?_
  refine rw_stA (.an rfl rfl) (.inr (by simp)) (guard_none rfl) rfl rfl rfl rfl rfl rfl rfl rfl rfl Ub rfl ?_
  refine ra_nil Kr ?_
  (repeat refine cw_seq ?_)
  have hr1 : (view_Copy v1) = v1 := by simp only [view_Copy, cond_true, cond_false]
  refine cw_ret ?_; rw [hr1]; exact Re ⟨x1.1, x1.2, x2.1, x2.2, x3.1, x3.2⟩ (Va Vn)

def delta_Copy (d1 : Delta) : Delta :=
  d1
theorem delta_Copy_spec (y1 : SlV) (y2 : SlV) (y3 : SlV) (y4 : SlV) (d1 : Delta) : DoesG Try.prog 185 [.agg ⟨[y1.val d1.gone.length, y2.val d1.here.length, y3.val d1.wayGone.length, y4.val d1.wayHere.length]⟩] [RdL EInt y1 d1.gone, RdL EPlace y2 d1.here, RdL EInt y3 d1.wayGone, RdL EPlace y4 d1.wayHere] ⟨[], []⟩ (fun (X : SlV × Option Nat × SlV × Option Nat × SlV × Option Nat × SlV × Option Nat) => .agg ⟨[X.1.val ((delta_Copy d1).gone).length, X.2.2.1.val ((delta_Copy d1).here).length, X.2.2.2.2.1.val ((delta_Copy d1).wayGone).length, X.2.2.2.2.2.2.1.val ((delta_Copy d1).wayHere).length]⟩) (fun (X : SlV × Option Nat × SlV × Option Nat × SlV × Option Nat × SlV × Option Nat) => []) (fun (X : SlV × Option Nat × SlV × Option Nat × SlV × Option Nat × SlV × Option Nat) => ⟨[], [ownL EInt 3 X.1 X.2.1 ((delta_Copy d1).gone), ownL EPlace 35 X.2.2.1 X.2.2.2.1 ((delta_Copy d1).here), ownL EInt 3 X.2.2.2.2.1 X.2.2.2.2.2.1 ((delta_Copy d1).wayGone), ownL EPlace 35 X.2.2.2.2.2.2.1 X.2.2.2.2.2.2.2 ((delta_Copy d1).wayHere)]⟩) := by
  refine does_ofG tab_ok Try.func185 rfl Try.ntmps185 Try.results185 rfl inferInstance (fun _ => inferInstance) fun C => ?_
  refine Pc EInt y1 d1.gone 8 fun hlen1 => ?_
  refine Pc EPlace y2 d1.here 24 fun hlen2 => ?_
  refine Pc EInt y3 d1.wayGone 8 fun hlen3 => ?_
  refine Pc EPlace y4 d1.wayHere 24 fun hlen4 => ?_
  refine Tx ?_
  refine Bx fun g1 => ?_
  refine Al fun g2 => ?_
  refine rw_nil ?_
  (repeat refine cw_seq ?_); refine cw_regionA (fun j => match j with | 13 => some [g2] | _ => some []) ?_
  refine Rb 0 [3,4,6,7,9,10] [1,2,5,8,11,12,13] rfl Qp ?_
  refine Rb 1 [3,4,6,7,9,10] [2,5,8,11,12,13] rfl Q1 ?_
  refine Rb 3 [2,6,7,9,10] [4,5,8,11,12,13] rfl Qp ?_
  refine Rb 4 [2,6,7,9,10] [5,8,11,12,13] rfl Q1 ?_
  refine Rb 6 [2,5,9,10] [7,8,11,12,13] rfl Qp ?_
  refine Rb 7 [2,5,9,10] [8,11,12,13] rfl Q1 ?_
  refine Rb 9 [2,5,8] [10,11,12,13] rfl Qp ?_
  refine Rb 10 [2,5,8] [11,12,13] rfl Q1 ?_
  refine ra_one 2 Kr ?_
  refine rw_callG (slices_Clone_Int_spec y1 d1.gone) (.an rfl rfl) (.inr (by simp [Lent.ids])) (guard_none rfl) rfl rfl rfl Kr rfl rfl Sm (.nil _) (.nil _) ?_
  intro x1
  refine ra_one 5 Kr ?_
  refine rw_callG (slices_Clone_Place_spec y2 d1.here) (.an rfl rfl) (.inr (by simp [Lent.ids])) (guard_none rfl) rfl rfl rfl Kr rfl rfl Sm (.nil _) (.nil _) ?_
  intro x2
  refine ra_one 8 Kr ?_
  refine rw_callG (slices_Clone_Int_spec y3 d1.wayGone) (.an rfl rfl) (.inr (by simp [Lent.ids])) (guard_none rfl) rfl rfl rfl Kr rfl rfl Sm (.nil _) (.nil _) ?_
  intro x3
  refine ra_one 11 Kr ?_
  refine rw_callG (slices_Clone_Place_spec y4 d1.wayHere) (.an rfl rfl) (.inr (by simp [Lent.ids])) (guard_none rfl) rfl rfl rfl Kr rfl rfl Sm (.nil _) (.nil _) ?_
  intro x4
  refine Ra 12 [] rfl Qp ?_
  refine ra_one 13 Kr ?_
  refine rw_stA (.an rfl rfl) (.inr (by simp)) (guard_none rfl) rfl rfl rfl rfl rfl rfl rfl rfl rfl Ub rfl ?_
  refine ra_nil Kr ?_
  (repeat refine cw_seq ?_)
  have hr1 : (delta_Copy d1) = d1 := by simp only [delta_Copy, cond_true, cond_false]
  refine cw_ret ?_; rw [hr1]; exact Re ⟨x1.1, x1.2, x2.1, x2.2, x3.1, x3.2, x4.1, x4.2⟩ (Va Vn)

def way_same (a1 : Mail) (b1 : Mail) : Bool :=
  ((((((((((a1.kind == b1.kind) && (a1.who == b1.who)) && (a1.life == b1.life)) && (a1.seq == b1.seq)) && (a1.time == b1.time)) && (a1.version == b1.version)) && (a1.frm == b1.frm)) && decide (a1.o = b1.o)) && (view_Same a1.v b1.v)) && (delta_Same a1.d b1.d))
theorem way_same_spec (y1 : SlV) (y2 : SlV) (y3 : SlV) (y4 : SlV) (y5 : SlV) (y6 : SlV) (y7 : SlV) (a1 : Mail) (y8 : SlV) (y9 : SlV) (y10 : SlV) (y11 : SlV) (y12 : SlV) (y13 : SlV) (y14 : SlV) (b1 : Mail) : Does Try.prog 152 [.agg ⟨[.int .i64 a1.kind, .int .i64 a1.who, .int .i64 a1.life, .int .i64 a1.seq, .int .i64 a1.time, .int .i64 a1.version, .int .i64 a1.frm, .int .i64 a1.o.time, .int .i64 a1.o.who, .int .i64 a1.o.node, .int .i64 a1.o.parent, .int .i64 a1.o.name, .int .i64 a1.o.life, .int .i64 a1.o.seq, y1.val a1.v.roots.length, y2.val a1.v.known.length, y3.val a1.v.way.length, y4.val a1.d.gone.length, y5.val a1.d.here.length, y6.val a1.d.wayGone.length, y7.val a1.d.wayHere.length]⟩, .agg ⟨[.int .i64 b1.kind, .int .i64 b1.who, .int .i64 b1.life, .int .i64 b1.seq, .int .i64 b1.time, .int .i64 b1.version, .int .i64 b1.frm, .int .i64 b1.o.time, .int .i64 b1.o.who, .int .i64 b1.o.node, .int .i64 b1.o.parent, .int .i64 b1.o.name, .int .i64 b1.o.life, .int .i64 b1.o.seq, y8.val b1.v.roots.length, y9.val b1.v.known.length, y10.val b1.v.way.length, y11.val b1.d.gone.length, y12.val b1.d.here.length, y13.val b1.d.wayGone.length, y14.val b1.d.wayHere.length]⟩] [RdL EInt y1 a1.v.roots, RdL EPlace y2 a1.v.known, RdL EPlace y3 a1.v.way, RdL EInt y4 a1.d.gone, RdL EPlace y5 a1.d.here, RdL EInt y6 a1.d.wayGone, RdL EPlace y7 a1.d.wayHere, RdL EInt y8 b1.v.roots, RdL EPlace y9 b1.v.known, RdL EPlace y10 b1.v.way, RdL EInt y11 b1.d.gone, RdL EPlace y12 b1.d.here, RdL EInt y13 b1.d.wayGone, RdL EPlace y14 b1.d.wayHere] (fun (_ : Unit) => .bool (way_same a1 b1)) (fun (_ : Unit) => []) := by
  refine does_of tab_ok Try.func152 rfl Try.ntmps152 Try.results152 rfl inferInstance (fun _ => inferInstance) fun C => ?_
  refine Pc EInt y1 a1.v.roots 8 fun hlen1 => ?_
  refine Pc EPlace y2 a1.v.known 24 fun hlen2 => ?_
  refine Pc EPlace y3 a1.v.way 24 fun hlen3 => ?_
  refine Pc EInt y4 a1.d.gone 8 fun hlen4 => ?_
  refine Pc EPlace y5 a1.d.here 24 fun hlen5 => ?_
  refine Pc EInt y6 a1.d.wayGone 8 fun hlen6 => ?_
  refine Pc EPlace y7 a1.d.wayHere 24 fun hlen7 => ?_
  refine Pc EInt y8 b1.v.roots 8 fun hlen8 => ?_
  refine Pc EPlace y9 b1.v.known 24 fun hlen9 => ?_
  refine Pc EPlace y10 b1.v.way 24 fun hlen10 => ?_
  refine Pc EInt y11 b1.d.gone 8 fun hlen11 => ?_
  refine Pc EPlace y12 b1.d.here 24 fun hlen12 => ?_
  refine Pc EInt y13 b1.d.wayGone 8 fun hlen13 => ?_
  refine Pc EPlace y14 b1.d.wayHere 24 fun hlen14 => ?_
  refine Tx ?_
  refine Bx fun g1 => ?_
  refine Bx fun g2 => ?_
  refine Tx ?_
  refine rw_qg (guard_vt rfl rfl rfl) rfl rfl (q_eqE eqT_Op (flatEq_Op a1.o b1.o) rfl rfl Bt rfl Bt rfl rfl) ?_
  refine Tx ?_
  refine rw_callg (fun hG_ => view_Same_spec y1 y2 y3 a1.v y8 y9 y10 b1.v) (fun _ => rfl) .sq (guard_vt rfl rfl rfl) rfl rfl rfl Kr rfl Bt Sm ?_
  refine Tx ?_
  refine rw_callg (fun hG_ => delta_Same_spec y4 y5 y6 y7 a1.d y11 y12 y13 y14 b1.d) (fun _ => rfl) .sq (guard_vt rfl rfl rfl) rfl rfl rfl Kr rfl Bt Sm ?_
  refine Tx ?_
  have hr1 : (way_same a1 b1) = ((((((((((a1.kind == b1.kind) && (a1.who == b1.who)) && (a1.life == b1.life)) && (a1.seq == b1.seq)) && (a1.time == b1.time)) && (a1.version == b1.version)) && (a1.frm == b1.frm)) && decide (a1.o = b1.o)) && (view_Same a1.v b1.v)) && (delta_Same a1.d b1.d)) := by simp only [way_same, cond_true, cond_false]
  refine cw_ret ?_; rw [hr1]; exact Re () (Vt Vn)

def way_check (m1 : Mail) : Int :=
  (bif (decide (m1.kind < 1) || decide (m1.kind > 3)) then 4 else (bif (decide (m1.who < 0) || decide (m1.who ≥ 3)) then 5 else (bif (m1.kind == 1) then (bif (!(way_same m1 (⟨m1.kind, m1.who, 0, 0, 0, 0, 0, m1.o, (⟨([] : List Int), ([] : List Place), ([] : List Place)⟩ : View), (⟨([] : List Int), ([] : List Place), ([] : List Int), ([] : List Place)⟩ : Delta)⟩ : Mail))) then 4 else (bif (m1.o.who != m1.who) then 4 else (move_Check m1.o))) else (bif (m1.kind == 2) then (bif (!(way_same m1 (⟨m1.kind, m1.who, m1.life, m1.seq, m1.time, m1.version, 0, (⟨0, 0, 0, 0, 0, 0, 0⟩ : Op), m1.v, (⟨([] : List Int), ([] : List Place), ([] : List Int), ([] : List Place)⟩ : Delta)⟩ : Mail))) then 4 else (bif (((((((((decide (m1.life < 1) || decide (m1.life > 50)) || decide (m1.seq < 0)) || decide (m1.seq > 30)) || decide (m1.time < 0)) || decide (m1.time > 10000)) || decide (m1.version < 1)) || decide (m1.version > 60)) || decide (m1.frm < 0)) || decide (m1.frm ≥ m1.version)) then 3 else (view_Check m1.v))) else (bif (m1.kind == 3) then (bif (!(way_same m1 (⟨m1.kind, m1.who, m1.life, m1.seq, m1.time, m1.version, m1.frm, (⟨0, 0, 0, 0, 0, 0, 0⟩ : Op), (⟨([] : List Int), ([] : List Place), ([] : List Place)⟩ : View), m1.d⟩ : Mail))) then 4 else (bif (((((((((decide (m1.life < 1) || decide (m1.life > 50)) || decide (m1.seq < 0)) || decide (m1.seq > 30)) || decide (m1.time < 0)) || decide (m1.time > 10000)) || decide (m1.version < 1)) || decide (m1.version > 60)) || decide (m1.frm < 0)) || decide (m1.frm ≥ m1.version)) then 3 else (delta_Check m1.d))) else (bif (!(way_same m1 (⟨m1.kind, m1.who, 0, 0, 0, 0, 0, (⟨0, 0, 0, 0, 0, 0, 0⟩ : Op), (⟨([] : List Int), ([] : List Place), ([] : List Place)⟩ : View), (⟨([] : List Int), ([] : List Place), ([] : List Int), ([] : List Place)⟩ : Delta)⟩ : Mail))) then 4 else (bif (((((((((decide (m1.life < 1) || decide (m1.life > 50)) || decide (m1.seq < 0)) || decide (m1.seq > 30)) || decide (m1.time < 0)) || decide (m1.time > 10000)) || decide (m1.version < 1)) || decide (m1.version > 60)) || decide (m1.frm < 0)) || decide (m1.frm ≥ m1.version)) then 3 else (delta_Check m1.d))))))))
theorem way_check_spec (y1 : SlV) (y2 : SlV) (y3 : SlV) (y4 : SlV) (y5 : SlV) (y6 : SlV) (y7 : SlV) (m1 : Mail) : Does Try.prog 153 [.agg ⟨[.int .i64 m1.kind, .int .i64 m1.who, .int .i64 m1.life, .int .i64 m1.seq, .int .i64 m1.time, .int .i64 m1.version, .int .i64 m1.frm, .int .i64 m1.o.time, .int .i64 m1.o.who, .int .i64 m1.o.node, .int .i64 m1.o.parent, .int .i64 m1.o.name, .int .i64 m1.o.life, .int .i64 m1.o.seq, y1.val m1.v.roots.length, y2.val m1.v.known.length, y3.val m1.v.way.length, y4.val m1.d.gone.length, y5.val m1.d.here.length, y6.val m1.d.wayGone.length, y7.val m1.d.wayHere.length]⟩] [RdL EInt y1 m1.v.roots, RdL EPlace y2 m1.v.known, RdL EPlace y3 m1.v.way, RdL EInt y4 m1.d.gone, RdL EPlace y5 m1.d.here, RdL EInt y6 m1.d.wayGone, RdL EPlace y7 m1.d.wayHere] (fun (_ : Unit) => .int .i64 (way_check m1)) (fun (_ : Unit) => []) := by
  refine does_of tab_ok Try.func153 rfl Try.ntmps153 Try.results153 rfl inferInstance (fun _ => inferInstance) fun C => ?_
  refine Pc EInt y1 m1.v.roots 8 fun hlen1 => ?_
  refine Pc EPlace y2 m1.v.known 24 fun hlen2 => ?_
  refine Pc EPlace y3 m1.v.way 24 fun hlen3 => ?_
  refine Pc EInt y4 m1.d.gone 8 fun hlen4 => ?_
  refine Pc EPlace y5 m1.d.here 24 fun hlen5 => ?_
  refine Pc EInt y6 m1.d.wayGone 8 fun hlen6 => ?_
  refine Pc EPlace y7 m1.d.wayHere 24 fun hlen7 => ?_
  refine Tx ?_
  refine Bx fun g1 => ?_
  refine Tx ?_
  refine Cd (b := (decide (m1.kind < 1) || decide (m1.kind > 3))) (fun hc1 => ?_) fun hc1 => ?_
  · refine Tx ?_
    have hr1 : (way_check m1) = 4 := by simp only [way_check, hc1, cond_true, cond_false]
    refine cw_ret ?_; rw [hr1]; exact Re () (Vt Vn)
  · refine Tx ?_
    refine Cd (b := (decide (m1.who < 0) || decide (m1.who ≥ 3))) (fun hc2 => ?_) fun hc2 => ?_
    · refine Tx ?_
      have hr2 : (way_check m1) = 5 := by simp only [way_check, hc1, hc2, cond_true, cond_false]
      refine cw_ret ?_; rw [hr2]; exact Re () (Vt Vn)
    · refine Tx ?_
      refine Al fun g2 => ?_
      refine Tx ?_
      refine Cd (b := (m1.kind == 1)) (fun hc3 => ?_) fun hc3 => ?_
      · have hc3p := eq_of_beq hc3
        refine Tx ?_
        refine rw_stP .sq (.inl ⟨_, rfl⟩) (guard_none rfl) rfl rfl rfl rfl rfl rfl rfl rfl rfl Ub rfl ?_
        refine Tx ?_
        refine Fr EInt ?_
        refine Fr EPlace ?_
        refine Cl (way_same_spec y1 y2 y3 y4 y5 y6 y7 m1 (⟨none, 0⟩ : SlV) (⟨none, 0⟩ : SlV) (⟨none, 0⟩ : SlV) (⟨none, 0⟩ : SlV) (⟨none, 0⟩ : SlV) (⟨none, 0⟩ : SlV) (⟨none, 0⟩ : SlV) (⟨m1.kind, m1.who, 0, 0, 0, 0, 0, m1.o, (⟨([] : List Int), ([] : List Place), ([] : List Place)⟩ : View), (⟨([] : List Int), ([] : List Place), ([] : List Int), ([] : List Place)⟩ : Delta)⟩ : Mail)) fun _ => ?_
        refine Tx ?_
        refine Cd (b := (!(way_same m1 (⟨m1.kind, m1.who, 0, 0, 0, 0, 0, m1.o, (⟨([] : List Int), ([] : List Place), ([] : List Place)⟩ : View), (⟨([] : List Int), ([] : List Place), ([] : List Int), ([] : List Place)⟩ : Delta)⟩ : Mail)))) (fun hc4 => ?_) fun hc4 => ?_
        · refine Tx ?_
          have hr3 : (way_check m1) = 4 := by simp only [way_check, hc1, hc2, hc3, hc4, cond_true, cond_false]
          refine cw_ret ?_; rw [hr3]; exact Re () (Vt Vn)
        · refine Tx ?_
          refine Cd (b := (m1.kind == 1)) (fun hc5 => ?_) fun hc5 => ?_
          · refine Tx ?_
            refine Cd (b := (m1.o.who != m1.who)) (fun hc6 => ?_) fun hc6 => ?_
            · have hc6p := bne_iff_ne.1 hc6
              refine Tx ?_
              have hr4 : (way_check m1) = 4 := by simp only [way_check, hc1, hc2, hc3, hc4, hc6, cond_true, cond_false]
              refine cw_ret ?_; rw [hr4]; exact Re () (Vt Vn)
            · have hc6p := eq_of_bne_false hc6
              refine Tx ?_
              refine Cl (move_Check_spec m1.o) fun _ => ?_
              refine Tx ?_
              have hr5 : (way_check m1) = (move_Check m1.o) := by simp only [way_check, hc1, hc2, hc3, hc4, hc6, cond_true, cond_false]
              refine cw_ret ?_; rw [hr5]; exact Re () (Vt Vn)
          · exact Bool.noConfusion (hc5.symm.trans hc3)
      · have hc3p := ne_of_beq_false hc3
        refine Tx ?_
        refine Cd (b := (m1.kind == 2)) (fun hc7 => ?_) fun hc7 => ?_
        · have hc7p := eq_of_beq hc7
          (repeat refine cw_seq ?_); refine cw_regionA (fun j => match j with | 11 => some [g2] | 13 => some [g2] | 15 => some [g2] | 17 => some [g2] | 19 => some [g2] | _ => some []) ?_
          refine Ra 0 [2,3,4,5,6,7,8,9] rfl Qp ?_
          refine Ra 1 [2,3,4,5,6,7,8,9] rfl Q1 ?_
          refine ra_q (.an (i := 2) (js := [4, 5, 6, 7, 8, 9, 10, 11]) rfl Kr Kr Kr Kr) (.drop (SplitB.all _)) (by intro g hg; simp at hg; simp [hg]) rfl rfl rfl (q_pev rfl (fun _ => rfl)) ?_
          refine ra_q (.an (i := 3) (js := [4, 5, 6, 7, 8, 9, 10, 11]) rfl Kr Kr Kr Kr) (.drop (SplitB.all _)) (by intro g hg; simp at hg; simp [hg]) rfl rfl rfl (q_ld1 rfl rfl (fun _ => rfl) rfl Mm rfl) ?_
          refine ra_q (.an (i := 4) (js := [6, 7, 8, 9, 10, 11, 12, 13]) rfl Kr Kr Kr Kr) (.drop (SplitB.all _)) (by intro g hg; simp at hg; simp [hg]) rfl rfl rfl (q_pev rfl (fun _ => rfl)) ?_
          refine ra_q (.an (i := 5) (js := [6, 7, 8, 9, 10, 11, 12, 13]) rfl Kr Kr Kr Kr) (.drop (SplitB.all _)) (by intro g hg; simp at hg; simp [hg]) rfl rfl rfl (q_ld1 rfl rfl (fun _ => rfl) rfl Mm rfl) ?_
          refine ra_q (.an (i := 6) (js := [8, 9, 10, 11, 12, 13, 14, 15]) rfl Kr Kr Kr Kr) (.drop (SplitB.all _)) (by intro g hg; simp at hg; simp [hg]) rfl rfl rfl (q_pev rfl (fun _ => rfl)) ?_
          refine ra_q (.an (i := 7) (js := [8, 9, 10, 11, 12, 13, 14, 15]) rfl Kr Kr Kr Kr) (.drop (SplitB.all _)) (by intro g hg; simp at hg; simp [hg]) rfl rfl rfl (q_ld1 rfl rfl (fun _ => rfl) rfl Mm rfl) ?_
          refine ra_q (.an (i := 8) (js := [10, 11, 12, 13, 14, 15, 16, 17]) rfl Kr Kr Kr Kr) (.drop (SplitB.all _)) (by intro g hg; simp at hg; simp [hg]) rfl rfl rfl (q_pev rfl (fun _ => rfl)) ?_
          refine ra_q (.an (i := 9) (js := [10, 11, 12, 13, 14, 15, 16, 17]) rfl Kr Kr Kr Kr) (.drop (SplitB.all _)) (by intro g hg; simp at hg; simp [hg]) rfl rfl rfl (q_ldP rfl rfl (fun _ => rfl) rfl Mm rfl) ?_
          refine Ra 10 [] rfl Qp ?_
          refine ra_one 11 Kr ?_
          refine rw_st1 (.an rfl rfl) (.inr (by simp)) (guard_none rfl) rfl rfl rfl rfl rfl rfl rfl rfl rfl Ub rfl ?_
          refine Ra 12 [] rfl Qp ?_
          refine ra_one 13 Kr ?_
          refine rw_st1 (.an rfl rfl) (.inr (by simp)) (guard_none rfl) rfl rfl rfl rfl rfl rfl rfl rfl rfl Ub rfl ?_
          refine Ra 14 [] rfl Qp ?_
          refine ra_one 15 Kr ?_
          refine rw_st1 (.an rfl rfl) (.inr (by simp)) (guard_none rfl) rfl rfl rfl rfl rfl rfl rfl rfl rfl Ub rfl ?_
          refine Ra 16 [] rfl Qp ?_
          refine ra_one 17 Kr ?_
          refine rw_st1 (.an rfl rfl) (.inr (by simp)) (guard_none rfl) rfl rfl rfl rfl rfl rfl rfl rfl rfl Ub rfl ?_
          refine Ra 18 [] rfl Qp ?_
          refine ra_one 19 Kr ?_
          refine rw_stP (.an rfl rfl) (.inr (by simp)) (guard_none rfl) rfl rfl rfl rfl rfl rfl rfl rfl rfl Ub rfl ?_
          refine ra_nil Kr ?_
          refine Tx ?_
          refine Fr EInt ?_
          refine Fr EPlace ?_
          refine Cl (way_same_spec y1 y2 y3 y4 y5 y6 y7 m1 y1 y2 y3 (⟨none, 0⟩ : SlV) (⟨none, 0⟩ : SlV) (⟨none, 0⟩ : SlV) (⟨none, 0⟩ : SlV) (⟨m1.kind, m1.who, m1.life, m1.seq, m1.time, m1.version, 0, (⟨0, 0, 0, 0, 0, 0, 0⟩ : Op), m1.v, (⟨([] : List Int), ([] : List Place), ([] : List Int), ([] : List Place)⟩ : Delta)⟩ : Mail)) fun _ => ?_
          refine Tx ?_
          refine Cd (b := (!(way_same m1 (⟨m1.kind, m1.who, m1.life, m1.seq, m1.time, m1.version, 0, (⟨0, 0, 0, 0, 0, 0, 0⟩ : Op), m1.v, (⟨([] : List Int), ([] : List Place), ([] : List Int), ([] : List Place)⟩ : Delta)⟩ : Mail)))) (fun hc8 => ?_) fun hc8 => ?_
          · refine Tx ?_
            have hr6 : (way_check m1) = 4 := by simp only [way_check, hc1, hc2, hc3, hc7, hc8, cond_true, cond_false]
            refine cw_ret ?_; rw [hr6]; exact Re () (Vt Vn)
          · refine Tx ?_
            refine Cd (b := (m1.kind == 1)) (fun hc9 => ?_) fun hc9 => ?_
            · exact Bool.noConfusion (hc9.symm.trans hc3)
            · refine Tx ?_
              refine Cd (b := (((((((((decide (m1.life < 1) || decide (m1.life > 50)) || decide (m1.seq < 0)) || decide (m1.seq > 30)) || decide (m1.time < 0)) || decide (m1.time > 10000)) || decide (m1.version < 1)) || decide (m1.version > 60)) || decide (m1.frm < 0)) || decide (m1.frm ≥ m1.version))) (fun hc10 => ?_) fun hc10 => ?_
              · refine Tx ?_
                have hr7 : (way_check m1) = 3 := by simp only [way_check, hc1, hc2, hc3, hc7, hc8, hc10, cond_true, cond_false]
                refine cw_ret ?_; rw [hr7]; exact Re () (Vt Vn)
              · refine Tx ?_
                refine Cd (b := (m1.kind == 2)) (fun hc11 => ?_) fun hc11 => ?_
                · refine Tx ?_
                  refine Cl (view_Check_spec y1 y2 y3 m1.v) fun _ => ?_
                  refine Tx ?_
                  have hr8 : (way_check m1) = (view_Check m1.v) := by simp only [way_check, hc1, hc2, hc3, hc7, hc8, hc10, cond_true, cond_false]
                  refine cw_ret ?_; rw [hr8]; exact Re () (Vt Vn)
                · exact Bool.noConfusion (hc11.symm.trans hc7)
        · have hc7p := ne_of_beq_false hc7
          refine Tx ?_
          refine Cd (b := (m1.kind == 3)) (fun hc12 => ?_) fun hc12 => ?_
          · have hc12p := eq_of_beq hc12
            (repeat refine cw_seq ?_); refine cw_regionA (fun j => match j with | 13 => some [g2] | 15 => some [g2] | 17 => some [g2] | 19 => some [g2] | 21 => some [g2] | 23 => some [g2] | _ => some []) ?_
            refine Ra 0 [2,3,4,5,6,7,8,9,10,11] rfl Qp ?_
            refine Ra 1 [2,3,4,5,6,7,8,9,10,11] rfl Q1 ?_
            refine ra_q (.an (i := 2) (js := [4, 5, 6, 7, 8, 9, 10, 11, 12, 13]) rfl Kr Kr Kr Kr) (.drop (SplitB.all _)) (by intro g hg; simp at hg; simp [hg]) rfl rfl rfl (q_pev rfl (fun _ => rfl)) ?_
            refine ra_q (.an (i := 3) (js := [4, 5, 6, 7, 8, 9, 10, 11, 12, 13]) rfl Kr Kr Kr Kr) (.drop (SplitB.all _)) (by intro g hg; simp at hg; simp [hg]) rfl rfl rfl (q_ld1 rfl rfl (fun _ => rfl) rfl Mm rfl) ?_
            refine ra_q (.an (i := 4) (js := [6, 7, 8, 9, 10, 11, 12, 13, 14, 15]) rfl Kr Kr Kr Kr) (.drop (SplitB.all _)) (by intro g hg; simp at hg; simp [hg]) rfl rfl rfl (q_pev rfl (fun _ => rfl)) ?_
            refine ra_q (.an (i := 5) (js := [6, 7, 8, 9, 10, 11, 12, 13, 14, 15]) rfl Kr Kr Kr Kr) (.drop (SplitB.all _)) (by intro g hg; simp at hg; simp [hg]) rfl rfl rfl (q_ld1 rfl rfl (fun _ => rfl) rfl Mm rfl) ?_
            refine ra_q (.an (i := 6) (js := [8, 9, 10, 11, 12, 13, 14, 15, 16, 17]) rfl Kr Kr Kr Kr) (.drop (SplitB.all _)) (by intro g hg; simp at hg; simp [hg]) rfl rfl rfl (q_pev rfl (fun _ => rfl)) ?_
            refine ra_q (.an (i := 7) (js := [8, 9, 10, 11, 12, 13, 14, 15, 16, 17]) rfl Kr Kr Kr Kr) (.drop (SplitB.all _)) (by intro g hg; simp at hg; simp [hg]) rfl rfl rfl (q_ld1 rfl rfl (fun _ => rfl) rfl Mm rfl) ?_
            refine ra_q (.an (i := 8) (js := [10, 11, 12, 13, 14, 15, 16, 17, 18, 19]) rfl Kr Kr Kr Kr) (.drop (SplitB.all _)) (by intro g hg; simp at hg; simp [hg]) rfl rfl rfl (q_pev rfl (fun _ => rfl)) ?_
            refine ra_q (.an (i := 9) (js := [10, 11, 12, 13, 14, 15, 16, 17, 18, 19]) rfl Kr Kr Kr Kr) (.drop (SplitB.all _)) (by intro g hg; simp at hg; simp [hg]) rfl rfl rfl (q_ld1 rfl rfl (fun _ => rfl) rfl Mm rfl) ?_
            refine ra_q (.an (i := 10) (js := [12, 13, 14, 15, 16, 17, 18, 19, 20, 21]) rfl Kr Kr Kr Kr) (.drop (SplitB.all _)) (by intro g hg; simp at hg; simp [hg]) rfl rfl rfl (q_pev rfl (fun _ => rfl)) ?_
            refine ra_q (.an (i := 11) (js := [12, 13, 14, 15, 16, 17, 18, 19, 20, 21]) rfl Kr Kr Kr Kr) (.drop (SplitB.all _)) (by intro g hg; simp at hg; simp [hg]) rfl rfl rfl (q_ldP rfl rfl (fun _ => rfl) rfl Mm rfl) ?_
            refine Ra 12 [] rfl Qp ?_
            refine ra_one 13 Kr ?_
            refine rw_st1 (.an rfl rfl) (.inr (by simp)) (guard_none rfl) rfl rfl rfl rfl rfl rfl rfl rfl rfl Ub rfl ?_
            refine Ra 14 [] rfl Qp ?_
            refine ra_one 15 Kr ?_
            refine rw_st1 (.an rfl rfl) (.inr (by simp)) (guard_none rfl) rfl rfl rfl rfl rfl rfl rfl rfl rfl Ub rfl ?_
            refine Ra 16 [] rfl Qp ?_
            refine ra_one 17 Kr ?_
            refine rw_st1 (.an rfl rfl) (.inr (by simp)) (guard_none rfl) rfl rfl rfl rfl rfl rfl rfl rfl rfl Ub rfl ?_
            refine Ra 18 [] rfl Qp ?_
            refine ra_one 19 Kr ?_
            refine rw_st1 (.an rfl rfl) (.inr (by simp)) (guard_none rfl) rfl rfl rfl rfl rfl rfl rfl rfl rfl Ub rfl ?_
            refine Ra 20 [] rfl Qp ?_
            refine ra_one 21 Kr ?_
            refine rw_st1 (.an rfl rfl) (.inr (by simp)) (guard_none rfl) rfl rfl rfl rfl rfl rfl rfl rfl rfl Ub rfl ?_
            refine Ra 22 [] rfl Qp ?_
            refine ra_one 23 Kr ?_
            refine rw_stP (.an rfl rfl) (.inr (by simp)) (guard_none rfl) rfl rfl rfl rfl rfl rfl rfl rfl rfl Ub rfl ?_
            refine ra_nil Kr ?_
            refine Tx ?_
            refine Fr EInt ?_
            refine Fr EPlace ?_
            refine Cl (way_same_spec y1 y2 y3 y4 y5 y6 y7 m1 (⟨none, 0⟩ : SlV) (⟨none, 0⟩ : SlV) (⟨none, 0⟩ : SlV) y4 y5 y6 y7 (⟨m1.kind, m1.who, m1.life, m1.seq, m1.time, m1.version, m1.frm, (⟨0, 0, 0, 0, 0, 0, 0⟩ : Op), (⟨([] : List Int), ([] : List Place), ([] : List Place)⟩ : View), m1.d⟩ : Mail)) fun _ => ?_
            refine Tx ?_
            refine Cd (b := (!(way_same m1 (⟨m1.kind, m1.who, m1.life, m1.seq, m1.time, m1.version, m1.frm, (⟨0, 0, 0, 0, 0, 0, 0⟩ : Op), (⟨([] : List Int), ([] : List Place), ([] : List Place)⟩ : View), m1.d⟩ : Mail)))) (fun hc13 => ?_) fun hc13 => ?_
            · refine Tx ?_
              have hr9 : (way_check m1) = 4 := by simp only [way_check, hc1, hc2, hc3, hc7, hc12, hc13, cond_true, cond_false]
              refine cw_ret ?_; rw [hr9]; exact Re () (Vt Vn)
            · refine Tx ?_
              refine Cd (b := (m1.kind == 1)) (fun hc14 => ?_) fun hc14 => ?_
              · exact Bool.noConfusion (hc14.symm.trans hc3)
              · refine Tx ?_
                refine Cd (b := (((((((((decide (m1.life < 1) || decide (m1.life > 50)) || decide (m1.seq < 0)) || decide (m1.seq > 30)) || decide (m1.time < 0)) || decide (m1.time > 10000)) || decide (m1.version < 1)) || decide (m1.version > 60)) || decide (m1.frm < 0)) || decide (m1.frm ≥ m1.version))) (fun hc15 => ?_) fun hc15 => ?_
                · refine Tx ?_
                  have hr10 : (way_check m1) = 3 := by simp only [way_check, hc1, hc2, hc3, hc7, hc12, hc13, hc15, cond_true, cond_false]
                  refine cw_ret ?_; rw [hr10]; exact Re () (Vt Vn)
                · refine Tx ?_
                  refine Cd (b := (m1.kind == 2)) (fun hc16 => ?_) fun hc16 => ?_
                  · exact Bool.noConfusion (hc16.symm.trans hc7)
                  · refine Tx ?_
                    refine Cl (delta_Check_spec y4 y5 y6 y7 m1.d) fun _ => ?_
                    refine Tx ?_
                    have hr11 : (way_check m1) = (delta_Check m1.d) := by simp only [way_check, hc1, hc2, hc3, hc7, hc12, hc13, hc15, cond_true, cond_false]
                    refine cw_ret ?_; rw [hr11]; exact Re () (Vt Vn)
          · have hc12p := ne_of_beq_false hc12
            refine Tx ?_
            refine Fr EInt ?_
            refine Fr EPlace ?_
            refine Cl (way_same_spec y1 y2 y3 y4 y5 y6 y7 m1 (⟨none, 0⟩ : SlV) (⟨none, 0⟩ : SlV) (⟨none, 0⟩ : SlV) (⟨none, 0⟩ : SlV) (⟨none, 0⟩ : SlV) (⟨none, 0⟩ : SlV) (⟨none, 0⟩ : SlV) (⟨m1.kind, m1.who, 0, 0, 0, 0, 0, (⟨0, 0, 0, 0, 0, 0, 0⟩ : Op), (⟨([] : List Int), ([] : List Place), ([] : List Place)⟩ : View), (⟨([] : List Int), ([] : List Place), ([] : List Int), ([] : List Place)⟩ : Delta)⟩ : Mail)) fun _ => ?_
            refine Tx ?_
            refine Cd (b := (!(way_same m1 (⟨m1.kind, m1.who, 0, 0, 0, 0, 0, (⟨0, 0, 0, 0, 0, 0, 0⟩ : Op), (⟨([] : List Int), ([] : List Place), ([] : List Place)⟩ : View), (⟨([] : List Int), ([] : List Place), ([] : List Int), ([] : List Place)⟩ : Delta)⟩ : Mail)))) (fun hc17 => ?_) fun hc17 => ?_
            · refine Tx ?_
              have hr12 : (way_check m1) = 4 := by simp only [way_check, hc1, hc2, hc3, hc7, hc12, hc17, cond_true, cond_false]
              refine cw_ret ?_; rw [hr12]; exact Re () (Vt Vn)
            · refine Tx ?_
              refine Cd (b := (m1.kind == 1)) (fun hc18 => ?_) fun hc18 => ?_
              · exact Bool.noConfusion (hc18.symm.trans hc3)
              · refine Tx ?_
                refine Cd (b := (((((((((decide (m1.life < 1) || decide (m1.life > 50)) || decide (m1.seq < 0)) || decide (m1.seq > 30)) || decide (m1.time < 0)) || decide (m1.time > 10000)) || decide (m1.version < 1)) || decide (m1.version > 60)) || decide (m1.frm < 0)) || decide (m1.frm ≥ m1.version))) (fun hc19 => ?_) fun hc19 => ?_
                · refine Tx ?_
                  have hr13 : (way_check m1) = 3 := by simp only [way_check, hc1, hc2, hc3, hc7, hc12, hc17, hc19, cond_true, cond_false]
                  refine cw_ret ?_; rw [hr13]; exact Re () (Vt Vn)
                · refine Tx ?_
                  refine Cd (b := (m1.kind == 2)) (fun hc20 => ?_) fun hc20 => ?_
                  · exact Bool.noConfusion (hc20.symm.trans hc7)
                  · refine Tx ?_
                    refine Cl (delta_Check_spec y4 y5 y6 y7 m1.d) fun _ => ?_
                    refine Tx ?_
                    have hr14 : (way_check m1) = (delta_Check m1.d) := by simp only [way_check, hc1, hc2, hc3, hc7, hc12, hc17, hc19, cond_true, cond_false]
                    refine cw_ret ?_; rw [hr14]; exact Re () (Vt Vn)

def way_Check_L0  : List Mail → Int
  | [] => 0
  | pn1 :: rn1 => (bif ((way_check pn1) != 0) then (way_check pn1) else (way_Check_L0 rn1))
def way_Check (l1 : List Mail) : Int :=
  (bif decide ((l1.length : Int) > 30) then 2 else (way_Check_L0 l1))
theorem way_Check_spec (y1 : SlV) (l1 : List Mail) : Does Try.prog 71 [y1.val l1.length] [RdN NMail y1 l1] (fun (_ : Unit) => .int .i64 (way_Check l1)) (fun (_ : Unit) => []) := by
  refine does_of tab_ok Try.func71 rfl Try.ntmps71 Try.results71 rfl inferInstance (fun _ => inferInstance) fun C => ?_
  refine Pn NMail y1 l1 280 fun hlen1 => ?_
  refine Tx ?_
  refine Cd (b := decide ((l1.length : Int) > 30)) (fun hc1 => ?_) fun hc1 => ?_
  · have hc1p := of_decide_eq_true hc1
    refine Tx ?_
    have hr1 : (way_Check l1) = 2 := by simp only [way_Check, hc1, cond_true, cond_false]
    refine cw_ret ?_; rw [hr1]; exact Re () (Vt Vn)
  · have hc1p := of_decide_eq_false hc1
    refine Tx ?_
    (repeat refine cw_seq ?_); refine Lp [2,9,10] [] (fun (n1 : Nat) => (⟨[(11, .v (.int .i64 (n1 : Int)))], [], [], [], (n1 ≤ l1.length) ∧ (way_Check_L0 (l1.drop n1)) = (way_Check l1), l1.length - n1⟩ : Ls)) 0 (Sc (Sc (Sc Sn))) (.nil) ⟨Nat.zero_le _, (by simp only [way_Check, hc1, cond_true, cond_false] : (way_Check l1) = (way_Check_L0 l1)).symm⟩ Le4 ?_
    rintro n1 ⟨hkn1, hf1⟩
    simp only [List.cons_append, List.nil_append]
    refine Tx ?_
    refine Cd (b := decide ((n1 : Int) < (l1.length : Int))) (fun hc2 => ?_) fun hc2 => ?_
    · have hlt0 : n1 < l1.length := Int.ofNat_lt.1 (of_decide_eq_true hc2)
      refine Tx ?_
      refine rw_exN NMail (X := y1) (l := l1) Mm fun (γ1 : Nat → SlV × SlV × SlV × SlV × SlV × SlV × SlV) => ?_
      refine rw_q rfl rfl rfl (q_idxN NMail γ1 n1 rfl rfl (fun _ => rfl) rfl (fun _ => rfl) rfl rfl rfl Mm rfl (fun _ => rfl) (fun _ => by first | assumption | omega)) ?_
      refine rw_q rfl rfl rfl (q_is (v' := .agg ⟨[.int .i64 ((gt l1 n1).kind), .int .i64 ((gt l1 n1).who), .int .i64 ((gt l1 n1).life), .int .i64 ((gt l1 n1).seq), .int .i64 ((gt l1 n1).time), .int .i64 ((gt l1 n1).version), .int .i64 ((gt l1 n1).frm), .int .i64 (((gt l1 n1).o).time), .int .i64 (((gt l1 n1).o).who), .int .i64 (((gt l1 n1).o).node), .int .i64 (((gt l1 n1).o).parent), .int .i64 (((gt l1 n1).o).name), .int .i64 (((gt l1 n1).o).life), .int .i64 (((gt l1 n1).o).seq), ((γ1 n1).1).val (((gt l1 n1).v).roots).length, ((γ1 n1).2.1).val (((gt l1 n1).v).known).length, ((γ1 n1).2.2.1).val (((gt l1 n1).v).way).length, ((γ1 n1).2.2.2.1).val (((gt l1 n1).d).gone).length, ((γ1 n1).2.2.2.2.1).val (((gt l1 n1).d).here).length, ((γ1 n1).2.2.2.2.2.1).val (((gt l1 n1).d).wayGone).length, ((γ1 n1).2.2.2.2.2.2).val (((gt l1 n1).d).wayHere).length]⟩) (q_leAN NMail γ1 rfl rfl (fun _ => rfl) rfl rfl Mm (fun _ => by first | assumption | omega)) rfl) ?_
      refine rw_fact (F := RdL EInt ((γ1 n1).1) (((gt l1 n1).v).roots)) [FactsG NMail γ1 l1] Sm (fun M w h => (allF1 h) n1 (by first | assumption | omega) _ (.head _)) ?_
      refine rw_fact (F := RdL EPlace ((γ1 n1).2.1) (((gt l1 n1).v).known)) [FactsG NMail γ1 l1] Sm (fun M w h => (allF1 h) n1 (by first | assumption | omega) _ (.tail _ (.head _))) ?_
      refine rw_fact (F := RdL EPlace ((γ1 n1).2.2.1) (((gt l1 n1).v).way)) [FactsG NMail γ1 l1] Sm (fun M w h => (allF1 h) n1 (by first | assumption | omega) _ (.tail _ (.tail _ (.head _)))) ?_
      refine rw_fact (F := RdL EInt ((γ1 n1).2.2.2.1) (((gt l1 n1).d).gone)) [FactsG NMail γ1 l1] Sm (fun M w h => (allF1 h) n1 (by first | assumption | omega) _ (.tail _ (.tail _ (.tail _ (.head _))))) ?_
      refine rw_fact (F := RdL EPlace ((γ1 n1).2.2.2.2.1) (((gt l1 n1).d).here)) [FactsG NMail γ1 l1] Sm (fun M w h => (allF1 h) n1 (by first | assumption | omega) _ (.tail _ (.tail _ (.tail _ (.tail _ (.head _)))))) ?_
      refine rw_fact (F := RdL EInt ((γ1 n1).2.2.2.2.2.1) (((gt l1 n1).d).wayGone)) [FactsG NMail γ1 l1] Sm (fun M w h => (allF1 h) n1 (by first | assumption | omega) _ (.tail _ (.tail _ (.tail _ (.tail _ (.tail _ (.head _))))))) ?_
      refine rw_fact (F := RdL EPlace ((γ1 n1).2.2.2.2.2.2) (((gt l1 n1).d).wayHere)) [FactsG NMail γ1 l1] Sm (fun M w h => (allF1 h) n1 (by first | assumption | omega) _ (.tail _ (.tail _ (.tail _ (.tail _ (.tail _ (.tail _ (.head _)))))))) ?_
      refine Al fun g1 => ?_
      refine Tx ?_
      refine Cl (way_check_spec ((γ1 n1).1) ((γ1 n1).2.1) ((γ1 n1).2.2.1) ((γ1 n1).2.2.2.1) ((γ1 n1).2.2.2.2.1) ((γ1 n1).2.2.2.2.2.1) ((γ1 n1).2.2.2.2.2.2) (gt l1 n1)) fun _ => ?_
      refine Tx ?_
      refine Cd (b := ((way_check (gt l1 n1)) != 0)) (fun hc3 => ?_) fun hc3 => ?_
      · have hc3p := bne_iff_ne.1 hc3
        refine Tx ?_
        have hr2 : (way_Check l1) = (way_check (gt l1 n1)) := by rw [← hf1, drop_gt hlt0]; simp only [way_Check_L0, hc3, cond_true, cond_false]
        refine cw_ret ?_; rw [hr2]; exact Re () (Vt Vn)
      · have hc3p := eq_of_bne_false hc3
        refine Tx ?_
        refine rw_q rfl rfl rfl (q_add rfl rfl (fun _ => rfl) rfl (fun _ => rfl) (fun _ => by omega)) ?_
        refine Tx ?_
        refine ⟨(n1 + 1), ⟨hlt0, (by rw [← hf1, drop_gt hlt0]; simp only [way_Check_L0, hc3, cond_true, cond_false] : (way_Check l1) = (way_Check_L0 (l1.drop (n1 + 1)))).symm⟩, (by simp only []; omega), Le4⟩
    · have hge0 : l1.length ≤ n1 := by have := of_decide_eq_false hc2; omega
      refine Tx ?_
      have hr3 : (way_Check l1) = 0 := by rw [← hf1, List.drop_of_length_le hge0]; simp only [way_Check_L0, cond_true, cond_false]
      refine cw_ret ?_; rw [hr3]; exact Re () (Vt Vn)
end Go.Proofs.Ytchdacbjiomplaa
