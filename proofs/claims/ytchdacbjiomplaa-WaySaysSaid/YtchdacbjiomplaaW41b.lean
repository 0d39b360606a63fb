/- Part of this claim. No condition. -/
import Derived.Test.YtchdacbjiomplaaWW
import Derived.Test.YtchdacbjiomplaaW18
set_option linter.unusedVariables false
set_option linter.unusedSimpArgs false
set_option maxHeartbeats 2000000
namespace Go.Proofs.Ytchdacbjiomplaa
open Go Go.Proofs.Ytchdacbjiomplaa.Fw Go.Proofs
attribute [local irreducible] RW CW
def orangeryref_SameMail_1 (x1 : Mail) (y1 : Mail) : Bool :=
  ((((((((((x1.kind == y1.kind) && (x1.who == y1.who)) && (x1.life == y1.life)) && (x1.seq == y1.seq)) && (x1.time == y1.time)) && (x1.version == y1.version)) && (x1.frm == y1.frm)) && decide (x1.o = y1.o)) && (orangeryref_SameView x1.v y1.v)) && (orangeryref_SameDelta x1.d y1.d))
theorem orangeryref_SameMail_1_spec (y2 : SlV) (y3 : SlV) (y4 : SlV) (y5 : SlV) (y6 : SlV) (y7 : SlV) (y8 : SlV) (x1 : Mail) (y9 : SlV) (y10 : SlV) (y11 : SlV) (y12 : SlV) (y13 : SlV) (y14 : SlV) (y15 : SlV) (y1 : Mail) : Does Try.prog 154 [.agg ⟨[.int .i64 x1.kind, .int .i64 x1.who, .int .i64 x1.life, .int .i64 x1.seq, .int .i64 x1.time, .int .i64 x1.version, .int .i64 x1.frm, .int .i64 x1.o.time, .int .i64 x1.o.who, .int .i64 x1.o.node, .int .i64 x1.o.parent, .int .i64 x1.o.name, .int .i64 x1.o.life, .int .i64 x1.o.seq, y2.val x1.v.roots.length, y3.val x1.v.known.length, y4.val x1.v.way.length, y5.val x1.d.gone.length, y6.val x1.d.here.length, y7.val x1.d.wayGone.length, y8.val x1.d.wayHere.length]⟩, .agg ⟨[.int .i64 y1.kind, .int .i64 y1.who, .int .i64 y1.life, .int .i64 y1.seq, .int .i64 y1.time, .int .i64 y1.version, .int .i64 y1.frm, .int .i64 y1.o.time, .int .i64 y1.o.who, .int .i64 y1.o.node, .int .i64 y1.o.parent, .int .i64 y1.o.name, .int .i64 y1.o.life, .int .i64 y1.o.seq, y9.val y1.v.roots.length, y10.val y1.v.known.length, y11.val y1.v.way.length, y12.val y1.d.gone.length, y13.val y1.d.here.length, y14.val y1.d.wayGone.length, y15.val y1.d.wayHere.length]⟩] [RdL EInt y2 x1.v.roots, RdL EPlace y3 x1.v.known, RdL EPlace y4 x1.v.way, RdL EInt y5 x1.d.gone, RdL EPlace y6 x1.d.here, RdL EInt y7 x1.d.wayGone, RdL EPlace y8 x1.d.wayHere, RdL EInt y9 y1.v.roots, RdL EPlace y10 y1.v.known, RdL EPlace y11 y1.v.way, RdL EInt y12 y1.d.gone, RdL EPlace y13 y1.d.here, RdL EInt y14 y1.d.wayGone, RdL EPlace y15 y1.d.wayHere] (fun (_ : Unit) => .bool (orangeryref_SameMail_1 x1 y1)) (fun (_ : Unit) => []) := by
  refine does_of tab_ok Try.func154 rfl Try.ntmps154 Try.results154 rfl inferInstance (fun _ => inferInstance) fun C => ?_
  refine Pc EInt y2 x1.v.roots 8 fun hlen1 => ?_
  refine Pc EPlace y3 x1.v.known 24 fun hlen2 => ?_
  refine Pc EPlace y4 x1.v.way 24 fun hlen3 => ?_
  refine Pc EInt y5 x1.d.gone 8 fun hlen4 => ?_
  refine Pc EPlace y6 x1.d.here 24 fun hlen5 => ?_
  refine Pc EInt y7 x1.d.wayGone 8 fun hlen6 => ?_
  refine Pc EPlace y8 x1.d.wayHere 24 fun hlen7 => ?_
  refine Pc EInt y9 y1.v.roots 8 fun hlen8 => ?_
  refine Pc EPlace y10 y1.v.known 24 fun hlen9 => ?_
  refine Pc EPlace y11 y1.v.way 24 fun hlen10 => ?_
  refine Pc EInt y12 y1.d.gone 8 fun hlen11 => ?_
  refine Pc EPlace y13 y1.d.here 24 fun hlen12 => ?_
  refine Pc EInt y14 y1.d.wayGone 8 fun hlen13 => ?_
  refine Pc EPlace y15 y1.d.wayHere 24 fun hlen14 => ?_
  refine Tx ?_
  refine Bx fun g1 => ?_
  refine Bx fun g2 => ?_
  refine Tx ?_
  refine rw_qg (guard_vt rfl rfl rfl) rfl rfl (q_eqE eqT_Op (flatEq_Op x1.o y1.o) rfl rfl Bt rfl Bt rfl rfl) ?_
  refine Tx ?_
  refine rw_callg (fun hG_ => orangeryref_SameView_spec y2 y3 y4 x1.v y9 y10 y11 y1.v) (fun _ => rfl) .sq (guard_vt rfl rfl rfl) rfl rfl rfl Kr rfl Bt Sm ?_
  refine Tx ?_
  refine rw_callg (fun hG_ => orangeryref_SameDelta_spec y5 y6 y7 y8 x1.d y12 y13 y14 y15 y1.d) (fun _ => rfl) .sq (guard_vt rfl rfl rfl) rfl rfl rfl Kr rfl Bt Sm ?_
  refine Tx ?_
  have hr1 : (orangeryref_SameMail_1 x1 y1) = ((((((((((x1.kind == y1.kind) && (x1.who == y1.who)) && (x1.life == y1.life)) && (x1.seq == y1.seq)) && (x1.time == y1.time)) && (x1.version == y1.version)) && (x1.frm == y1.frm)) && decide (x1.o = y1.o)) && (orangeryref_SameView x1.v y1.v)) && (orangeryref_SameDelta x1.d y1.d)) := by simp only [orangeryref_SameMail_1, cond_true, cond_false]
  refine cw_ret ?_; rw [hr1]; exact Re () (Vt Vn)

def orangeryref_SameMail (a1 : List Mail) (b1 : List Mail) : Bool :=
  (slices_EqualFunc_Mail a1 b1 orangeryref_SameMail_1)
theorem orangeryref_SameMail_spec (y1 : SlV) (a1 : List Mail) (y2 : SlV) (b1 : List Mail) : Does Try.prog 72 [y1.val a1.length, y2.val b1.length] [RdN NMail y1 a1, RdN NMail y2 b1] (fun (_ : Unit) => .bool (orangeryref_SameMail a1 b1)) (fun (_ : Unit) => []) := by
  refine does_of tab_ok Try.func72 rfl Try.ntmps72 Try.results72 rfl inferInstance (fun _ => inferInstance) fun C => ?_
  refine Pn NMail y1 a1 280 fun hlen1 => ?_
  refine Pn NMail y2 b1 280 fun hlen2 => ?_
  refine Tx ?_
  refine Cl (slices_EqualFunc_Mail_spec y1 a1 y2 b1 _ _ _ orangeryref_SameMail_1 Kr (fun z0a_ z0b_ z0c_ z0d_ z0e_ z0f_ z0g_ a0_ z1a_ z1b_ z1c_ z1d_ z1e_ z1f_ z1g_ a1_ => orangeryref_SameMail_1_spec z0a_ z0b_ z0c_ z0d_ z0e_ z0f_ z0g_ a0_ z1a_ z1b_ z1c_ z1d_ z1e_ z1f_ z1g_ a1_)) fun _ => ?_
  refine Tx ?_
  have hr1 : (orangeryref_SameMail a1 b1) = (slices_EqualFunc_Mail a1 b1 orangeryref_SameMail_1) := by simp only [orangeryref_SameMail, cond_true, cond_false]
  refine cw_ret ?_; rw [hr1]; exact Re () (Vt Vn)
end Go.Proofs.Ytchdacbjiomplaa
