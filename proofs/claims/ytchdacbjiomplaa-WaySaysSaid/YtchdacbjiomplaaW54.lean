/- Part of this claim. No condition. -/
import Derived.Test.YtchdacbjiomplaaW52
import Derived.Test.YtchdacbjiomplaaW35
import Derived.Test.YtchdacbjiomplaaW41b
set_option linter.unusedVariables false
set_option linter.unusedSimpArgs false
set_option maxHeartbeats 2000000
namespace Go.Proofs.Ytchdacbjiomplaa
open Go Go.Proofs.Ytchdacbjiomplaa.Fw Go.Proofs
attribute [local irreducible] RW CW
def orangerylaw_WaySays_J2 (l1 : List Mail) (m1 : Mail) (k1 : Int) (twice1 : Bool) (worse1 : Int) (want1 : List Mail) : Bool :=
  (bif (((((way_Send l1 m1).2) != worse1) || ((worse1 != 0) && decide ((((way_Send l1 m1).1).length : Int) > 0))) || ((worse1 == 0) && (!(orangeryref_SameMail ((way_Send l1 m1).1) want1)))) then false else (bif (((orangeryref_CheckMail l1) == 0) && (decide (k1 < 0) || decide (k1 ≥ (l1.length : Int)))) then (bif ((((way_Take l1 k1 twice1).2.2) == 5) && ((((way_Take l1 k1 twice1).1).length : Int) == 0)) then (((((way_Take l1 k1 twice1).2.2) == 5) && ((((way_Take l1 k1 twice1).1).length : Int) == 0)) && (orangeryref_SameMail [((way_Take l1 k1 twice1).2.1)] [(⟨0, 0, 0, 0, 0, 0, 0, (⟨0, 0, 0, 0, 0, 0, 0⟩ : Op), (⟨([] : List Int), ([] : List Place), ([] : List Place)⟩ : View), (⟨([] : List Int), ([] : List Place), ([] : List Int), ([] : List Place)⟩ : Delta)⟩ : Mail)])) else (((((way_Take l1 k1 twice1).2.2) == 5) && ((((way_Take l1 k1 twice1).1).length : Int) == 0)) && false)) else (bif ((orangeryref_CheckMail l1) != 0) then (bif ((((way_Take l1 k1 twice1).2.2) == (orangeryref_CheckMail l1)) && ((((way_Take l1 k1 twice1).1).length : Int) == 0)) then (((((way_Take l1 k1 twice1).2.2) == (orangeryref_CheckMail l1)) && ((((way_Take l1 k1 twice1).1).length : Int) == 0)) && (orangeryref_SameMail [((way_Take l1 k1 twice1).2.1)] [(⟨0, 0, 0, 0, 0, 0, 0, (⟨0, 0, 0, 0, 0, 0, 0⟩ : Op), (⟨([] : List Int), ([] : List Place), ([] : List Place)⟩ : View), (⟨([] : List Int), ([] : List Place), ([] : List Int), ([] : List Place)⟩ : Delta)⟩ : Mail)])) else (((((way_Take l1 k1 twice1).2.2) == (orangeryref_CheckMail l1)) && ((((way_Take l1 k1 twice1).1).length : Int) == 0)) && false)) else (bif (!twice1) then (bif (((way_Take l1 k1 twice1).2.2) == 0) then (((((way_Take l1 k1 twice1).2.2) == 0) && (orangeryref_SameMail [((way_Take l1 k1 twice1).2.1)] ((l1.drop k1.toNat).take (((k1 + 1).toNat) - k1.toNat)))) && (orangeryref_SameMail ((way_Take l1 k1 twice1).1) (l1.take (k1).toNat ++ l1.drop ((k1 + 1)).toNat))) else (((((way_Take l1 k1 twice1).2.2) == 0) && false) && false)) else (bif (((way_Take l1 k1 twice1).2.2) == 0) then (((((way_Take l1 k1 twice1).2.2) == 0) && (orangeryref_SameMail [((way_Take l1 k1 twice1).2.1)] ((l1.drop k1.toNat).take (((k1 + 1).toNat) - k1.toNat)))) && (orangeryref_SameMail ((way_Take l1 k1 twice1).1) l1)) else (((((way_Take l1 k1 twice1).2.2) == 0) && false) && false))))))
def orangerylaw_WaySays_J1 (l1 : List Mail) (m1 : Mail) (k1 : Int) (twice1 : Bool) (worse1 : Int) : Bool :=
  (bif decide ((l1.length : Int) < 30) then (orangerylaw_WaySays_J2 l1 m1 k1 twice1 worse1 (l1 ++ [m1])) else (orangerylaw_WaySays_J2 l1 m1 k1 twice1 worse1 l1))
def orangerylaw_WaySays (l1 : List Mail) (m1 : Mail) (k1 : Int) (twice1 : Bool) (o1 : List Mail) : Bool :=
  (bif (((!orangerylaw_posted) || ((way_Check l1) != (orangeryref_CheckMail l1))) || (!((way_Same l1 o1) == (orangeryref_SameMail l1 o1)))) then false else (bif ((orangeryref_CheckMail l1) == 0) then (orangerylaw_WaySays_J1 l1 m1 k1 twice1 (orangeryref_CheckMail [m1])) else (orangerylaw_WaySays_J1 l1 m1 k1 twice1 (orangeryref_CheckMail l1))))
theorem orangerylaw_WaySays_spec (y1 : SlV) (l1 : List Mail) (y2 : SlV) (y3 : SlV) (y4 : SlV) (y5 : SlV) (y6 : SlV) (y7 : SlV) (y8 : SlV) (m1 : Mail) (k1 : Int) (twice1 : Bool) (y9 : SlV) (o1 : List Mail) : Does Try.prog 13 [y1.val l1.length, .agg ⟨[.int .i64 m1.kind, .int .i64 m1.who, .int .i64 m1.life, .int .i64 m1.seq, .int .i64 m1.time, .int .i64 m1.version, .int .i64 m1.frm, .int .i64 m1.o.time, .int .i64 m1.o.who, .int .i64 m1.o.node, .int .i64 m1.o.parent, .int .i64 m1.o.name, .int .i64 m1.o.life, .int .i64 m1.o.seq, y2.val m1.v.roots.length, y3.val m1.v.known.length, y4.val m1.v.way.length, y5.val m1.d.gone.length, y6.val m1.d.here.length, y7.val m1.d.wayGone.length, y8.val m1.d.wayHere.length]⟩, .int .i64 k1, .bool twice1, y9.val o1.length] [RdN NMail y1 l1, RdL EInt y2 m1.v.roots, RdL EPlace y3 m1.v.known, RdL EPlace y4 m1.v.way, RdL EInt y5 m1.d.gone, RdL EPlace y6 m1.d.here, RdL EInt y7 m1.d.wayGone, RdL EPlace y8 m1.d.wayHere, RdN NMail y9 o1] (fun (_ : Unit) => .bool (orangerylaw_WaySays l1 m1 k1 twice1 o1)) (fun (_ : Unit) => []) := by
  refine does_of tab_ok Try.func13 rfl Try.ntmps13 Try.results13 rfl inferInstance (fun _ => inferInstance) fun C => ?_
  refine Pn NMail y1 l1 280 fun hlen1 => ?_
  refine Pc EInt y2 m1.v.roots 8 fun hlen2 => ?_
  refine Pc EPlace y3 m1.v.known 24 fun hlen3 => ?_
  refine Pc EPlace y4 m1.v.way 24 fun hlen4 => ?_
  refine Pc EInt y5 m1.d.gone 8 fun hlen5 => ?_
  refine Pc EPlace y6 m1.d.here 24 fun hlen6 => ?_
  refine Pc EInt y7 m1.d.wayGone 8 fun hlen7 => ?_
  refine Pc EPlace y8 m1.d.wayHere 24 fun hlen8 => ?_
  refine Pn NMail y9 o1 280 fun hlen9 => ?_
  refine Tx ?_
  refine Bx fun g1 => ?_
  refine Tx ?_
  refine Cl (way_Send_spec y1 l1 y2 y3 y4 y5 y6 y7 y8 m1) fun x1 => ?_
  refine Pm NMail x1 ((way_Send l1 m1).1) 280 fun hlen10 => ?_
  refine Tx ?_
  refine Cl (way_Take_spec y1 l1 k1 twice1) fun x2 => ?_
  refine Pm NMail x2.1 ((way_Take l1 k1 twice1).1) 280 fun hlen11 => ?_
  refine Pr EInt x2.2.1 ((((way_Take l1 k1 twice1).2.1).v).roots) 8 fun hlen12 => ?_
  refine Pr EPlace x2.2.2.1 ((((way_Take l1 k1 twice1).2.1).v).known) 24 fun hlen13 => ?_
  refine Pr EPlace x2.2.2.2.1 ((((way_Take l1 k1 twice1).2.1).v).way) 24 fun hlen14 => ?_
  refine Pr EInt x2.2.2.2.2.1 ((((way_Take l1 k1 twice1).2.1).d).gone) 8 fun hlen15 => ?_
  refine Pr EPlace x2.2.2.2.2.2.1 ((((way_Take l1 k1 twice1).2.1).d).here) 24 fun hlen16 => ?_
  refine Pr EInt x2.2.2.2.2.2.2.1 ((((way_Take l1 k1 twice1).2.1).d).wayGone) 8 fun hlen17 => ?_
  refine Pr EPlace x2.2.2.2.2.2.2.2 ((((way_Take l1 k1 twice1).2.1).d).wayHere) 24 fun hlen18 => ?_
  refine Tx ?_
  refine Al fun g2 => ?_
  refine Tx ?_
  refine Cl (orangeryref_CheckMail_spec y1 l1) fun _ => ?_
  refine Tx ?_
  refine Cl (orangerylaw_posted_spec ) fun _ => ?_
  refine Tx ?_
  refine rw_callg (fun hG_ => way_Check_spec y1 l1) (fun _ => rfl) .sq (guard_vf rfl rfl rfl) rfl rfl rfl Kr rfl Bt Sm ?_
  refine Tx ?_
  refine rw_callg (fun hG_ => way_Same_spec y1 l1 y9 o1) (fun _ => rfl) .sq (guard_vf rfl rfl rfl) rfl rfl rfl Kr rfl Bt Sm ?_
  refine Tx ?_
  refine rw_callg (fun hG_ => orangeryref_SameMail_spec y1 l1 y9 o1) (fun _ => rfl) .sq (guard_vf rfl rfl rfl) rfl rfl rfl Kr rfl Bt Sm ?_
  refine rw_qg (guard_vf rfl rfl rfl) rfl rfl (q_neb und_4 rfl rfl Bt rfl Bt) ?_
  refine Tx ?_
  refine Cd (b := (((!orangerylaw_posted) || ((way_Check l1) != (orangeryref_CheckMail l1))) || (!((way_Same l1 o1) == (orangeryref_SameMail l1 o1))))) (fun hc1 => ?_) fun hc1 => ?_
  · refine Tx ?_
    have hr1 : (orangerylaw_WaySays l1 m1 k1 twice1 o1) = false := by simp only [orangerylaw_WaySays, hc1, Bool.true_and, Bool.and_true, Bool.false_or, Bool.or_false, Bool.false_and, Bool.and_false, Bool.true_or, Bool.or_true, Bool.not_true, Bool.not_false, cond_true, cond_false]
    refine cw_ret ?_; rw [hr1]; exact Re () (Vt Vn)
  · refine Tx ?_
    refine cw_join [0, 2, 3, 6, 10, 11, 12, 13, 14, 15, 16] [true, true] (fun (worse1 : Int) => [(17, .v (.int .i64 worse1))]) (fun (worse1 : Int) => []) (fun (worse1 : Int) => []) (fun (worse1 : Int) => []) (fun (worse1 : Int) => (orangerylaw_WaySays_J1 l1 m1 k1 twice1 worse1) = (orangerylaw_WaySays l1 m1 k1 twice1 o1)) (.cons rfl (.cons rfl (.cons rfl (.cons rfl (.cons rfl (.cons rfl (.cons rfl (.cons rfl (.cons rfl (.cons rfl (.cons rfl (.nil _)))))))))))) (.keep (.keep (.nil))) ?_ ?_
    · (repeat refine cw_seq ?_)
      refine Cd (b := ((orangeryref_CheckMail l1) == 0)) (fun hc2 => ?_) fun hc2 => ?_
      · have hc2p := eq_of_beq hc2
        refine Tx ?_
        refine rw_bsliceL NMail.E [((y2, y3, y4, y5, y6, y7, y8), m1)] .sq (guard_none rfl) rfl rfl rfl rfl rfl rfl rfl rfl rfl rfl rfl rfl rfl (fillL_one rfl rfl) rfl fun x3 x3b => ?_
        refine rw_le (le_freezeL NMail.E 80 x3 x3b [((y2, y3, y4, y5, y6, y7, y8), m1)] Uo) ?_
        refine rw_fact (F := RdN NMail x3 [m1]) [RdL NMail.E x3 [((y2, y3, y4, y5, y6, y7, y8), m1)], RdL EInt y2 m1.v.roots, RdL EPlace y3 m1.v.known, RdL EPlace y4 m1.v.way, RdL EInt y5 m1.d.gone, RdL EPlace y6 m1.d.here, RdL EInt y7 m1.d.wayGone, RdL EPlace y8 m1.d.wayHere] Sm (fun M w h => RdN.of NMail (hs := [((y2, y3, y4, y5, y6, y7, y8), m1)]) rfl (h _ (.head _)) (allP_cons (allF_sub Sm h) (fun p hp => by cases hp))) ?_
        refine Cl (orangeryref_CheckMail_spec x3 [m1]) fun _ => ?_
        refine Tx ?_
        refine ⟨(orangeryref_CheckMail [m1]), ((by simp only [orangerylaw_WaySays, hc1, hc2, Bool.true_and, Bool.and_true, Bool.false_or, Bool.or_false, Bool.false_and, Bool.and_false, Bool.true_or, Bool.or_true, Bool.not_true, Bool.not_false, cond_true, cond_false] : (orangerylaw_WaySays l1 m1 k1 twice1 o1) = (orangerylaw_WaySays_J1 l1 m1 k1 twice1 (orangeryref_CheckMail [m1]))).symm), Le4⟩
      · have hc2p := ne_of_beq_false hc2
        refine Tx ?_
        refine ⟨(orangeryref_CheckMail l1), ((by simp only [orangerylaw_WaySays, hc1, hc2, Bool.true_and, Bool.and_true, Bool.false_or, Bool.or_false, Bool.false_and, Bool.and_false, Bool.true_or, Bool.or_true, Bool.not_true, Bool.not_false, cond_true, cond_false] : (orangerylaw_WaySays l1 m1 k1 twice1 o1) = (orangerylaw_WaySays_J1 l1 m1 k1 twice1 (orangeryref_CheckMail l1))).symm), Le4⟩
    · rintro worse1 hj1
      simp only [List.cons_append, List.nil_append]
      refine Tx ?_
      refine cw_join [0, 2, 3, 10, 11, 12, 13, 14, 15, 16, 17] [true, true] (fun (i_ : List Mail × SlV) => match i_ with | ⟨want1, x4⟩ => [(18, .v (x4.val want1.length))]) (fun (i_ : List Mail × SlV) => match i_ with | ⟨want1, x4⟩ => []) (fun (i_ : List Mail × SlV) => match i_ with | ⟨want1, x4⟩ => []) (fun (i_ : List Mail × SlV) => match i_ with | ⟨want1, x4⟩ => [RdN NMail x4 want1]) (fun (i_ : List Mail × SlV) => match i_ with | ⟨want1, x4⟩ => (orangerylaw_WaySays_J2 l1 m1 k1 twice1 worse1 want1) = (orangerylaw_WaySays l1 m1 k1 twice1 o1)) (.cons rfl (.cons rfl (.cons rfl (.cons rfl (.cons rfl (.cons rfl (.cons rfl (.cons rfl (.cons rfl (.cons rfl (.cons rfl (.nil _)))))))))))) (.keep (.keep (.nil))) ?_ ?_
      · (repeat refine cw_seq ?_)
        refine Cd (b := decide ((l1.length : Int) < 30)) (fun hc3 => ?_) fun hc3 => ?_
        · have hc3p := of_decide_eq_true hc3
          (repeat refine cw_seq ?_)
          refine cw_joinB [0, 2, 3, 10, 11, 12, 13, 14, 15, 16, 17] [true, true] (fun (x5 : SlV) => [(18, .v (x5.val (l1 ++ [m1]).length))]) (fun (x5 : SlV) => []) (fun (x5 : SlV) => []) (fun (x5 : SlV) => [RdN NMail x5 (l1 ++ [m1])]) (fun _ => True) (.cons rfl (.cons rfl (.cons rfl (.cons rfl (.cons rfl (.cons rfl (.cons rfl (.cons rfl (.cons rfl (.cons rfl (.cons rfl (.nil _)))))))))))) (.keep (.keep (.nil))) ?_ ?_
          · refine cw_regionA (fun j => match j with | 4 => none | _ => some []) ?_
            refine Rb 0 [2,3] [1,4,5] rfl Qp ?_
            refine Rb 2 [1] [3,4,5] rfl (q_ldA rfl rfl (fun _ => rfl) rfl Mm rfl) ?_
            refine ra_two 1 3 Kr ?_ ?_
            · refine rw_exN NMail (X := y1) (l := l1) Mm fun (γ1 : Nat → SlV × SlV × SlV × SlV × SlV × SlV × SlV) => ?_
              refine rw_callG (slices_Clone_Mail_spec y1 γ1 l1) (.an rfl rfl) (.inr (by simp [Lent.ids])) (guard_none rfl) rfl rfl rfl Kr rfl rfl Sm (.nil _) (.nil _) ?_
              intro x6
              refine ra_one 3 Kr ?_
              refine rw_bsliceL NMail.E [((y2, y3, y4, y5, y6, y7, y8), m1)] (.an rfl rfl) (guard_none rfl) rfl rfl rfl rfl rfl rfl rfl rfl rfl rfl rfl rfl rfl (fillL_one rfl rfl) rfl fun x7 x7b => ?_
              refine ra_one 4 Kr ?_
              refine rw_le (le_freezeL NMail.E 80 x7 x7b [((y2, y3, y4, y5, y6, y7, y8), m1)] Uo) ?_
              refine rw_fact (F := RdN NMail x7 [m1]) [RdL NMail.E x7 [((y2, y3, y4, y5, y6, y7, y8), m1)], RdL EInt y2 m1.v.roots, RdL EPlace y3 m1.v.known, RdL EPlace y4 m1.v.way, RdL EInt y5 m1.d.gone, RdL EPlace y6 m1.d.here, RdL EInt y7 m1.d.wayGone, RdL EPlace y8 m1.d.wayHere] Sm (fun M w h => RdN.of NMail (hs := [((y2, y3, y4, y5, y6, y7, y8), m1)]) rfl (h _ (.head _)) (allP_cons (allF_sub Sm h) (fun p hp => by cases hp))) ?_
              refine rw_exN NMail (X := x7) (l := [m1]) Mm fun (γ2 : Nat → SlV × SlV × SlV × SlV × SlV × SlV × SlV) => ?_
              refine rw_appendN NMail γ1 γ2 l1 [m1] (b := x6.2) (.lo (x6.2 : Option Nat).toList rfl rfl) (fun g h => .inr (by simp [h])) (guard_none rfl) rfl rfl rfl rfl rfl rfl rfl (fun _ _ => Uo) rfl rfl rfl rfl rfl rfl rfl (reads_rdN (EN := NMail) (X := x7) (γ := γ2) (l := [m1]) Mm) (by have h30 : l1.length < 30 := (by omega); exact Nat.le_trans (Nat.mul_le_mul_right 280 (Nat.succ_le_succ (Nat.le_of_lt h30))) (by decide)) fun x8 x8b => ?_
              refine rw_fact (F := FactsG NMail (appG γ1 l1.length γ2) (l1 ++ [m1])) [FactsG NMail γ1 l1, FactsG NMail γ2 [m1]] Sm (fun M w h => FactsG.app NMail (h _ (.head _)) (h _ (.tail _ (.head _)))) ?_
              refine rw_le (le_freezeL NMail.E 80 x8 x8b (zipG (appG γ1 l1.length γ2) 0 (l1 ++ [m1])) Uo) ?_
              refine rw_fact (F := RdN NMail x8 (l1 ++ [m1])) [RdG NMail x8 (appG γ1 l1.length γ2) (l1 ++ [m1]), FactsG NMail (appG γ1 l1.length γ2) (l1 ++ [m1])] Sm (fun M w h => RdN.ofG NMail (h _ (.head _)) (h _ (.tail _ (.head _)))) ?_
              refine Ra 5 [] rfl Qp ?_
              refine ra_nil Kr ?_
              refine ⟨x8, trivial, Le4⟩
            · refine rw_bsliceL NMail.E [((y2, y3, y4, y5, y6, y7, y8), m1)] (.an rfl rfl) (guard_none rfl) rfl rfl rfl rfl rfl rfl rfl rfl rfl rfl rfl rfl rfl (fillL_one rfl rfl) rfl fun x9 x9b => ?_
              refine ra_one 1 Kr ?_
              refine rw_exN NMail (X := y1) (l := l1) Mm fun (γ3 : Nat → SlV × SlV × SlV × SlV × SlV × SlV × SlV) => ?_
              refine rw_callG (slices_Clone_Mail_spec y1 γ3 l1) (.an rfl rfl) (.inr (by simp [Lent.ids])) (guard_none rfl) rfl rfl rfl Kr rfl rfl Sm (.nil _) (.nil _) ?_
              intro x10
              refine ra_one 4 Kr ?_
              refine rw_le (le_freezeL NMail.E 80 x9 x9b [((y2, y3, y4, y5, y6, y7, y8), m1)] Uo) ?_
              refine rw_fact (F := RdN NMail x9 [m1]) [RdL NMail.E x9 [((y2, y3, y4, y5, y6, y7, y8), m1)], RdL EInt y2 m1.v.roots, RdL EPlace y3 m1.v.known, RdL EPlace y4 m1.v.way, RdL EInt y5 m1.d.gone, RdL EPlace y6 m1.d.here, RdL EInt y7 m1.d.wayGone, RdL EPlace y8 m1.d.wayHere] Sm (fun M w h => RdN.of NMail (hs := [((y2, y3, y4, y5, y6, y7, y8), m1)]) rfl (h _ (.head _)) (allP_cons (allF_sub Sm h) (fun p hp => by cases hp))) ?_
              refine rw_exN NMail (X := x9) (l := [m1]) Mm fun (γ4 : Nat → SlV × SlV × SlV × SlV × SlV × SlV × SlV) => ?_
              refine rw_appendN NMail γ3 γ4 l1 [m1] (b := x10.2) (.lo (x10.2 : Option Nat).toList rfl rfl) (fun g h => .inr (by simp [h])) (guard_none rfl) rfl rfl rfl rfl rfl rfl rfl (fun _ _ => Uo) rfl rfl rfl rfl rfl rfl rfl (reads_rdN (EN := NMail) (X := x9) (γ := γ4) (l := [m1]) Mm) (by have h30 : l1.length < 30 := (by omega); exact Nat.le_trans (Nat.mul_le_mul_right 280 (Nat.succ_le_succ (Nat.le_of_lt h30))) (by decide)) fun x11 x11b => ?_
              refine rw_fact (F := FactsG NMail (appG γ3 l1.length γ4) (l1 ++ [m1])) [FactsG NMail γ3 l1, FactsG NMail γ4 [m1]] Sm (fun M w h => FactsG.app NMail (h _ (.head _)) (h _ (.tail _ (.head _)))) ?_
              refine rw_le (le_freezeL NMail.E 80 x11 x11b (zipG (appG γ3 l1.length γ4) 0 (l1 ++ [m1])) Uo) ?_
              refine rw_fact (F := RdN NMail x11 (l1 ++ [m1])) [RdG NMail x11 (appG γ3 l1.length γ4) (l1 ++ [m1]), FactsG NMail (appG γ3 l1.length γ4) (l1 ++ [m1])] Sm (fun M w h => RdN.ofG NMail (h _ (.head _)) (h _ (.tail _ (.head _)))) ?_
              refine Ra 5 [] rfl Qp ?_
              refine ra_nil Kr ?_
              refine ⟨x11, trivial, Le4⟩
          · rintro x5 -
            simp only [List.cons_append, List.nil_append]
            refine ⟨⟨(l1 ++ [m1]), x5⟩, ((by rw [← hj1]; simp only [orangerylaw_WaySays_J1, hc3, Bool.true_and, Bool.and_true, Bool.false_or, Bool.or_false, Bool.false_and, Bool.and_false, Bool.true_or, Bool.or_true, Bool.not_true, Bool.not_false, cond_true, cond_false] : (orangerylaw_WaySays l1 m1 k1 twice1 o1) = (orangerylaw_WaySays_J2 l1 m1 k1 twice1 worse1 (l1 ++ [m1]))).symm), Le4⟩
        · have hc3p := of_decide_eq_false hc3
          refine Tx ?_
          refine ⟨⟨l1, y1⟩, ((by rw [← hj1]; simp only [orangerylaw_WaySays_J1, hc3, Bool.true_and, Bool.and_true, Bool.false_or, Bool.or_false, Bool.false_and, Bool.and_false, Bool.true_or, Bool.or_true, Bool.not_true, Bool.not_false, cond_true, cond_false] : (orangerylaw_WaySays l1 m1 k1 twice1 o1) = (orangerylaw_WaySays_J2 l1 m1 k1 twice1 worse1 l1)).symm), Le4⟩
      · rintro ⟨want1, x4⟩ hj2
        simp only [List.cons_append, List.nil_append]
        refine Tx ?_
        refine rw_callg (fun hG_ => orangeryref_SameMail_spec x1 ((way_Send l1 m1).1) x4 want1) (fun _ => rfl) .sq (guard_ot rfl rfl rfl) rfl rfl rfl Kr rfl Bt Sm ?_
        refine Tx ?_
        refine Cd (b := (((((way_Send l1 m1).2) != worse1) || ((worse1 != 0) && decide ((((way_Send l1 m1).1).length : Int) > 0))) || ((worse1 == 0) && (!(orangeryref_SameMail ((way_Send l1 m1).1) want1))))) (fun hc4 => ?_) fun hc4 => ?_
        · refine Tx ?_
          have hr2 : (orangerylaw_WaySays l1 m1 k1 twice1 o1) = false := by rw [← hj2]; simp only [orangerylaw_WaySays_J2, hc4, Bool.true_and, Bool.and_true, Bool.false_or, Bool.or_false, Bool.false_and, Bool.and_false, Bool.true_or, Bool.or_true, Bool.not_true, Bool.not_false, cond_true, cond_false]
          refine cw_ret ?_; rw [hr2]; exact Re () (Vt Vn)
        · refine Tx ?_
          refine Cd (b := (((orangeryref_CheckMail l1) == 0) && (decide (k1 < 0) || decide (k1 ≥ (l1.length : Int))))) (fun hc5 => ?_) fun hc5 => ?_
          · refine Tx ?_
            refine Cd (b := ((5 : Int) != 0)) (fun hc6 => ?_) fun hc6 => ?_
            · refine Tx ?_
              refine rw_split .sq (guard_vt rfl rfl rfl) (fun hg1 => ?_) (fun hg1 => ?_)
              · refine rw_bsliceL NMail.E [((x2.2.1, x2.2.2.1, x2.2.2.2.1, x2.2.2.2.2.1, x2.2.2.2.2.2.1, x2.2.2.2.2.2.2.1, x2.2.2.2.2.2.2.2), ((way_Take l1 k1 twice1).2.1))] .sq (guard_is (guard_vt rfl rfl rfl) hg1) rfl rfl rfl rfl rfl rfl rfl rfl rfl rfl rfl (by first | rfl | assumption | (simp only [hc1, hc4, hc5, hg1, Bool.and_true, Bool.true_and, Bool.and_self, Bool.not_false, Bool.not_true]; done) | simp_all) rfl (fillL_one rfl rfl) rfl fun x12 x12b => ?_
                refine Tx ?_
                refine Fr EInt ?_
                refine Fr EPlace ?_
                refine rw_bsliceL NMail.E [(((⟨none, 0⟩ : SlV), (⟨none, 0⟩ : SlV), (⟨none, 0⟩ : SlV), (⟨none, 0⟩ : SlV), (⟨none, 0⟩ : SlV), (⟨none, 0⟩ : SlV), (⟨none, 0⟩ : SlV)), (⟨0, 0, 0, 0, 0, 0, 0, (⟨0, 0, 0, 0, 0, 0, 0⟩ : Op), (⟨([] : List Int), ([] : List Place), ([] : List Place)⟩ : View), (⟨([] : List Int), ([] : List Place), ([] : List Int), ([] : List Place)⟩ : Delta)⟩ : Mail))] .sq (guard_is (guard_vt rfl rfl rfl) hg1) rfl rfl rfl rfl rfl rfl rfl rfl rfl rfl rfl (by first | rfl | assumption | (simp only [hc1, hc4, hc5, hg1, Bool.and_true, Bool.true_and, Bool.and_self, Bool.not_false, Bool.not_true]; done) | simp_all) rfl (fillL_one rfl rfl) rfl fun x13 x13b => ?_
                refine rw_le (le_freezeL NMail.E 80 x12 x12b [((x2.2.1, x2.2.2.1, x2.2.2.2.1, x2.2.2.2.2.1, x2.2.2.2.2.2.1, x2.2.2.2.2.2.2.1, x2.2.2.2.2.2.2.2), ((way_Take l1 k1 twice1).2.1))] Uo) ?_
                refine rw_fact (F := RdN NMail x12 [((way_Take l1 k1 twice1).2.1)]) [RdL NMail.E x12 [((x2.2.1, x2.2.2.1, x2.2.2.2.1, x2.2.2.2.2.1, x2.2.2.2.2.2.1, x2.2.2.2.2.2.2.1, x2.2.2.2.2.2.2.2), ((way_Take l1 k1 twice1).2.1))], RdL EInt x2.2.1 ((((way_Take l1 k1 twice1).2.1).v).roots), RdL EPlace x2.2.2.1 ((((way_Take l1 k1 twice1).2.1).v).known), RdL EPlace x2.2.2.2.1 ((((way_Take l1 k1 twice1).2.1).v).way), RdL EInt x2.2.2.2.2.1 ((((way_Take l1 k1 twice1).2.1).d).gone), RdL EPlace x2.2.2.2.2.2.1 ((((way_Take l1 k1 twice1).2.1).d).here), RdL EInt x2.2.2.2.2.2.2.1 ((((way_Take l1 k1 twice1).2.1).d).wayGone), RdL EPlace x2.2.2.2.2.2.2.2 ((((way_Take l1 k1 twice1).2.1).d).wayHere)] Sm (fun M w h => RdN.of NMail (hs := [((x2.2.1, x2.2.2.1, x2.2.2.2.1, x2.2.2.2.2.1, x2.2.2.2.2.2.1, x2.2.2.2.2.2.2.1, x2.2.2.2.2.2.2.2), ((way_Take l1 k1 twice1).2.1))]) rfl (h _ (.head _)) (allP_cons (allF_sub Sm h) (fun p hp => by cases hp))) ?_
                refine rw_le (le_freezeL NMail.E 80 x13 x13b [(((⟨none, 0⟩ : SlV), (⟨none, 0⟩ : SlV), (⟨none, 0⟩ : SlV), (⟨none, 0⟩ : SlV), (⟨none, 0⟩ : SlV), (⟨none, 0⟩ : SlV), (⟨none, 0⟩ : SlV)), (⟨0, 0, 0, 0, 0, 0, 0, (⟨0, 0, 0, 0, 0, 0, 0⟩ : Op), (⟨([] : List Int), ([] : List Place), ([] : List Place)⟩ : View), (⟨([] : List Int), ([] : List Place), ([] : List Int), ([] : List Place)⟩ : Delta)⟩ : Mail))] Uo) ?_
                refine rw_fact (F := RdN NMail x13 [(⟨0, 0, 0, 0, 0, 0, 0, (⟨0, 0, 0, 0, 0, 0, 0⟩ : Op), (⟨([] : List Int), ([] : List Place), ([] : List Place)⟩ : View), (⟨([] : List Int), ([] : List Place), ([] : List Int), ([] : List Place)⟩ : Delta)⟩ : Mail)]) [RdL NMail.E x13 [(((⟨none, 0⟩ : SlV), (⟨none, 0⟩ : SlV), (⟨none, 0⟩ : SlV), (⟨none, 0⟩ : SlV), (⟨none, 0⟩ : SlV), (⟨none, 0⟩ : SlV), (⟨none, 0⟩ : SlV)), (⟨0, 0, 0, 0, 0, 0, 0, (⟨0, 0, 0, 0, 0, 0, 0⟩ : Op), (⟨([] : List Int), ([] : List Place), ([] : List Place)⟩ : View), (⟨([] : List Int), ([] : List Place), ([] : List Int), ([] : List Place)⟩ : Delta)⟩ : Mail))], RdL EInt (⟨none, 0⟩ : SlV) ([] : List Int), RdL EPlace (⟨none, 0⟩ : SlV) ([] : List Place), RdL EPlace (⟨none, 0⟩ : SlV) ([] : List Place), RdL EInt (⟨none, 0⟩ : SlV) ([] : List Int), RdL EPlace (⟨none, 0⟩ : SlV) ([] : List Place), RdL EInt (⟨none, 0⟩ : SlV) ([] : List Int), RdL EPlace (⟨none, 0⟩ : SlV) ([] : List Place)] Sm (fun M w h => RdN.of NMail (hs := [(((⟨none, 0⟩ : SlV), (⟨none, 0⟩ : SlV), (⟨none, 0⟩ : SlV), (⟨none, 0⟩ : SlV), (⟨none, 0⟩ : SlV), (⟨none, 0⟩ : SlV), (⟨none, 0⟩ : SlV)), (⟨0, 0, 0, 0, 0, 0, 0, (⟨0, 0, 0, 0, 0, 0, 0⟩ : Op), (⟨([] : List Int), ([] : List Place), ([] : List Place)⟩ : View), (⟨([] : List Int), ([] : List Place), ([] : List Int), ([] : List Place)⟩ : Delta)⟩ : Mail))]) rfl (h _ (.head _)) (allP_cons (allF_sub Sm h) (fun p hp => by cases hp))) ?_
                refine rw_call (orangeryref_SameMail_spec x12 [((way_Take l1 k1 twice1).2.1)] x13 [(⟨0, 0, 0, 0, 0, 0, 0, (⟨0, 0, 0, 0, 0, 0, 0⟩ : Op), (⟨([] : List Int), ([] : List Place), ([] : List Place)⟩ : View), (⟨([] : List Int), ([] : List Place), ([] : List Int), ([] : List Place)⟩ : Delta)⟩ : Mail)]) .sq (guard_is (guard_vt rfl rfl rfl) hg1) rfl rfl rfl Kr rfl rfl Sm ?_
                intro _
                refine Tx ?_
                have hr3 : (orangerylaw_WaySays l1 m1 k1 twice1 o1) = (((((way_Take l1 k1 twice1).2.2) == 5) && ((((way_Take l1 k1 twice1).1).length : Int) == 0)) && (orangeryref_SameMail [((way_Take l1 k1 twice1).2.1)] [(⟨0, 0, 0, 0, 0, 0, 0, (⟨0, 0, 0, 0, 0, 0, 0⟩ : Op), (⟨([] : List Int), ([] : List Place), ([] : List Place)⟩ : View), (⟨([] : List Int), ([] : List Place), ([] : List Int), ([] : List Place)⟩ : Delta)⟩ : Mail)])) := by rw [← hj2]; simp only [orangerylaw_WaySays_J2, hc4, hc5, hg1, Bool.true_and, Bool.and_true, Bool.false_or, Bool.or_false, Bool.false_and, Bool.and_false, Bool.true_or, Bool.or_true, Bool.not_true, Bool.not_false, cond_true, cond_false]
                refine cw_ret ?_; rw [hr3]; exact Re () (Vt Vn)
              · refine rw_dead .sq (guard_vt rfl rfl rfl) hg1 rfl rfl ?_
                refine rw_qg (guard_vt rfl rfl rfl) rfl rfl (q_dead (v := .bool false) hg1) ?_
                refine rw_dead .sq (guard_vt rfl rfl rfl) hg1 rfl rfl ?_
                refine rw_dead .sq (guard_vt rfl rfl rfl) hg1 rfl rfl ?_
                refine Tx ?_
                have hr4 : (orangerylaw_WaySays l1 m1 k1 twice1 o1) = (((((way_Take l1 k1 twice1).2.2) == 5) && ((((way_Take l1 k1 twice1).1).length : Int) == 0)) && false) := by rw [← hj2]; simp only [orangerylaw_WaySays_J2, hc4, hc5, hg1, Bool.true_and, Bool.and_true, Bool.false_or, Bool.or_false, Bool.false_and, Bool.and_false, Bool.true_or, Bool.or_true, Bool.not_true, Bool.not_false, cond_true, cond_false]
                refine cw_ret ?_; rw [hr4]; exact Re () (Vt Vn)
            · exact Bool.noConfusion (hc6.symm.trans (show ((5 : Int) != 0) = true by decide))
          · have h4c := hc5
            refine Tx ?_
            refine Cd (b := ((orangeryref_CheckMail l1) != 0)) (fun hc7 => ?_) fun hc7 => ?_
            · have hc7p := bne_iff_ne.1 hc7
              refine Tx ?_
              refine rw_split .sq (guard_vt rfl rfl rfl) (fun hg2 => ?_) (fun hg2 => ?_)
              · refine rw_bsliceL NMail.E [((x2.2.1, x2.2.2.1, x2.2.2.2.1, x2.2.2.2.2.1, x2.2.2.2.2.2.1, x2.2.2.2.2.2.2.1, x2.2.2.2.2.2.2.2), ((way_Take l1 k1 twice1).2.1))] .sq (guard_is (guard_vt rfl rfl rfl) hg2) rfl rfl rfl rfl rfl rfl rfl rfl rfl rfl rfl (by first | rfl | assumption | (simp only [hc1, hc4, hc5, hc7, hg2, Bool.and_true, Bool.true_and, Bool.and_self, Bool.not_false, Bool.not_true]; done) | simp_all) rfl (fillL_one rfl rfl) rfl fun x14 x14b => ?_
                refine Tx ?_
                refine Fr EInt ?_
                refine Fr EPlace ?_
                refine rw_bsliceL NMail.E [(((⟨none, 0⟩ : SlV), (⟨none, 0⟩ : SlV), (⟨none, 0⟩ : SlV), (⟨none, 0⟩ : SlV), (⟨none, 0⟩ : SlV), (⟨none, 0⟩ : SlV), (⟨none, 0⟩ : SlV)), (⟨0, 0, 0, 0, 0, 0, 0, (⟨0, 0, 0, 0, 0, 0, 0⟩ : Op), (⟨([] : List Int), ([] : List Place), ([] : List Place)⟩ : View), (⟨([] : List Int), ([] : List Place), ([] : List Int), ([] : List Place)⟩ : Delta)⟩ : Mail))] .sq (guard_is (guard_vt rfl rfl rfl) hg2) rfl rfl rfl rfl rfl rfl rfl rfl rfl rfl rfl (by first | rfl | assumption | (simp only [hc1, hc4, hc5, hc7, hg2, Bool.and_true, Bool.true_and, Bool.and_self, Bool.not_false, Bool.not_true]; done) | simp_all) rfl (fillL_one rfl rfl) rfl fun x15 x15b => ?_
                refine rw_le (le_freezeL NMail.E 80 x14 x14b [((x2.2.1, x2.2.2.1, x2.2.2.2.1, x2.2.2.2.2.1, x2.2.2.2.2.2.1, x2.2.2.2.2.2.2.1, x2.2.2.2.2.2.2.2), ((way_Take l1 k1 twice1).2.1))] Uo) ?_
                refine rw_fact (F := RdN NMail x14 [((way_Take l1 k1 twice1).2.1)]) [RdL NMail.E x14 [((x2.2.1, x2.2.2.1, x2.2.2.2.1, x2.2.2.2.2.1, x2.2.2.2.2.2.1, x2.2.2.2.2.2.2.1, x2.2.2.2.2.2.2.2), ((way_Take l1 k1 twice1).2.1))], RdL EInt x2.2.1 ((((way_Take l1 k1 twice1).2.1).v).roots), RdL EPlace x2.2.2.1 ((((way_Take l1 k1 twice1).2.1).v).known), RdL EPlace x2.2.2.2.1 ((((way_Take l1 k1 twice1).2.1).v).way), RdL EInt x2.2.2.2.2.1 ((((way_Take l1 k1 twice1).2.1).d).gone), RdL EPlace x2.2.2.2.2.2.1 ((((way_Take l1 k1 twice1).2.1).d).here), RdL EInt x2.2.2.2.2.2.2.1 ((((way_Take l1 k1 twice1).2.1).d).wayGone), RdL EPlace x2.2.2.2.2.2.2.2 ((((way_Take l1 k1 twice1).2.1).d).wayHere)] Sm (fun M w h => RdN.of NMail (hs := [((x2.2.1, x2.2.2.1, x2.2.2.2.1, x2.2.2.2.2.1, x2.2.2.2.2.2.1, x2.2.2.2.2.2.2.1, x2.2.2.2.2.2.2.2), ((way_Take l1 k1 twice1).2.1))]) rfl (h _ (.head _)) (allP_cons (allF_sub Sm h) (fun p hp => by cases hp))) ?_
                refine rw_le (le_freezeL NMail.E 80 x15 x15b [(((⟨none, 0⟩ : SlV), (⟨none, 0⟩ : SlV), (⟨none, 0⟩ : SlV), (⟨none, 0⟩ : SlV), (⟨none, 0⟩ : SlV), (⟨none, 0⟩ : SlV), (⟨none, 0⟩ : SlV)), (⟨0, 0, 0, 0, 0, 0, 0, (⟨0, 0, 0, 0, 0, 0, 0⟩ : Op), (⟨([] : List Int), ([] : List Place), ([] : List Place)⟩ : View), (⟨([] : List Int), ([] : List Place), ([] : List Int), ([] : List Place)⟩ : Delta)⟩ : Mail))] Uo) ?_
                refine rw_fact (F := RdN NMail x15 [(⟨0, 0, 0, 0, 0, 0, 0, (⟨0, 0, 0, 0, 0, 0, 0⟩ : Op), (⟨([] : List Int), ([] : List Place), ([] : List Place)⟩ : View), (⟨([] : List Int), ([] : List Place), ([] : List Int), ([] : List Place)⟩ : Delta)⟩ : Mail)]) [RdL NMail.E x15 [(((⟨none, 0⟩ : SlV), (⟨none, 0⟩ : SlV), (⟨none, 0⟩ : SlV), (⟨none, 0⟩ : SlV), (⟨none, 0⟩ : SlV), (⟨none, 0⟩ : SlV), (⟨none, 0⟩ : SlV)), (⟨0, 0, 0, 0, 0, 0, 0, (⟨0, 0, 0, 0, 0, 0, 0⟩ : Op), (⟨([] : List Int), ([] : List Place), ([] : List Place)⟩ : View), (⟨([] : List Int), ([] : List Place), ([] : List Int), ([] : List Place)⟩ : Delta)⟩ : Mail))], RdL EInt (⟨none, 0⟩ : SlV) ([] : List Int), RdL EPlace (⟨none, 0⟩ : SlV) ([] : List Place), RdL EPlace (⟨none, 0⟩ : SlV) ([] : List Place), RdL EInt (⟨none, 0⟩ : SlV) ([] : List Int), RdL EPlace (⟨none, 0⟩ : SlV) ([] : List Place), RdL EInt (⟨none, 0⟩ : SlV) ([] : List Int), RdL EPlace (⟨none, 0⟩ : SlV) ([] : List Place)] Sm (fun M w h => RdN.of NMail (hs := [(((⟨none, 0⟩ : SlV), (⟨none, 0⟩ : SlV), (⟨none, 0⟩ : SlV), (⟨none, 0⟩ : SlV), (⟨none, 0⟩ : SlV), (⟨none, 0⟩ : SlV), (⟨none, 0⟩ : SlV)), (⟨0, 0, 0, 0, 0, 0, 0, (⟨0, 0, 0, 0, 0, 0, 0⟩ : Op), (⟨([] : List Int), ([] : List Place), ([] : List Place)⟩ : View), (⟨([] : List Int), ([] : List Place), ([] : List Int), ([] : List Place)⟩ : Delta)⟩ : Mail))]) rfl (h _ (.head _)) (allP_cons (allF_sub Sm h) (fun p hp => by cases hp))) ?_
                refine rw_call (orangeryref_SameMail_spec x14 [((way_Take l1 k1 twice1).2.1)] x15 [(⟨0, 0, 0, 0, 0, 0, 0, (⟨0, 0, 0, 0, 0, 0, 0⟩ : Op), (⟨([] : List Int), ([] : List Place), ([] : List Place)⟩ : View), (⟨([] : List Int), ([] : List Place), ([] : List Int), ([] : List Place)⟩ : Delta)⟩ : Mail)]) .sq (guard_is (guard_vt rfl rfl rfl) hg2) rfl rfl rfl Kr rfl rfl Sm ?_
                intro _
                refine Tx ?_
                have hr5 : (orangerylaw_WaySays l1 m1 k1 twice1 o1) = (((((way_Take l1 k1 twice1).2.2) == (orangeryref_CheckMail l1)) && ((((way_Take l1 k1 twice1).1).length : Int) == 0)) && (orangeryref_SameMail [((way_Take l1 k1 twice1).2.1)] [(⟨0, 0, 0, 0, 0, 0, 0, (⟨0, 0, 0, 0, 0, 0, 0⟩ : Op), (⟨([] : List Int), ([] : List Place), ([] : List Place)⟩ : View), (⟨([] : List Int), ([] : List Place), ([] : List Int), ([] : List Place)⟩ : Delta)⟩ : Mail)])) := by rw [← hj2]; simp only [orangerylaw_WaySays_J2, hc4, hc5, hc7, hg2, Bool.true_and, Bool.and_true, Bool.false_or, Bool.or_false, Bool.false_and, Bool.and_false, Bool.true_or, Bool.or_true, Bool.not_true, Bool.not_false, cond_true, cond_false]
                refine cw_ret ?_; rw [hr5]; exact Re () (Vt Vn)
              · refine rw_dead .sq (guard_vt rfl rfl rfl) hg2 rfl rfl ?_
                refine rw_qg (guard_vt rfl rfl rfl) rfl rfl (q_dead (v := .bool false) hg2) ?_
                refine rw_dead .sq (guard_vt rfl rfl rfl) hg2 rfl rfl ?_
                refine rw_dead .sq (guard_vt rfl rfl rfl) hg2 rfl rfl ?_
                refine Tx ?_
                have hr6 : (orangerylaw_WaySays l1 m1 k1 twice1 o1) = (((((way_Take l1 k1 twice1).2.2) == (orangeryref_CheckMail l1)) && ((((way_Take l1 k1 twice1).1).length : Int) == 0)) && false) := by rw [← hj2]; simp only [orangerylaw_WaySays_J2, hc4, hc5, hc7, hg2, Bool.true_and, Bool.and_true, Bool.false_or, Bool.or_false, Bool.false_and, Bool.and_false, Bool.true_or, Bool.or_true, Bool.not_true, Bool.not_false, cond_true, cond_false]
                refine cw_ret ?_; rw [hr6]; exact Re () (Vt Vn)
            · have hc7p := eq_of_bne_false hc7
              have h5c := hc7
              have hkb : 0 ≤ k1 ∧ k1 < (l1.length : Int) := by
                have hb := eq_of_bne_false h5c
                rw [hb] at h4c
                simp at h4c
                omega
              refine Tx ?_
              refine rw_exN NMail (X := y1) (l := l1) Mm fun (γ5 : Nat → SlV × SlV × SlV × SlV × SlV × SlV × SlV) => ?_
              refine Cg (slices_Clone_Mail_spec y1 γ5 l1) fun x16 => ?_
              refine Tx ?_
              refine Cd (b := (!twice1)) (fun hc8 => ?_) fun hc8 => ?_
              · refine Tx ?_
                refine rw_q rfl rfl rfl (q_add rfl rfl (fun _ => rfl) rfl (fun _ => rfl) (fun _ => by omega)) ?_
                refine rw_callG (slices_Delete_Mail_int x16.1 x16.2 γ5 l1 k1 (k1 + 1) (by omega) (by omega) (by omega)) .sq (.inl ⟨_, rfl⟩) (guard_none rfl) rfl rfl rfl Kr rfl rfl Sm (.nil _) (by first | exact .cons (.here _ _) (.nil _) | exact .cons (.there _ (.here _ _)) (.nil _) | exact .cons (.there _ (.there _ (.here _ _))) (.nil _) | exact .cons (.there _ (.there _ (.there _ (.here _ _)))) (.nil _)) ?_
                intro _
                refine rw_fact (F := FactsG NMail (appG γ5 (k1).toNat (dropG γ5 ((k1 + 1)).toNat)) (l1.take (k1).toNat ++ l1.drop ((k1 + 1)).toNat)) [FactsG NMail γ5 l1] Sm (fun M w h => FactsG.del NMail _ _ (by omega) (allF1 h)) ?_
                refine Tx ?_
                (repeat refine cw_seq ?_); refine cw_regionA (fun _ => some []) ?_
                refine Rb 0 [] [1,2,3,4,5,6,7,8,9,10,11,12,13,14,15,16,17] rfl Qp ?_
                refine Rb 1 [] [2,3,4,5,6,7,8,9,10,11,12,13,14,15,16,17] rfl Qp ?_
                refine Rb 2 [] [3,4,5,6,7,8,9,10,11,12,13,14,15,16,17] rfl Qp ?_
                refine Gb 3 [5,6,7,8,9] [4,10,11,12,13,14,15,16,17] rfl (guard_vt rfl rfl rfl) (q_ldA rfl rfl Bt rfl Mm rfl) ?_
                refine Gb 5 [4,6,7,8] [9,10,11,12,13,14,15,16,17] rfl (guard_vt rfl rfl rfl) (q_pev rfl Bt) ?_
                refine Gb 6 [4,7,8] [9,10,11,12,13,14,15,16,17] rfl (guard_vt rfl rfl rfl) (q_pev rfl Bt) ?_
                refine Gb 7 [4] [8,9,10,11,12,13,14,15,16,17] rfl (guard_vt rfl rfl rfl) (q_pev rfl Bt) ?_
                refine Gb 8 [4] [9,10,11,12,13,14,15,16,17] rfl (guard_vt rfl rfl rfl) (q_add rfl rfl Bt rfl Bt (by intro h; first | omega | (simp at h; omega))) ?_
                refine Gb 9 [4] [10,11,12,13,14,15,16,17] rfl (guard_vt rfl rfl rfl) (q_cutN NMail k1.toNat ((k1 + 1).toNat) rfl rfl Bt rfl Bt rfl Bt rfl rfl Mm (fun _ => by omega) (fun _ => by omega) (fun _ => by omega) (fun _ => by omega)) ?_
                refine rw_fact (F := RdN NMail (⟨slA y1.a y1.c k1.toNat NMail.E.esz, y1.c - k1.toNat⟩ : SlV) ((l1.drop k1.toNat).take (((k1 + 1).toNat) - k1.toNat))) [RdN NMail y1 l1] Sm (fun M w h => ((allF1 h).drop _ (by omega)).take _) ?_
                refine ra_one 4 Kr ?_
                refine rw_split (.an rfl rfl) (guard_vt rfl rfl rfl) (fun hg3 => ?_) (fun hg3 => ?_)
                · refine rw_bsliceL NMail.E [((x2.2.1, x2.2.2.1, x2.2.2.2.1, x2.2.2.2.2.1, x2.2.2.2.2.2.1, x2.2.2.2.2.2.2.1, x2.2.2.2.2.2.2.2), ((way_Take l1 k1 twice1).2.1))] (.an rfl rfl) (guard_is (guard_vt rfl rfl rfl) hg3) rfl rfl rfl rfl rfl rfl rfl rfl rfl rfl rfl (by first | rfl | assumption | (simp only [hc1, hc4, hc5, hc7, hc8, hg3, Bool.and_true, Bool.true_and, Bool.and_self, Bool.not_false, Bool.not_true]; done) | simp_all) rfl (fillL_one rfl rfl) rfl fun x17 x17b => ?_
                  refine ra_one 10 Kr ?_
                  refine rw_le (le_freezeL NMail.E 80 x17 x17b [((x2.2.1, x2.2.2.1, x2.2.2.2.1, x2.2.2.2.2.1, x2.2.2.2.2.2.1, x2.2.2.2.2.2.2.1, x2.2.2.2.2.2.2.2), ((way_Take l1 k1 twice1).2.1))] Uo) ?_
                  refine rw_fact (F := RdN NMail x17 [((way_Take l1 k1 twice1).2.1)]) [RdL NMail.E x17 [((x2.2.1, x2.2.2.1, x2.2.2.2.1, x2.2.2.2.2.1, x2.2.2.2.2.2.1, x2.2.2.2.2.2.2.1, x2.2.2.2.2.2.2.2), ((way_Take l1 k1 twice1).2.1))], RdL EInt x2.2.1 ((((way_Take l1 k1 twice1).2.1).v).roots), RdL EPlace x2.2.2.1 ((((way_Take l1 k1 twice1).2.1).v).known), RdL EPlace x2.2.2.2.1 ((((way_Take l1 k1 twice1).2.1).v).way), RdL EInt x2.2.2.2.2.1 ((((way_Take l1 k1 twice1).2.1).d).gone), RdL EPlace x2.2.2.2.2.2.1 ((((way_Take l1 k1 twice1).2.1).d).here), RdL EInt x2.2.2.2.2.2.2.1 ((((way_Take l1 k1 twice1).2.1).d).wayGone), RdL EPlace x2.2.2.2.2.2.2.2 ((((way_Take l1 k1 twice1).2.1).d).wayHere)] Sm (fun M w h => RdN.of NMail (hs := [((x2.2.1, x2.2.2.1, x2.2.2.2.1, x2.2.2.2.2.1, x2.2.2.2.2.2.1, x2.2.2.2.2.2.2.1, x2.2.2.2.2.2.2.2), ((way_Take l1 k1 twice1).2.1))]) rfl (h _ (.head _)) (allP_cons (allF_sub Sm h) (fun p hp => by cases hp))) ?_
                  refine rw_call (orangeryref_SameMail_spec x17 [((way_Take l1 k1 twice1).2.1)] (⟨slA y1.a y1.c k1.toNat NMail.E.esz, y1.c - k1.toNat⟩ : SlV) ((l1.drop k1.toNat).take (((k1 + 1).toNat) - k1.toNat))) (.an rfl rfl) (guard_is (guard_vt rfl rfl rfl) hg3) rfl rfl rfl Kr rfl (by first | rfl | assumption | (simp only [hc1, hc4, hc5, hc7, hc8, hg3, Bool.and_true, Bool.true_and, Bool.and_self, Bool.not_false, Bool.not_true]; done) | simp_all) Sm ?_
                  intro _
                  refine Rb 11 [] [12,13,14,15,16,17] rfl (q_pev rfl Bt) ?_
                  refine Ra 12 [] rfl Qp ?_
                  refine Gb 13 [14] [15,16,17] rfl (guard_vt rfl rfl rfl) (q_pev rfl Bt) ?_
                  refine Gb 14 [] [15,16,17] rfl (guard_vt rfl rfl rfl) (q_pev rfl Bt) ?_
                  refine ra_one 15 Kr ?_
                  refine rw_le (le_freezeL NMail.E 80 x16.1 x16.2 (zipG (appG γ5 (k1).toNat (dropG γ5 ((k1 + 1)).toNat)) 0 (l1.take (k1).toNat ++ l1.drop ((k1 + 1)).toNat)) Uo) ?_
                  refine rw_fact (F := RdN NMail x16.1 (l1.take (k1).toNat ++ l1.drop ((k1 + 1)).toNat)) [RdG NMail x16.1 (appG γ5 (k1).toNat (dropG γ5 ((k1 + 1)).toNat)) (l1.take (k1).toNat ++ l1.drop ((k1 + 1)).toNat), FactsG NMail (appG γ5 (k1).toNat (dropG γ5 ((k1 + 1)).toNat)) (l1.take (k1).toNat ++ l1.drop ((k1 + 1)).toNat)] Sm (fun M w h => RdN.ofG NMail (h _ (.head _)) (h _ (.tail _ (.head _)))) ?_
                  refine rw_callg (fun hG_ => orangeryref_SameMail_spec x2.1 ((way_Take l1 k1 twice1).1) x16.1 (l1.take (k1).toNat ++ l1.drop ((k1 + 1)).toNat)) (fun _ => rfl) (.an rfl rfl) (guard_vt rfl rfl rfl) rfl rfl rfl Kr rfl Bt Sm ?_
                  refine Ra 16 [] rfl (q_pev rfl Bt) ?_
                  refine Ra 17 [] rfl Qp ?_
                  refine ra_nil Kr ?_
                  (repeat refine cw_seq ?_)
                  have hr7 : (orangerylaw_WaySays l1 m1 k1 twice1 o1) = (((((way_Take l1 k1 twice1).2.2) == 0) && (orangeryref_SameMail [((way_Take l1 k1 twice1).2.1)] ((l1.drop k1.toNat).take (((k1 + 1).toNat) - k1.toNat)))) && (orangeryref_SameMail ((way_Take l1 k1 twice1).1) (l1.take (k1).toNat ++ l1.drop ((k1 + 1)).toNat))) := by rw [← hj2]; simp only [orangerylaw_WaySays_J2, hc4, hc5, hc7, hc8, hg3, Bool.true_and, Bool.and_true, Bool.false_or, Bool.or_false, Bool.false_and, Bool.and_false, Bool.true_or, Bool.or_true, Bool.not_true, Bool.not_false, cond_true, cond_false]
                  refine cw_ret ?_; rw [hr7]; exact Re () (Vt Vn)
                · refine rw_dead (.an rfl rfl) (guard_vt rfl rfl rfl) hg3 rfl rfl ?_
                  refine ra_one 10 Kr ?_
                  refine rw_dead (.an rfl rfl) (guard_vt rfl rfl rfl) hg3 rfl rfl ?_
                  refine Rb 11 [] [12,13,14,15,16,17] rfl (q_pev rfl Bt) ?_
                  refine Ra 12 [] rfl Qp ?_
                  refine Gb 13 [14] [15,16,17] rfl (guard_vt rfl rfl rfl) (q_dead (v := .bool false) ((by simp only [hg3, Bool.and_false, Bool.false_and, Bool.or_true, Bool.true_or, Bool.or_false, Bool.false_or, Bool.and_true, Bool.true_and, Bool.not_true, Bool.not_false]) : ((((way_Take l1 k1 twice1).2.2) == 0) && false) = false)) ?_
                  refine Gb 14 [] [15,16,17] rfl (guard_vt rfl rfl rfl) (q_dead (v := .bool false) ((by simp only [hg3, Bool.and_false, Bool.false_and, Bool.or_true, Bool.true_or, Bool.or_false, Bool.false_or, Bool.and_true, Bool.true_and, Bool.not_true, Bool.not_false]) : ((((way_Take l1 k1 twice1).2.2) == 0) && false) = false)) ?_
                  refine ra_one 15 Kr ?_
                  refine rw_dead (.an rfl rfl) (guard_vt rfl rfl rfl) ((by simp only [hg3, Bool.and_false, Bool.false_and, Bool.or_true, Bool.true_or, Bool.or_false, Bool.false_or, Bool.and_true, Bool.true_and, Bool.not_true, Bool.not_false]) : ((((way_Take l1 k1 twice1).2.2) == 0) && false) = false) rfl rfl ?_
                  refine Ra 16 [] rfl (q_pev rfl Bt) ?_
                  refine Ra 17 [] rfl Qp ?_
                  refine ra_nil Kr ?_
                  (repeat refine cw_seq ?_)
                  have hr8 : (orangerylaw_WaySays l1 m1 k1 twice1 o1) = (((((way_Take l1 k1 twice1).2.2) == 0) && false) && false) := by rw [← hj2]; simp only [orangerylaw_WaySays_J2, hc4, hc5, hc7, hc8, hg3, Bool.true_and, Bool.and_true, Bool.false_or, Bool.or_false, Bool.false_and, Bool.and_false, Bool.true_or, Bool.or_true, Bool.not_true, Bool.not_false, cond_true, cond_false]
                  refine cw_ret ?_; rw [hr8]; exact Re () (Vt Vn)
              · refine Tx ?_
                (repeat refine cw_seq ?_); refine cw_regionA (fun _ => some []) ?_
                refine Rb 0 [] [1,2,3,4,5,6,7,8,9,10,11,12,13,14,15,16,17] rfl Qp ?_
                refine Rb 1 [] [2,3,4,5,6,7,8,9,10,11,12,13,14,15,16,17] rfl Qp ?_
                refine Rb 2 [] [3,4,5,6,7,8,9,10,11,12,13,14,15,16,17] rfl Qp ?_
                refine Gb 3 [5,6,7,8,9] [4,10,11,12,13,14,15,16,17] rfl (guard_vt rfl rfl rfl) (q_ldA rfl rfl Bt rfl Mm rfl) ?_
                refine Gb 5 [4,6,7,8] [9,10,11,12,13,14,15,16,17] rfl (guard_vt rfl rfl rfl) (q_pev rfl Bt) ?_
                refine Gb 6 [4,7,8] [9,10,11,12,13,14,15,16,17] rfl (guard_vt rfl rfl rfl) (q_pev rfl Bt) ?_
                refine Gb 7 [4] [8,9,10,11,12,13,14,15,16,17] rfl (guard_vt rfl rfl rfl) (q_pev rfl Bt) ?_
                refine Gb 8 [4] [9,10,11,12,13,14,15,16,17] rfl (guard_vt rfl rfl rfl) (q_add rfl rfl Bt rfl Bt (by intro h; first | omega | (simp at h; omega))) ?_
                refine Gb 9 [4] [10,11,12,13,14,15,16,17] rfl (guard_vt rfl rfl rfl) (q_cutN NMail k1.toNat ((k1 + 1).toNat) rfl rfl Bt rfl Bt rfl Bt rfl rfl Mm (fun _ => by omega) (fun _ => by omega) (fun _ => by omega) (fun _ => by omega)) ?_
                refine rw_fact (F := RdN NMail (⟨slA y1.a y1.c k1.toNat NMail.E.esz, y1.c - k1.toNat⟩ : SlV) ((l1.drop k1.toNat).take (((k1 + 1).toNat) - k1.toNat))) [RdN NMail y1 l1] Sm (fun M w h => ((allF1 h).drop _ (by omega)).take _) ?_
                refine ra_one 4 Kr ?_
                refine rw_split (.an rfl rfl) (guard_vt rfl rfl rfl) (fun hg4 => ?_) (fun hg4 => ?_)
                · refine rw_bsliceL NMail.E [((x2.2.1, x2.2.2.1, x2.2.2.2.1, x2.2.2.2.2.1, x2.2.2.2.2.2.1, x2.2.2.2.2.2.2.1, x2.2.2.2.2.2.2.2), ((way_Take l1 k1 twice1).2.1))] (.an rfl rfl) (guard_is (guard_vt rfl rfl rfl) hg4) rfl rfl rfl rfl rfl rfl rfl rfl rfl rfl rfl (by first | rfl | assumption | (simp only [hc1, hc4, hc5, hc7, hc8, hg4, Bool.and_true, Bool.true_and, Bool.and_self, Bool.not_false, Bool.not_true]; done) | simp_all) rfl (fillL_one rfl rfl) rfl fun x18 x18b => ?_
                  refine ra_one 10 Kr ?_
                  refine rw_le (le_freezeL NMail.E 80 x18 x18b [((x2.2.1, x2.2.2.1, x2.2.2.2.1, x2.2.2.2.2.1, x2.2.2.2.2.2.1, x2.2.2.2.2.2.2.1, x2.2.2.2.2.2.2.2), ((way_Take l1 k1 twice1).2.1))] Uo) ?_
                  refine rw_fact (F := RdN NMail x18 [((way_Take l1 k1 twice1).2.1)]) [RdL NMail.E x18 [((x2.2.1, x2.2.2.1, x2.2.2.2.1, x2.2.2.2.2.1, x2.2.2.2.2.2.1, x2.2.2.2.2.2.2.1, x2.2.2.2.2.2.2.2), ((way_Take l1 k1 twice1).2.1))], RdL EInt x2.2.1 ((((way_Take l1 k1 twice1).2.1).v).roots), RdL EPlace x2.2.2.1 ((((way_Take l1 k1 twice1).2.1).v).known), RdL EPlace x2.2.2.2.1 ((((way_Take l1 k1 twice1).2.1).v).way), RdL EInt x2.2.2.2.2.1 ((((way_Take l1 k1 twice1).2.1).d).gone), RdL EPlace x2.2.2.2.2.2.1 ((((way_Take l1 k1 twice1).2.1).d).here), RdL EInt x2.2.2.2.2.2.2.1 ((((way_Take l1 k1 twice1).2.1).d).wayGone), RdL EPlace x2.2.2.2.2.2.2.2 ((((way_Take l1 k1 twice1).2.1).d).wayHere)] Sm (fun M w h => RdN.of NMail (hs := [((x2.2.1, x2.2.2.1, x2.2.2.2.1, x2.2.2.2.2.1, x2.2.2.2.2.2.1, x2.2.2.2.2.2.2.1, x2.2.2.2.2.2.2.2), ((way_Take l1 k1 twice1).2.1))]) rfl (h _ (.head _)) (allP_cons (allF_sub Sm h) (fun p hp => by cases hp))) ?_
                  refine rw_call (orangeryref_SameMail_spec x18 [((way_Take l1 k1 twice1).2.1)] (⟨slA y1.a y1.c k1.toNat NMail.E.esz, y1.c - k1.toNat⟩ : SlV) ((l1.drop k1.toNat).take (((k1 + 1).toNat) - k1.toNat))) (.an rfl rfl) (guard_is (guard_vt rfl rfl rfl) hg4) rfl rfl rfl Kr rfl (by first | rfl | assumption | (simp only [hc1, hc4, hc5, hc7, hc8, hg4, Bool.and_true, Bool.true_and, Bool.and_self, Bool.not_false, Bool.not_true]; done) | simp_all) Sm ?_
                  intro _
                  refine Rb 11 [] [12,13,14,15,16,17] rfl (q_pev rfl Bt) ?_
                  refine Ra 12 [] rfl Qp ?_
                  refine Gb 13 [14] [15,16,17] rfl (guard_vt rfl rfl rfl) (q_pev rfl Bt) ?_
                  refine Gb 14 [] [15,16,17] rfl (guard_vt rfl rfl rfl) (q_pev rfl Bt) ?_
                  refine ra_one 15 Kr ?_
                  refine rw_le (le_freezeL NMail.E 80 x16.1 x16.2 (zipG γ5 0 l1) Uo) ?_
                  refine rw_fact (F := RdN NMail x16.1 l1) [RdG NMail x16.1 γ5 l1, FactsG NMail γ5 l1] Sm (fun M w h => RdN.ofG NMail (h _ (.head _)) (h _ (.tail _ (.head _)))) ?_
                  refine rw_callg (fun hG_ => orangeryref_SameMail_spec x2.1 ((way_Take l1 k1 twice1).1) x16.1 l1) (fun _ => rfl) (.an rfl rfl) (guard_vt rfl rfl rfl) rfl rfl rfl Kr rfl Bt Sm ?_
                  refine Ra 16 [] rfl (q_pev rfl Bt) ?_
                  refine Ra 17 [] rfl Qp ?_
                  refine ra_nil Kr ?_
                  (repeat refine cw_seq ?_)
                  have hr9 : (orangerylaw_WaySays l1 m1 k1 twice1 o1) = (((((way_Take l1 k1 twice1).2.2) == 0) && (orangeryref_SameMail [((way_Take l1 k1 twice1).2.1)] ((l1.drop k1.toNat).take (((k1 + 1).toNat) - k1.toNat)))) && (orangeryref_SameMail ((way_Take l1 k1 twice1).1) l1)) := by rw [← hj2]; simp only [orangerylaw_WaySays_J2, hc4, hc5, hc7, hc8, hg4, Bool.true_and, Bool.and_true, Bool.false_or, Bool.or_false, Bool.false_and, Bool.and_false, Bool.true_or, Bool.or_true, Bool.not_true, Bool.not_false, cond_true, cond_false]
                  refine cw_ret ?_; rw [hr9]; exact Re () (Vt Vn)
                · refine rw_dead (.an rfl rfl) (guard_vt rfl rfl rfl) hg4 rfl rfl ?_
                  refine ra_one 10 Kr ?_
                  refine rw_dead (.an rfl rfl) (guard_vt rfl rfl rfl) hg4 rfl rfl ?_
                  refine Rb 11 [] [12,13,14,15,16,17] rfl (q_pev rfl Bt) ?_
                  refine Ra 12 [] rfl Qp ?_
                  refine Gb 13 [14] [15,16,17] rfl (guard_vt rfl rfl rfl) (q_dead (v := .bool false) ((by simp only [hg4, Bool.and_false, Bool.false_and, Bool.or_true, Bool.true_or, Bool.or_false, Bool.false_or, Bool.and_true, Bool.true_and, Bool.not_true, Bool.not_false]) : ((((way_Take l1 k1 twice1).2.2) == 0) && false) = false)) ?_
                  refine Gb 14 [] [15,16,17] rfl (guard_vt rfl rfl rfl) (q_dead (v := .bool false) ((by simp only [hg4, Bool.and_false, Bool.false_and, Bool.or_true, Bool.true_or, Bool.or_false, Bool.false_or, Bool.and_true, Bool.true_and, Bool.not_true, Bool.not_false]) : ((((way_Take l1 k1 twice1).2.2) == 0) && false) = false)) ?_
                  refine ra_one 15 Kr ?_
                  refine rw_dead (.an rfl rfl) (guard_vt rfl rfl rfl) ((by simp only [hg4, Bool.and_false, Bool.false_and, Bool.or_true, Bool.true_or, Bool.or_false, Bool.false_or, Bool.and_true, Bool.true_and, Bool.not_true, Bool.not_false]) : ((((way_Take l1 k1 twice1).2.2) == 0) && false) = false) rfl rfl ?_
                  refine Ra 16 [] rfl (q_pev rfl Bt) ?_
                  refine Ra 17 [] rfl Qp ?_
                  refine ra_nil Kr ?_
                  (repeat refine cw_seq ?_)
                  have hr10 : (orangerylaw_WaySays l1 m1 k1 twice1 o1) = (((((way_Take l1 k1 twice1).2.2) == 0) && false) && false) := by rw [← hj2]; simp only [orangerylaw_WaySays_J2, hc4, hc5, hc7, hc8, hg4, Bool.true_and, Bool.and_true, Bool.false_or, Bool.or_false, Bool.false_and, Bool.and_false, Bool.true_or, Bool.or_true, Bool.not_true, Bool.not_false, cond_true, cond_false]
                  refine cw_ret ?_; rw [hr10]; exact Re () (Vt Vn)
end Go.Proofs.Ytchdacbjiomplaa
