/- Part of this claim. No condition. -/
import Derived.Test.YtchdacbjiomplaaW52
import Derived.Test.YtchdacbjiomplaaWV
set_option linter.unusedVariables false
set_option linter.unusedSimpArgs false
set_option maxHeartbeats 2000000
namespace Go.Proofs.Ytchdacbjiomplaa
open Go Go.Proofs.Ytchdacbjiomplaa.Fw Go.Proofs
attribute [local irreducible] RdL RdN VarP RW CW
def orangerylaw_WayBack (l1 : List Mail) (m1 : Mail) (k1 : Int) : Bool :=
  (bif ((!orangerylaw_posted) || (((way_Send l1 m1).2) != 0)) then orangerylaw_posted else (bif ((l1.length : Int) == 30) then (way_Same ((way_Send l1 m1).1) l1) else (bif ((((way_Take ((way_Send l1 m1).1) (l1.length : Int) false).2.2) != 0) || (!(way_Same ((way_Take ((way_Send l1 m1).1) (l1.length : Int) false).1) l1))) then false else (bif (((((way_Take ((way_Send l1 m1).1) (l1.length : Int) false).2.2) != 0) || (!(way_Same ((way_Take ((way_Send l1 m1).1) (l1.length : Int) false).1) l1))) || (!(way_Same [((way_Take ((way_Send l1 m1).1) (l1.length : Int) false).2.1)] [m1]))) then false else (bif ((((way_Take ((way_Send l1 m1).1) (orangerylaw_at k1 (((way_Send l1 m1).1).length : Int)) true).2.2) == 0) && (way_Same ((way_Take ((way_Send l1 m1).1) (orangerylaw_at k1 (((way_Send l1 m1).1).length : Int)) true).1) ((way_Send l1 m1).1))) then (((((way_Take ((way_Send l1 m1).1) (orangerylaw_at k1 (((way_Send l1 m1).1).length : Int)) true).2.2) == 0) && (way_Same ((way_Take ((way_Send l1 m1).1) (orangerylaw_at k1 (((way_Send l1 m1).1).length : Int)) true).1) ((way_Send l1 m1).1))) && (way_Same [((way_Take ((way_Send l1 m1).1) (orangerylaw_at k1 (((way_Send l1 m1).1).length : Int)) true).2.1)] ((((way_Send l1 m1).1).drop ((orangerylaw_at k1 (((way_Send l1 m1).1).length : Int)).toNat)).take ((((orangerylaw_at k1 (((way_Send l1 m1).1).length : Int)) + 1).toNat) - ((orangerylaw_at k1 (((way_Send l1 m1).1).length : Int)).toNat))))) else (((((way_Take ((way_Send l1 m1).1) (orangerylaw_at k1 (((way_Send l1 m1).1).length : Int)) true).2.2) == 0) && (way_Same ((way_Take ((way_Send l1 m1).1) (orangerylaw_at k1 (((way_Send l1 m1).1).length : Int)) true).1) ((way_Send l1 m1).1))) && false))))))
theorem orangerylaw_WayBack_spec (y1 : SlV) (l1 : List Mail) (y2 : SlV) (y3 : SlV) (y4 : SlV) (y5 : SlV) (y6 : SlV) (y7 : SlV) (y8 : SlV) (m1 : Mail) (k1 : Int) : Does Try.prog 12 [y1.val l1.length, .agg ⟨[.int .i64 m1.kind, .int .i64 m1.who, .int .i64 m1.life, .int .i64 m1.seq, .int .i64 m1.time, .int .i64 m1.version, .int .i64 m1.frm, .int .i64 m1.o.time, .int .i64 m1.o.who, .int .i64 m1.o.node, .int .i64 m1.o.parent, .int .i64 m1.o.name, .int .i64 m1.o.life, .int .i64 m1.o.seq, y2.val m1.v.roots.length, y3.val m1.v.known.length, y4.val m1.v.way.length, y5.val m1.d.gone.length, y6.val m1.d.here.length, y7.val m1.d.wayGone.length, y8.val m1.d.wayHere.length]⟩, .int .i64 k1] [RdN NMail y1 l1, RdL EInt y2 m1.v.roots, RdL EPlace y3 m1.v.known, RdL EPlace y4 m1.v.way, RdL EInt y5 m1.d.gone, RdL EPlace y6 m1.d.here, RdL EInt y7 m1.d.wayGone, RdL EPlace y8 m1.d.wayHere] (fun (_ : Unit) => .bool (orangerylaw_WayBack l1 m1 k1)) (fun (_ : Unit) => []) := by
  refine does_of tab_ok Try.func12 rfl Try.ntmps12 Try.results12 rfl inferInstance (fun _ => inferInstance) fun C => ?_
  refine Pn NMail y1 l1 280 fun hlen1 => ?_
  refine Pc EInt y2 m1.v.roots 8 fun hlen2 => ?_
  refine Pc EPlace y3 m1.v.known 24 fun hlen3 => ?_
  refine Pc EPlace y4 m1.v.way 24 fun hlen4 => ?_
  refine Pc EInt y5 m1.d.gone 8 fun hlen5 => ?_
  refine Pc EPlace y6 m1.d.here 24 fun hlen6 => ?_
  refine Pc EInt y7 m1.d.wayGone 8 fun hlen7 => ?_
  refine Pc EPlace y8 m1.d.wayHere 24 fun hlen8 => ?_
  refine Tx ?_
  refine Bx fun g1 => ?_
  refine Tx ?_
  refine Cl (way_Send_spec y1 l1 y2 y3 y4 y5 y6 y7 y8 m1) fun x1 => ?_
  refine Pm NMail x1 ((way_Send l1 m1).1) 280 fun hlen9 => ?_
  refine Tx ?_
  refine Cl (orangerylaw_posted_spec ) fun _ => ?_
  refine Tx ?_
  refine Cd (b := ((!orangerylaw_posted) || (((way_Send l1 m1).2) != 0))) (fun hc1 => ?_) fun hc1 => ?_
  · refine Tx ?_
    refine Cl (orangerylaw_posted_spec ) fun _ => ?_
    refine Tx ?_
    have hr1 : (orangerylaw_WayBack l1 m1 k1) = orangerylaw_posted := by simp only [orangerylaw_WayBack, hc1, Bool.true_and, Bool.and_true, Bool.false_or, Bool.or_false, Bool.false_and, Bool.and_false, Bool.true_or, Bool.or_true, Bool.not_true, Bool.not_false, cond_true, cond_false]
    refine cw_ret ?_; rw [hr1]; exact Re () (Vt Vn)
  · refine Tx ?_
    refine Cd (b := ((l1.length : Int) == 30)) (fun hc2 => ?_) fun hc2 => ?_
    · have hc2p := eq_of_beq hc2
      refine Tx ?_
      refine Cl (way_Same_spec x1 ((way_Send l1 m1).1) y1 l1) fun _ => ?_
      refine Tx ?_
      have hr2 : (orangerylaw_WayBack l1 m1 k1) = (way_Same ((way_Send l1 m1).1) l1) := by simp only [orangerylaw_WayBack, hc1, hc2, Bool.true_and, Bool.and_true, Bool.false_or, Bool.or_false, Bool.false_and, Bool.and_false, Bool.true_or, Bool.or_true, Bool.not_true, Bool.not_false, cond_true, cond_false]
      refine cw_ret ?_; rw [hr2]; exact Re () (Vt Vn)
    · have hc2p := ne_of_beq_false hc2
      refine Tx ?_
      refine Cl (way_Take_spec x1 ((way_Send l1 m1).1) (l1.length : Int) false) fun x2 => ?_
      refine Pm NMail x2.1 ((way_Take ((way_Send l1 m1).1) (l1.length : Int) false).1) 280 fun hlen10 => ?_
      refine Pr EInt x2.2.1 ((((way_Take ((way_Send l1 m1).1) (l1.length : Int) false).2.1).v).roots) 8 fun hlen11 => ?_
      refine Pr EPlace x2.2.2.1 ((((way_Take ((way_Send l1 m1).1) (l1.length : Int) false).2.1).v).known) 24 fun hlen12 => ?_
      refine Pr EPlace x2.2.2.2.1 ((((way_Take ((way_Send l1 m1).1) (l1.length : Int) false).2.1).v).way) 24 fun hlen13 => ?_
      refine Pr EInt x2.2.2.2.2.1 ((((way_Take ((way_Send l1 m1).1) (l1.length : Int) false).2.1).d).gone) 8 fun hlen14 => ?_
      refine Pr EPlace x2.2.2.2.2.2.1 ((((way_Take ((way_Send l1 m1).1) (l1.length : Int) false).2.1).d).here) 24 fun hlen15 => ?_
      refine Pr EInt x2.2.2.2.2.2.2.1 ((((way_Take ((way_Send l1 m1).1) (l1.length : Int) false).2.1).d).wayGone) 8 fun hlen16 => ?_
      refine Pr EPlace x2.2.2.2.2.2.2.2 ((((way_Take ((way_Send l1 m1).1) (l1.length : Int) false).2.1).d).wayHere) 24 fun hlen17 => ?_
      refine Tx ?_
      refine Al fun g2 => ?_
      refine Tx ?_
      refine rw_callg (fun hG_ => way_Same_spec x2.1 ((way_Take ((way_Send l1 m1).1) (l1.length : Int) false).1) y1 l1) (fun _ => rfl) .sq (guard_vf rfl rfl rfl) rfl rfl rfl Kr rfl Bt Sm ?_
      refine Tx ?_
      refine rw_split .sq (guard_vf rfl rfl rfl) (fun hg1 => ?_) (fun hg1 => ?_)
      · have hg1n : ((((way_Take ((way_Send l1 m1).1) (l1.length : Int) false).2.2) != 0) || (!(way_Same ((way_Take ((way_Send l1 m1).1) (l1.length : Int) false).1) l1))) = false := not_is hg1
        refine rw_bsliceL NMail.E [((x2.2.1, x2.2.2.1, x2.2.2.2.1, x2.2.2.2.2.1, x2.2.2.2.2.2.1, x2.2.2.2.2.2.2.1, x2.2.2.2.2.2.2.2), ((way_Take ((way_Send l1 m1).1) (l1.length : Int) false).2.1))] .sq (guard_is (guard_vf rfl rfl rfl) hg1) rfl rfl rfl rfl rfl rfl rfl rfl rfl rfl rfl (by first | rfl | assumption | (simp only [hc1, hc2, hg1n, Bool.and_true, Bool.true_and, Bool.and_self, Bool.not_false, Bool.not_true]; done) | simp_all) rfl (fillL_one rfl rfl) rfl fun x3 x3b => ?_
        refine Tx ?_
        refine rw_bsliceL NMail.E [((y2, y3, y4, y5, y6, y7, y8), m1)] .sq (guard_is (guard_vf rfl rfl rfl) (by rw [hg1n]; rfl)) rfl rfl rfl rfl rfl rfl rfl rfl rfl rfl rfl (by first | rfl | assumption | (simp only [hc1, hc2, hg1n, Bool.and_true, Bool.true_and, Bool.and_self, Bool.not_false, Bool.not_true]; done) | simp_all) rfl (fillL_one rfl rfl) rfl fun x4 x4b => ?_
        refine rw_le (le_freezeL NMail.E 80 x3 x3b [((x2.2.1, x2.2.2.1, x2.2.2.2.1, x2.2.2.2.2.1, x2.2.2.2.2.2.1, x2.2.2.2.2.2.2.1, x2.2.2.2.2.2.2.2), ((way_Take ((way_Send l1 m1).1) (l1.length : Int) false).2.1))] Uo) ?_
        refine rw_fact (F := RdN NMail x3 [((way_Take ((way_Send l1 m1).1) (l1.length : Int) false).2.1)]) [RdL NMail.E x3 [((x2.2.1, x2.2.2.1, x2.2.2.2.1, x2.2.2.2.2.1, x2.2.2.2.2.2.1, x2.2.2.2.2.2.2.1, x2.2.2.2.2.2.2.2), ((way_Take ((way_Send l1 m1).1) (l1.length : Int) false).2.1))], RdL EInt x2.2.1 ((((way_Take ((way_Send l1 m1).1) (l1.length : Int) false).2.1).v).roots), RdL EPlace x2.2.2.1 ((((way_Take ((way_Send l1 m1).1) (l1.length : Int) false).2.1).v).known), RdL EPlace x2.2.2.2.1 ((((way_Take ((way_Send l1 m1).1) (l1.length : Int) false).2.1).v).way), RdL EInt x2.2.2.2.2.1 ((((way_Take ((way_Send l1 m1).1) (l1.length : Int) false).2.1).d).gone), RdL EPlace x2.2.2.2.2.2.1 ((((way_Take ((way_Send l1 m1).1) (l1.length : Int) false).2.1).d).here), RdL EInt x2.2.2.2.2.2.2.1 ((((way_Take ((way_Send l1 m1).1) (l1.length : Int) false).2.1).d).wayGone), RdL EPlace x2.2.2.2.2.2.2.2 ((((way_Take ((way_Send l1 m1).1) (l1.length : Int) false).2.1).d).wayHere)] Sm (fun M w h => RdN.of NMail (hs := [((x2.2.1, x2.2.2.1, x2.2.2.2.1, x2.2.2.2.2.1, x2.2.2.2.2.2.1, x2.2.2.2.2.2.2.1, x2.2.2.2.2.2.2.2), ((way_Take ((way_Send l1 m1).1) (l1.length : Int) false).2.1))]) rfl (h _ (.head _)) (allP_cons (allF_sub Sm h) (fun p hp => by cases hp))) ?_
        refine rw_le (le_freezeL NMail.E 80 x4 x4b [((y2, y3, y4, y5, y6, y7, y8), m1)] Uo) ?_
        refine rw_fact (F := RdN NMail x4 [m1]) [RdL NMail.E x4 [((y2, y3, y4, y5, y6, y7, y8), m1)], RdL EInt y2 m1.v.roots, RdL EPlace y3 m1.v.known, RdL EPlace y4 m1.v.way, RdL EInt y5 m1.d.gone, RdL EPlace y6 m1.d.here, RdL EInt y7 m1.d.wayGone, RdL EPlace y8 m1.d.wayHere] Sm (fun M w h => RdN.of NMail (hs := [((y2, y3, y4, y5, y6, y7, y8), m1)]) rfl (h _ (.head _)) (allP_cons (allF_sub Sm h) (fun p hp => by cases hp))) ?_
        refine rw_call (way_Same_spec x3 [((way_Take ((way_Send l1 m1).1) (l1.length : Int) false).2.1)] x4 [m1]) .sq (guard_is (guard_vf rfl rfl rfl) (by rw [hg1n]; rfl)) rfl rfl rfl Kr rfl rfl Sm ?_
        intro _
        refine Tx ?_
        refine Cd (b := (((((way_Take ((way_Send l1 m1).1) (l1.length : Int) false).2.2) != 0) || (!(way_Same ((way_Take ((way_Send l1 m1).1) (l1.length : Int) false).1) l1))) || (!(way_Same [((way_Take ((way_Send l1 m1).1) (l1.length : Int) false).2.1)] [m1])))) (fun hc3 => ?_) fun hc3 => ?_
        · try simp only [hg1n, Bool.true_and, Bool.and_true, Bool.false_or, Bool.or_false, Bool.false_and, Bool.and_false, Bool.true_or, Bool.or_true, Bool.not_true, Bool.not_false] at hc3
          refine Tx ?_
          have hr3 : (orangerylaw_WayBack l1 m1 k1) = false := by simp only [orangerylaw_WayBack, hc1, hc2, hg1n, hc3, Bool.true_and, Bool.and_true, Bool.false_or, Bool.or_false, Bool.false_and, Bool.and_false, Bool.true_or, Bool.or_true, Bool.not_true, Bool.not_false, cond_true, cond_false]
          refine cw_ret ?_; rw [hr3]; exact Re () (Vt Vn)
        · try simp only [hg1n, Bool.true_and, Bool.and_true, Bool.false_or, Bool.or_false, Bool.false_and, Bool.and_false, Bool.true_or, Bool.or_true, Bool.not_true, Bool.not_false] at hc3
          have htl := way_Take_lt (eq_of_bne_false (Bool.or_eq_false_iff.1 hg1n).1)
          refine Tx ?_
          refine Cl (orangerylaw_at_spec k1 (((way_Send l1 m1).1).length : Int) (by omega)) fun _ => ?_
          have hat := at_in (k := k1) (n := ((way_Send l1 m1).1.length : Int)) (by omega)
          refine Tx ?_
          refine Cl (way_Take_spec x1 ((way_Send l1 m1).1) (orangerylaw_at k1 (((way_Send l1 m1).1).length : Int)) true) fun x5 => ?_
          refine Pm NMail x5.1 ((way_Take ((way_Send l1 m1).1) (orangerylaw_at k1 (((way_Send l1 m1).1).length : Int)) true).1) 280 fun hlen18 => ?_
          refine Pr EInt x5.2.1 ((((way_Take ((way_Send l1 m1).1) (orangerylaw_at k1 (((way_Send l1 m1).1).length : Int)) true).2.1).v).roots) 8 fun hlen19 => ?_
          refine Pr EPlace x5.2.2.1 ((((way_Take ((way_Send l1 m1).1) (orangerylaw_at k1 (((way_Send l1 m1).1).length : Int)) true).2.1).v).known) 24 fun hlen20 => ?_
          refine Pr EPlace x5.2.2.2.1 ((((way_Take ((way_Send l1 m1).1) (orangerylaw_at k1 (((way_Send l1 m1).1).length : Int)) true).2.1).v).way) 24 fun hlen21 => ?_
          refine Pr EInt x5.2.2.2.2.1 ((((way_Take ((way_Send l1 m1).1) (orangerylaw_at k1 (((way_Send l1 m1).1).length : Int)) true).2.1).d).gone) 8 fun hlen22 => ?_
          refine Pr EPlace x5.2.2.2.2.2.1 ((((way_Take ((way_Send l1 m1).1) (orangerylaw_at k1 (((way_Send l1 m1).1).length : Int)) true).2.1).d).here) 24 fun hlen23 => ?_
          refine Pr EInt x5.2.2.2.2.2.2.1 ((((way_Take ((way_Send l1 m1).1) (orangerylaw_at k1 (((way_Send l1 m1).1).length : Int)) true).2.1).d).wayGone) 8 fun hlen24 => ?_
          refine Pr EPlace x5.2.2.2.2.2.2.2 ((((way_Take ((way_Send l1 m1).1) (orangerylaw_at k1 (((way_Send l1 m1).1).length : Int)) true).2.1).d).wayHere) 24 fun hlen25 => ?_
          refine Tx ?_
          refine Al fun g3 => ?_
          refine Tx ?_
          (repeat refine cw_seq ?_); refine cw_regionA (fun _ => some []) ?_
          refine Rb 0 [] [1,2,3,4,5,6,7,8,9,10,11,12,13,14,15,16,17] rfl Qp ?_
          refine Rb 1 [] [2,3,4,5,6,7,8,9,10,11,12,13,14,15,16,17] rfl Qp ?_
          refine Rb 2 [] [3,4,5,6,7,8,9,10,11,12,13,14,15,16,17] rfl Qp ?_
          refine Gb 3 [4] [5,6,7,8,9,10,11,12,13,14,15,16,17] rfl (guard_vt rfl rfl rfl) (q_pev rfl Bt) ?_
          refine Gb 4 [] [5,6,7,8,9,10,11,12,13,14,15,16,17] rfl (guard_vt rfl rfl rfl) (q_pev rfl Bt) ?_
          refine ra_one 5 Kr ?_
          refine rw_callg (fun hG_ => way_Same_spec x5.1 ((way_Take ((way_Send l1 m1).1) (orangerylaw_at k1 (((way_Send l1 m1).1).length : Int)) true).1) x1 ((way_Send l1 m1).1)) (fun _ => rfl) (.an rfl rfl) (guard_vt rfl rfl rfl) rfl rfl rfl Kr rfl Bt Sm ?_
          refine Rb 6 [] [7,8,9,10,11,12,13,14,15,16,17] rfl (q_pev rfl Bt) ?_
          refine Ra 7 [] rfl Qp ?_
          refine Gb 8 [10,11,12,13,14] [9,15,16,17] rfl (guard_vt rfl rfl rfl) (q_ldA rfl rfl Bt rfl Mm rfl) ?_
          refine Gb 10 [9,11,12,13] [14,15,16,17] rfl (guard_vt rfl rfl rfl) (q_pev rfl Bt) ?_
          refine Gb 11 [9,12,13] [14,15,16,17] rfl (guard_vt rfl rfl rfl) (q_pev rfl Bt) ?_
          refine Gb 12 [9] [13,14,15,16,17] rfl (guard_vt rfl rfl rfl) (q_pev rfl Bt) ?_
          refine Gb 13 [9] [14,15,16,17] rfl (guard_vt rfl rfl rfl) (q_add rfl rfl Bt rfl Bt (by intro h; first | omega | (simp at h; omega))) ?_
          refine Gb 14 [9] [15,16,17] rfl (guard_vt rfl rfl rfl) (q_cutN NMail ((orangerylaw_at k1 (((way_Send l1 m1).1).length : Int)).toNat) (((orangerylaw_at k1 (((way_Send l1 m1).1).length : Int)) + 1).toNat) rfl rfl Bt rfl Bt rfl Bt rfl rfl Mm (fun _ => by omega) (fun _ => by omega) (fun _ => by omega) (fun _ => by omega)) ?_
          refine rw_fact (F := RdN NMail (⟨slA x1.a x1.c ((orangerylaw_at k1 (((way_Send l1 m1).1).length : Int)).toNat) NMail.E.esz, x1.c - ((orangerylaw_at k1 (((way_Send l1 m1).1).length : Int)).toNat)⟩ : SlV) ((((way_Send l1 m1).1).drop ((orangerylaw_at k1 (((way_Send l1 m1).1).length : Int)).toNat)).take ((((orangerylaw_at k1 (((way_Send l1 m1).1).length : Int)) + 1).toNat) - ((orangerylaw_at k1 (((way_Send l1 m1).1).length : Int)).toNat)))) [RdN NMail x1 ((way_Send l1 m1).1)] Sm (fun M w h => ((allF1 h).drop _ (by omega)).take _) ?_
          refine ra_one 9 Kr ?_
          refine rw_split (.an rfl rfl) (guard_vt rfl rfl rfl) (fun hg2 => ?_) (fun hg2 => ?_)
          · refine rw_bsliceL NMail.E [((x5.2.1, x5.2.2.1, x5.2.2.2.1, x5.2.2.2.2.1, x5.2.2.2.2.2.1, x5.2.2.2.2.2.2.1, x5.2.2.2.2.2.2.2), ((way_Take ((way_Send l1 m1).1) (orangerylaw_at k1 (((way_Send l1 m1).1).length : Int)) true).2.1))] (.an rfl rfl) (guard_is (guard_vt rfl rfl rfl) hg2) rfl rfl rfl rfl rfl rfl rfl rfl rfl rfl rfl (by first | rfl | assumption | (simp only [hc1, hc2, hg1n, hc3, hg2, Bool.and_true, Bool.true_and, Bool.and_self, Bool.not_false, Bool.not_true]; done) | simp_all) rfl (fillL_one rfl rfl) rfl fun x6 x6b => ?_
            refine ra_one 15 Kr ?_
            refine rw_le (le_freezeL NMail.E 80 x6 x6b [((x5.2.1, x5.2.2.1, x5.2.2.2.1, x5.2.2.2.2.1, x5.2.2.2.2.2.1, x5.2.2.2.2.2.2.1, x5.2.2.2.2.2.2.2), ((way_Take ((way_Send l1 m1).1) (orangerylaw_at k1 (((way_Send l1 m1).1).length : Int)) true).2.1))] Uo) ?_
            refine rw_fact (F := RdN NMail x6 [((way_Take ((way_Send l1 m1).1) (orangerylaw_at k1 (((way_Send l1 m1).1).length : Int)) true).2.1)]) [RdL NMail.E x6 [((x5.2.1, x5.2.2.1, x5.2.2.2.1, x5.2.2.2.2.1, x5.2.2.2.2.2.1, x5.2.2.2.2.2.2.1, x5.2.2.2.2.2.2.2), ((way_Take ((way_Send l1 m1).1) (orangerylaw_at k1 (((way_Send l1 m1).1).length : Int)) true).2.1))], RdL EInt x5.2.1 ((((way_Take ((way_Send l1 m1).1) (orangerylaw_at k1 (((way_Send l1 m1).1).length : Int)) true).2.1).v).roots), RdL EPlace x5.2.2.1 ((((way_Take ((way_Send l1 m1).1) (orangerylaw_at k1 (((way_Send l1 m1).1).length : Int)) true).2.1).v).known), RdL EPlace x5.2.2.2.1 ((((way_Take ((way_Send l1 m1).1) (orangerylaw_at k1 (((way_Send l1 m1).1).length : Int)) true).2.1).v).way), RdL EInt x5.2.2.2.2.1 ((((way_Take ((way_Send l1 m1).1) (orangerylaw_at k1 (((way_Send l1 m1).1).length : Int)) true).2.1).d).gone), RdL EPlace x5.2.2.2.2.2.1 ((((way_Take ((way_Send l1 m1).1) (orangerylaw_at k1 (((way_Send l1 m1).1).length : Int)) true).2.1).d).here), RdL EInt x5.2.2.2.2.2.2.1 ((((way_Take ((way_Send l1 m1).1) (orangerylaw_at k1 (((way_Send l1 m1).1).length : Int)) true).2.1).d).wayGone), RdL EPlace x5.2.2.2.2.2.2.2 ((((way_Take ((way_Send l1 m1).1) (orangerylaw_at k1 (((way_Send l1 m1).1).length : Int)) true).2.1).d).wayHere)] Sm (fun M w h => RdN.of NMail (hs := [((x5.2.1, x5.2.2.1, x5.2.2.2.1, x5.2.2.2.2.1, x5.2.2.2.2.2.1, x5.2.2.2.2.2.2.1, x5.2.2.2.2.2.2.2), ((way_Take ((way_Send l1 m1).1) (orangerylaw_at k1 (((way_Send l1 m1).1).length : Int)) true).2.1))]) rfl (h _ (.head _)) (allP_cons (allF_sub Sm h) (fun p hp => by cases hp))) ?_
            refine rw_call (way_Same_spec x6 [((way_Take ((way_Send l1 m1).1) (orangerylaw_at k1 (((way_Send l1 m1).1).length : Int)) true).2.1)] (⟨slA x1.a x1.c ((orangerylaw_at k1 (((way_Send l1 m1).1).length : Int)).toNat) NMail.E.esz, x1.c - ((orangerylaw_at k1 (((way_Send l1 m1).1).length : Int)).toNat)⟩ : SlV) ((((way_Send l1 m1).1).drop ((orangerylaw_at k1 (((way_Send l1 m1).1).length : Int)).toNat)).take ((((orangerylaw_at k1 (((way_Send l1 m1).1).length : Int)) + 1).toNat) - ((orangerylaw_at k1 (((way_Send l1 m1).1).length : Int)).toNat)))) (.an rfl rfl) (guard_is (guard_vt rfl rfl rfl) hg2) rfl rfl rfl Kr rfl (by first | rfl | assumption | (simp only [hc1, hc2, hg1n, hc3, hg2, Bool.and_true, Bool.true_and, Bool.and_self, Bool.not_false, Bool.not_true]; done) | simp_all) Sm ?_
            intro _
            refine Ra 16 [] rfl (q_pev rfl Bt) ?_
            refine Ra 17 [] rfl Qp ?_
            refine ra_nil Kr ?_
            (repeat refine cw_seq ?_)
            have hr4 : (orangerylaw_WayBack l1 m1 k1) = (((((way_Take ((way_Send l1 m1).1) (orangerylaw_at k1 (((way_Send l1 m1).1).length : Int)) true).2.2) == 0) && (way_Same ((way_Take ((way_Send l1 m1).1) (orangerylaw_at k1 (((way_Send l1 m1).1).length : Int)) true).1) ((way_Send l1 m1).1))) && (way_Same [((way_Take ((way_Send l1 m1).1) (orangerylaw_at k1 (((way_Send l1 m1).1).length : Int)) true).2.1)] ((((way_Send l1 m1).1).drop ((orangerylaw_at k1 (((way_Send l1 m1).1).length : Int)).toNat)).take ((((orangerylaw_at k1 (((way_Send l1 m1).1).length : Int)) + 1).toNat) - ((orangerylaw_at k1 (((way_Send l1 m1).1).length : Int)).toNat))))) := by simp only [orangerylaw_WayBack, hc1, hc2, hg1n, hc3, hg2, Bool.true_and, Bool.and_true, Bool.false_or, Bool.or_false, Bool.false_and, Bool.and_false, Bool.true_or, Bool.or_true, Bool.not_true, Bool.not_false, cond_true, cond_false]
            refine cw_ret ?_; rw [hr4]; exact Re () (Vt Vn)
          · refine rw_dead (.an rfl rfl) (guard_vt rfl rfl rfl) hg2 rfl rfl ?_
            refine ra_one 15 Kr ?_
            refine rw_dead (.an rfl rfl) (guard_vt rfl rfl rfl) hg2 rfl rfl ?_
            refine Ra 16 [] rfl (q_pev rfl Bt) ?_
            refine Ra 17 [] rfl Qp ?_
            refine ra_nil Kr ?_
            (repeat refine cw_seq ?_)
            have hr5 : (orangerylaw_WayBack l1 m1 k1) = (((((way_Take ((way_Send l1 m1).1) (orangerylaw_at k1 (((way_Send l1 m1).1).length : Int)) true).2.2) == 0) && (way_Same ((way_Take ((way_Send l1 m1).1) (orangerylaw_at k1 (((way_Send l1 m1).1).length : Int)) true).1) ((way_Send l1 m1).1))) && false) := by simp only [orangerylaw_WayBack, hc1, hc2, hg1n, hc3, hg2, Bool.true_and, Bool.and_true, Bool.false_or, Bool.or_false, Bool.false_and, Bool.and_false, Bool.true_or, Bool.or_true, Bool.not_true, Bool.not_false, cond_true, cond_false]
            refine cw_ret ?_; rw [hr5]; exact Re () (Vt Vn)
      · have hg1n : ((((way_Take ((way_Send l1 m1).1) (l1.length : Int) false).2.2) != 0) || (!(way_Same ((way_Take ((way_Send l1 m1).1) (l1.length : Int) false).1) l1))) = true := not_is hg1
        refine rw_dead .sq (guard_vf rfl rfl rfl) hg1 rfl rfl ?_
        refine rw_qg (guard_vf rfl rfl rfl) rfl rfl (q_dead (v := .bool false) (by rw [hg1n]; rfl)) ?_
        refine rw_dead .sq (guard_vf rfl rfl rfl) (by rw [hg1n]; rfl) rfl rfl ?_
        refine rw_dead .sq (guard_vf rfl rfl rfl) (by rw [hg1n]; rfl) rfl rfl ?_
        refine rw_qg (guard_vf rfl rfl rfl) rfl rfl (q_dead (v := .bool false) (by rw [hg1n]; rfl)) ?_
        refine Tx ?_
        refine Cd (b := (((((way_Take ((way_Send l1 m1).1) (l1.length : Int) false).2.2) != 0) || (!(way_Same ((way_Take ((way_Send l1 m1).1) (l1.length : Int) false).1) l1))) || false)) (fun hc4 => ?_) fun hc4 => ?_
        · refine Tx ?_
          have hr6 : (orangerylaw_WayBack l1 m1 k1) = false := by simp only [orangerylaw_WayBack, hc1, hc2, hg1n, Bool.true_and, Bool.and_true, Bool.false_or, Bool.or_false, Bool.false_and, Bool.and_false, Bool.true_or, Bool.or_true, Bool.not_true, Bool.not_false, cond_true, cond_false]
          refine cw_ret ?_; rw [hr6]; exact Re () (Vt Vn)
        · exact Bool.noConfusion (hc4.symm.trans ((by simp only [hg1n, Bool.and_false, Bool.false_and, Bool.or_true, Bool.true_or, Bool.or_false, Bool.false_or, Bool.and_true, Bool.true_and, Bool.not_true, Bool.not_false]) : (((((way_Take ((way_Send l1 m1).1) (l1.length : Int) false).2.2) != 0) || (!(way_Same ((way_Take ((way_Send l1 m1).1) (l1.length : Int) false).1) l1))) || false) = true))
end Go.Proofs.Ytchdacbjiomplaa
