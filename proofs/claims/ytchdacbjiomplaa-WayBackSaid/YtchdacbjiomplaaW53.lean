/- Part of this claim. No condition. -/
import Derived.Test.YtchdacbjiomplaaW52
import Derived.Test.YtchdacbjiomplaaW10
set_option linter.unusedVariables false
set_option linter.unusedSimpArgs false
namespace Go.Proofs.Ytchdacbjiomplaa
open Go Go.Proofs.Ytchdacbjiomplaa.Fw Go.Proofs
attribute [local irreducible] RdL RdN VarP
def orangerylaw_WayBack (l1 : List Mail) (m1 : Mail) (k1 : Int) : Bool :=
  (bif ((!orangerylaw_posted) || (((way_Send l1 m1).2) != 0)) then orangerylaw_posted else (bif ((l1.length : Int) == 30) then (way_Same ((way_Send l1 m1).1) l1) else (bif ((((way_Take ((way_Send l1 m1).1) (l1.length : Int) false).2.2) != 0) || (!(way_Same ((way_Take ((way_Send l1 m1).1) (l1.length : Int) false).1) l1))) then false else (bif (((((way_Take ((way_Send l1 m1).1) (l1.length : Int) false).2.2) != 0) || (!(way_Same ((way_Take ((way_Send l1 m1).1) (l1.length : Int) false).1) l1))) || (!(way_Same [((way_Take ((way_Send l1 m1).1) (l1.length : Int) false).2.1)] [m1]))) then false else (bif ((((way_Take ((way_Send l1 m1).1) (orangerylaw_at k1 (((way_Send l1 m1).1).length : Int)) true).2.2) == 0) && (way_Same ((way_Take ((way_Send l1 m1).1) (orangerylaw_at k1 (((way_Send l1 m1).1).length : Int)) true).1) ((way_Send l1 m1).1))) then (((((way_Take ((way_Send l1 m1).1) (orangerylaw_at k1 (((way_Send l1 m1).1).length : Int)) true).2.2) == 0) && (way_Same ((way_Take ((way_Send l1 m1).1) (orangerylaw_at k1 (((way_Send l1 m1).1).length : Int)) true).1) ((way_Send l1 m1).1))) && (way_Same [((way_Take ((way_Send l1 m1).1) (orangerylaw_at k1 (((way_Send l1 m1).1).length : Int)) true).2.1)] ((((way_Send l1 m1).1).drop ((orangerylaw_at k1 (((way_Send l1 m1).1).length : Int)).toNat)).take ((((orangerylaw_at k1 (((way_Send l1 m1).1).length : Int)) + 1).toNat) - ((orangerylaw_at k1 (((way_Send l1 m1).1).length : Int)).toNat))))) else (((((way_Take ((way_Send l1 m1).1) (orangerylaw_at k1 (((way_Send l1 m1).1).length : Int)) true).2.2) == 0) && (way_Same ((way_Take ((way_Send l1 m1).1) (orangerylaw_at k1 (((way_Send l1 m1).1).length : Int)) true).1) ((way_Send l1 m1).1))) && false))))))
theorem orangerylaw_WayBack_spec (y1 : SlV) (l1 : List Mail) (y2 : SlV) (y3 : SlV) (y4 : SlV) (y5 : SlV) (y6 : SlV) (y7 : SlV) (y8 : SlV) (m1 : Mail) (k1 : Int) : Does Try.prog 12 [y1.val l1.length, .agg ⟨[.int .i64 m1.kind, .int .i64 m1.who, .int .i64 m1.life, .int .i64 m1.seq, .int .i64 m1.time, .int .i64 m1.version, .int .i64 m1.frm, .int .i64 m1.o.time, .int .i64 m1.o.who, .int .i64 m1.o.node, .int .i64 m1.o.parent, .int .i64 m1.o.name, .int .i64 m1.o.life, .int .i64 m1.o.seq, y2.val m1.v.roots.length, y3.val m1.v.known.length, y4.val m1.v.way.length, y5.val m1.d.gone.length, y6.val m1.d.here.length, y7.val m1.d.wayGone.length, y8.val m1.d.wayHere.length]⟩, .int .i64 k1] [RdN NMail y1 l1, RdL EInt y2 m1.v.roots, RdL EPlace y3 m1.v.known, RdL EPlace y4 m1.v.way, RdL EInt y5 m1.d.gone, RdL EPlace y6 m1.d.here, RdL EInt y7 m1.d.wayGone, RdL EPlace y8 m1.d.wayHere] (fun (_ : Unit) => .bool (orangerylaw_WayBack l1 m1 k1)) (fun (_ : Unit) => []) := by
  refine does_of tab_ok Try.func12 rfl Try.ntmps12 Try.results12 rfl inferInstance (fun _ => inferInstance) fun C => ?_
  refine cw_pure (φ := l1.length * 280 ≤ 140737488355328) [RdN NMail y1 l1] Sm (fun M w h => (allF1 h).len) fun hlen1 => ?_
  refine cw_pure (φ := m1.v.roots.length * 8 ≤ 140737488355328) [RdL EInt y2 m1.v.roots] Sm (fun M w h => (allF1 h).len) fun hlen2 => ?_
  refine cw_pure (φ := m1.v.known.length * 24 ≤ 140737488355328) [RdL EPlace y3 m1.v.known] Sm (fun M w h => (allF1 h).len) fun hlen3 => ?_
  refine cw_pure (φ := m1.v.way.length * 24 ≤ 140737488355328) [RdL EPlace y4 m1.v.way] Sm (fun M w h => (allF1 h).len) fun hlen4 => ?_
  refine cw_pure (φ := m1.d.gone.length * 8 ≤ 140737488355328) [RdL EInt y5 m1.d.gone] Sm (fun M w h => (allF1 h).len) fun hlen5 => ?_
  refine cw_pure (φ := m1.d.here.length * 24 ≤ 140737488355328) [RdL EPlace y6 m1.d.here] Sm (fun M w h => (allF1 h).len) fun hlen6 => ?_
  refine cw_pure (φ := m1.d.wayGone.length * 8 ≤ 140737488355328) [RdL EInt y7 m1.d.wayGone] Sm (fun M w h => (allF1 h).len) fun hlen7 => ?_
  refine cw_pure (φ := m1.d.wayHere.length * 24 ≤ 140737488355328) [RdL EPlace y8 m1.d.wayHere] Sm (fun M w h => (allF1 h).len) fun hlen8 => ?_
  (repeat refine cw_seq ?_); refine cw_region ?_
  refine rw_box_agg .sq (guard_none rfl) rfl rfl rfl rfl rfl fun g1 => ?_
  refine Rp rfl rfl rfl rfl ?_
  refine rw_nil ?_
  (repeat refine cw_seq ?_); refine cw_region ?_
  refine Rp rfl rfl rfl rfl ?_
  refine rw_q rfl rfl rfl (q_ldA rfl rfl (fun _ => rfl) rfl Mm rfl) ?_
  refine rw_call (way_Send_spec y1 l1 y2 y3 y4 y5 y6 y7 y8 m1) .sq (guard_none rfl) rfl rfl rfl Kr rfl rfl Sm ?_
  intro x1
  refine rw_pure (φ := ((way_Send l1 m1).1).length * 280 ≤ 140737488355328) [RdN NMail x1 ((way_Send l1 m1).1)] Sm (fun M w h => (allF1 h).len) fun hlen9 => ?_
  refine Rp rfl rfl rfl rfl ?_
  refine Rp rfl rfl rfl rfl ?_
  refine Rp rfl rfl rfl rfl ?_
  refine Rp rfl rfl rfl rfl ?_
  refine Rp rfl rfl rfl rfl ?_
  refine rw_nil ?_
  (repeat refine cw_seq ?_); refine cw_region ?_
  refine rw_call (orangerylaw_posted_spec ) .sq (guard_none rfl) rfl rfl rfl Kr rfl rfl Sm ?_
  intro _
  refine Rp rfl rfl rfl rfl ?_
  refine Rp rfl rfl rfl rfl ?_
  refine rw_qg (guard_vf rfl rfl rfl) rfl rfl (q_pev rfl Bt) ?_
  refine rw_qg (guard_vf rfl rfl rfl) rfl rfl (q_pev rfl Bt) ?_
  refine rw_q rfl rfl rfl (q_pev rfl Bt) ?_
  refine rw_nil ?_
  (repeat refine cw_seq ?_); refine cw_cond (b := ((!orangerylaw_posted) || (((way_Send l1 m1).2) != 0))) rfl rfl (fun hc1 => ?_) (fun hc1 => ?_)
  · skip
    (repeat refine cw_seq ?_); refine cw_region ?_
    refine rw_call (orangerylaw_posted_spec ) .sq (guard_none rfl) rfl rfl rfl Kr rfl rfl Sm ?_
    intro _
    refine Rp rfl rfl rfl rfl ?_
    refine rw_nil ?_
    (repeat refine cw_seq ?_)
    have hr1 : (orangerylaw_WayBack l1 m1 k1) = orangerylaw_posted := by simp only [orangerylaw_WayBack, hc1, Bool.true_and, Bool.and_true, Bool.false_or, Bool.or_false, Bool.false_and, Bool.and_false, Bool.true_or, Bool.or_true, Bool.not_true, Bool.not_false, cond_true, cond_false]
    refine cw_ret ?_
    rw [hr1]
    exact ⟨(), _, (.cons (.tmp rfl) .nil), rfl, Sm, .nil _, .nil _⟩
  · skip
    (repeat refine cw_seq ?_); refine cw_skip ?_
    (repeat refine cw_seq ?_); refine cw_region ?_
    refine Rp rfl rfl rfl rfl ?_
    refine Rp rfl rfl rfl rfl ?_
    refine Rp rfl rfl rfl rfl ?_
    refine rw_nil ?_
    (repeat refine cw_seq ?_); refine cw_cond (b := ((l1.length : Int) == 30)) rfl rfl (fun hc2 => ?_) (fun hc2 => ?_)
    · skip
      have hc2p := eq_of_beq hc2
      (repeat refine cw_seq ?_); refine cw_region ?_
      refine Rp rfl rfl rfl rfl ?_
      refine Rp rfl rfl rfl rfl ?_
      refine rw_call (way_Same_spec x1 ((way_Send l1 m1).1) y1 l1) .sq (guard_none rfl) rfl rfl rfl Kr rfl rfl Sm ?_
      intro _
      refine Rp rfl rfl rfl rfl ?_
      refine rw_nil ?_
      (repeat refine cw_seq ?_)
      have hr2 : (orangerylaw_WayBack l1 m1 k1) = (way_Same ((way_Send l1 m1).1) l1) := by simp only [orangerylaw_WayBack, hc1, hc2, Bool.true_and, Bool.and_true, Bool.false_or, Bool.or_false, Bool.false_and, Bool.and_false, Bool.true_or, Bool.or_true, Bool.not_true, Bool.not_false, cond_true, cond_false]
      refine cw_ret ?_
      rw [hr2]
      exact ⟨(), _, (.cons (.tmp rfl) .nil), rfl, Sm, .nil _, .nil _⟩
    · skip
      have hc2p := ne_of_beq_false hc2
      (repeat refine cw_seq ?_); refine cw_skip ?_
      (repeat refine cw_seq ?_); refine cw_region ?_
      refine Rp rfl rfl rfl rfl ?_
      refine Rp rfl rfl rfl rfl ?_
      refine Rp rfl rfl rfl rfl ?_
      refine rw_call (way_Take_spec x1 ((way_Send l1 m1).1) (l1.length : Int) false) .sq (guard_none rfl) rfl rfl rfl Kr rfl rfl Sm ?_
      intro x2
      refine rw_pure (φ := ((way_Take ((way_Send l1 m1).1) (l1.length : Int) false).1).length * 280 ≤ 140737488355328) [RdN NMail x2.1 ((way_Take ((way_Send l1 m1).1) (l1.length : Int) false).1)] Sm (fun M w h => (allF1 h).len) fun hlen10 => ?_
      refine rw_pure (φ := ((((way_Take ((way_Send l1 m1).1) (l1.length : Int) false).2.1).v).roots).length * 8 ≤ 140737488355328) [RdL EInt x2.2.1 ((((way_Take ((way_Send l1 m1).1) (l1.length : Int) false).2.1).v).roots)] Sm (fun M w h => (allF1 h).len) fun hlen11 => ?_
      refine rw_pure (φ := ((((way_Take ((way_Send l1 m1).1) (l1.length : Int) false).2.1).v).known).length * 24 ≤ 140737488355328) [RdL EPlace x2.2.2.1 ((((way_Take ((way_Send l1 m1).1) (l1.length : Int) false).2.1).v).known)] Sm (fun M w h => (allF1 h).len) fun hlen12 => ?_
      refine rw_pure (φ := ((((way_Take ((way_Send l1 m1).1) (l1.length : Int) false).2.1).v).way).length * 24 ≤ 140737488355328) [RdL EPlace x2.2.2.2.1 ((((way_Take ((way_Send l1 m1).1) (l1.length : Int) false).2.1).v).way)] Sm (fun M w h => (allF1 h).len) fun hlen13 => ?_
      refine rw_pure (φ := ((((way_Take ((way_Send l1 m1).1) (l1.length : Int) false).2.1).d).gone).length * 8 ≤ 140737488355328) [RdL EInt x2.2.2.2.2.1 ((((way_Take ((way_Send l1 m1).1) (l1.length : Int) false).2.1).d).gone)] Sm (fun M w h => (allF1 h).len) fun hlen14 => ?_
      refine rw_pure (φ := ((((way_Take ((way_Send l1 m1).1) (l1.length : Int) false).2.1).d).here).length * 24 ≤ 140737488355328) [RdL EPlace x2.2.2.2.2.2.1 ((((way_Take ((way_Send l1 m1).1) (l1.length : Int) false).2.1).d).here)] Sm (fun M w h => (allF1 h).len) fun hlen15 => ?_
      refine rw_pure (φ := ((((way_Take ((way_Send l1 m1).1) (l1.length : Int) false).2.1).d).wayGone).length * 8 ≤ 140737488355328) [RdL EInt x2.2.2.2.2.2.2.1 ((((way_Take ((way_Send l1 m1).1) (l1.length : Int) false).2.1).d).wayGone)] Sm (fun M w h => (allF1 h).len) fun hlen16 => ?_
      refine rw_pure (φ := ((((way_Take ((way_Send l1 m1).1) (l1.length : Int) false).2.1).d).wayHere).length * 24 ≤ 140737488355328) [RdL EPlace x2.2.2.2.2.2.2.2 ((((way_Take ((way_Send l1 m1).1) (l1.length : Int) false).2.1).d).wayHere)] Sm (fun M w h => (allF1 h).len) fun hlen17 => ?_
      refine Rp rfl rfl rfl rfl ?_
      refine Rp rfl rfl rfl rfl ?_
      refine Rp rfl rfl rfl rfl ?_
      refine Rp rfl rfl rfl rfl ?_
      refine rw_alloc .sq (guard_none rfl) rfl rfl rfl rfl fun g2 => ?_
      refine Rp rfl rfl rfl rfl ?_
      refine rw_stA .sq (.inl ⟨_, rfl⟩) (guard_none rfl) rfl rfl rfl rfl rfl rfl rfl rfl rfl Ub rfl ?_
      refine Rp rfl rfl rfl rfl ?_
      refine rw_nil ?_
      (repeat refine cw_seq ?_); refine cw_region ?_
      refine Rp rfl rfl rfl rfl ?_
      refine Rp rfl rfl rfl rfl ?_
      refine Rp rfl rfl rfl rfl ?_
      refine rw_qg (guard_vf rfl rfl rfl) rfl rfl (q_pev rfl Bt) ?_
      refine rw_qg (guard_vf rfl rfl rfl) rfl rfl (q_pev rfl Bt) ?_
      refine rw_callg (fun hG_ => way_Same_spec x2.1 ((way_Take ((way_Send l1 m1).1) (l1.length : Int) false).1) y1 l1) (fun _ => rfl) .sq (guard_vf rfl rfl rfl) rfl rfl rfl Kr rfl Bt Sm ?_
      refine rw_qg (guard_vf rfl rfl rfl) rfl rfl (q_pev rfl Bt) ?_
      refine rw_q rfl rfl rfl (q_pev rfl Bt) ?_
      refine Rp rfl rfl rfl rfl ?_
      refine rw_qg (guard_vf rfl rfl rfl) rfl rfl (q_ldA rfl rfl Bt rfl Mm rfl) ?_
      refine rw_split .sq (guard_vf rfl rfl rfl) (fun hg1 => ?_) (fun hg1 => ?_)
      · skip
        have hg1n : ((((way_Take ((way_Send l1 m1).1) (l1.length : Int) false).2.2) != 0) || (!(way_Same ((way_Take ((way_Send l1 m1).1) (l1.length : Int) false).1) l1))) = false := not_is hg1
        refine rw_bsliceL NMail.E [((x2.2.1, x2.2.2.1, x2.2.2.2.1, x2.2.2.2.2.1, x2.2.2.2.2.2.1, x2.2.2.2.2.2.2.1, x2.2.2.2.2.2.2.2), ((way_Take ((way_Send l1 m1).1) (l1.length : Int) false).2.1))] .sq (guard_is (guard_vf rfl rfl rfl) hg1) rfl rfl rfl rfl rfl rfl rfl rfl rfl rfl rfl (by first | rfl | assumption | (simp only [hc1, hc2, hg1n, Bool.and_true, Bool.true_and, Bool.and_self, Bool.not_false, Bool.not_true]; done) | simp_all) rfl (fillL_one rfl rfl) rfl fun x3 x3b => ?_
        refine rw_qg (guard_vf rfl rfl rfl) rfl rfl (q_ldA rfl rfl Bt rfl Mm rfl) ?_
        refine rw_bsliceL NMail.E [((y2, y3, y4, y5, y6, y7, y8), m1)] .sq (guard_is (guard_vf rfl rfl rfl) (by rw [hg1n]; rfl)) rfl rfl rfl rfl rfl rfl rfl rfl rfl rfl rfl (by first | rfl | assumption | (simp only [hc1, hc2, hg1n, Bool.and_true, Bool.true_and, Bool.and_self, Bool.not_false, Bool.not_true]; done) | simp_all) rfl (fillL_one rfl rfl) rfl fun x4 x4b => ?_
        refine rw_le (le_freezeL NMail.E 80 x3 x3b [((x2.2.1, x2.2.2.1, x2.2.2.2.1, x2.2.2.2.2.1, x2.2.2.2.2.2.1, x2.2.2.2.2.2.2.1, x2.2.2.2.2.2.2.2), ((way_Take ((way_Send l1 m1).1) (l1.length : Int) false).2.1))] Uo) ?_
        refine rw_fact (F := RdN NMail x3 [((way_Take ((way_Send l1 m1).1) (l1.length : Int) false).2.1)]) [RdL NMail.E x3 [((x2.2.1, x2.2.2.1, x2.2.2.2.1, x2.2.2.2.2.1, x2.2.2.2.2.2.1, x2.2.2.2.2.2.2.1, x2.2.2.2.2.2.2.2), ((way_Take ((way_Send l1 m1).1) (l1.length : Int) false).2.1))], RdL EInt x2.2.1 ((((way_Take ((way_Send l1 m1).1) (l1.length : Int) false).2.1).v).roots), RdL EPlace x2.2.2.1 ((((way_Take ((way_Send l1 m1).1) (l1.length : Int) false).2.1).v).known), RdL EPlace x2.2.2.2.1 ((((way_Take ((way_Send l1 m1).1) (l1.length : Int) false).2.1).v).way), RdL EInt x2.2.2.2.2.1 ((((way_Take ((way_Send l1 m1).1) (l1.length : Int) false).2.1).d).gone), RdL EPlace x2.2.2.2.2.2.1 ((((way_Take ((way_Send l1 m1).1) (l1.length : Int) false).2.1).d).here), RdL EInt x2.2.2.2.2.2.2.1 ((((way_Take ((way_Send l1 m1).1) (l1.length : Int) false).2.1).d).wayGone), RdL EPlace x2.2.2.2.2.2.2.2 ((((way_Take ((way_Send l1 m1).1) (l1.length : Int) false).2.1).d).wayHere)] Sm (fun M w h => RdN.of NMail (hs := [((x2.2.1, x2.2.2.1, x2.2.2.2.1, x2.2.2.2.2.1, x2.2.2.2.2.2.1, x2.2.2.2.2.2.2.1, x2.2.2.2.2.2.2.2), ((way_Take ((way_Send l1 m1).1) (l1.length : Int) false).2.1))]) rfl (h _ (.head _)) (allP_cons (allF_sub Sm h) (fun p hp => by cases hp))) ?_
        refine rw_le (le_freezeL NMail.E 80 x4 x4b [((y2, y3, y4, y5, y6, y7, y8), m1)] Uo) ?_
        refine rw_fact (F := RdN NMail x4 [m1]) [RdL NMail.E x4 [((y2, y3, y4, y5, y6, y7, y8), m1)], RdL EInt y2 m1.v.roots, RdL EPlace y3 m1.v.known, RdL EPlace y4 m1.v.way, RdL EInt y5 m1.d.gone, RdL EPlace y6 m1.d.here, RdL EInt y7 m1.d.wayGone, RdL EPlace y8 m1.d.wayHere] Sm (fun M w h => RdN.of NMail (hs := [((y2, y3, y4, y5, y6, y7, y8), m1)]) rfl (h _ (.head _)) (allP_cons (allF_sub Sm h) (fun p hp => by cases hp))) ?_
        refine rw_call (way_Same_spec x3 [((way_Take ((way_Send l1 m1).1) (l1.length : Int) false).2.1)] x4 [m1]) .sq (guard_is (guard_vf rfl rfl rfl) (by rw [hg1n]; rfl)) rfl rfl rfl Kr rfl rfl Sm ?_
        intro _
        refine rw_qg (guard_vf rfl rfl rfl) rfl rfl (q_pev rfl Bt) ?_
        refine rw_q rfl rfl rfl (q_pev rfl Bt) ?_
        refine rw_nil ?_
        (repeat refine cw_seq ?_); refine cw_cond (b := (((((way_Take ((way_Send l1 m1).1) (l1.length : Int) false).2.2) != 0) || (!(way_Same ((way_Take ((way_Send l1 m1).1) (l1.length : Int) false).1) l1))) || (!(way_Same [((way_Take ((way_Send l1 m1).1) (l1.length : Int) false).2.1)] [m1])))) rfl rfl (fun hc3 => ?_) (fun hc3 => ?_)
        · skip
          try simp only [hg1n, Bool.true_and, Bool.and_true, Bool.false_or, Bool.or_false, Bool.false_and, Bool.and_false, Bool.true_or, Bool.or_true, Bool.not_true, Bool.not_false] at hc3
          (repeat refine cw_seq ?_); refine cw_region ?_
          refine Rp rfl rfl rfl rfl ?_
          refine rw_nil ?_
          (repeat refine cw_seq ?_)
          have hr3 : (orangerylaw_WayBack l1 m1 k1) = false := by simp only [orangerylaw_WayBack, hc1, hc2, hg1n, hc3, Bool.true_and, Bool.and_true, Bool.false_or, Bool.or_false, Bool.false_and, Bool.and_false, Bool.true_or, Bool.or_true, Bool.not_true, Bool.not_false, cond_true, cond_false]
          refine cw_ret ?_
          rw [hr3]
          exact ⟨(), _, (.cons (.tmp rfl) .nil), rfl, Sm, .nil _, .nil _⟩
        · skip
          try simp only [hg1n, Bool.true_and, Bool.and_true, Bool.false_or, Bool.or_false, Bool.false_and, Bool.and_false, Bool.true_or, Bool.or_true, Bool.not_true, Bool.not_false] at hc3
          have htl := way_Take_lt (eq_of_bne_false (Bool.or_eq_false_iff.1 hg1n).1)
          (repeat refine cw_seq ?_); refine cw_skip ?_
          (repeat refine cw_seq ?_); refine cw_region ?_
          refine Rp rfl rfl rfl rfl ?_
          refine Rp rfl rfl rfl rfl ?_
          refine Rp rfl rfl rfl rfl ?_
          refine rw_call (orangerylaw_at_spec k1 (((way_Send l1 m1).1).length : Int) (by omega)) .sq (guard_none rfl) rfl rfl rfl Kr rfl rfl Sm ?_
          intro _
          have hat := at_in (k := k1) (n := ((way_Send l1 m1).1.length : Int)) (by omega)
          refine Rp rfl rfl rfl rfl ?_
          refine rw_nil ?_
          (repeat refine cw_seq ?_); refine cw_region ?_
          refine Rp rfl rfl rfl rfl ?_
          refine Rp rfl rfl rfl rfl ?_
          refine rw_call (way_Take_spec x1 ((way_Send l1 m1).1) (orangerylaw_at k1 (((way_Send l1 m1).1).length : Int)) true) .sq (guard_none rfl) rfl rfl rfl Kr rfl rfl Sm ?_
          intro x5
          refine rw_pure (φ := ((way_Take ((way_Send l1 m1).1) (orangerylaw_at k1 (((way_Send l1 m1).1).length : Int)) true).1).length * 280 ≤ 140737488355328) [RdN NMail x5.1 ((way_Take ((way_Send l1 m1).1) (orangerylaw_at k1 (((way_Send l1 m1).1).length : Int)) true).1)] Sm (fun M w h => (allF1 h).len) fun hlen18 => ?_
          refine rw_pure (φ := ((((way_Take ((way_Send l1 m1).1) (orangerylaw_at k1 (((way_Send l1 m1).1).length : Int)) true).2.1).v).roots).length * 8 ≤ 140737488355328) [RdL EInt x5.2.1 ((((way_Take ((way_Send l1 m1).1) (orangerylaw_at k1 (((way_Send l1 m1).1).length : Int)) true).2.1).v).roots)] Sm (fun M w h => (allF1 h).len) fun hlen19 => ?_
          refine rw_pure (φ := ((((way_Take ((way_Send l1 m1).1) (orangerylaw_at k1 (((way_Send l1 m1).1).length : Int)) true).2.1).v).known).length * 24 ≤ 140737488355328) [RdL EPlace x5.2.2.1 ((((way_Take ((way_Send l1 m1).1) (orangerylaw_at k1 (((way_Send l1 m1).1).length : Int)) true).2.1).v).known)] Sm (fun M w h => (allF1 h).len) fun hlen20 => ?_
          refine rw_pure (φ := ((((way_Take ((way_Send l1 m1).1) (orangerylaw_at k1 (((way_Send l1 m1).1).length : Int)) true).2.1).v).way).length * 24 ≤ 140737488355328) [RdL EPlace x5.2.2.2.1 ((((way_Take ((way_Send l1 m1).1) (orangerylaw_at k1 (((way_Send l1 m1).1).length : Int)) true).2.1).v).way)] Sm (fun M w h => (allF1 h).len) fun hlen21 => ?_
          refine rw_pure (φ := ((((way_Take ((way_Send l1 m1).1) (orangerylaw_at k1 (((way_Send l1 m1).1).length : Int)) true).2.1).d).gone).length * 8 ≤ 140737488355328) [RdL EInt x5.2.2.2.2.1 ((((way_Take ((way_Send l1 m1).1) (orangerylaw_at k1 (((way_Send l1 m1).1).length : Int)) true).2.1).d).gone)] Sm (fun M w h => (allF1 h).len) fun hlen22 => ?_
          refine rw_pure (φ := ((((way_Take ((way_Send l1 m1).1) (orangerylaw_at k1 (((way_Send l1 m1).1).length : Int)) true).2.1).d).here).length * 24 ≤ 140737488355328) [RdL EPlace x5.2.2.2.2.2.1 ((((way_Take ((way_Send l1 m1).1) (orangerylaw_at k1 (((way_Send l1 m1).1).length : Int)) true).2.1).d).here)] Sm (fun M w h => (allF1 h).len) fun hlen23 => ?_
          refine rw_pure (φ := ((((way_Take ((way_Send l1 m1).1) (orangerylaw_at k1 (((way_Send l1 m1).1).length : Int)) true).2.1).d).wayGone).length * 8 ≤ 140737488355328) [RdL EInt x5.2.2.2.2.2.2.1 ((((way_Take ((way_Send l1 m1).1) (orangerylaw_at k1 (((way_Send l1 m1).1).length : Int)) true).2.1).d).wayGone)] Sm (fun M w h => (allF1 h).len) fun hlen24 => ?_
          refine rw_pure (φ := ((((way_Take ((way_Send l1 m1).1) (orangerylaw_at k1 (((way_Send l1 m1).1).length : Int)) true).2.1).d).wayHere).length * 24 ≤ 140737488355328) [RdL EPlace x5.2.2.2.2.2.2.2 ((((way_Take ((way_Send l1 m1).1) (orangerylaw_at k1 (((way_Send l1 m1).1).length : Int)) true).2.1).d).wayHere)] Sm (fun M w h => (allF1 h).len) fun hlen25 => ?_
          refine Rp rfl rfl rfl rfl ?_
          refine Rp rfl rfl rfl rfl ?_
          refine Rp rfl rfl rfl rfl ?_
          refine Rp rfl rfl rfl rfl ?_
          refine rw_alloc .sq (guard_none rfl) rfl rfl rfl rfl fun g3 => ?_
          refine Rp rfl rfl rfl rfl ?_
          refine rw_stA .sq (.inl ⟨_, rfl⟩) (guard_none rfl) rfl rfl rfl rfl rfl rfl rfl rfl rfl Ub rfl ?_
          refine Rp rfl rfl rfl rfl ?_
          refine rw_nil ?_
          (repeat refine cw_seq ?_); refine cw_regionA (fun _ => some []) ?_
          refine ra_q (.ab (i := 0) (js := []) [1, 2, 3, 4, 5, 6, 7, 8, 9, 10, 11, 12, 13, 14, 15, 16, 17] rfl Kr Kr Kr Kr Kr) (SplitB.all _) (by simp) rfl rfl rfl (q_pev rfl (fun _ => rfl)) ?_
          refine ra_q (.ab (i := 1) (js := []) [2, 3, 4, 5, 6, 7, 8, 9, 10, 11, 12, 13, 14, 15, 16, 17] rfl Kr Kr Kr Kr Kr) (SplitB.all _) (by simp) rfl rfl rfl (q_pev rfl (fun _ => rfl)) ?_
          refine ra_q (.ab (i := 2) (js := []) [3, 4, 5, 6, 7, 8, 9, 10, 11, 12, 13, 14, 15, 16, 17] rfl Kr Kr Kr Kr Kr) (SplitB.all _) (by simp) rfl rfl rfl (q_pev rfl (fun _ => rfl)) ?_
          refine ra_qg (.ab (i := 3) (js := [4]) [5, 6, 7, 8, 9, 10, 11, 12, 13, 14, 15, 16, 17] rfl Kr Kr Kr Kr Kr) (SplitB.all _) (by simp) (guard_vt rfl rfl rfl) rfl rfl (q_pev rfl Bt) ?_
          refine ra_qg (.ab (i := 4) (js := []) [5, 6, 7, 8, 9, 10, 11, 12, 13, 14, 15, 16, 17] rfl Kr Kr Kr Kr Kr) (SplitB.all _) (by simp) (guard_vt rfl rfl rfl) rfl rfl (q_pev rfl Bt) ?_
          refine ra_one 5 Kr ?_
          refine rw_callg (fun hG_ => way_Same_spec x5.1 ((way_Take ((way_Send l1 m1).1) (orangerylaw_at k1 (((way_Send l1 m1).1).length : Int)) true).1) x1 ((way_Send l1 m1).1)) (fun _ => rfl) (.an rfl rfl) (guard_vt rfl rfl rfl) rfl rfl rfl Kr rfl Bt Sm ?_
          refine ra_q (.ab (i := 6) (js := []) [7, 8, 9, 10, 11, 12, 13, 14, 15, 16, 17] rfl Kr Kr Kr Kr Kr) (SplitB.all _) (by simp) rfl rfl rfl (q_pev rfl Bt) ?_
          refine ra_q (.an (i := 7) (js := []) rfl Kr Kr Kr Kr) (SplitB.all _) (by simp) rfl rfl rfl (q_pev rfl (fun _ => rfl)) ?_
          refine ra_qg (.ab (i := 8) (js := [10, 11, 12, 13, 14]) [9, 15, 16, 17] rfl Kr Kr Kr Kr Kr) (SplitB.all _) (by simp) (guard_vt rfl rfl rfl) rfl rfl (q_ldA rfl rfl Bt rfl Mm rfl) ?_
          refine ra_qg (.ab (i := 10) (js := [9, 11, 12, 13]) [14, 15, 16, 17] rfl Kr Kr Kr Kr Kr) (SplitB.all _) (by simp) (guard_vt rfl rfl rfl) rfl rfl (q_pev rfl Bt) ?_
          refine ra_qg (.ab (i := 11) (js := [9, 12, 13]) [14, 15, 16, 17] rfl Kr Kr Kr Kr Kr) (SplitB.all _) (by simp) (guard_vt rfl rfl rfl) rfl rfl (q_pev rfl Bt) ?_
          refine ra_qg (.ab (i := 12) (js := [9]) [13, 14, 15, 16, 17] rfl Kr Kr Kr Kr Kr) (SplitB.all _) (by simp) (guard_vt rfl rfl rfl) rfl rfl (q_pev rfl Bt) ?_
          refine ra_qg (.ab (i := 13) (js := [9]) [14, 15, 16, 17] rfl Kr Kr Kr Kr Kr) (SplitB.all _) (by simp) (guard_vt rfl rfl rfl) rfl rfl (q_add rfl rfl Bt rfl Bt (by intro h; first | omega | (simp at h; omega))) ?_
          refine ra_qg (.ab (i := 14) (js := [9]) [15, 16, 17] rfl Kr Kr Kr Kr Kr) (SplitB.all _) (by simp) (guard_vt rfl rfl rfl) rfl rfl (q_cutN NMail ((orangerylaw_at k1 (((way_Send l1 m1).1).length : Int)).toNat) (((orangerylaw_at k1 (((way_Send l1 m1).1).length : Int)) + 1).toNat) rfl rfl Bt rfl Bt rfl Bt rfl rfl Mm (fun _ => by omega) (fun _ => by omega) (fun _ => by omega) (fun _ => by omega)) ?_
          refine rw_fact (F := RdN NMail (⟨slA x1.a x1.c ((orangerylaw_at k1 (((way_Send l1 m1).1).length : Int)).toNat) NMail.E.esz, x1.c - ((orangerylaw_at k1 (((way_Send l1 m1).1).length : Int)).toNat)⟩ : SlV) ((((way_Send l1 m1).1).drop ((orangerylaw_at k1 (((way_Send l1 m1).1).length : Int)).toNat)).take ((((orangerylaw_at k1 (((way_Send l1 m1).1).length : Int)) + 1).toNat) - ((orangerylaw_at k1 (((way_Send l1 m1).1).length : Int)).toNat)))) [RdN NMail x1 ((way_Send l1 m1).1)] Sm (fun M w h => ((allF1 h).drop _ (by omega)).take _) ?_
          refine ra_one 9 Kr ?_
          refine rw_split (.an rfl rfl) (guard_vt rfl rfl rfl) (fun hg2 => ?_) (fun hg2 => ?_)
          · skip
            refine rw_bsliceL NMail.E [((x5.2.1, x5.2.2.1, x5.2.2.2.1, x5.2.2.2.2.1, x5.2.2.2.2.2.1, x5.2.2.2.2.2.2.1, x5.2.2.2.2.2.2.2), ((way_Take ((way_Send l1 m1).1) (orangerylaw_at k1 (((way_Send l1 m1).1).length : Int)) true).2.1))] (.an rfl rfl) (guard_is (guard_vt rfl rfl rfl) hg2) rfl rfl rfl rfl rfl rfl rfl rfl rfl rfl rfl (by first | rfl | assumption | (simp only [hc1, hc2, hg1n, hc3, hg2, Bool.and_true, Bool.true_and, Bool.and_self, Bool.not_false, Bool.not_true]; done) | simp_all) rfl (fillL_one rfl rfl) rfl fun x6 x6b => ?_
            refine ra_one 15 Kr ?_
            refine rw_le (le_freezeL NMail.E 80 x6 x6b [((x5.2.1, x5.2.2.1, x5.2.2.2.1, x5.2.2.2.2.1, x5.2.2.2.2.2.1, x5.2.2.2.2.2.2.1, x5.2.2.2.2.2.2.2), ((way_Take ((way_Send l1 m1).1) (orangerylaw_at k1 (((way_Send l1 m1).1).length : Int)) true).2.1))] Uo) ?_
            refine rw_fact (F := RdN NMail x6 [((way_Take ((way_Send l1 m1).1) (orangerylaw_at k1 (((way_Send l1 m1).1).length : Int)) true).2.1)]) [RdL NMail.E x6 [((x5.2.1, x5.2.2.1, x5.2.2.2.1, x5.2.2.2.2.1, x5.2.2.2.2.2.1, x5.2.2.2.2.2.2.1, x5.2.2.2.2.2.2.2), ((way_Take ((way_Send l1 m1).1) (orangerylaw_at k1 (((way_Send l1 m1).1).length : Int)) true).2.1))], RdL EInt x5.2.1 ((((way_Take ((way_Send l1 m1).1) (orangerylaw_at k1 (((way_Send l1 m1).1).length : Int)) true).2.1).v).roots), RdL EPlace x5.2.2.1 ((((way_Take ((way_Send l1 m1).1) (orangerylaw_at k1 (((way_Send l1 m1).1).length : Int)) true).2.1).v).known), RdL EPlace x5.2.2.2.1 ((((way_Take ((way_Send l1 m1).1) (orangerylaw_at k1 (((way_Send l1 m1).1).length : Int)) true).2.1).v).way), RdL EInt x5.2.2.2.2.1 ((((way_Take ((way_Send l1 m1).1) (orangerylaw_at k1 (((way_Send l1 m1).1).length : Int)) true).2.1).d).gone), RdL EPlace x5.2.2.2.2.2.1 ((((way_Take ((way_Send l1 m1).1) (orangerylaw_at k1 (((way_Send l1 m1).1).length : Int)) true).2.1).d).here), RdL EInt x5.2.2.2.2.2.2.1 ((((way_Take ((way_Send l1 m1).1) (orangerylaw_at k1 (((way_Send l1 m1).1).length : Int)) true).2.1).d).wayGone), RdL EPlace x5.2.2.2.2.2.2.2 ((((way_Take ((way_Send l1 m1).1) (orangerylaw_at k1 (((way_Send l1 m1).1).length : Int)) true).2.1).d).wayHere)] Sm (fun M w h => RdN.of NMail (hs := [((x5.2.1, x5.2.2.1, x5.2.2.2.1, x5.2.2.2.2.1, x5.2.2.2.2.2.1, x5.2.2.2.2.2.2.1, x5.2.2.2.2.2.2.2), ((way_Take ((way_Send l1 m1).1) (orangerylaw_at k1 (((way_Send l1 m1).1).length : Int)) true).2.1))]) rfl (h _ (.head _)) (allP_cons (allF_sub Sm h) (fun p hp => by cases hp))) ?_
            refine rw_call (way_Same_spec x6 [((way_Take ((way_Send l1 m1).1) (orangerylaw_at k1 (((way_Send l1 m1).1).length : Int)) true).2.1)] (⟨slA x1.a x1.c ((orangerylaw_at k1 (((way_Send l1 m1).1).length : Int)).toNat) NMail.E.esz, x1.c - ((orangerylaw_at k1 (((way_Send l1 m1).1).length : Int)).toNat)⟩ : SlV) ((((way_Send l1 m1).1).drop ((orangerylaw_at k1 (((way_Send l1 m1).1).length : Int)).toNat)).take ((((orangerylaw_at k1 (((way_Send l1 m1).1).length : Int)) + 1).toNat) - ((orangerylaw_at k1 (((way_Send l1 m1).1).length : Int)).toNat)))) (.an rfl rfl) (guard_is (guard_vt rfl rfl rfl) hg2) rfl rfl rfl Kr rfl (by first | rfl | assumption | (simp only [hc1, hc2, hg1n, hc3, hg2, Bool.and_true, Bool.true_and, Bool.and_self, Bool.not_false, Bool.not_true]; done) | simp_all) Sm ?_
            intro _
            refine ra_q (.an (i := 16) (js := []) rfl Kr Kr Kr Kr) (SplitB.all _) (by simp) rfl rfl rfl (q_pev rfl Bt) ?_
            refine ra_q (.an (i := 17) (js := []) rfl Kr Kr Kr Kr) (SplitB.all _) (by simp) rfl rfl rfl (q_pev rfl (fun _ => rfl)) ?_
            refine ra_nil Kr ?_
            (repeat refine cw_seq ?_)
            have hr4 : (orangerylaw_WayBack l1 m1 k1) = (((((way_Take ((way_Send l1 m1).1) (orangerylaw_at k1 (((way_Send l1 m1).1).length : Int)) true).2.2) == 0) && (way_Same ((way_Take ((way_Send l1 m1).1) (orangerylaw_at k1 (((way_Send l1 m1).1).length : Int)) true).1) ((way_Send l1 m1).1))) && (way_Same [((way_Take ((way_Send l1 m1).1) (orangerylaw_at k1 (((way_Send l1 m1).1).length : Int)) true).2.1)] ((((way_Send l1 m1).1).drop ((orangerylaw_at k1 (((way_Send l1 m1).1).length : Int)).toNat)).take ((((orangerylaw_at k1 (((way_Send l1 m1).1).length : Int)) + 1).toNat) - ((orangerylaw_at k1 (((way_Send l1 m1).1).length : Int)).toNat))))) := by simp only [orangerylaw_WayBack, hc1, hc2, hg1n, hc3, hg2, Bool.true_and, Bool.and_true, Bool.false_or, Bool.or_false, Bool.false_and, Bool.and_false, Bool.true_or, Bool.or_true, Bool.not_true, Bool.not_false, cond_true, cond_false]
            refine cw_ret ?_
            rw [hr4]
            exact ⟨(), _, (.cons (.tmp rfl) .nil), rfl, Sm, .nil _, .nil _⟩
          · skip
            refine rw_dead (.an rfl rfl) (guard_vt rfl rfl rfl) hg2 rfl rfl ?_
            refine ra_one 15 Kr ?_
            refine rw_dead (.an rfl rfl) (guard_vt rfl rfl rfl) hg2 rfl rfl ?_
            refine ra_q (.an (i := 16) (js := []) rfl Kr Kr Kr Kr) (SplitB.all _) (by simp) rfl rfl rfl (q_pev rfl Bt) ?_
            refine ra_q (.an (i := 17) (js := []) rfl Kr Kr Kr Kr) (SplitB.all _) (by simp) rfl rfl rfl (q_pev rfl (fun _ => rfl)) ?_
            refine ra_nil Kr ?_
            (repeat refine cw_seq ?_)
            have hr5 : (orangerylaw_WayBack l1 m1 k1) = (((((way_Take ((way_Send l1 m1).1) (orangerylaw_at k1 (((way_Send l1 m1).1).length : Int)) true).2.2) == 0) && (way_Same ((way_Take ((way_Send l1 m1).1) (orangerylaw_at k1 (((way_Send l1 m1).1).length : Int)) true).1) ((way_Send l1 m1).1))) && false) := by simp only [orangerylaw_WayBack, hc1, hc2, hg1n, hc3, hg2, Bool.true_and, Bool.and_true, Bool.false_or, Bool.or_false, Bool.false_and, Bool.and_false, Bool.true_or, Bool.or_true, Bool.not_true, Bool.not_false, cond_true, cond_false]
            refine cw_ret ?_
            rw [hr5]
            exact ⟨(), _, (.cons (.tmp rfl) .nil), rfl, Sm, .nil _, .nil _⟩
      · skip
        have hg1n : ((((way_Take ((way_Send l1 m1).1) (l1.length : Int) false).2.2) != 0) || (!(way_Same ((way_Take ((way_Send l1 m1).1) (l1.length : Int) false).1) l1))) = true := not_is hg1
        refine rw_dead .sq (guard_vf rfl rfl rfl) hg1 rfl rfl ?_
        refine rw_qg (guard_vf rfl rfl rfl) rfl rfl (q_dead (v := .bool false) (by rw [hg1n]; rfl)) ?_
        refine rw_dead .sq (guard_vf rfl rfl rfl) (by rw [hg1n]; rfl) rfl rfl ?_
        refine rw_dead .sq (guard_vf rfl rfl rfl) (by rw [hg1n]; rfl) rfl rfl ?_
        refine rw_qg (guard_vf rfl rfl rfl) rfl rfl (q_dead (v := .bool false) (by rw [hg1n]; rfl)) ?_
        refine rw_q rfl rfl rfl (q_pev rfl Bt) ?_
        refine rw_nil ?_
        (repeat refine cw_seq ?_); refine cw_cond (b := (((((way_Take ((way_Send l1 m1).1) (l1.length : Int) false).2.2) != 0) || (!(way_Same ((way_Take ((way_Send l1 m1).1) (l1.length : Int) false).1) l1))) || false)) rfl rfl (fun hc4 => ?_) (fun hc4 => ?_)
        · skip
          (repeat refine cw_seq ?_); refine cw_region ?_
          refine Rp rfl rfl rfl rfl ?_
          refine rw_nil ?_
          (repeat refine cw_seq ?_)
          have hr6 : (orangerylaw_WayBack l1 m1 k1) = false := by simp only [orangerylaw_WayBack, hc1, hc2, hg1n, Bool.true_and, Bool.and_true, Bool.false_or, Bool.or_false, Bool.false_and, Bool.and_false, Bool.true_or, Bool.or_true, Bool.not_true, Bool.not_false, cond_true, cond_false]
          refine cw_ret ?_
          rw [hr6]
          exact ⟨(), _, (.cons (.tmp rfl) .nil), rfl, Sm, .nil _, .nil _⟩
        · skip
          exact Bool.noConfusion (hc4.symm.trans ((by simp only [hg1n, Bool.and_false, Bool.false_and, Bool.or_true, Bool.true_or, Bool.or_false, Bool.false_or, Bool.and_true, Bool.true_and, Bool.not_true, Bool.not_false]) : (((((way_Take ((way_Send l1 m1).1) (l1.length : Int) false).2.2) != 0) || (!(way_Same ((way_Take ((way_Send l1 m1).1) (l1.length : Int) false).1) l1))) || false) = true))
end Go.Proofs.Ytchdacbjiomplaa
