/- Part of this claim. No condition. -/
import Derived.Test.YtchdacbjiomplaaW31
set_option linter.unusedVariables false
set_option linter.unusedSimpArgs false
namespace Go.Proofs.Ytchdacbjiomplaa
open Go Go.Proofs.Ytchdacbjiomplaa.Fw Go.Proofs
attribute [local irreducible] RdL RdN VarP
def slices_EqualFunc_Mail_L0 (s2 : List Mail) (eq1 : Mail → Mail → Bool) : List Mail → Nat → Bool
  | [], n1 => true
  | pn1 :: rn1, n1 => (bif (!(eq1 pn1 (gt s2 n1))) then false else (slices_EqualFunc_Mail_L0 s2 eq1 rn1 (n1 + 1)))
def slices_EqualFunc_Mail (s1 : List Mail) (s2 : List Mail) (eq1 : Mail → Mail → Bool) : Bool :=
  (bif ((s1.length : Int) != (s2.length : Int)) then false else (slices_EqualFunc_Mail_L0 s2 eq1 s1 0))
theorem slices_EqualFunc_Mail_spec (y1 : SlV) (s1 : List Mail) (y2 : SlV) (s2 : List Mail) (f1 : Nat) (caps1 : List Value) (pre1 : List Pred) [StabL pre1] (eq1 : Mail → Mail → Bool) (hfb1 : tab.fnb f1 = true) (hfn1 : ∀ (z0a_ : SlV) (z0b_ : SlV) (z0c_ : SlV) (z0d_ : SlV) (z0e_ : SlV) (z0f_ : SlV) (z0g_ : SlV) (a0_ : Mail) (z1a_ : SlV) (z1b_ : SlV) (z1c_ : SlV) (z1d_ : SlV) (z1e_ : SlV) (z1f_ : SlV) (z1g_ : SlV) (a1_ : Mail), Does Try.prog f1 ([.agg ⟨[.int .i64 a0_.kind, .int .i64 a0_.who, .int .i64 a0_.life, .int .i64 a0_.seq, .int .i64 a0_.time, .int .i64 a0_.version, .int .i64 a0_.frm, .int .i64 a0_.o.time, .int .i64 a0_.o.who, .int .i64 a0_.o.node, .int .i64 a0_.o.parent, .int .i64 a0_.o.name, .int .i64 a0_.o.life, .int .i64 a0_.o.seq, z0a_.val a0_.v.roots.length, z0b_.val a0_.v.known.length, z0c_.val a0_.v.way.length, z0d_.val a0_.d.gone.length, z0e_.val a0_.d.here.length, z0f_.val a0_.d.wayGone.length, z0g_.val a0_.d.wayHere.length]⟩, .agg ⟨[.int .i64 a1_.kind, .int .i64 a1_.who, .int .i64 a1_.life, .int .i64 a1_.seq, .int .i64 a1_.time, .int .i64 a1_.version, .int .i64 a1_.frm, .int .i64 a1_.o.time, .int .i64 a1_.o.who, .int .i64 a1_.o.node, .int .i64 a1_.o.parent, .int .i64 a1_.o.name, .int .i64 a1_.o.life, .int .i64 a1_.o.seq, z1a_.val a1_.v.roots.length, z1b_.val a1_.v.known.length, z1c_.val a1_.v.way.length, z1d_.val a1_.d.gone.length, z1e_.val a1_.d.here.length, z1f_.val a1_.d.wayGone.length, z1g_.val a1_.d.wayHere.length]⟩] ++ caps1) (RdL EInt z0a_ a0_.v.roots :: RdL EPlace z0b_ a0_.v.known :: RdL EPlace z0c_ a0_.v.way :: RdL EInt z0d_ a0_.d.gone :: RdL EPlace z0e_ a0_.d.here :: RdL EInt z0f_ a0_.d.wayGone :: RdL EPlace z0g_ a0_.d.wayHere :: RdL EInt z1a_ a1_.v.roots :: RdL EPlace z1b_ a1_.v.known :: RdL EPlace z1c_ a1_.v.way :: RdL EInt z1d_ a1_.d.gone :: RdL EPlace z1e_ a1_.d.here :: RdL EInt z1f_ a1_.d.wayGone :: RdL EPlace z1g_ a1_.d.wayHere :: pre1) (fun (_ : Unit) => .bool (eq1 a0_ a1_)) (fun (_ : Unit) => [])) : Does Try.prog 151 [y1.val s1.length, y2.val s2.length, .func (.func f1) #[] ⟨caps1⟩] (RdN NMail y1 s1 :: RdN NMail y2 s2 :: pre1) (fun (_ : Unit) => .bool (slices_EqualFunc_Mail s1 s2 eq1)) (fun (_ : Unit) => []) := by
  refine does_of tab_ok Try.func151 rfl Try.ntmps151 Try.results151 rfl inferInstance (fun _ => inferInstance) fun C => ?_
  refine cw_pure (φ := s1.length * 280 ≤ 140737488355328) [RdN NMail y1 s1] Sf (fun M w h => (allF1 h).len) fun hlen1 => ?_
  refine cw_pure (φ := s2.length * 280 ≤ 140737488355328) [RdN NMail y2 s2] Sf (fun M w h => (allF1 h).len) fun hlen2 => ?_
  (repeat refine cw_seq ?_); refine cw_region ?_
  refine Rp rfl rfl rfl rfl ?_
  refine rw_nil ?_
  (repeat refine cw_seq ?_); refine cw_region ?_
  refine Rp rfl rfl rfl rfl ?_
  refine Rp rfl rfl rfl rfl ?_
  refine Rp rfl rfl rfl rfl ?_
  refine Rp rfl rfl rfl rfl ?_
  refine Rp rfl rfl rfl rfl ?_
  refine rw_nil ?_
  (repeat refine cw_seq ?_); refine cw_cond (b := ((s1.length : Int) != (s2.length : Int))) rfl rfl (fun hc1 => ?_) (fun hc1 => ?_)
  · skip
    have hc1p := bne_iff_ne.1 hc1
    (repeat refine cw_seq ?_); refine cw_region ?_
    refine Rp rfl rfl rfl rfl ?_
    refine rw_nil ?_
    (repeat refine cw_seq ?_)
    have hr1 : (slices_EqualFunc_Mail s1 s2 eq1) = false := by simp only [slices_EqualFunc_Mail, hc1, cond_true, cond_false]
    refine cw_ret ?_
    rw [hr1]
    exact ⟨(), _, (.cons (.tmp rfl) .nil), rfl, Sf, .nil _, .nil _⟩
  · skip
    have hc1p := eq_of_bne_false hc1
    (repeat refine cw_seq ?_); refine cw_skip ?_
    (repeat refine cw_seq ?_); refine cw_region ?_
    refine Rp rfl rfl rfl rfl ?_
    refine Rp rfl rfl rfl rfl ?_
    refine Rp rfl rfl rfl rfl ?_
    refine rw_nil ?_
    (repeat refine cw_seq ?_); refine cw_block ?_
    (repeat refine cw_seq ?_); refine cw_loopS [1, 2, 6, 15, 16] [] (fun (n1 : Nat) => [(17, .v (.int .i64 (n1 : Int)))]) (fun (n1 : Nat) => []) (fun (n1 : Nat) => []) (fun (n1 : Nat) => []) (fun (n1 : Nat) => (n1 ≤ s1.length) ∧ (slices_EqualFunc_Mail_L0 s2 eq1 (s1.drop n1) n1) = (slices_EqualFunc_Mail s1 s2 eq1)) (fun (n1 : Nat) => s1.length - n1) 0 (.cons rfl (.cons rfl (.cons rfl (.cons rfl (.cons rfl (.nil _)))))) (.nil) ⟨Nat.zero_le _, (by simp only [slices_EqualFunc_Mail, hc1, cond_true, cond_false] : (slices_EqualFunc_Mail s1 s2 eq1) = (slices_EqualFunc_Mail_L0 s2 eq1 s1 0)).symm⟩ Le5 ?_
    rintro n1 ⟨hkn1, hf1⟩
    simp only [List.cons_append, List.nil_append]
    (repeat refine cw_seq ?_); refine cw_region ?_
    refine Rp rfl rfl rfl rfl ?_
    refine rw_nil ?_
    (repeat refine cw_seq ?_); refine cw_cond (b := decide ((n1 : Int) < (s1.length : Int))) rfl rfl (fun hc2 => ?_) (fun hc2 => ?_)
    · skip
      have hlt0 : n1 < s1.length := Int.ofNat_lt.1 (of_decide_eq_true hc2)
      (repeat refine cw_seq ?_); refine cw_skip ?_
      (repeat refine cw_seq ?_); refine cw_block ?_
      (repeat refine cw_seq ?_); refine cw_region ?_
      refine Rp rfl rfl rfl rfl ?_
      refine rw_exN NMail (X := y1) (l := s1) Mm fun (γ1 : Nat → SlV × SlV × SlV × SlV × SlV × SlV × SlV) => ?_
      refine rw_q rfl rfl rfl (q_idxN NMail γ1 n1 rfl rfl (fun _ => rfl) rfl (fun _ => rfl) rfl rfl rfl Mm rfl (fun _ => rfl) (fun _ => by first | assumption | omega)) ?_
      refine rw_q rfl rfl rfl (q_is (v' := .agg ⟨[.int .i64 ((gt s1 n1).kind), .int .i64 ((gt s1 n1).who), .int .i64 ((gt s1 n1).life), .int .i64 ((gt s1 n1).seq), .int .i64 ((gt s1 n1).time), .int .i64 ((gt s1 n1).version), .int .i64 ((gt s1 n1).frm), .int .i64 (((gt s1 n1).o).time), .int .i64 (((gt s1 n1).o).who), .int .i64 (((gt s1 n1).o).node), .int .i64 (((gt s1 n1).o).parent), .int .i64 (((gt s1 n1).o).name), .int .i64 (((gt s1 n1).o).life), .int .i64 (((gt s1 n1).o).seq), ((γ1 n1).1).val (((gt s1 n1).v).roots).length, ((γ1 n1).2.1).val (((gt s1 n1).v).known).length, ((γ1 n1).2.2.1).val (((gt s1 n1).v).way).length, ((γ1 n1).2.2.2.1).val (((gt s1 n1).d).gone).length, ((γ1 n1).2.2.2.2.1).val (((gt s1 n1).d).here).length, ((γ1 n1).2.2.2.2.2.1).val (((gt s1 n1).d).wayGone).length, ((γ1 n1).2.2.2.2.2.2).val (((gt s1 n1).d).wayHere).length]⟩) (q_leAN NMail γ1 rfl rfl (fun _ => rfl) rfl rfl Mm (fun _ => by first | assumption | omega)) rfl) ?_
      refine rw_fact (F := RdL EInt ((γ1 n1).1) (((gt s1 n1).v).roots)) [FactsG NMail γ1 s1] Sf (fun M w h => (allF1 h) n1 (by first | assumption | omega) _ (.head _)) ?_
      refine rw_fact (F := RdL EPlace ((γ1 n1).2.1) (((gt s1 n1).v).known)) [FactsG NMail γ1 s1] Sf (fun M w h => (allF1 h) n1 (by first | assumption | omega) _ (.tail _ (.head _))) ?_
      refine rw_fact (F := RdL EPlace ((γ1 n1).2.2.1) (((gt s1 n1).v).way)) [FactsG NMail γ1 s1] Sf (fun M w h => (allF1 h) n1 (by first | assumption | omega) _ (.tail _ (.tail _ (.head _)))) ?_
      refine rw_fact (F := RdL EInt ((γ1 n1).2.2.2.1) (((gt s1 n1).d).gone)) [FactsG NMail γ1 s1] Sf (fun M w h => (allF1 h) n1 (by first | assumption | omega) _ (.tail _ (.tail _ (.tail _ (.head _))))) ?_
      refine rw_fact (F := RdL EPlace ((γ1 n1).2.2.2.2.1) (((gt s1 n1).d).here)) [FactsG NMail γ1 s1] Sf (fun M w h => (allF1 h) n1 (by first | assumption | omega) _ (.tail _ (.tail _ (.tail _ (.tail _ (.head _)))))) ?_
      refine rw_fact (F := RdL EInt ((γ1 n1).2.2.2.2.2.1) (((gt s1 n1).d).wayGone)) [FactsG NMail γ1 s1] Sf (fun M w h => (allF1 h) n1 (by first | assumption | omega) _ (.tail _ (.tail _ (.tail _ (.tail _ (.tail _ (.head _))))))) ?_
      refine rw_fact (F := RdL EPlace ((γ1 n1).2.2.2.2.2.2) (((gt s1 n1).d).wayHere)) [FactsG NMail γ1 s1] Sf (fun M w h => (allF1 h) n1 (by first | assumption | omega) _ (.tail _ (.tail _ (.tail _ (.tail _ (.tail _ (.tail _ (.head _)))))))) ?_
      refine rw_alloc .sq (guard_none rfl) rfl rfl rfl rfl fun g1 => ?_
      refine Rp rfl rfl rfl rfl ?_
      refine rw_stA .sq (.inl ⟨_, rfl⟩) (guard_none rfl) rfl rfl rfl rfl rfl rfl rfl rfl rfl Ub rfl ?_
      refine rw_nil ?_
      (repeat refine cw_seq ?_); refine cw_region ?_
      refine Rp rfl rfl rfl rfl ?_
      refine Rp rfl rfl rfl rfl ?_
      refine rw_exN NMail (X := y2) (l := s2) Mm fun (γ2 : Nat → SlV × SlV × SlV × SlV × SlV × SlV × SlV) => ?_
      refine rw_q rfl rfl rfl (q_idxN NMail γ2 n1 rfl rfl (fun _ => rfl) rfl (fun _ => rfl) rfl rfl rfl Mm rfl (fun _ => rfl) (fun _ => by first | assumption | omega)) ?_
      refine rw_q rfl rfl rfl (q_is (v' := .agg ⟨[.int .i64 ((gt s2 n1).kind), .int .i64 ((gt s2 n1).who), .int .i64 ((gt s2 n1).life), .int .i64 ((gt s2 n1).seq), .int .i64 ((gt s2 n1).time), .int .i64 ((gt s2 n1).version), .int .i64 ((gt s2 n1).frm), .int .i64 (((gt s2 n1).o).time), .int .i64 (((gt s2 n1).o).who), .int .i64 (((gt s2 n1).o).node), .int .i64 (((gt s2 n1).o).parent), .int .i64 (((gt s2 n1).o).name), .int .i64 (((gt s2 n1).o).life), .int .i64 (((gt s2 n1).o).seq), ((γ2 n1).1).val (((gt s2 n1).v).roots).length, ((γ2 n1).2.1).val (((gt s2 n1).v).known).length, ((γ2 n1).2.2.1).val (((gt s2 n1).v).way).length, ((γ2 n1).2.2.2.1).val (((gt s2 n1).d).gone).length, ((γ2 n1).2.2.2.2.1).val (((gt s2 n1).d).here).length, ((γ2 n1).2.2.2.2.2.1).val (((gt s2 n1).d).wayGone).length, ((γ2 n1).2.2.2.2.2.2).val (((gt s2 n1).d).wayHere).length]⟩) (q_leAN NMail γ2 rfl rfl (fun _ => rfl) rfl rfl Mm (fun _ => by first | assumption | omega)) rfl) ?_
      refine rw_fact (F := RdL EInt ((γ2 n1).1) (((gt s2 n1).v).roots)) [FactsG NMail γ2 s2] Sf (fun M w h => (allF1 h) n1 (by first | assumption | omega) _ (.head _)) ?_
      refine rw_fact (F := RdL EPlace ((γ2 n1).2.1) (((gt s2 n1).v).known)) [FactsG NMail γ2 s2] Sf (fun M w h => (allF1 h) n1 (by first | assumption | omega) _ (.tail _ (.head _))) ?_
      refine rw_fact (F := RdL EPlace ((γ2 n1).2.2.1) (((gt s2 n1).v).way)) [FactsG NMail γ2 s2] Sf (fun M w h => (allF1 h) n1 (by first | assumption | omega) _ (.tail _ (.tail _ (.head _)))) ?_
      refine rw_fact (F := RdL EInt ((γ2 n1).2.2.2.1) (((gt s2 n1).d).gone)) [FactsG NMail γ2 s2] Sf (fun M w h => (allF1 h) n1 (by first | assumption | omega) _ (.tail _ (.tail _ (.tail _ (.head _))))) ?_
      refine rw_fact (F := RdL EPlace ((γ2 n1).2.2.2.2.1) (((gt s2 n1).d).here)) [FactsG NMail γ2 s2] Sf (fun M w h => (allF1 h) n1 (by first | assumption | omega) _ (.tail _ (.tail _ (.tail _ (.tail _ (.head _)))))) ?_
      refine rw_fact (F := RdL EInt ((γ2 n1).2.2.2.2.2.1) (((gt s2 n1).d).wayGone)) [FactsG NMail γ2 s2] Sf (fun M w h => (allF1 h) n1 (by first | assumption | omega) _ (.tail _ (.tail _ (.tail _ (.tail _ (.tail _ (.head _))))))) ?_
      refine rw_fact (F := RdL EPlace ((γ2 n1).2.2.2.2.2.2) (((gt s2 n1).d).wayHere)) [FactsG NMail γ2 s2] Sf (fun M w h => (allF1 h) n1 (by first | assumption | omega) _ (.tail _ (.tail _ (.tail _ (.tail _ (.tail _ (.tail _ (.head _)))))))) ?_
      refine rw_alloc .sq (guard_none rfl) rfl rfl rfl rfl fun g2 => ?_
      refine rw_stA .sq (.inl ⟨_, rfl⟩) (guard_none rfl) rfl rfl rfl rfl rfl rfl rfl rfl rfl Ub rfl ?_
      refine rw_nil ?_
      (repeat refine cw_seq ?_); refine cw_region ?_
      refine Rp rfl rfl rfl rfl ?_
      refine rw_q rfl rfl rfl (q_ldA rfl rfl (fun _ => rfl) rfl Mm rfl) ?_
      refine rw_q rfl rfl rfl (q_ldA rfl rfl (fun _ => rfl) rfl Mm rfl) ?_
      refine rw_callv (hfn1 ((γ1 n1).1) ((γ1 n1).2.1) ((γ1 n1).2.2.1) ((γ1 n1).2.2.2.1) ((γ1 n1).2.2.2.2.1) ((γ1 n1).2.2.2.2.2.1) ((γ1 n1).2.2.2.2.2.2) (gt s1 n1) ((γ2 n1).1) ((γ2 n1).2.1) ((γ2 n1).2.2.1) ((γ2 n1).2.2.2.1) ((γ2 n1).2.2.2.2.1) ((γ2 n1).2.2.2.2.2.1) ((γ2 n1).2.2.2.2.2.2) (gt s2 n1)) .sq (guard_none rfl) rfl rfl rfl rfl rfl (by assumption) rfl rfl rfl Sf ?_
      intro _
      refine Rp rfl rfl rfl rfl ?_
      refine rw_nil ?_
      (repeat refine cw_seq ?_); refine cw_cond (b := (!(eq1 (gt s1 n1) (gt s2 n1)))) rfl rfl (fun hc3 => ?_) (fun hc3 => ?_)
      · skip
        (repeat refine cw_seq ?_); refine cw_region ?_
        refine Rp rfl rfl rfl rfl ?_
        refine rw_nil ?_
        (repeat refine cw_seq ?_)
        have hr2 : (slices_EqualFunc_Mail s1 s2 eq1) = false := by rw [← hf1, drop_gt hlt0]; simp only [slices_EqualFunc_Mail_L0, hc3, cond_true, cond_false]
        refine cw_ret ?_
        rw [hr2]
        exact ⟨(), _, (.cons (.tmp rfl) .nil), rfl, Sf, .nil _, .nil _⟩
      · skip
        (repeat refine cw_seq ?_); refine cw_skip ?_
        (repeat refine cw_seq ?_); refine cw_region ?_
        refine rw_q rfl rfl rfl (q_add rfl rfl (fun _ => rfl) rfl (fun _ => rfl) (fun _ => by omega)) ?_
        refine Rp rfl rfl rfl rfl ?_
        refine rw_nil ?_
        refine ⟨(n1 + 1), ⟨hlt0, (by rw [← hf1, drop_gt hlt0]; simp only [slices_EqualFunc_Mail_L0, hc3, cond_true, cond_false] : (slices_EqualFunc_Mail s1 s2 eq1) = (slices_EqualFunc_Mail_L0 s2 eq1 (s1.drop (n1 + 1)) (n1 + 1))).symm⟩, (by simp only []; omega), Le5⟩
    · skip
      have hge0 : s1.length ≤ n1 := by have := of_decide_eq_false hc2; omega
      (repeat refine cw_seq ?_); refine cw_exit ?_
      (repeat refine cw_seq ?_); refine cw_region ?_
      refine Rp rfl rfl rfl rfl ?_
      refine rw_nil ?_
      (repeat refine cw_seq ?_)
      have hr3 : (slices_EqualFunc_Mail s1 s2 eq1) = true := by rw [← hf1, List.drop_of_length_le hge0]; simp only [slices_EqualFunc_Mail_L0, cond_true, cond_false]
      refine cw_ret ?_
      rw [hr3]
      exact ⟨(), _, (.cons (.tmp rfl) .nil), rfl, Sf, .nil _, .nil _⟩

def way_Same (a1 : List Mail) (b1 : List Mail) : Bool :=
  (slices_EqualFunc_Mail a1 b1 way_same)
theorem way_Same_spec (y1 : SlV) (a1 : List Mail) (y2 : SlV) (b1 : List Mail) : Does Try.prog 68 [y1.val a1.length, y2.val b1.length] [RdN NMail y1 a1, RdN NMail y2 b1] (fun (_ : Unit) => .bool (way_Same a1 b1)) (fun (_ : Unit) => []) := by
  refine does_of tab_ok Try.func68 rfl Try.ntmps68 Try.results68 rfl inferInstance (fun _ => inferInstance) fun C => ?_
  refine cw_pure (φ := a1.length * 280 ≤ 140737488355328) [RdN NMail y1 a1] Sm (fun M w h => (allF1 h).len) fun hlen1 => ?_
  refine cw_pure (φ := b1.length * 280 ≤ 140737488355328) [RdN NMail y2 b1] Sm (fun M w h => (allF1 h).len) fun hlen2 => ?_
  (repeat refine cw_seq ?_); refine cw_region ?_
  refine Rp rfl rfl rfl rfl ?_
  refine rw_nil ?_
  (repeat refine cw_seq ?_); refine cw_region ?_
  refine Rp rfl rfl rfl rfl ?_
  refine Rp rfl rfl rfl rfl ?_
  refine rw_call (slices_EqualFunc_Mail_spec y1 a1 y2 b1 _ _ _ way_same Kr (fun z0a_ z0b_ z0c_ z0d_ z0e_ z0f_ z0g_ a0_ z1a_ z1b_ z1c_ z1d_ z1e_ z1f_ z1g_ a1_ => way_same_spec z0a_ z0b_ z0c_ z0d_ z0e_ z0f_ z0g_ a0_ z1a_ z1b_ z1c_ z1d_ z1e_ z1f_ z1g_ a1_)) .sq (guard_none rfl) rfl rfl rfl Kr rfl rfl Sm ?_
  intro _
  refine Rp rfl rfl rfl rfl ?_
  refine rw_nil ?_
  (repeat refine cw_seq ?_)
  have hr1 : (way_Same a1 b1) = (slices_EqualFunc_Mail a1 b1 way_same) := by simp only [way_Same, cond_true, cond_false]
  refine cw_ret ?_
  rw [hr1]
  exact ⟨(), _, (.cons (.tmp rfl) .nil), rfl, Sm, .nil _, .nil _⟩
end Go.Proofs.Ytchdacbjiomplaa
