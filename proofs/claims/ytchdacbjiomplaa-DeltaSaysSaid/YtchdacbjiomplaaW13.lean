/- Part of this claim. No condition. -/
import Derived.Test.YtchdacbjiomplaaW12b
set_option linter.unusedVariables false
set_option linter.unusedSimpArgs false
namespace Go.Proofs.Ytchdacbjiomplaa
open Go Go.Proofs.Ytchdacbjiomplaa.Fw Go.Proofs
def orangerylaw_seen  : Bool :=
  (((((((((((((view_Of orangerylaw_small [2]).2) == 0) && (((view_Of orangerylaw_small [0]).2) == 0)) && (((view_Of orangerylaw_small [2, 2]).2) == 6)) && (((((view_Of orangerylaw_small [2]).1).known).length : Int) == 2)) && (((gt (((view_Of orangerylaw_small [2]).1).known) 0).node) == 2)) && (((((view_Of orangerylaw_small [2]).1).way).length : Int) == 1)) && (((gt (((view_Of orangerylaw_small [2]).1).way) 0).node) == 1)) && (((((view_Of orangerylaw_small [0]).1).known).length : Int) == 4)) && (((((view_Of orangerylaw_small [0]).1).way).length : Int) == 0)) && ((view_Check ((view_Of orangerylaw_small [2]).1)) == 0)) && ((view_Roots [17]) == 5))
theorem orangerylaw_seen_spec  : Does Try.prog 40 [] [] (fun (_ : Unit) => .bool (orangerylaw_seen)) (fun (_ : Unit) => []) := by
  refine does_of tab_ok Try.func40 rfl Try.ntmps40 Try.results40 rfl inferInstance (fun _ => inferInstance) fun C => ?_
  (repeat refine cw_seq ?_); refine cw_region ?_
  refine Rp rfl rfl rfl rfl ?_
  refine rw_nil ?_
  (repeat refine cw_seq ?_); refine cw_region ?_
  refine rw_call (orangerylaw_small_spec ) .sq (guard_none rfl) rfl rfl rfl Kr rfl rfl Sm ?_
  intro x1
  refine rw_pure (φ := orangerylaw_small.length * 24 ≤ 140737488355328) [RdL EPlace x1 orangerylaw_small] Sm (fun M w h => (allF1 h).len) fun hlen1 => ?_
  refine rw_bsliceL EInt [2] .sq (guard_none rfl) rfl rfl rfl rfl rfl rfl rfl rfl rfl rfl rfl rfl rfl rfl rfl fun x2 x2b => ?_
  refine rw_le (le_freezeL EInt 3 x2 x2b [2] Uo) ?_
  refine rw_call (view_Of_spec x1 orangerylaw_small x2 [2]) .sq (guard_none rfl) rfl rfl rfl Kr rfl rfl Sm ?_
  intro x3
  refine rw_pure (φ := (((view_Of orangerylaw_small [2]).1).roots).length * 8 ≤ 140737488355328) [RdL EInt x3.1 (((view_Of orangerylaw_small [2]).1).roots)] Sm (fun M w h => (allF1 h).len) fun hlen2 => ?_
  refine rw_pure (φ := (((view_Of orangerylaw_small [2]).1).known).length * 24 ≤ 140737488355328) [RdL EPlace x3.2.1 (((view_Of orangerylaw_small [2]).1).known)] Sm (fun M w h => (allF1 h).len) fun hlen3 => ?_
  refine rw_pure (φ := (((view_Of orangerylaw_small [2]).1).way).length * 24 ≤ 140737488355328) [RdL EPlace x3.2.2 (((view_Of orangerylaw_small [2]).1).way)] Sm (fun M w h => (allF1 h).len) fun hlen4 => ?_
  refine Rp rfl rfl rfl rfl ?_
  refine Rp rfl rfl rfl rfl ?_
  refine Rp rfl rfl rfl rfl ?_
  refine rw_alloc .sq (guard_none rfl) rfl rfl rfl rfl fun g1 => ?_
  refine rw_stA .sq (.inl ⟨_, rfl⟩) (guard_none rfl) rfl rfl rfl rfl rfl rfl rfl rfl rfl Ub rfl ?_
  refine Rp rfl rfl rfl rfl ?_
  refine rw_nil ?_
  (repeat refine cw_seq ?_); refine cw_region ?_
  refine rw_call (orangerylaw_small_spec ) .sq (guard_none rfl) rfl rfl rfl Kr rfl rfl Sm ?_
  intro x4
  refine rw_pure (φ := orangerylaw_small.length * 24 ≤ 140737488355328) [RdL EPlace x4 orangerylaw_small] Sm (fun M w h => (allF1 h).len) fun hlen5 => ?_
  refine rw_bsliceL EInt [0] .sq (guard_none rfl) rfl rfl rfl rfl rfl rfl rfl rfl rfl rfl rfl rfl rfl rfl rfl fun x5 x5b => ?_
  refine rw_le (le_freezeL EInt 3 x5 x5b [0] Uo) ?_
  refine rw_call (view_Of_spec x4 orangerylaw_small x5 [0]) .sq (guard_none rfl) rfl rfl rfl Kr rfl rfl Sm ?_
  intro x6
  refine rw_pure (φ := (((view_Of orangerylaw_small [0]).1).roots).length * 8 ≤ 140737488355328) [RdL EInt x6.1 (((view_Of orangerylaw_small [0]).1).roots)] Sm (fun M w h => (allF1 h).len) fun hlen6 => ?_
  refine rw_pure (φ := (((view_Of orangerylaw_small [0]).1).known).length * 24 ≤ 140737488355328) [RdL EPlace x6.2.1 (((view_Of orangerylaw_small [0]).1).known)] Sm (fun M w h => (allF1 h).len) fun hlen7 => ?_
  refine rw_pure (φ := (((view_Of orangerylaw_small [0]).1).way).length * 24 ≤ 140737488355328) [RdL EPlace x6.2.2 (((view_Of orangerylaw_small [0]).1).way)] Sm (fun M w h => (allF1 h).len) fun hlen8 => ?_
  refine Rp rfl rfl rfl rfl ?_
  refine Rp rfl rfl rfl rfl ?_
  refine Rp rfl rfl rfl rfl ?_
  refine rw_alloc .sq (guard_none rfl) rfl rfl rfl rfl fun g2 => ?_
  refine rw_stA .sq (.inl ⟨_, rfl⟩) (guard_none rfl) rfl rfl rfl rfl rfl rfl rfl rfl rfl Ub rfl ?_
  refine Rp rfl rfl rfl rfl ?_
  refine rw_nil ?_
  (repeat refine cw_seq ?_); refine cw_region ?_
  refine rw_call (orangerylaw_small_spec ) .sq (guard_none rfl) rfl rfl rfl Kr rfl rfl Sm ?_
  intro x7
  refine rw_pure (φ := orangerylaw_small.length * 24 ≤ 140737488355328) [RdL EPlace x7 orangerylaw_small] Sm (fun M w h => (allF1 h).len) fun hlen9 => ?_
  refine rw_bsliceL EInt [2, 2] .sq (guard_none rfl) rfl rfl rfl rfl rfl rfl rfl rfl rfl rfl rfl rfl rfl rfl rfl fun x8 x8b => ?_
  refine rw_le (le_freezeL EInt 3 x8 x8b [2, 2] Uo) ?_
  refine rw_call (view_Of_spec x7 orangerylaw_small x8 [2, 2]) .sq (guard_none rfl) rfl rfl rfl Kr rfl rfl Sm ?_
  intro x9
  refine rw_pure (φ := (((view_Of orangerylaw_small [2, 2]).1).roots).length * 8 ≤ 140737488355328) [RdL EInt x9.1 (((view_Of orangerylaw_small [2, 2]).1).roots)] Sm (fun M w h => (allF1 h).len) fun hlen10 => ?_
  refine rw_pure (φ := (((view_Of orangerylaw_small [2, 2]).1).known).length * 24 ≤ 140737488355328) [RdL EPlace x9.2.1 (((view_Of orangerylaw_small [2, 2]).1).known)] Sm (fun M w h => (allF1 h).len) fun hlen11 => ?_
  refine rw_pure (φ := (((view_Of orangerylaw_small [2, 2]).1).way).length * 24 ≤ 140737488355328) [RdL EPlace x9.2.2 (((view_Of orangerylaw_small [2, 2]).1).way)] Sm (fun M w h => (allF1 h).len) fun hlen12 => ?_
  refine Rp rfl rfl rfl rfl ?_
  refine Rp rfl rfl rfl rfl ?_
  refine Rp rfl rfl rfl rfl ?_
  refine rw_alloc .sq (guard_none rfl) rfl rfl rfl rfl fun g3 => ?_
  refine rw_stA .sq (.inl ⟨_, rfl⟩) (guard_none rfl) rfl rfl rfl rfl rfl rfl rfl rfl rfl Ub rfl ?_
  refine Rp rfl rfl rfl rfl ?_
  refine rw_nil ?_
  (repeat refine cw_seq ?_); refine cw_region ?_
  refine Rp rfl rfl rfl rfl ?_
  refine Rp rfl rfl rfl rfl ?_
  refine Rp rfl rfl rfl rfl ?_
  refine rw_qg (guard_vt rfl rfl rfl) rfl rfl (q_pev rfl Bt) ?_
  refine rw_qg (guard_vt rfl rfl rfl) rfl rfl (q_pev rfl Bt) ?_
  refine rw_q rfl rfl rfl (q_pev rfl Bt) ?_
  refine Rp rfl rfl rfl rfl ?_
  refine rw_qg (guard_vt rfl rfl rfl) rfl rfl (q_pev rfl Bt) ?_
  refine rw_qg (guard_vt rfl rfl rfl) rfl rfl (q_pev rfl Bt) ?_
  refine rw_q rfl rfl rfl (q_pev rfl Bt) ?_
  refine Rp rfl rfl rfl rfl ?_
  refine rw_qg (guard_vt rfl rfl rfl) rfl rfl (q_pev rfl Bt) ?_
  refine rw_qg (guard_vt rfl rfl rfl) rfl rfl (q_ld1 rfl rfl Bt rfl Mm rfl) ?_
  refine rw_qg (guard_vt rfl rfl rfl) rfl rfl (q_pev rfl Bt) ?_
  refine rw_qg (guard_vt rfl rfl rfl) rfl rfl (q_pev rfl Bt) ?_
  refine rw_q rfl rfl rfl (q_pev rfl Bt) ?_
  refine Rp rfl rfl rfl rfl ?_
  refine rw_qg (guard_vt rfl rfl rfl) rfl rfl (q_pev rfl Bt) ?_
  refine rw_qg (guard_vt rfl rfl rfl) rfl rfl (q_ld1 rfl rfl Bt rfl Mm rfl) ?_
  refine rw_qg (guard_vt rfl rfl rfl) rfl rfl (q_idx EPlace 0 rfl rfl Bt rfl Bt rfl rfl rfl Mm rfl (by intro h; first | omega | rfl | (simp at h; omega)) (by first | (intro _; first | assumption | omega) | (intro h; simp at h; omega))) ?_
  refine rw_qg (guard_vt rfl rfl rfl) rfl rfl (q_fae rfl rfl Bt rfl rfl) ?_
  refine rw_qg (guard_vt rfl rfl rfl) rfl rfl (q_le1 EPlace rfl rfl Bt rfl rfl Mm (by first | (intro _; first | assumption | omega) | (intro h; simp at h; omega)) rfl) ?_
  refine rw_qg (guard_vt rfl rfl rfl) rfl rfl (q_pev rfl Bt) ?_
  refine rw_q rfl rfl rfl (q_pev rfl Bt) ?_
  refine Rp rfl rfl rfl rfl ?_
  refine rw_qg (guard_vt rfl rfl rfl) rfl rfl (q_pev rfl Bt) ?_
  refine rw_qg (guard_vt rfl rfl rfl) rfl rfl (q_ld1 rfl rfl Bt rfl Mm rfl) ?_
  refine rw_qg (guard_vt rfl rfl rfl) rfl rfl (q_pev rfl Bt) ?_
  refine rw_qg (guard_vt rfl rfl rfl) rfl rfl (q_pev rfl Bt) ?_
  refine rw_q rfl rfl rfl (q_pev rfl Bt) ?_
  refine Rp rfl rfl rfl rfl ?_
  refine rw_qg (guard_vt rfl rfl rfl) rfl rfl (q_pev rfl Bt) ?_
  refine rw_qg (guard_vt rfl rfl rfl) rfl rfl (q_ld1 rfl rfl Bt rfl Mm rfl) ?_
  refine rw_qg (guard_vt rfl rfl rfl) rfl rfl (q_idx EPlace 0 rfl rfl Bt rfl Bt rfl rfl rfl Mm rfl (by intro h; first | omega | rfl | (simp at h; omega)) (by first | (intro _; first | assumption | omega) | (intro h; simp at h; omega))) ?_
  refine rw_qg (guard_vt rfl rfl rfl) rfl rfl (q_fae rfl rfl Bt rfl rfl) ?_
  refine rw_qg (guard_vt rfl rfl rfl) rfl rfl (q_le1 EPlace rfl rfl Bt rfl rfl Mm (by first | (intro _; first | assumption | omega) | (intro h; simp at h; omega)) rfl) ?_
  refine rw_qg (guard_vt rfl rfl rfl) rfl rfl (q_pev rfl Bt) ?_
  refine rw_q rfl rfl rfl (q_pev rfl Bt) ?_
  refine Rp rfl rfl rfl rfl ?_
  refine rw_qg (guard_vt rfl rfl rfl) rfl rfl (q_pev rfl Bt) ?_
  refine rw_qg (guard_vt rfl rfl rfl) rfl rfl (q_ld1 rfl rfl Bt rfl Mm rfl) ?_
  refine rw_qg (guard_vt rfl rfl rfl) rfl rfl (q_pev rfl Bt) ?_
  refine rw_qg (guard_vt rfl rfl rfl) rfl rfl (q_pev rfl Bt) ?_
  refine rw_q rfl rfl rfl (q_pev rfl Bt) ?_
  refine Rp rfl rfl rfl rfl ?_
  refine rw_qg (guard_vt rfl rfl rfl) rfl rfl (q_pev rfl Bt) ?_
  refine rw_qg (guard_vt rfl rfl rfl) rfl rfl (q_ld1 rfl rfl Bt rfl Mm rfl) ?_
  refine rw_qg (guard_vt rfl rfl rfl) rfl rfl (q_pev rfl Bt) ?_
  refine rw_qg (guard_vt rfl rfl rfl) rfl rfl (q_pev rfl Bt) ?_
  refine rw_q rfl rfl rfl (q_pev rfl Bt) ?_
  refine Rp rfl rfl rfl rfl ?_
  refine rw_qg (guard_vt rfl rfl rfl) rfl rfl (q_ldA rfl rfl Bt rfl Mm rfl) ?_
  refine rw_callg (fun _ => view_Check_spec x3.1 x3.2.1 x3.2.2 ((view_Of orangerylaw_small [2]).1)) (fun _ => rfl) .sq (guard_vt rfl rfl rfl) rfl rfl rfl Kr rfl Bt Sm ?_
  refine rw_qg (guard_vt rfl rfl rfl) rfl rfl (q_pev rfl Bt) ?_
  refine rw_q rfl rfl rfl (q_pev rfl Bt) ?_
  refine Rp rfl rfl rfl rfl ?_
  refine rw_split .sq (guard_vt rfl rfl rfl) (fun hg1 => ?_) (fun hg1 => absurd hg1 (by decide +kernel))
  refine rw_bsliceL EInt [17] .sq (guard_is (guard_vt rfl rfl rfl) hg1) rfl rfl rfl rfl rfl rfl rfl rfl rfl rfl rfl rfl rfl rfl rfl fun x10 x10b => ?_
  refine rw_callR (view_Roots_spec x10 [17]) .sq (guard_is (guard_vt rfl rfl rfl) hg1) rfl rfl rfl Kr rfl rfl (.own Mm (.nil _ _)) ?_
  intro _
  refine rw_qg (guard_vt rfl rfl rfl) rfl rfl (q_pev rfl Bt) ?_
  refine rw_q rfl rfl rfl (q_pev rfl Bt) ?_
  refine Rp rfl rfl rfl rfl ?_
  refine rw_nil ?_
  (repeat refine cw_seq ?_)
  have hr1 : (orangerylaw_seen) = (((((((((((((view_Of orangerylaw_small [2]).2) == 0) && (((view_Of orangerylaw_small [0]).2) == 0)) && (((view_Of orangerylaw_small [2, 2]).2) == 6)) && (((((view_Of orangerylaw_small [2]).1).known).length : Int) == 2)) && (((gt (((view_Of orangerylaw_small [2]).1).known) 0).node) == 2)) && (((((view_Of orangerylaw_small [2]).1).way).length : Int) == 1)) && (((gt (((view_Of orangerylaw_small [2]).1).way) 0).node) == 1)) && (((((view_Of orangerylaw_small [0]).1).known).length : Int) == 4)) && (((((view_Of orangerylaw_small [0]).1).way).length : Int) == 0)) && ((view_Check ((view_Of orangerylaw_small [2]).1)) == 0)) && ((view_Roots [17]) == 5)) := by simp only [orangerylaw_seen, hg1, cond_true, cond_false]
  refine cw_ret ?_
  rw [hr1]
  exact ⟨(), _, (.cons (.tmp rfl) .nil), rfl, Sm, .nil _, .nil _⟩

def orangerylaw_ViewMore_L1 (t1 : List Place) (roots1 : List Int) : List Place → Bool
  | [] => true
  | pn2 :: rn2 => (bif ((!(decide (pn2 ∈ (((view_Of t1 roots1).1).known)))) && (!(decide (pn2 ∈ (((view_Of t1 roots1).1).way))))) then false else (orangerylaw_ViewMore_L1 t1 roots1 rn2))
def orangerylaw_ViewMore_L0 (t1 : List Place) (roots1 : List Int) (k1 : Int) : List Place → Bool
  | [] => (orangerylaw_ViewMore_L1 t1 roots1 (((view_Of t1 (roots1.take ((orangerylaw_at k1 ((roots1.length : Int) + 1)).toNat))).1).way))
  | pn1 :: rn1 => (bif (!(decide (pn1 ∈ (((view_Of t1 roots1).1).known)))) then false else (orangerylaw_ViewMore_L0 t1 roots1 k1 rn1))
def orangerylaw_ViewMore (t1 : List Place) (roots1 : List Int) (k1 : Int) : Bool :=
  (bif ((!orangerylaw_seen) || (((view_Of t1 roots1).2) != 0)) then orangerylaw_seen else (bif (((view_Of t1 (roots1.take ((orangerylaw_at k1 ((roots1.length : Int) + 1)).toNat))).2) != 0) then false else (orangerylaw_ViewMore_L0 t1 roots1 k1 (((view_Of t1 (roots1.take ((orangerylaw_at k1 ((roots1.length : Int) + 1)).toNat))).1).known))))
theorem orangerylaw_ViewMore_spec (y1 : SlV) (t1 : List Place) (y2 : SlV) (roots1 : List Int) (k1 : Int) : Does Try.prog 6 [.agg ⟨[y1.val t1.length]⟩, y2.val roots1.length, .int .i64 k1] [RdL EPlace y1 t1, RdL EInt y2 roots1] (fun (_ : Unit) => .bool (orangerylaw_ViewMore t1 roots1 k1)) (fun (_ : Unit) => []) := by
  refine does_of tab_ok Try.func6 rfl Try.ntmps6 Try.results6 rfl inferInstance (fun _ => inferInstance) fun C => ?_
  refine cw_pure (φ := t1.length * 24 ≤ 140737488355328) [RdL EPlace y1 t1] Sm (fun M w h => (allF1 h).len) fun hlen1 => ?_
  refine cw_pure (φ := roots1.length * 8 ≤ 140737488355328) [RdL EInt y2 roots1] Sm (fun M w h => (allF1 h).len) fun hlen2 => ?_
  (repeat refine cw_seq ?_); refine cw_region ?_
  refine rw_box_agg .sq (guard_none rfl) rfl rfl rfl rfl rfl fun g1 => ?_
  refine Rp rfl rfl rfl rfl ?_
  refine rw_nil ?_
  (repeat refine cw_seq ?_); refine cw_region ?_
  refine rw_q rfl rfl rfl (q_ldA rfl rfl (fun _ => rfl) rfl Mm rfl) ?_
  refine Rp rfl rfl rfl rfl ?_
  refine rw_call (view_Of_spec y1 t1 y2 roots1) .sq (guard_none rfl) rfl rfl rfl Kr rfl rfl Sm ?_
  intro x1
  refine rw_pure (φ := (((view_Of t1 roots1).1).roots).length * 8 ≤ 140737488355328) [RdL EInt x1.1 (((view_Of t1 roots1).1).roots)] Sm (fun M w h => (allF1 h).len) fun hlen3 => ?_
  refine rw_pure (φ := (((view_Of t1 roots1).1).known).length * 24 ≤ 140737488355328) [RdL EPlace x1.2.1 (((view_Of t1 roots1).1).known)] Sm (fun M w h => (allF1 h).len) fun hlen4 => ?_
  refine rw_pure (φ := (((view_Of t1 roots1).1).way).length * 24 ≤ 140737488355328) [RdL EPlace x1.2.2 (((view_Of t1 roots1).1).way)] Sm (fun M w h => (allF1 h).len) fun hlen5 => ?_
  refine Rp rfl rfl rfl rfl ?_
  refine Rp rfl rfl rfl rfl ?_
  refine Rp rfl rfl rfl rfl ?_
  refine rw_alloc .sq (guard_none rfl) rfl rfl rfl rfl fun g2 => ?_
  refine rw_stA .sq (.inl ⟨_, rfl⟩) (guard_none rfl) rfl rfl rfl rfl rfl rfl rfl rfl rfl Ub rfl ?_
  refine Rp rfl rfl rfl rfl ?_
  refine rw_nil ?_
  (repeat refine cw_seq ?_); refine cw_region ?_
  refine rw_call (orangerylaw_seen_spec ) .sq (guard_none rfl) rfl rfl rfl Kr rfl rfl Sm ?_
  intro _
  refine Rp rfl rfl rfl rfl ?_
  refine Rp rfl rfl rfl rfl ?_
  refine rw_qg (guard_vf rfl rfl rfl) rfl rfl (q_pev rfl Bt) ?_
  refine rw_qg (guard_vf rfl rfl rfl) rfl rfl (q_pev rfl Bt) ?_
  refine rw_q rfl rfl rfl (q_pev rfl Bt) ?_
  refine rw_nil ?_
  (repeat refine cw_seq ?_); refine cw_cond (b := ((!orangerylaw_seen) || (((view_Of t1 roots1).2) != 0))) rfl rfl (fun hc1 => ?_) (fun hc1 => ?_)
  · skip
    (repeat refine cw_seq ?_); refine cw_region ?_
    refine rw_call (orangerylaw_seen_spec ) .sq (guard_none rfl) rfl rfl rfl Kr rfl rfl Sm ?_
    intro _
    refine Rp rfl rfl rfl rfl ?_
    refine rw_nil ?_
    (repeat refine cw_seq ?_)
    have hr1 : (orangerylaw_ViewMore t1 roots1 k1) = orangerylaw_seen := by simp only [orangerylaw_ViewMore, hc1, cond_true, cond_false]
    refine cw_ret ?_
    rw [hr1]
    exact ⟨(), _, (.cons (.tmp rfl) .nil), rfl, Sm, .nil _, .nil _⟩
  · skip
    have hat := at_in (k := k1) (n := (roots1.length : Int) + 1) (by omega)
    (repeat refine cw_seq ?_); refine cw_skip ?_
    (repeat refine cw_seq ?_)
    refine cw_join [6, 7] [true, true] (fun (i_ : Nat × SlV × SlV × SlV) => match i_ with | ⟨g3, x2, x3, x4⟩ => [(8, .v (.int .i64 ((view_Of t1 (roots1.take ((orangerylaw_at k1 ((roots1.length : Int) + 1)).toNat))).2))), (9, .v (.pointer (some ⟨g3, 0, none⟩)))]) (fun (i_ : Nat × SlV × SlV × SlV) => match i_ with | ⟨g3, x2, x3, x4⟩ => [⟨g3, 51, [x2.val (((view_Of t1 (roots1.take ((orangerylaw_at k1 ((roots1.length : Int) + 1)).toNat))).1).roots).length, x3.val (((view_Of t1 (roots1.take ((orangerylaw_at k1 ((roots1.length : Int) + 1)).toNat))).1).known).length, x4.val (((view_Of t1 (roots1.take ((orangerylaw_at k1 ((roots1.length : Int) + 1)).toNat))).1).way).length]⟩]) (fun (i_ : Nat × SlV × SlV × SlV) => match i_ with | ⟨g3, x2, x3, x4⟩ => []) (fun (i_ : Nat × SlV × SlV × SlV) => match i_ with | ⟨g3, x2, x3, x4⟩ => [RdL EInt x2 (((view_Of t1 (roots1.take ((orangerylaw_at k1 ((roots1.length : Int) + 1)).toNat))).1).roots), RdL EPlace x3 (((view_Of t1 (roots1.take ((orangerylaw_at k1 ((roots1.length : Int) + 1)).toNat))).1).known), RdL EPlace x4 (((view_Of t1 (roots1.take ((orangerylaw_at k1 ((roots1.length : Int) + 1)).toNat))).1).way)]) (fun _ => True) (.cons rfl (.cons rfl (.nil _))) (.keep (.keep (.nil))) ?_ ?_
    · skip
      refine cw_regionA (fun j => match j with | 13 => none | _ => some []) ?_
      refine ra_q (.an (i := 0) (js := [1, 2, 3, 4, 5, 6, 7, 9, 10, 11, 12]) rfl Kr Kr Kr Kr) (SplitB.all _) (by simp) rfl rfl rfl (q_ldA rfl rfl (fun _ => rfl) rfl Mm rfl) ?_
      refine ra_q (.an (i := 1) (js := [2, 3, 4, 5, 6, 8, 9, 10, 11, 12]) rfl Kr Kr Kr Kr) (SplitB.all _) (by simp) rfl rfl rfl (q_pev rfl (fun _ => rfl)) ?_
      refine ra_q (.an (i := 2) (js := [3, 4, 5, 7, 8, 9, 10, 11, 12]) rfl Kr Kr Kr Kr) (SplitB.all _) (by simp) rfl rfl rfl (q_pev rfl (fun _ => rfl)) ?_
      refine ra_q (.an (i := 3) (js := [5, 6, 7, 8, 9, 10, 11, 12]) rfl Kr Kr Kr Kr) (SplitB.all _) (by simp) rfl rfl rfl (q_pev rfl (fun _ => rfl)) ?_
      refine ra_q (.an (i := 4) (js := [6, 7, 8, 9, 10, 11, 12]) rfl Kr Kr Kr Kr) (SplitB.all _) (by simp) rfl rfl rfl (q_pev rfl (fun _ => rfl)) ?_
      refine ra_q (.an (i := 5) (js := [7, 8, 9, 10, 11, 12]) rfl Kr Kr Kr Kr) (SplitB.all _) (by simp) rfl rfl rfl (q_add rfl rfl (fun _ => rfl) rfl (fun _ => rfl) (fun _ => by omega)) ?_
      refine ra_two 6 12 Kr ?_ ?_
      · skip
        refine rw_call (orangerylaw_at_spec k1 ((roots1.length : Int) + 1) (by omega)) (.an rfl rfl) (guard_none rfl) rfl rfl rfl Kr rfl rfl Sm ?_
        intro _
        refine ra_q (.an (i := 7) (js := [9, 10, 11, 12]) rfl Kr Kr Kr Kr) (SplitB.all _) (by simp) rfl rfl rfl (q_take EInt ((orangerylaw_at k1 ((roots1.length : Int) + 1)).toNat) rfl rfl (fun _ => rfl) rfl (fun _ => rfl) rfl rfl Mm (fun _ => by omega) (fun _ => by omega)) ?_
        refine rw_fact (F := RdL EInt y2 (roots1.take ((orangerylaw_at k1 ((roots1.length : Int) + 1)).toNat))) [RdL EInt y2 roots1] Sm (fun M w h => (allF1 h).take _) ?_
        refine ra_two 8 12 Kr ?_ ?_
        · skip
          refine rw_call (view_Of_spec y1 t1 y2 (roots1.take ((orangerylaw_at k1 ((roots1.length : Int) + 1)).toNat))) (.an rfl rfl) (guard_none rfl) rfl rfl rfl Kr rfl rfl Sm ?_
          intro x5
          refine rw_pure (φ := (((view_Of t1 (roots1.take ((orangerylaw_at k1 ((roots1.length : Int) + 1)).toNat))).1).roots).length * 8 ≤ 140737488355328) [RdL EInt x5.1 (((view_Of t1 (roots1.take ((orangerylaw_at k1 ((roots1.length : Int) + 1)).toNat))).1).roots)] Sm (fun M w h => (allF1 h).len) fun hlen6 => ?_
          refine rw_pure (φ := (((view_Of t1 (roots1.take ((orangerylaw_at k1 ((roots1.length : Int) + 1)).toNat))).1).known).length * 24 ≤ 140737488355328) [RdL EPlace x5.2.1 (((view_Of t1 (roots1.take ((orangerylaw_at k1 ((roots1.length : Int) + 1)).toNat))).1).known)] Sm (fun M w h => (allF1 h).len) fun hlen7 => ?_
          refine rw_pure (φ := (((view_Of t1 (roots1.take ((orangerylaw_at k1 ((roots1.length : Int) + 1)).toNat))).1).way).length * 24 ≤ 140737488355328) [RdL EPlace x5.2.2 (((view_Of t1 (roots1.take ((orangerylaw_at k1 ((roots1.length : Int) + 1)).toNat))).1).way)] Sm (fun M w h => (allF1 h).len) fun hlen8 => ?_
          refine ra_q (.an (i := 9) (js := [12]) rfl Kr Kr Kr Kr) (SplitB.all _) (by simp) rfl rfl rfl (q_pev rfl (fun _ => rfl)) ?_
          refine ra_q (.an (i := 10) (js := [11, 12]) rfl Kr Kr Kr Kr) (SplitB.all _) (by simp) rfl rfl rfl (q_pev rfl (fun _ => rfl)) ?_
          refine ra_p (.an (i := 11) (js := [12, 13]) rfl Kr Kr Kr Kr) rfl rfl rfl (q_pev rfl (fun _ => rfl)) ?_
          refine ra_one 12 Kr ?_
          refine rw_alloc (.an rfl rfl) (guard_none rfl) rfl rfl rfl rfl fun g4 => ?_
          refine ra_one 13 Kr ?_
          refine rw_stA (.lo [g4] rfl rfl) (.inr (by simp)) (guard_none rfl) rfl rfl rfl rfl rfl rfl rfl rfl rfl Ub rfl ?_
          refine ra_q (.an (i := 14) (js := []) rfl Kr Kr Kr Kr) (SplitB.all _) (by simp) rfl rfl rfl (q_pev rfl (fun _ => rfl)) ?_
          refine ra_nil Kr ?_
          refine ⟨⟨g4, x5.1, x5.2.1, x5.2.2⟩, trivial, Le4⟩
        · skip
          refine rw_alloc (.an rfl rfl) (guard_none rfl) rfl rfl rfl rfl fun g5 => ?_
          refine ra_one 8 Kr ?_
          refine rw_call (view_Of_spec y1 t1 y2 (roots1.take ((orangerylaw_at k1 ((roots1.length : Int) + 1)).toNat))) (.an rfl rfl) (guard_none rfl) rfl rfl rfl Kr rfl rfl Sm ?_
          intro x6
          refine rw_pure (φ := (((view_Of t1 (roots1.take ((orangerylaw_at k1 ((roots1.length : Int) + 1)).toNat))).1).roots).length * 8 ≤ 140737488355328) [RdL EInt x6.1 (((view_Of t1 (roots1.take ((orangerylaw_at k1 ((roots1.length : Int) + 1)).toNat))).1).roots)] Sm (fun M w h => (allF1 h).len) fun hlen9 => ?_
          refine rw_pure (φ := (((view_Of t1 (roots1.take ((orangerylaw_at k1 ((roots1.length : Int) + 1)).toNat))).1).known).length * 24 ≤ 140737488355328) [RdL EPlace x6.2.1 (((view_Of t1 (roots1.take ((orangerylaw_at k1 ((roots1.length : Int) + 1)).toNat))).1).known)] Sm (fun M w h => (allF1 h).len) fun hlen10 => ?_
          refine rw_pure (φ := (((view_Of t1 (roots1.take ((orangerylaw_at k1 ((roots1.length : Int) + 1)).toNat))).1).way).length * 24 ≤ 140737488355328) [RdL EPlace x6.2.2 (((view_Of t1 (roots1.take ((orangerylaw_at k1 ((roots1.length : Int) + 1)).toNat))).1).way)] Sm (fun M w h => (allF1 h).len) fun hlen11 => ?_
          refine ra_q (.an (i := 9) (js := []) rfl Kr Kr Kr Kr) (SplitB.all _) (by simp) rfl rfl rfl (q_pev rfl (fun _ => rfl)) ?_
          refine ra_q (.an (i := 10) (js := [11]) rfl Kr Kr Kr Kr) (SplitB.all _) (by simp) rfl rfl rfl (q_pev rfl (fun _ => rfl)) ?_
          refine ra_p (.an (i := 11) (js := [13]) rfl Kr Kr Kr Kr) rfl rfl rfl (q_pev rfl (fun _ => rfl)) ?_
          refine ra_one 13 Kr ?_
          refine rw_stA (.lo [g5] rfl rfl) (.inr (by simp)) (guard_none rfl) rfl rfl rfl rfl rfl rfl rfl rfl rfl Ub rfl ?_
          refine ra_q (.an (i := 14) (js := []) rfl Kr Kr Kr Kr) (SplitB.all _) (by simp) rfl rfl rfl (q_pev rfl (fun _ => rfl)) ?_
          refine ra_nil Kr ?_
          refine ⟨⟨g5, x6.1, x6.2.1, x6.2.2⟩, trivial, Le4⟩
      · skip
        refine rw_alloc (.an rfl rfl) (guard_none rfl) rfl rfl rfl rfl fun g6 => ?_
        refine ra_one 6 Kr ?_
        refine rw_call (orangerylaw_at_spec k1 ((roots1.length : Int) + 1) (by omega)) (.an rfl rfl) (guard_none rfl) rfl rfl rfl Kr rfl rfl Sm ?_
        intro _
        refine ra_q (.an (i := 7) (js := [9, 10, 11]) rfl Kr Kr Kr Kr) (SplitB.all _) (by simp) rfl rfl rfl (q_take EInt ((orangerylaw_at k1 ((roots1.length : Int) + 1)).toNat) rfl rfl (fun _ => rfl) rfl (fun _ => rfl) rfl rfl Mm (fun _ => by omega) (fun _ => by omega)) ?_
        refine rw_fact (F := RdL EInt y2 (roots1.take ((orangerylaw_at k1 ((roots1.length : Int) + 1)).toNat))) [RdL EInt y2 roots1] Sm (fun M w h => (allF1 h).take _) ?_
        refine ra_one 8 Kr ?_
        refine rw_call (view_Of_spec y1 t1 y2 (roots1.take ((orangerylaw_at k1 ((roots1.length : Int) + 1)).toNat))) (.an rfl rfl) (guard_none rfl) rfl rfl rfl Kr rfl rfl Sm ?_
        intro x7
        refine rw_pure (φ := (((view_Of t1 (roots1.take ((orangerylaw_at k1 ((roots1.length : Int) + 1)).toNat))).1).roots).length * 8 ≤ 140737488355328) [RdL EInt x7.1 (((view_Of t1 (roots1.take ((orangerylaw_at k1 ((roots1.length : Int) + 1)).toNat))).1).roots)] Sm (fun M w h => (allF1 h).len) fun hlen12 => ?_
        refine rw_pure (φ := (((view_Of t1 (roots1.take ((orangerylaw_at k1 ((roots1.length : Int) + 1)).toNat))).1).known).length * 24 ≤ 140737488355328) [RdL EPlace x7.2.1 (((view_Of t1 (roots1.take ((orangerylaw_at k1 ((roots1.length : Int) + 1)).toNat))).1).known)] Sm (fun M w h => (allF1 h).len) fun hlen13 => ?_
        refine rw_pure (φ := (((view_Of t1 (roots1.take ((orangerylaw_at k1 ((roots1.length : Int) + 1)).toNat))).1).way).length * 24 ≤ 140737488355328) [RdL EPlace x7.2.2 (((view_Of t1 (roots1.take ((orangerylaw_at k1 ((roots1.length : Int) + 1)).toNat))).1).way)] Sm (fun M w h => (allF1 h).len) fun hlen14 => ?_
        refine ra_q (.an (i := 9) (js := []) rfl Kr Kr Kr Kr) (SplitB.all _) (by simp) rfl rfl rfl (q_pev rfl (fun _ => rfl)) ?_
        refine ra_q (.an (i := 10) (js := [11]) rfl Kr Kr Kr Kr) (SplitB.all _) (by simp) rfl rfl rfl (q_pev rfl (fun _ => rfl)) ?_
        refine ra_p (.an (i := 11) (js := [13]) rfl Kr Kr Kr Kr) rfl rfl rfl (q_pev rfl (fun _ => rfl)) ?_
        refine ra_one 13 Kr ?_
        refine rw_stA (.lo [g6] rfl rfl) (.inr (by simp)) (guard_none rfl) rfl rfl rfl rfl rfl rfl rfl rfl rfl Ub rfl ?_
        refine ra_q (.an (i := 14) (js := []) rfl Kr Kr Kr Kr) (SplitB.all _) (by simp) rfl rfl rfl (q_pev rfl (fun _ => rfl)) ?_
        refine ra_nil Kr ?_
        refine ⟨⟨g6, x7.1, x7.2.1, x7.2.2⟩, trivial, Le4⟩
    · skip
      rintro ⟨g3, x2, x3, x4⟩ -
      simp only [List.cons_append, List.nil_append]
      (repeat refine cw_seq ?_); refine cw_region ?_
      refine Rp rfl rfl rfl rfl ?_
      refine Rp rfl rfl rfl rfl ?_
      refine rw_nil ?_
      (repeat refine cw_seq ?_); refine cw_cond (b := (((view_Of t1 (roots1.take ((orangerylaw_at k1 ((roots1.length : Int) + 1)).toNat))).2) != 0)) rfl rfl (fun hc2 => ?_) (fun hc2 => ?_)
      · skip
        have hc2p := bne_iff_ne.1 hc2
        (repeat refine cw_seq ?_); refine cw_region ?_
        refine Rp rfl rfl rfl rfl ?_
        refine rw_nil ?_
        (repeat refine cw_seq ?_)
        have hr2 : (orangerylaw_ViewMore t1 roots1 k1) = false := by simp only [orangerylaw_ViewMore, hc1, hc2, cond_true, cond_false]
        refine cw_ret ?_
        rw [hr2]
        exact ⟨(), _, (.cons (.tmp rfl) .nil), rfl, Sm, .nil _, .nil _⟩
      · skip
        have hc2p := eq_of_bne_false hc2
        (repeat refine cw_seq ?_); refine cw_skip ?_
        (repeat refine cw_seq ?_); refine cw_region ?_
        refine Rp rfl rfl rfl rfl ?_
        refine rw_q rfl rfl rfl (q_ld1 rfl rfl (fun _ => rfl) rfl Mm rfl) ?_
        refine Rp rfl rfl rfl rfl ?_
        refine Rp rfl rfl rfl rfl ?_
        refine rw_nil ?_
        (repeat refine cw_seq ?_); refine cw_block ?_
        refine cw_pure (φ := (((view_Of t1 (roots1.take ((orangerylaw_at k1 ((roots1.length : Int) + 1)).toNat))).1).known).length * 24 ≤ 140737488355328) [RdL EPlace x3 (((view_Of t1 (roots1.take ((orangerylaw_at k1 ((roots1.length : Int) + 1)).toNat))).1).known)] Sm (fun M w h => (allF1 h).len) fun hlen15 => ?_
        (repeat refine cw_seq ?_); refine cw_loopS [6, 7, 9, 42, 43] [true, true, true] (fun (n1 : Nat) => [(44, .v (.int .i64 (n1 : Int)))]) (fun (n1 : Nat) => []) (fun (n1 : Nat) => []) (fun (n1 : Nat) => []) (fun (n1 : Nat) => (n1 ≤ (((view_Of t1 (roots1.take ((orangerylaw_at k1 ((roots1.length : Int) + 1)).toNat))).1).known).length) ∧ (orangerylaw_ViewMore_L0 t1 roots1 k1 ((((view_Of t1 (roots1.take ((orangerylaw_at k1 ((roots1.length : Int) + 1)).toNat))).1).known).drop n1)) = (orangerylaw_ViewMore t1 roots1 k1)) (fun (n1 : Nat) => (((view_Of t1 (roots1.take ((orangerylaw_at k1 ((roots1.length : Int) + 1)).toNat))).1).known).length - n1) 0 (.cons rfl (.cons rfl (.cons rfl (.cons rfl (.cons rfl (.nil _)))))) (.keep (.keep (.keep (.nil)))) ⟨Nat.zero_le _, (by simp only [orangerylaw_ViewMore, hc1, hc2, cond_true, cond_false] : (orangerylaw_ViewMore t1 roots1 k1) = (orangerylaw_ViewMore_L0 t1 roots1 k1 (((view_Of t1 (roots1.take ((orangerylaw_at k1 ((roots1.length : Int) + 1)).toNat))).1).known))).symm⟩ Le4 ?_
        rintro n1 ⟨hkn1, hf1⟩
        simp only [List.cons_append, List.nil_append]
        (repeat refine cw_seq ?_); refine cw_region ?_
        refine Rp rfl rfl rfl rfl ?_
        refine rw_nil ?_
        (repeat refine cw_seq ?_); refine cw_cond (b := decide ((n1 : Int) < ((((view_Of t1 (roots1.take ((orangerylaw_at k1 ((roots1.length : Int) + 1)).toNat))).1).known).length : Int))) rfl rfl (fun hc3 => ?_) (fun hc3 => ?_)
        · skip
          have hlt0 : n1 < (((view_Of t1 (roots1.take ((orangerylaw_at k1 ((roots1.length : Int) + 1)).toNat))).1).known).length := Int.ofNat_lt.1 (of_decide_eq_true hc3)
          (repeat refine cw_seq ?_); refine cw_skip ?_
          (repeat refine cw_seq ?_); refine cw_block ?_
          (repeat refine cw_seq ?_); refine cw_region ?_
          refine rw_q rfl rfl rfl (q_idx EPlace n1 rfl rfl (fun _ => rfl) rfl (fun _ => rfl) rfl rfl rfl Mm rfl (fun _ => rfl) (fun _ => by first | assumption | omega)) ?_
          refine rw_q rfl rfl rfl (q_leA EPlace rfl rfl (fun _ => rfl) rfl rfl Mm (fun _ => by first | assumption | omega)) ?_
          refine rw_alloc .sq (guard_none rfl) rfl rfl rfl rfl fun g7 => ?_
          refine rw_stA .sq (.inl ⟨_, rfl⟩) (guard_none rfl) rfl rfl rfl rfl rfl rfl rfl rfl rfl Ub rfl ?_
          refine rw_nil ?_
          (repeat refine cw_seq ?_); refine cw_region ?_
          refine Rp rfl rfl rfl rfl ?_
          refine rw_q rfl rfl rfl (q_ld1 rfl rfl (fun _ => rfl) rfl Mm rfl) ?_
          refine rw_q rfl rfl rfl (q_ldA rfl rfl (fun _ => rfl) rfl Mm rfl) ?_
          refine rw_call (slices_Contains_Place_spec' x1.2.1 (((view_Of t1 roots1).1).known) (gt (((view_Of t1 (roots1.take ((orangerylaw_at k1 ((roots1.length : Int) + 1)).toNat))).1).known) n1)) .sq (guard_none rfl) rfl rfl rfl Kr rfl rfl Sm ?_
          intro _
          refine Rp rfl rfl rfl rfl ?_
          refine rw_nil ?_
          (repeat refine cw_seq ?_); refine cw_cond (b := (!(decide ((gt (((view_Of t1 (roots1.take ((orangerylaw_at k1 ((roots1.length : Int) + 1)).toNat))).1).known) n1) ∈ (((view_Of t1 roots1).1).known))))) rfl rfl (fun hc4 => ?_) (fun hc4 => ?_)
          · skip
            (repeat refine cw_seq ?_); refine cw_region ?_
            refine Rp rfl rfl rfl rfl ?_
            refine rw_nil ?_
            (repeat refine cw_seq ?_)
            have hr3 : (orangerylaw_ViewMore t1 roots1 k1) = false := by rw [← hf1, drop_gt hlt0]; simp only [orangerylaw_ViewMore_L0, hc4, cond_true, cond_false]
            refine cw_ret ?_
            rw [hr3]
            exact ⟨(), _, (.cons (.tmp rfl) .nil), rfl, Sm, .nil _, .nil _⟩
          · skip
            (repeat refine cw_seq ?_); refine cw_skip ?_
            (repeat refine cw_seq ?_); refine cw_region ?_
            refine rw_q rfl rfl rfl (q_add rfl rfl (fun _ => rfl) rfl (fun _ => rfl) (fun _ => by omega)) ?_
            refine Rp rfl rfl rfl rfl ?_
            refine rw_nil ?_
            refine ⟨(n1 + 1), ⟨hlt0, (by rw [← hf1, drop_gt hlt0]; simp only [orangerylaw_ViewMore_L0, hc4, cond_true, cond_false] : (orangerylaw_ViewMore t1 roots1 k1) = (orangerylaw_ViewMore_L0 t1 roots1 k1 ((((view_Of t1 (roots1.take ((orangerylaw_at k1 ((roots1.length : Int) + 1)).toNat))).1).known).drop (n1 + 1)))).symm⟩, (by simp only []; omega), Le4⟩
        · skip
          have hge0 : (((view_Of t1 (roots1.take ((orangerylaw_at k1 ((roots1.length : Int) + 1)).toNat))).1).known).length ≤ n1 := by have := of_decide_eq_false hc3; omega
          (repeat refine cw_seq ?_); refine cw_exit ?_
          (repeat refine cw_seq ?_); refine cw_region ?_
          refine Rp rfl rfl rfl rfl ?_
          refine rw_q rfl rfl rfl (q_ld1 rfl rfl (fun _ => rfl) rfl Mm rfl) ?_
          refine Rp rfl rfl rfl rfl ?_
          refine Rp rfl rfl rfl rfl ?_
          refine rw_nil ?_
          (repeat refine cw_seq ?_); refine cw_block ?_
          refine cw_pure (φ := (((view_Of t1 (roots1.take ((orangerylaw_at k1 ((roots1.length : Int) + 1)).toNat))).1).way).length * 24 ≤ 140737488355328) [RdL EPlace x4 (((view_Of t1 (roots1.take ((orangerylaw_at k1 ((roots1.length : Int) + 1)).toNat))).1).way)] Sm (fun M w h => (allF1 h).len) fun hlen16 => ?_
          (repeat refine cw_seq ?_); refine cw_loopS [6, 7, 55, 56] [true, true, true] (fun (n2 : Nat) => [(57, .v (.int .i64 (n2 : Int)))]) (fun (n2 : Nat) => []) (fun (n2 : Nat) => []) (fun (n2 : Nat) => []) (fun (n2 : Nat) => (n2 ≤ (((view_Of t1 (roots1.take ((orangerylaw_at k1 ((roots1.length : Int) + 1)).toNat))).1).way).length) ∧ (orangerylaw_ViewMore_L1 t1 roots1 ((((view_Of t1 (roots1.take ((orangerylaw_at k1 ((roots1.length : Int) + 1)).toNat))).1).way).drop n2)) = (orangerylaw_ViewMore t1 roots1 k1)) (fun (n2 : Nat) => (((view_Of t1 (roots1.take ((orangerylaw_at k1 ((roots1.length : Int) + 1)).toNat))).1).way).length - n2) 0 (.cons rfl (.cons rfl (.cons rfl (.cons rfl (.nil _))))) (.keep (.keep (.keep (.nil)))) ⟨Nat.zero_le _, (by rw [← hf1, List.drop_of_length_le hge0]; simp only [orangerylaw_ViewMore_L0, cond_true, cond_false] : (orangerylaw_ViewMore t1 roots1 k1) = (orangerylaw_ViewMore_L1 t1 roots1 (((view_Of t1 (roots1.take ((orangerylaw_at k1 ((roots1.length : Int) + 1)).toNat))).1).way))).symm⟩ Le4 ?_
          rintro n2 ⟨hkn2, hf2⟩
          simp only [List.cons_append, List.nil_append]
          (repeat refine cw_seq ?_); refine cw_region ?_
          refine Rp rfl rfl rfl rfl ?_
          refine rw_nil ?_
          (repeat refine cw_seq ?_); refine cw_cond (b := decide ((n2 : Int) < ((((view_Of t1 (roots1.take ((orangerylaw_at k1 ((roots1.length : Int) + 1)).toNat))).1).way).length : Int))) rfl rfl (fun hc5 => ?_) (fun hc5 => ?_)
          · skip
            have hlt1 : n2 < (((view_Of t1 (roots1.take ((orangerylaw_at k1 ((roots1.length : Int) + 1)).toNat))).1).way).length := Int.ofNat_lt.1 (of_decide_eq_true hc5)
            (repeat refine cw_seq ?_); refine cw_skip ?_
            (repeat refine cw_seq ?_); refine cw_block ?_
            (repeat refine cw_seq ?_); refine cw_region ?_
            refine rw_q rfl rfl rfl (q_idx EPlace n2 rfl rfl (fun _ => rfl) rfl (fun _ => rfl) rfl rfl rfl Mm rfl (fun _ => rfl) (fun _ => by first | assumption | omega)) ?_
            refine rw_q rfl rfl rfl (q_leA EPlace rfl rfl (fun _ => rfl) rfl rfl Mm (fun _ => by first | assumption | omega)) ?_
            refine rw_alloc .sq (guard_none rfl) rfl rfl rfl rfl fun g8 => ?_
            refine rw_stA .sq (.inl ⟨_, rfl⟩) (guard_none rfl) rfl rfl rfl rfl rfl rfl rfl rfl rfl Ub rfl ?_
            refine rw_nil ?_
            (repeat refine cw_seq ?_); refine cw_region ?_
            refine Rp rfl rfl rfl rfl ?_
            refine rw_q rfl rfl rfl (q_ld1 rfl rfl (fun _ => rfl) rfl Mm rfl) ?_
            refine rw_q rfl rfl rfl (q_ldA rfl rfl (fun _ => rfl) rfl Mm rfl) ?_
            refine rw_call (slices_Contains_Place_spec' x1.2.1 (((view_Of t1 roots1).1).known) (gt (((view_Of t1 (roots1.take ((orangerylaw_at k1 ((roots1.length : Int) + 1)).toNat))).1).way) n2)) .sq (guard_none rfl) rfl rfl rfl Kr rfl rfl Sm ?_
            intro _
            refine Rp rfl rfl rfl rfl ?_
            refine Rp rfl rfl rfl rfl ?_
            refine rw_qg (guard_vt rfl rfl rfl) rfl rfl (q_pev rfl Bt) ?_
            refine rw_qg (guard_vt rfl rfl rfl) rfl rfl (q_ld1 rfl rfl Bt rfl Mm rfl) ?_
            refine rw_qg (guard_vt rfl rfl rfl) rfl rfl (q_ldA rfl rfl Bt rfl Mm rfl) ?_
            refine rw_callg (fun _ => slices_Contains_Place_spec' x1.2.2 (((view_Of t1 roots1).1).way) (gt (((view_Of t1 (roots1.take ((orangerylaw_at k1 ((roots1.length : Int) + 1)).toNat))).1).way) n2)) (fun _ => rfl) .sq (guard_vt rfl rfl rfl) rfl rfl rfl Kr rfl Bt Sm ?_
            refine rw_qg (guard_vt rfl rfl rfl) rfl rfl (q_pev rfl Bt) ?_
            refine rw_q rfl rfl rfl (q_pev rfl Bt) ?_
            refine rw_nil ?_
            (repeat refine cw_seq ?_); refine cw_cond (b := ((!(decide ((gt (((view_Of t1 (roots1.take ((orangerylaw_at k1 ((roots1.length : Int) + 1)).toNat))).1).way) n2) ∈ (((view_Of t1 roots1).1).known)))) && (!(decide ((gt (((view_Of t1 (roots1.take ((orangerylaw_at k1 ((roots1.length : Int) + 1)).toNat))).1).way) n2) ∈ (((view_Of t1 roots1).1).way)))))) rfl rfl (fun hc6 => ?_) (fun hc6 => ?_)
            · skip
              (repeat refine cw_seq ?_); refine cw_region ?_
              refine Rp rfl rfl rfl rfl ?_
              refine rw_nil ?_
              (repeat refine cw_seq ?_)
              have hr4 : (orangerylaw_ViewMore t1 roots1 k1) = false := by rw [← hf2, drop_gt hlt1]; simp only [orangerylaw_ViewMore_L1, hc6, cond_true, cond_false]
              refine cw_ret ?_
              rw [hr4]
              exact ⟨(), _, (.cons (.tmp rfl) .nil), rfl, Sm, .nil _, .nil _⟩
            · skip
              (repeat refine cw_seq ?_); refine cw_skip ?_
              (repeat refine cw_seq ?_); refine cw_region ?_
              refine rw_q rfl rfl rfl (q_add rfl rfl (fun _ => rfl) rfl (fun _ => rfl) (fun _ => by omega)) ?_
              refine Rp rfl rfl rfl rfl ?_
              refine rw_nil ?_
              refine ⟨(n2 + 1), ⟨hlt1, (by rw [← hf2, drop_gt hlt1]; simp only [orangerylaw_ViewMore_L1, hc6, cond_true, cond_false] : (orangerylaw_ViewMore t1 roots1 k1) = (orangerylaw_ViewMore_L1 t1 roots1 ((((view_Of t1 (roots1.take ((orangerylaw_at k1 ((roots1.length : Int) + 1)).toNat))).1).way).drop (n2 + 1)))).symm⟩, (by simp only []; omega), Le4⟩
          · skip
            have hge1 : (((view_Of t1 (roots1.take ((orangerylaw_at k1 ((roots1.length : Int) + 1)).toNat))).1).way).length ≤ n2 := by have := of_decide_eq_false hc5; omega
            (repeat refine cw_seq ?_); refine cw_exit ?_
            (repeat refine cw_seq ?_); refine cw_region ?_
            refine Rp rfl rfl rfl rfl ?_
            refine rw_nil ?_
            (repeat refine cw_seq ?_)
            have hr5 : (orangerylaw_ViewMore t1 roots1 k1) = true := by rw [← hf2, List.drop_of_length_le hge1]; simp only [orangerylaw_ViewMore_L1, cond_true, cond_false]
            refine cw_ret ?_
            rw [hr5]
            exact ⟨(), _, (.cons (.tmp rfl) .nil), rfl, Sm, .nil _, .nil _⟩
end Go.Proofs.Ytchdacbjiomplaa
