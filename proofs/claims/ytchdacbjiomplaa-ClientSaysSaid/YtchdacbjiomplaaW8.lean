/- Part of this claim. No condition. -/
import Derived.Test.YtchdacbjiomplaaW7
set_option linter.unusedVariables false
set_option linter.unusedSimpArgs false
namespace Go.Proofs.Ytchdacbjiomplaa
open Go Go.Proofs.Ytchdacbjiomplaa.Fw Go.Proofs
theorem table_L1_len : ∀ (l tb : List Place), (orangeryref_table_L1 l tb).length = tb.length
  | [], _ => rfl
  | p :: r, tb => by rw [orangeryref_table_L1, table_L1_len r]; simp
theorem table_L0_len (l : List Place) : ∀ (f k : Nat) (tb : List Place), (orangeryref_table_L0 l f k tb).length = tb.length
  | 0, _, tb => table_L1_len l tb
  | f + 1, k, tb => by rw [orangeryref_table_L0, table_L0_len l f]; simp
theorem table_len (l : List Place) : (orangeryref_table l).length = 16 := (table_L0_len l _ _ _).trans List.length_replicate
theorem par_lt {l : List Place} (h : orangeryref_CheckTree l = 0) : True := trivial

def orangeryref_places_L0 (t1 : List Place) : Nat → Nat → (List Place) → (List Place)
  | 0, n1, l1 => l1
  | fn1 + 1, n1, l1 => (bif (decide ((n1 : Int) > 0) && decide (((gt t1 n1).parent) ≥ 0)) then (orangeryref_places_L0 t1 fn1 (n1 + 1) (l1 ++ [(gt t1 n1)])) else (orangeryref_places_L0 t1 fn1 (n1 + 1) l1))
def orangeryref_places (t1 : List Place) : List Place :=
  (orangeryref_places_L0 t1 (16 - 0) 0 [])
theorem orangeryref_places_spec (t1 : List Place) (hl_t1 : t1.length = 16) : Does Try.prog 148 [.agg ⟨(t1.flatMap EPlace.enc)⟩] [] (fun (X : SlV) => X.val (orangeryref_places t1).length) (fun (X : SlV) => [RdL EPlace X (orangeryref_places t1)]) := by
  refine does_of tab_ok Try.func148 rfl Try.ntmps148 Try.results148 rfl inferInstance (fun _ => inferInstance) fun C => ?_
  (repeat refine cw_seq ?_); refine cw_region ?_
  refine rw_box_agg .sq (guard_none rfl) rfl rfl rfl rfl rfl fun g1 => ?_
  refine Rp rfl rfl rfl rfl ?_
  refine rw_nil ?_
  (repeat refine cw_seq ?_); refine cw_region ?_
  refine Rp rfl rfl rfl rfl ?_
  refine rw_nil ?_
  (repeat refine cw_seq ?_); refine cw_region ?_
  refine rw_q rfl rfl rfl (q_ldA rfl rfl (fun _ => rfl) rfl Mm (flat_len EPlace (n := 16) hl_t1 rfl)) ?_
  refine Rp rfl rfl rfl rfl ?_
  refine rw_nil ?_
  (repeat refine cw_seq ?_); refine cw_block ?_
  (repeat refine cw_seq ?_); refine cw_loopS [2, 6] [true] (fun (i_ : List Place × SlV × Option Nat × Nat) => match i_ with | ⟨l1, x1, x1b, n1⟩ => [(3, .v (x1.val l1.length)), (7, .v (.int .i64 (n1 : Int)))]) (fun (i_ : List Place × SlV × Option Nat × Nat) => match i_ with | ⟨l1, x1, x1b, n1⟩ => []) (fun (i_ : List Place × SlV × Option Nat × Nat) => match i_ with | ⟨l1, x1, x1b, n1⟩ => [ownL EPlace 35 x1 x1b l1]) (fun (i_ : List Place × SlV × Option Nat × Nat) => match i_ with | ⟨l1, x1, x1b, n1⟩ => []) (fun (i_ : List Place × SlV × Option Nat × Nat) => match i_ with | ⟨l1, x1, x1b, n1⟩ => (n1 ≤ 16) ∧ (l1.length ≤ n1) ∧ (orangeryref_places_L0 t1 (16 - n1) n1 l1) = (orangeryref_places t1)) (fun (i_ : List Place × SlV × Option Nat × Nat) => match i_ with | ⟨l1, x1, x1b, n1⟩ => 16 - n1) ⟨[], ⟨none, 0⟩, none, 0⟩ (.cons rfl (.cons rfl (.nil _))) (.keep (.nil)) ⟨(Nat.zero_le _), (by first | exact Nat.le_refl _ | exact Nat.zero_le _ | omega), (by simp only [orangeryref_places, cond_true, cond_false] : (orangeryref_places t1) = (orangeryref_places_L0 t1 (16 - 0) 0 [])).symm⟩ (Le.trans (le_nilL EPlace 35) Le4) ?_
  rintro ⟨l1, x1, x1b, n1⟩ ⟨hkn1, hl1, hf1⟩
  simp only [List.cons_append, List.nil_append]
  (repeat refine cw_seq ?_); refine cw_region ?_
  refine Rp rfl rfl rfl rfl ?_
  refine rw_nil ?_
  (repeat refine cw_seq ?_); refine cw_cond (b := decide ((n1 : Int) < 16)) rfl rfl (fun hc1 => ?_) (fun hc1 => ?_)
  · skip
    have hlt0 : n1 < 16 := by have := of_decide_eq_true hc1; omega
    have hlt0_ : 16 - n1 = (16 - (n1 + 1)) + 1 := by omega
    (repeat refine cw_seq ?_); refine cw_skip ?_
    (repeat refine cw_seq ?_); refine cw_block ?_
    (repeat refine cw_seq ?_); refine cw_region ?_
    refine Rp rfl rfl rfl rfl ?_
    refine rw_q rfl rfl rfl (q_ixA EPlace n1 rfl rfl (fun _ => rfl) rfl (fun _ => rfl) rfl rfl rfl (fun _ => rfl) hl_t1 (fun _ => by first | assumption | omega)) ?_
    refine rw_alloc .sq (guard_none rfl) rfl rfl rfl rfl fun g2 => ?_
    refine Rp rfl rfl rfl rfl ?_
    refine rw_stA .sq (.inl ⟨_, rfl⟩) (guard_none rfl) rfl rfl rfl rfl rfl rfl rfl rfl rfl Ub rfl ?_
    refine rw_nil ?_
    (repeat refine cw_seq ?_); refine cw_region ?_
    refine Rp rfl rfl rfl rfl ?_
    refine Rp rfl rfl rfl rfl ?_
    refine Rp rfl rfl rfl rfl ?_
    refine rw_qg (guard_vt rfl rfl rfl) rfl rfl (q_pev rfl Bt) ?_
    refine rw_qg (guard_vt rfl rfl rfl) rfl rfl (q_ld1 rfl rfl Bt rfl Mm rfl) ?_
    refine rw_qg (guard_vt rfl rfl rfl) rfl rfl (q_pev rfl Bt) ?_
    refine rw_q rfl rfl rfl (q_pev rfl Bt) ?_
    refine rw_nil ?_
    (repeat refine cw_seq ?_); refine cw_cond (b := (decide ((n1 : Int) > 0) && decide (((gt t1 n1).parent) ≥ 0))) rfl rfl (fun hc2 => ?_) (fun hc2 => ?_)
    · skip
      (repeat refine cw_seq ?_); refine cw_region ?_
      refine Rp rfl rfl rfl rfl ?_
      refine rw_q rfl rfl rfl (q_ldA rfl rfl (fun _ => rfl) rfl Mm rfl) ?_
      refine rw_bsliceL EPlace [(gt t1 n1)] .sq (guard_none rfl) rfl rfl rfl rfl rfl rfl rfl rfl rfl rfl rfl rfl rfl rfl rfl fun x2 x2b => ?_
      refine rw_appendL EPlace l1 [(gt t1 n1)] (b := x1b) .sq (fun _ _ => .inl ⟨_, rfl⟩) (guard_none rfl) rfl rfl rfl rfl rfl rfl rfl (fun _ _ => Uo) rfl rfl rfl rfl rfl rfl rfl (reads_ownL (e := 35) (b := x2b) Mm) (by show (l1.length + 1) * 24 ≤ 140737488355328; (try simp only [List.length_append, List.length_cons, List.length_nil]); omega) fun x3 x3b => ?_
      refine Rp rfl rfl rfl rfl ?_
      refine rw_nil ?_
      (repeat refine cw_seq ?_); refine cw_region ?_
      refine rw_q rfl rfl rfl (q_add rfl rfl (fun _ => rfl) rfl (fun _ => rfl) (fun _ => by omega)) ?_
      refine Rp rfl rfl rfl rfl ?_
      refine rw_nil ?_
      refine ⟨⟨(l1 ++ [(gt t1 n1)]), x3, x3b, (n1 + 1)⟩, ⟨hlt0, (by simp only [List.length_append, List.length_cons, List.length_nil]; omega), (by rw [← hf1]; (conv => lhs; rw [hlt0_]); simp only [orangeryref_places_L0, hc2, cond_true, cond_false] : (orangeryref_places t1) = (orangeryref_places_L0 t1 (16 - (n1 + 1)) (n1 + 1) (l1 ++ [(gt t1 n1)]))).symm⟩, (by simp only []; omega), Le4⟩
    · skip
      (repeat refine cw_seq ?_); refine cw_skip ?_
      (repeat refine cw_seq ?_); refine cw_region ?_
      refine rw_q rfl rfl rfl (q_add rfl rfl (fun _ => rfl) rfl (fun _ => rfl) (fun _ => by omega)) ?_
      refine Rp rfl rfl rfl rfl ?_
      refine rw_nil ?_
      refine ⟨⟨l1, x1, x1b, (n1 + 1)⟩, ⟨hlt0, (by simp only [List.length_append, List.length_cons, List.length_nil]; omega), (by rw [← hf1]; (conv => lhs; rw [hlt0_]); simp only [orangeryref_places_L0, hc2, cond_true, cond_false] : (orangeryref_places t1) = (orangeryref_places_L0 t1 (16 - (n1 + 1)) (n1 + 1) l1)).symm⟩, (by simp only []; omega), Le4⟩
  · skip
    have hge0 : 16 ≤ n1 := by have := of_decide_eq_false hc1; omega
    have hge0_ : 16 - n1 = 0 := by omega
    (repeat refine cw_seq ?_); refine cw_exit ?_
    (repeat refine cw_seq ?_); refine cw_region ?_
    refine Rp rfl rfl rfl rfl ?_
    refine Rp rfl rfl rfl rfl ?_
    refine rw_nil ?_
    (repeat refine cw_seq ?_)
    refine cw_le (le_freezeL EPlace 35 x1 x1b l1 Uo) ?_
    have hr1 : (orangeryref_places t1) = l1 := by rw [← hf1, hge0_]; simp only [orangeryref_places_L0, cond_true, cond_false]
    refine cw_ret ?_
    rw [hr1]
    exact ⟨x1, _, (.cons (.tmp rfl) .nil), rfl, Sm, .nil _, .nil _⟩

def orangeryref_done (l1 : List Place) (o1 : Op) : (List Place) × Step :=
  (bif (orangeryref_IsUnder l1 o1.parent o1.node) then (l1, (⟨o1, false, (tree_Find l1 o1.node)⟩ : Step)) else ((orangeryref_places ((orangeryref_table l1).set o1.node.toNat (⟨o1.node, o1.parent, o1.name⟩ : Place))), (⟨o1, true, (tree_Find l1 o1.node)⟩ : Step)))
theorem orangeryref_done_spec (y1 : SlV) (l1 : List Place) (o1 : Op) (hpar : ∀ p ∈ l1, 0 ≤ p.parent ∧ p.parent ≤ 16) (hnode : ∀ p ∈ l1, 0 ≤ p.node ∧ p.node < 16) (ho : 0 ≤ o1.node ∧ o1.node < 16) : Does Try.prog 126 [y1.val l1.length, .agg ⟨[.int .i64 o1.time, .int .i64 o1.who, .int .i64 o1.node, .int .i64 o1.parent, .int .i64 o1.name, .int .i64 o1.life, .int .i64 o1.seq]⟩] [RdL EPlace y1 l1] (fun (X : SlV) => .tuple #[X.val ((orangeryref_done l1 o1).1).length, .agg ⟨[.int .i64 ((((orangeryref_done l1 o1).2).o).time), .int .i64 ((((orangeryref_done l1 o1).2).o).who), .int .i64 ((((orangeryref_done l1 o1).2).o).node), .int .i64 ((((orangeryref_done l1 o1).2).o).parent), .int .i64 ((((orangeryref_done l1 o1).2).o).name), .int .i64 ((((orangeryref_done l1 o1).2).o).life), .int .i64 ((((orangeryref_done l1 o1).2).o).seq), .bool (((orangeryref_done l1 o1).2).did), .int .i64 ((((orangeryref_done l1 o1).2).was).node), .int .i64 ((((orangeryref_done l1 o1).2).was).parent), .int .i64 ((((orangeryref_done l1 o1).2).was).name)]⟩]) (fun (X : SlV) => [RdL EPlace X ((orangeryref_done l1 o1).1)]) := by
  refine does_of tab_ok Try.func126 rfl Try.ntmps126 Try.results126 rfl inferInstance (fun _ => inferInstance) fun C => ?_
  refine cw_pure (φ := l1.length * 24 ≤ 140737488355328) [RdL EPlace y1 l1] Sm (fun M w h => (allF1 h).len) fun hlen1 => ?_
  (repeat refine cw_seq ?_); refine cw_region ?_
  refine rw_box_agg .sq (guard_none rfl) rfl rfl rfl rfl rfl fun g1 => ?_
  refine Rp rfl rfl rfl rfl ?_
  refine rw_alloc .sq (guard_none rfl) rfl rfl rfl rfl fun g2 => ?_
  refine rw_nil ?_
  (repeat refine cw_seq ?_)
  refine cw_join [0, 3, 4, 5] [true, true] (fun (g3 : Nat) => [(6, .v (.pointer (some ⟨g3, 0, none⟩)))]) (fun (g3 : Nat) => [⟨g3, 37, [.int .i64 o1.time, .int .i64 o1.who, .int .i64 o1.node, .int .i64 o1.parent, .int .i64 o1.name, .int .i64 o1.life, .int .i64 o1.seq, .bool false, .int .i64 ((tree_Find l1 o1.node).node), .int .i64 ((tree_Find l1 o1.node).parent), .int .i64 ((tree_Find l1 o1.node).name)]⟩]) (fun (g3 : Nat) => []) (fun (g3 : Nat) => []) (fun _ => True) (.cons rfl (.cons rfl (.cons rfl (.cons rfl (.nil _))))) (.keep (.keep (.nil))) ?_ ?_
  · skip
    refine cw_regionA (fun j => match j with | 7 => none | _ => some []) ?_
    refine ra_q (.an (i := 0) (js := [1, 2, 3, 4, 6]) rfl Kr Kr Kr Kr) (SplitB.all _) (by simp) rfl rfl rfl (q_ldA rfl rfl (fun _ => rfl) rfl Mm rfl) ?_
    refine ra_q (.ab (i := 1) (js := [2, 3, 6]) [4, 5, 7] rfl Kr Kr Kr Kr Kr) (SplitB.all _) (by simp) rfl rfl rfl (q_pev rfl (fun _ => rfl)) ?_
    refine ra_q (.ab (i := 2) (js := [6]) [3, 4, 5, 7] rfl Kr Kr Kr Kr Kr) (SplitB.all _) (by simp) rfl rfl rfl (q_pev rfl (fun _ => rfl)) ?_
    refine ra_q (.ab (i := 3) (js := [6]) [4, 5, 7] rfl Kr Kr Kr Kr Kr) (SplitB.all _) (by simp) rfl rfl rfl (q_ld1 rfl rfl (fun _ => rfl) rfl Mm rfl) ?_
    refine ra_two 4 6 Kr ?_ ?_
    · skip
      refine rw_call (orangeryref_FindIn_spec' y1 l1 o1.node) (.an rfl rfl) (guard_none rfl) rfl rfl rfl Kr rfl rfl Sm ?_
      intro _
      refine ra_q (.an (i := 5) (js := [6]) rfl Kr Kr Kr Kr) (SplitB.all _) (by simp) rfl rfl rfl (q_pev rfl (fun _ => rfl)) ?_
      refine ra_one 6 Kr ?_
      refine rw_alloc (.an rfl rfl) (guard_none rfl) rfl rfl rfl rfl fun g4 => ?_
      refine ra_one 7 Kr ?_
      refine rw_stA (.lo [g4] rfl rfl) (.inr (by simp)) (guard_none rfl) rfl rfl rfl rfl rfl rfl rfl rfl rfl Ub rfl ?_
      refine ra_nil Kr ?_
      refine ⟨g4, trivial, Le4⟩
    · skip
      refine rw_alloc (.an rfl rfl) (guard_none rfl) rfl rfl rfl rfl fun g5 => ?_
      refine ra_one 4 Kr ?_
      refine rw_call (orangeryref_FindIn_spec' y1 l1 o1.node) (.an rfl rfl) (guard_none rfl) rfl rfl rfl Kr rfl rfl Sm ?_
      intro _
      refine ra_q (.an (i := 5) (js := []) rfl Kr Kr Kr Kr) (SplitB.all _) (by simp) rfl rfl rfl (q_pev rfl (fun _ => rfl)) ?_
      refine ra_one 7 Kr ?_
      refine rw_stA (.lo [g5] rfl rfl) (.inr (by simp)) (guard_none rfl) rfl rfl rfl rfl rfl rfl rfl rfl rfl Ub rfl ?_
      refine ra_nil Kr ?_
      refine ⟨g5, trivial, Le4⟩
  · skip
    rintro g3 -
    simp only [List.cons_append, List.nil_append]
    (repeat refine cw_seq ?_); refine cw_region ?_
    refine Rp rfl rfl rfl rfl ?_
    refine Rp rfl rfl rfl rfl ?_
    refine rw_q rfl rfl rfl (q_ld1 rfl rfl (fun _ => rfl) rfl Mm rfl) ?_
    refine Rp rfl rfl rfl rfl ?_
    refine rw_q rfl rfl rfl (q_ld1 rfl rfl (fun _ => rfl) rfl Mm rfl) ?_
    refine rw_call (orangeryref_IsUnder_spec y1 l1 o1.parent o1.node hpar) .sq (guard_none rfl) rfl rfl rfl Kr rfl rfl Sm ?_
    intro _
    refine rw_nil ?_
    (repeat refine cw_seq ?_); refine cw_cond (b := (orangeryref_IsUnder l1 o1.parent o1.node)) rfl rfl (fun hc1 => ?_) (fun hc1 => ?_)
    · skip
      (repeat refine cw_seq ?_); refine cw_regionA (fun j => match j with | 3 => some [g2] | _ => some []) ?_
      refine ra_q (.an (i := 0) (js := [1]) rfl Kr Kr Kr Kr) (SplitB.all _) (by simp) rfl rfl rfl (q_pev rfl (fun _ => rfl)) ?_
      refine ra_q (.an (i := 1) (js := [2]) rfl Kr Kr Kr Kr) (SplitB.all _) (by simp) rfl rfl rfl (q_ldA rfl rfl (fun _ => rfl) rfl Mm rfl) ?_
      refine ra_q (.an (i := 2) (js := []) rfl Kr Kr Kr Kr) (SplitB.all _) (by simp) rfl rfl rfl (q_pev rfl (fun _ => rfl)) ?_
      refine ra_one 3 Kr ?_
      refine rw_stA (.an rfl rfl) (.inr (by simp)) (guard_none rfl) rfl rfl rfl rfl rfl rfl rfl rfl rfl Ub rfl ?_
      refine ra_nil Kr ?_
      (repeat refine cw_seq ?_)
      have hr1 : (orangeryref_done l1 o1) = (l1, (⟨o1, false, (tree_Find l1 o1.node)⟩ : Step)) := by simp only [orangeryref_done, hc1, cond_true, cond_false]
      refine cw_ret ?_
      rw [hr1]
      exact ⟨y1, _, (.cons (.tmp rfl) (.cons (.agg rfl rfl Mm rfl) .nil)), rfl, Sm, .nil _, .nil _⟩
    · skip
      (repeat refine cw_seq ?_); refine cw_skip ?_
      (repeat refine cw_seq ?_); refine cw_region ?_
      refine Rp rfl rfl rfl rfl ?_
      refine rw_st1 .sq (.inl ⟨_, rfl⟩) (guard_none rfl) rfl rfl rfl rfl rfl rfl rfl rfl rfl Ub rfl ?_
      refine rw_nil ?_
      (repeat refine cw_seq ?_); refine cw_region ?_
      refine Rp rfl rfl rfl rfl ?_
      refine rw_call (orangeryref_table_spec y1 l1 hnode) .sq (guard_none rfl) rfl rfl rfl Kr rfl rfl Sm ?_
      intro _
      refine rw_alloc .sq (guard_none rfl) rfl rfl rfl rfl fun g6 => ?_
      refine rw_stAr EPlace (orangeryref_table l1) (n := 16) .sq (.inl ⟨_, rfl⟩) (guard_none rfl) rfl rfl rfl rfl rfl rfl rfl (table_len l1) rfl Ub (by rfl) ?_
      refine rw_nil ?_
      (repeat refine cw_seq ?_); refine cw_region ?_
      refine Rp rfl rfl rfl rfl ?_
      refine rw_q rfl rfl rfl (q_ld1 rfl rfl (fun _ => rfl) rfl Mm rfl) ?_
      refine Rp rfl rfl rfl rfl ?_
      refine rw_q rfl rfl rfl (q_ld1 rfl rfl (fun _ => rfl) rfl Mm rfl) ?_
      refine Rp rfl rfl rfl rfl ?_
      refine rw_q rfl rfl rfl (q_ld1 rfl rfl (fun _ => rfl) rfl Mm rfl) ?_
      refine Rp rfl rfl rfl rfl ?_
      refine rw_q rfl rfl rfl (q_ld1 rfl rfl (fun _ => rfl) rfl Mm rfl) ?_
      refine Rp rfl rfl rfl rfl ?_
      refine rw_q rfl rfl rfl (q_idxB o1.node.toNat rfl rfl (fun _ => rfl) rfl (fun _ => rfl) rfl rfl rfl (fun _ => by omega) (fun _ => by first | assumption | omega)) ?_
      refine rw_stT EPlace (orangeryref_table l1) o1.node.toNat (⟨o1.node, o1.parent, o1.name⟩ : Place) .sq (.inl ⟨_, rfl⟩) (guard_none rfl) rfl rfl rfl rfl rfl rfl rfl rfl rfl (by rw [(table_len l1)]; first | assumption | omega) Ub ?_
      refine rw_nil ?_
      (repeat refine cw_seq ?_); refine cw_regionA (fun j => match j with | 4 => some [g2] | _ => some []) ?_
      refine ra_q (.an (i := 0) (js := [2]) rfl Kr Kr Kr Kr) (SplitB.all _) (by simp) rfl rfl rfl (q_ldA rfl rfl (fun _ => rfl) rfl Mm (flat_len EPlace (n := 16) (by rw [List.length_set]; exact (table_len l1)) rfl)) ?_
      refine ra_q (.an (i := 2) (js := [1, 3]) rfl Kr Kr Kr Kr) (SplitB.all _) (by simp) rfl rfl rfl (q_ldA rfl rfl (fun _ => rfl) rfl Mm rfl) ?_
      refine ra_one 1 Kr ?_
      refine rw_call (orangeryref_places_spec ((orangeryref_table l1).set o1.node.toNat (⟨o1.node, o1.parent, o1.name⟩ : Place)) (by rw [List.length_set]; exact table_len _)) (.an rfl rfl) (guard_none rfl) rfl rfl rfl Kr rfl rfl Sm ?_
      intro x1
      refine rw_pure (φ := (orangeryref_places ((orangeryref_table l1).set o1.node.toNat (⟨o1.node, o1.parent, o1.name⟩ : Place))).length * 24 ≤ 140737488355328) [RdL EPlace x1 (orangeryref_places ((orangeryref_table l1).set o1.node.toNat (⟨o1.node, o1.parent, o1.name⟩ : Place)))] Sm (fun M w h => (allF1 h).len) fun hlen2 => ?_
      refine ra_q (.an (i := 3) (js := []) rfl Kr Kr Kr Kr) (SplitB.all _) (by simp) rfl rfl rfl (q_pev rfl (fun _ => rfl)) ?_
      refine ra_one 4 Kr ?_
      refine rw_stA (.an rfl rfl) (.inr (by simp)) (guard_none rfl) rfl rfl rfl rfl rfl rfl rfl rfl rfl Ub rfl ?_
      refine ra_nil Kr ?_
      (repeat refine cw_seq ?_)
      have hr2 : (orangeryref_done l1 o1) = ((orangeryref_places ((orangeryref_table l1).set o1.node.toNat (⟨o1.node, o1.parent, o1.name⟩ : Place))), (⟨o1, true, (tree_Find l1 o1.node)⟩ : Step)) := by simp only [orangeryref_done, hc1, cond_true, cond_false]
      refine cw_ret ?_
      rw [hr2]
      exact ⟨x1, _, (.cons (.tmp rfl) (.cons (.agg rfl rfl Mm rfl) .nil)), rfl, Sm, .nil _, .nil _⟩

def orangeryref_Done (t1 : List Place) (o1 : Op) : (List Place) × Step × Int :=
  (bif ((orangeryref_CheckTree t1) != 0) then (([] : List Place), (⟨(⟨0, 0, 0, 0, 0, 0, 0⟩ : Op), false, (⟨0, 0, 0⟩ : Place)⟩ : Step), (orangeryref_CheckTree t1)) else (bif ((orangeryref_CheckOp o1) != 0) then (([] : List Place), (⟨(⟨0, 0, 0, 0, 0, 0, 0⟩ : Op), false, (⟨0, 0, 0⟩ : Place)⟩ : Step), (orangeryref_CheckOp o1)) else ((orangeryref_done t1 o1).1, ((orangeryref_done t1 o1).2), 0)))
theorem orangeryref_Done_spec (y1 : SlV) (t1 : List Place) (o1 : Op) : Does Try.prog 35 [.agg ⟨[y1.val t1.length]⟩, .agg ⟨[.int .i64 o1.time, .int .i64 o1.who, .int .i64 o1.node, .int .i64 o1.parent, .int .i64 o1.name, .int .i64 o1.life, .int .i64 o1.seq]⟩] [RdL EPlace y1 t1] (fun (X : SlV) => .tuple #[.agg ⟨[X.val ((orangeryref_Done t1 o1).1).length]⟩, .agg ⟨[.int .i64 ((((orangeryref_Done t1 o1).2.1).o).time), .int .i64 ((((orangeryref_Done t1 o1).2.1).o).who), .int .i64 ((((orangeryref_Done t1 o1).2.1).o).node), .int .i64 ((((orangeryref_Done t1 o1).2.1).o).parent), .int .i64 ((((orangeryref_Done t1 o1).2.1).o).name), .int .i64 ((((orangeryref_Done t1 o1).2.1).o).life), .int .i64 ((((orangeryref_Done t1 o1).2.1).o).seq), .bool (((orangeryref_Done t1 o1).2.1).did), .int .i64 ((((orangeryref_Done t1 o1).2.1).was).node), .int .i64 ((((orangeryref_Done t1 o1).2.1).was).parent), .int .i64 ((((orangeryref_Done t1 o1).2.1).was).name)]⟩, .int .i64 ((orangeryref_Done t1 o1).2.2)]) (fun (X : SlV) => [RdL EPlace X ((orangeryref_Done t1 o1).1)]) := by
  refine does_of tab_ok Try.func35 rfl Try.ntmps35 Try.results35 rfl inferInstance (fun _ => inferInstance) fun C => ?_
  refine cw_pure (φ := t1.length * 24 ≤ 140737488355328) [RdL EPlace y1 t1] Sm (fun M w h => (allF1 h).len) fun hlen1 => ?_
  (repeat refine cw_seq ?_); refine cw_region ?_
  refine rw_box_agg .sq (guard_none rfl) rfl rfl rfl rfl rfl fun g1 => ?_
  refine rw_box_agg .sq (guard_none rfl) rfl rfl rfl rfl rfl fun g2 => ?_
  refine rw_alloc .sq (guard_none rfl) rfl rfl rfl rfl fun g3 => ?_
  refine rw_alloc .sq (guard_none rfl) rfl rfl rfl rfl fun g4 => ?_
  refine Rp rfl rfl rfl rfl ?_
  refine rw_nil ?_
  (repeat refine cw_seq ?_); refine cw_region ?_
  refine rw_q rfl rfl rfl (q_ldA rfl rfl (fun _ => rfl) rfl Mm rfl) ?_
  refine rw_call (orangeryref_CheckTree_spec y1 t1) .sq (guard_none rfl) rfl rfl rfl Kr rfl rfl Sm ?_
  intro _
  refine Rp rfl rfl rfl rfl ?_
  refine rw_nil ?_
  (repeat refine cw_seq ?_); refine cw_region ?_
  refine Rp rfl rfl rfl rfl ?_
  refine Rp rfl rfl rfl rfl ?_
  refine rw_nil ?_
  (repeat refine cw_seq ?_); refine cw_cond (b := ((orangeryref_CheckTree t1) != 0)) rfl rfl (fun hc1 => ?_) (fun hc1 => ?_)
  · skip
    have hc1p := bne_iff_ne.1 hc1
    (repeat refine cw_seq ?_); refine cw_region ?_
    refine Rp rfl rfl rfl rfl ?_
    refine Rp rfl rfl rfl rfl ?_
    refine Rp rfl rfl rfl rfl ?_
    refine rw_stA .sq (.inl ⟨_, rfl⟩) (guard_none rfl) rfl rfl rfl rfl rfl rfl rfl rfl rfl Ub rfl ?_
    refine rw_stA .sq (.inl ⟨_, rfl⟩) (guard_none rfl) rfl rfl rfl rfl rfl rfl rfl rfl rfl Ub rfl ?_
    refine Rp rfl rfl rfl rfl ?_
    refine rw_nil ?_
    (repeat refine cw_seq ?_)
    refine cw_fact (F := RdL EPlace ⟨none, 0⟩ ([] : List Place)) [] (.nil _) (fun M w _ => RdL.nil _ _ _ (by omega) M w) ?_
    have hr1 : (orangeryref_Done t1 o1) = (([] : List Place), (⟨(⟨0, 0, 0, 0, 0, 0, 0⟩ : Op), false, (⟨0, 0, 0⟩ : Place)⟩ : Step), (orangeryref_CheckTree t1)) := by simp only [orangeryref_Done, hc1, cond_true, cond_false]
    refine cw_ret ?_
    rw [hr1]
    exact ⟨(⟨none, 0⟩ : SlV), _, (.cons (.agg rfl rfl Mm rfl) (.cons (.agg rfl rfl Mm rfl) (.cons (.tmp rfl) .nil))), rfl, Sm, .nil _, .nil _⟩
  · skip
    have hc1p := eq_of_bne_false hc1
    have hct := eq_of_bne_false hc1
    (repeat refine cw_seq ?_); refine cw_skip ?_
    (repeat refine cw_seq ?_); refine cw_region ?_
    refine rw_q rfl rfl rfl (q_ldA rfl rfl (fun _ => rfl) rfl Mm rfl) ?_
    refine rw_call (orangeryref_CheckOp_spec o1) .sq (guard_none rfl) rfl rfl rfl Kr rfl rfl Sm ?_
    intro _
    refine Rp rfl rfl rfl rfl ?_
    refine rw_nil ?_
    (repeat refine cw_seq ?_); refine cw_region ?_
    refine Rp rfl rfl rfl rfl ?_
    refine Rp rfl rfl rfl rfl ?_
    refine rw_nil ?_
    (repeat refine cw_seq ?_); refine cw_cond (b := ((orangeryref_CheckOp o1) != 0)) rfl rfl (fun hc2 => ?_) (fun hc2 => ?_)
    · skip
      have hc2p := bne_iff_ne.1 hc2
      (repeat refine cw_seq ?_); refine cw_region ?_
      refine Rp rfl rfl rfl rfl ?_
      refine Rp rfl rfl rfl rfl ?_
      refine Rp rfl rfl rfl rfl ?_
      refine rw_stA .sq (.inl ⟨_, rfl⟩) (guard_none rfl) rfl rfl rfl rfl rfl rfl rfl rfl rfl Ub rfl ?_
      refine rw_stA .sq (.inl ⟨_, rfl⟩) (guard_none rfl) rfl rfl rfl rfl rfl rfl rfl rfl rfl Ub rfl ?_
      refine Rp rfl rfl rfl rfl ?_
      refine rw_nil ?_
      (repeat refine cw_seq ?_)
      refine cw_fact (F := RdL EPlace ⟨none, 0⟩ ([] : List Place)) [] (.nil _) (fun M w _ => RdL.nil _ _ _ (by omega) M w) ?_
      have hr2 : (orangeryref_Done t1 o1) = (([] : List Place), (⟨(⟨0, 0, 0, 0, 0, 0, 0⟩ : Op), false, (⟨0, 0, 0⟩ : Place)⟩ : Step), (orangeryref_CheckOp o1)) := by simp only [orangeryref_Done, hc1, hc2, cond_true, cond_false]
      refine cw_ret ?_
      rw [hr2]
      exact ⟨(⟨none, 0⟩ : SlV), _, (.cons (.agg rfl rfl Mm rfl) (.cons (.agg rfl rfl Mm rfl) (.cons (.tmp rfl) .nil))), rfl, Sm, .nil _, .nil _⟩
    · skip
      have hc2p := eq_of_bne_false hc2
      have hco := eq_of_bne_false hc2
      (repeat refine cw_seq ?_); refine cw_skip ?_
      (repeat refine cw_seq ?_); refine cw_region ?_
      refine Rp rfl rfl rfl rfl ?_
      refine rw_q rfl rfl rfl (q_ld1 rfl rfl (fun _ => rfl) rfl Mm rfl) ?_
      refine rw_q rfl rfl rfl (q_ldA rfl rfl (fun _ => rfl) rfl Mm rfl) ?_
      refine rw_call (orangeryref_done_spec y1 t1 o1 (CheckTree_par hct) (CheckTree_node hct) (CheckOp_node hco)) .sq (guard_none rfl) rfl rfl rfl Kr rfl rfl Sm ?_
      intro x1
      refine rw_pure (φ := ((orangeryref_done t1 o1).1).length * 24 ≤ 140737488355328) [RdL EPlace x1 ((orangeryref_done t1 o1).1)] Sm (fun M w h => (allF1 h).len) fun hlen2 => ?_
      refine Rp rfl rfl rfl rfl ?_
      refine Rp rfl rfl rfl rfl ?_
      refine Rp rfl rfl rfl rfl ?_
      refine rw_alloc .sq (guard_none rfl) rfl rfl rfl rfl fun g5 => ?_
      refine Rp rfl rfl rfl rfl ?_
      refine rw_stA .sq (.inl ⟨_, rfl⟩) (guard_none rfl) rfl rfl rfl rfl rfl rfl rfl rfl rfl Ub rfl ?_
      refine rw_nil ?_
      (repeat refine cw_seq ?_); refine cw_regionA (fun j => match j with | 3 => some [g3] | 4 => some [g4] | _ => some []) ?_
      refine ra_q (.an (i := 0) (js := [2]) rfl Kr Kr Kr Kr) (SplitB.all _) (by simp) rfl rfl rfl (q_pev rfl (fun _ => rfl)) ?_
      refine ra_q (.an (i := 1) (js := [2]) rfl Kr Kr Kr Kr) (SplitB.all _) (by simp) rfl rfl rfl (q_pev rfl (fun _ => rfl)) ?_
      refine ra_q (.an (i := 2) (js := [3]) rfl Kr Kr Kr Kr) (.keep (.keep (.drop (SplitB.all _)))) (by intro g hg; simp at hg; simp [hg]) rfl rfl rfl (q_ldA rfl rfl (fun _ => rfl) rfl Mm rfl) ?_
      refine ra_one 3 Kr ?_
      refine rw_stA (.an rfl rfl) (.inr (by simp)) (guard_none rfl) rfl rfl rfl rfl rfl rfl rfl rfl rfl Ub rfl ?_
      refine ra_one 4 Kr ?_
      refine rw_stA (.an rfl rfl) (.inr (by simp)) (guard_none rfl) rfl rfl rfl rfl rfl rfl rfl rfl rfl Ub rfl ?_
      refine ra_q (.an (i := 5) (js := []) rfl Kr Kr Kr Kr) (SplitB.all _) (by simp) rfl rfl rfl (q_pev rfl (fun _ => rfl)) ?_
      refine ra_nil Kr ?_
      (repeat refine cw_seq ?_)
      have hr3 : (orangeryref_Done t1 o1) = ((orangeryref_done t1 o1).1, ((orangeryref_done t1 o1).2), 0) := by simp only [orangeryref_Done, hc1, hc2, cond_true, cond_false]
      refine cw_ret ?_
      rw [hr3]
      exact ⟨x1, _, (.cons (.agg rfl rfl Mm rfl) (.cons (.agg rfl rfl Mm rfl) (.cons (.tmp rfl) .nil))), rfl, Sm, .nil _, .nil _⟩
end Go.Proofs.Ytchdacbjiomplaa
