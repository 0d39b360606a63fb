/- Part of this claim. No condition. -/
import Derived.Test.YtchdacbjiomplaaLHistB
import Derived.Test.YtchdacbjiomplaaW10
set_option linter.unusedVariables false
set_option linter.unusedSimpArgs false
namespace Go.Proofs.Ytchdacbjiomplaa
open Go Go.Proofs.Ytchdacbjiomplaa.Fw Go.Proofs
def orangerylaw_HistoryLate_L1 (l1 : List Op) (last1 : Int) : List Op → Nat → (List Step) → (List Place) → Bool
  | [], n2, l2, p1 => (decide ((l2.take ((((history_Fold l1).1).l).length)) = (((history_Fold l1).1).l)))
  | pn2 :: rn2, n2, l2, p1 => (bif decide (((last1 + 1) + (n2 : Int)) > 10000) then (decide ((l2.take ((((history_Fold l1).1).l).length)) = (((history_Fold l1).1).l))) else (bif (((history_Insert (⟨l2, p1⟩ : History) (⟨((last1 + 1) + (n2 : Int)), (orangerylaw_at (pn2.who) 3), pn2.node, pn2.parent, pn2.name, pn2.life, pn2.seq⟩ : Op)).2) != 0) then (orangerylaw_HistoryLate_L1 l1 last1 rn2 (n2 + 1) l2 p1) else (bif (((!(decide (((((history_Insert (⟨l2, p1⟩ : History) (⟨((last1 + 1) + (n2 : Int)), (orangerylaw_at (pn2.who) 3), pn2.node, pn2.parent, pn2.name, pn2.life, pn2.seq⟩ : Op)).1).l).take l2.length) = l2))) || (((((history_Insert (⟨l2, p1⟩ : History) (⟨((last1 + 1) + (n2 : Int)), (orangerylaw_at (pn2.who) 3), pn2.node, pn2.parent, pn2.name, pn2.life, pn2.seq⟩ : Op)).1).l).length : Int) != ((l2.length : Int) + 1))) || (!(decide (((gt (((history_Insert (⟨l2, p1⟩ : History) (⟨((last1 + 1) + (n2 : Int)), (orangerylaw_at (pn2.who) 3), pn2.node, pn2.parent, pn2.name, pn2.life, pn2.seq⟩ : Op)).1).l) l2.length).o) = (⟨((last1 + 1) + (n2 : Int)), (orangerylaw_at (pn2.who) 3), pn2.node, pn2.parent, pn2.name, pn2.life, pn2.seq⟩ : Op))))) then false else (orangerylaw_HistoryLate_L1 l1 last1 rn2 (n2 + 1) (((history_Insert (⟨l2, p1⟩ : History) (⟨((last1 + 1) + (n2 : Int)), (orangerylaw_at (pn2.who) 3), pn2.node, pn2.parent, pn2.name, pn2.life, pn2.seq⟩ : Op)).1).l) (((history_Insert (⟨l2, p1⟩ : History) (⟨((last1 + 1) + (n2 : Int)), (orangerylaw_at (pn2.who) 3), pn2.node, pn2.parent, pn2.name, pn2.life, pn2.seq⟩ : Op)).1).t)))))
def orangerylaw_HistoryLate_L0 (l1 : List Op) (more1 : List Op) : List Step → Int → Bool
  | [], last1 => (orangerylaw_HistoryLate_L1 l1 last1 (more1.take ((if (30 - (l1.length : Int)) < (more1.length : Int) then (30 - (l1.length : Int)) else (more1.length : Int)).toNat)) 0 (((history_Fold l1).1).l) (((history_Fold l1).1).t))
  | pn1 :: rn1, last1 => (orangerylaw_HistoryLate_L0 l1 more1 rn1 (if ((pn1.o).time) > last1 then ((pn1.o).time) else last1))
def orangerylaw_HistoryLate (l1 : List Op) (more1 : List Op) : Bool :=
  (bif ((!orangerylaw_folded) || (((history_Fold l1).2) != 0)) then orangerylaw_folded else (orangerylaw_HistoryLate_L0 l1 more1 (((history_Fold l1).1).l) 0))
theorem orangerylaw_HistoryLate_spec (y1 : SlV) (l1 : List Op) (y2 : SlV) (more1 : List Op) : Does Try.prog 14 [y1.val l1.length, y2.val more1.length] [RdL EOp y1 l1, RdL EOp y2 more1] (fun (_ : Unit) => .bool (orangerylaw_HistoryLate l1 more1)) (fun (_ : Unit) => []) := by
  refine does_of tab_ok Try.func14 rfl Try.ntmps14 Try.results14 rfl inferInstance (fun _ => inferInstance) fun C => ?_
  refine cw_pure (φ := l1.length * 56 ≤ 140737488355328) [RdL EOp y1 l1] Sm (fun M w h => (allF1 h).len) fun hlen1 => ?_
  refine cw_pure (φ := more1.length * 56 ≤ 140737488355328) [RdL EOp y2 more1] Sm (fun M w h => (allF1 h).len) fun hlen2 => ?_
  (repeat refine cw_seq ?_); refine cw_region ?_
  refine Rp rfl rfl rfl rfl ?_
  refine rw_nil ?_
  (repeat refine cw_seq ?_); refine cw_region ?_
  refine Rp rfl rfl rfl rfl ?_
  refine rw_call (history_Fold_spec y1 l1) .sq (guard_none rfl) rfl rfl rfl Kr rfl rfl Sm ?_
  intro x1
  refine rw_pure (φ := (((history_Fold l1).1).l).length * 88 ≤ 140737488355328) [RdL EStep x1.1 (((history_Fold l1).1).l)] Sm (fun M w h => (allF1 h).len) fun hlen3 => ?_
  refine rw_pure (φ := (((history_Fold l1).1).t).length * 24 ≤ 140737488355328) [RdL EPlace x1.2 (((history_Fold l1).1).t)] Sm (fun M w h => (allF1 h).len) fun hlen4 => ?_
  refine Rp rfl rfl rfl rfl ?_
  refine Rp rfl rfl rfl rfl ?_
  refine Rp rfl rfl rfl rfl ?_
  refine rw_alloc .sq (guard_none rfl) rfl rfl rfl rfl fun g1 => ?_
  refine rw_stA .sq (.inl ⟨_, rfl⟩) (guard_none rfl) rfl rfl rfl rfl rfl rfl rfl rfl rfl Ub rfl ?_
  refine Rp rfl rfl rfl rfl ?_
  refine rw_nil ?_
  (repeat refine cw_seq ?_); refine cw_region ?_
  refine rw_call (orangerylaw_folded_spec ) .sq (guard_none rfl) rfl rfl rfl Kr rfl rfl Sm ?_
  intro _
  refine Rp rfl rfl rfl rfl ?_
  refine Rp rfl rfl rfl rfl ?_
  refine rw_qg (guard_vf rfl rfl rfl) rfl rfl (q_pev rfl Bt) ?_
  refine rw_qg (guard_vf rfl rfl rfl) rfl rfl (q_pev rfl Bt) ?_
  refine rw_q rfl rfl rfl (q_pev rfl Bt) ?_
  refine rw_nil ?_
  (repeat refine cw_seq ?_); refine cw_cond (b := ((!orangerylaw_folded) || (((history_Fold l1).2) != 0))) rfl rfl (fun hc1 => ?_) (fun hc1 => ?_)
  · skip
    (repeat refine cw_seq ?_); refine cw_region ?_
    refine rw_call (orangerylaw_folded_spec ) .sq (guard_none rfl) rfl rfl rfl Kr rfl rfl Sm ?_
    intro _
    refine Rp rfl rfl rfl rfl ?_
    refine rw_nil ?_
    (repeat refine cw_seq ?_)
    have hr1 : (orangerylaw_HistoryLate l1 more1) = orangerylaw_folded := by simp only [orangerylaw_HistoryLate, hc1, cond_true, cond_false]
    refine cw_ret ?_
    rw [hr1]
    exact ⟨(), _, (.cons (.tmp rfl) .nil), rfl, Sm, .nil _, .nil _⟩
  · skip
    have hf0 := eq_of_bne_false (Bool.or_eq_false_iff.1 hc1).2
    have hfl := history_Fold_len hf0
    (repeat refine cw_seq ?_); refine cw_skip ?_
    (repeat refine cw_seq ?_); refine cw_region ?_
    refine Rp rfl rfl rfl rfl ?_
    refine rw_nil ?_
    (repeat refine cw_seq ?_); refine cw_region ?_
    refine Rp rfl rfl rfl rfl ?_
    refine rw_q rfl rfl rfl (q_ld1 rfl rfl (fun _ => rfl) rfl Mm rfl) ?_
    refine Rp rfl rfl rfl rfl ?_
    refine Rp rfl rfl rfl rfl ?_
    refine rw_nil ?_
    (repeat refine cw_seq ?_); refine cw_block ?_
    (repeat refine cw_seq ?_); refine cw_loopS [0, 1, 4, 5, 29, 30] [true] (fun (i_ : Int × Nat) => match i_ with | ⟨last1, n1⟩ => [(7, .v (.int .i64 last1)), (31, .v (.int .i64 (n1 : Int)))]) (fun (i_ : Int × Nat) => match i_ with | ⟨last1, n1⟩ => []) (fun (i_ : Int × Nat) => match i_ with | ⟨last1, n1⟩ => []) (fun (i_ : Int × Nat) => match i_ with | ⟨last1, n1⟩ => []) (fun (i_ : Int × Nat) => match i_ with | ⟨last1, n1⟩ => (n1 ≤ (((history_Fold l1).1).l).length) ∧ (0 ≤ last1 ∧ last1 ≤ 10000) ∧ (orangerylaw_HistoryLate_L0 l1 more1 ((((history_Fold l1).1).l).drop n1) last1) = (orangerylaw_HistoryLate l1 more1)) (fun (i_ : Int × Nat) => match i_ with | ⟨last1, n1⟩ => (((history_Fold l1).1).l).length - n1) ⟨0, 0⟩ (.cons rfl (.cons rfl (.cons rfl (.cons rfl (.cons rfl (.cons rfl (.nil _))))))) (.keep (.nil)) ⟨Nat.zero_le _, (by omega), (by simp only [orangerylaw_HistoryLate, hc1, cond_true, cond_false] : (orangerylaw_HistoryLate l1 more1) = (orangerylaw_HistoryLate_L0 l1 more1 (((history_Fold l1).1).l) 0)).symm⟩ Le4 ?_
    rintro ⟨last1, n1⟩ ⟨hkn1, hla, hf1⟩
    simp only [List.cons_append, List.nil_append]
    (repeat refine cw_seq ?_); refine cw_region ?_
    refine Rp rfl rfl rfl rfl ?_
    refine rw_nil ?_
    (repeat refine cw_seq ?_); refine cw_cond (b := decide ((n1 : Int) < ((((history_Fold l1).1).l).length : Int))) rfl rfl (fun hc2 => ?_) (fun hc2 => ?_)
    · skip
      have hlt0 : n1 < (((history_Fold l1).1).l).length := Int.ofNat_lt.1 (of_decide_eq_true hc2)
      (repeat refine cw_seq ?_); refine cw_skip ?_
      (repeat refine cw_seq ?_); refine cw_block ?_
      (repeat refine cw_seq ?_); refine cw_region ?_
      refine rw_q rfl rfl rfl (q_idx EStep n1 rfl rfl (fun _ => rfl) rfl (fun _ => rfl) rfl rfl rfl Mm rfl (fun _ => rfl) (fun _ => by first | assumption | omega)) ?_
      refine rw_q rfl rfl rfl (q_leA EStep rfl rfl (fun _ => rfl) rfl rfl Mm (fun _ => by first | assumption | omega)) ?_
      refine rw_alloc .sq (guard_none rfl) rfl rfl rfl rfl fun g2 => ?_
      refine rw_stA .sq (.inl ⟨_, rfl⟩) (guard_none rfl) rfl rfl rfl rfl rfl rfl rfl rfl rfl Ub rfl ?_
      refine rw_nil ?_
      (repeat refine cw_seq ?_); refine cw_region ?_
      refine Rp rfl rfl rfl rfl ?_
      refine Rp rfl rfl rfl rfl ?_
      refine Rp rfl rfl rfl rfl ?_
      refine Rp rfl rfl rfl rfl ?_
      refine rw_q rfl rfl rfl (q_ld1 rfl rfl (fun _ => rfl) rfl Mm rfl) ?_
      refine rw_q rfl rfl rfl (q_max rfl rfl (fun _ => rfl) rfl (fun _ => rfl)) ?_
      refine Rp rfl rfl rfl rfl ?_
      refine rw_nil ?_
      (repeat refine cw_seq ?_); refine cw_region ?_
      refine rw_q rfl rfl rfl (q_add rfl rfl (fun _ => rfl) rfl (fun _ => rfl) (fun _ => by omega)) ?_
      refine Rp rfl rfl rfl rfl ?_
      refine rw_nil ?_
      refine ⟨⟨(if (((gt (((history_Fold l1).1).l) n1).o).time) > last1 then (((gt (((history_Fold l1).1).l) n1).o).time) else last1), (n1 + 1)⟩, ⟨hlt0, (by have h_ := Fold_time hf0 hlt0; constructor <;> (split <;> omega)), (by rw [← hf1, drop_gt hlt0]; simp only [orangerylaw_HistoryLate_L0, cond_true, cond_false] : (orangerylaw_HistoryLate l1 more1) = (orangerylaw_HistoryLate_L0 l1 more1 ((((history_Fold l1).1).l).drop (n1 + 1)) (if (((gt (((history_Fold l1).1).l) n1).o).time) > last1 then (((gt (((history_Fold l1).1).l) n1).o).time) else last1))).symm⟩, (by simp only []; omega), Le4⟩
    · skip
      have hge0 : (((history_Fold l1).1).l).length ≤ n1 := by have := of_decide_eq_false hc2; omega
      (repeat refine cw_seq ?_); refine cw_exit ?_
      (repeat refine cw_seq ?_); refine cw_region ?_
      refine rw_q rfl rfl rfl (q_ldA rfl rfl (fun _ => rfl) rfl Mm rfl) ?_
      refine rw_alloc .sq (guard_none rfl) rfl rfl rfl rfl fun g3 => ?_
      refine rw_stA .sq (.inl ⟨_, rfl⟩) (guard_none rfl) rfl rfl rfl rfl rfl rfl rfl rfl rfl Ub rfl ?_
      refine rw_nil ?_
      (repeat refine cw_seq ?_); refine cw_region ?_
      refine Rp rfl rfl rfl rfl ?_
      refine Rp rfl rfl rfl rfl ?_
      refine Rp rfl rfl rfl rfl ?_
      refine Rp rfl rfl rfl rfl ?_
      refine Rp rfl rfl rfl rfl ?_
      refine rw_q rfl rfl rfl (q_sub rfl rfl (fun _ => rfl) rfl (fun _ => rfl) (fun _ => by omega)) ?_
      refine rw_q rfl rfl rfl (q_min rfl rfl (fun _ => rfl) rfl (fun _ => rfl)) ?_
      refine rw_q rfl rfl rfl (q_take EOp ((if (30 - (l1.length : Int)) < (more1.length : Int) then (30 - (l1.length : Int)) else (more1.length : Int)).toNat) rfl rfl (fun _ => rfl) rfl (fun _ => rfl) rfl rfl Mm (fun _ => by omega) (fun _ => by omega)) ?_
      refine rw_fact (F := RdL EOp y2 (more1.take ((if (30 - (l1.length : Int)) < (more1.length : Int) then (30 - (l1.length : Int)) else (more1.length : Int)).toNat))) [RdL EOp y2 more1] Sm (fun M w h => (allF1 h).take _) ?_
      refine Rp rfl rfl rfl rfl ?_
      refine Rp rfl rfl rfl rfl ?_
      refine rw_nil ?_
      (repeat refine cw_seq ?_); refine cw_block ?_
      refine cw_pure (φ := (more1.take ((if (30 - (l1.length : Int)) < (more1.length : Int) then (30 - (l1.length : Int)) else (more1.length : Int)).toNat)).length * 56 ≤ 140737488355328) [RdL EOp y2 (more1.take ((if (30 - (l1.length : Int)) < (more1.length : Int) then (30 - (l1.length : Int)) else (more1.length : Int)).toNat))] Sm (fun M w h => (allF1 h).len) fun hlen5 => ?_
      (repeat refine cw_seq ?_); refine cw_loopS [4, 5, 7, 10, 50, 51] [false, true] (fun (i_ : Nat × List Step × SlV × List Place × SlV) => match i_ with | ⟨n2, l2, x2, p1, x3⟩ => [(52, .v (.int .i64 (n2 : Int)))]) (fun (i_ : Nat × List Step × SlV × List Place × SlV) => match i_ with | ⟨n2, l2, x2, p1, x3⟩ => [⟨g3, 94, [x2.val l2.length, x3.val p1.length]⟩]) (fun (i_ : Nat × List Step × SlV × List Place × SlV) => match i_ with | ⟨n2, l2, x2, p1, x3⟩ => []) (fun (i_ : Nat × List Step × SlV × List Place × SlV) => match i_ with | ⟨n2, l2, x2, p1, x3⟩ => [RdL EStep x2 l2, RdL EPlace x3 p1]) (fun (i_ : Nat × List Step × SlV × List Place × SlV) => match i_ with | ⟨n2, l2, x2, p1, x3⟩ => (n2 ≤ (more1.take ((if (30 - (l1.length : Int)) < (more1.length : Int) then (30 - (l1.length : Int)) else (more1.length : Int)).toNat)).length) ∧ ((history_Fold l1).1.l.length ≤ l2.length) ∧ (orangerylaw_HistoryLate_L1 l1 last1 ((more1.take ((if (30 - (l1.length : Int)) < (more1.length : Int) then (30 - (l1.length : Int)) else (more1.length : Int)).toNat)).drop n2) n2 l2 p1) = (orangerylaw_HistoryLate l1 more1)) (fun (i_ : Nat × List Step × SlV × List Place × SlV) => match i_ with | ⟨n2, l2, x2, p1, x3⟩ => (more1.take ((if (30 - (l1.length : Int)) < (more1.length : Int) then (30 - (l1.length : Int)) else (more1.length : Int)).toNat)).length - n2) ⟨0, ((history_Fold l1).1).l, x1.1, ((history_Fold l1).1).t, x1.2⟩ (.cons rfl (.cons rfl (.cons rfl (.cons rfl (.cons rfl (.cons rfl (.nil _))))))) (.drop (.keep (.nil))) ⟨Nat.zero_le _, (Nat.le_refl _), (by rw [← hf1, List.drop_of_length_le hge0]; simp only [orangerylaw_HistoryLate_L0, cond_true, cond_false] : (orangerylaw_HistoryLate l1 more1) = (orangerylaw_HistoryLate_L1 l1 last1 (more1.take ((if (30 - (l1.length : Int)) < (more1.length : Int) then (30 - (l1.length : Int)) else (more1.length : Int)).toNat)) 0 (((history_Fold l1).1).l) (((history_Fold l1).1).t))).symm⟩ Le4 ?_
      rintro ⟨n2, l2, x2, p1, x3⟩ ⟨hkn2, hgl, hf2⟩
      simp only [List.cons_append, List.nil_append]
      (repeat refine cw_seq ?_); refine cw_region ?_
      refine Rp rfl rfl rfl rfl ?_
      refine rw_nil ?_
      (repeat refine cw_seq ?_); refine cw_cond (b := decide ((n2 : Int) < ((more1.take ((if (30 - (l1.length : Int)) < (more1.length : Int) then (30 - (l1.length : Int)) else (more1.length : Int)).toNat)).length : Int))) rfl rfl (fun hc3 => ?_) (fun hc3 => ?_)
      · skip
        have hlt1 : n2 < (more1.take ((if (30 - (l1.length : Int)) < (more1.length : Int) then (30 - (l1.length : Int)) else (more1.length : Int)).toNat)).length := Int.ofNat_lt.1 (of_decide_eq_true hc3)
        (repeat refine cw_seq ?_); refine cw_skip ?_
        (repeat refine cw_seq ?_); refine cw_block ?_
        (repeat refine cw_seq ?_); refine cw_region ?_
        refine Rp rfl rfl rfl rfl ?_
        refine rw_q rfl rfl rfl (q_idx EOp n2 rfl rfl (fun _ => rfl) rfl (fun _ => rfl) rfl rfl rfl Mm rfl (fun _ => rfl) (fun _ => by first | assumption | omega)) ?_
        refine rw_q rfl rfl rfl (q_leA EOp rfl rfl (fun _ => rfl) rfl rfl Mm (fun _ => by first | assumption | omega)) ?_
        refine rw_alloc .sq (guard_none rfl) rfl rfl rfl rfl fun g4 => ?_
        refine Rp rfl rfl rfl rfl ?_
        refine rw_stA .sq (.inl ⟨_, rfl⟩) (guard_none rfl) rfl rfl rfl rfl rfl rfl rfl rfl rfl Ub rfl ?_
        refine rw_nil ?_
        (repeat refine cw_seq ?_); refine cw_region ?_
        refine Rp rfl rfl rfl rfl ?_
        refine rw_q rfl rfl rfl (q_add rfl rfl (fun _ => rfl) rfl (fun _ => rfl) (fun _ => by omega)) ?_
        refine Rp rfl rfl rfl rfl ?_
        refine rw_q rfl rfl rfl (q_add rfl rfl (fun _ => rfl) rfl (fun _ => rfl) (fun _ => by omega)) ?_
        refine Rp rfl rfl rfl rfl ?_
        refine Rp rfl rfl rfl rfl ?_
        refine rw_q rfl rfl rfl (q_ld1 rfl rfl (fun _ => rfl) rfl Mm rfl) ?_
        refine rw_call (orangerylaw_at_spec ((gt (more1.take ((if (30 - (l1.length : Int)) < (more1.length : Int) then (30 - (l1.length : Int)) else (more1.length : Int)).toNat)) n2).who) 3 (by omega)) .sq (guard_none rfl) rfl rfl rfl Kr rfl rfl Sm ?_
        intro _
        refine Rp rfl rfl rfl rfl ?_
        refine Rp rfl rfl rfl rfl ?_
        refine rw_stP .sq (.inl ⟨_, rfl⟩) (guard_none rfl) rfl rfl rfl rfl rfl rfl rfl rfl rfl Ub rfl ?_
        refine rw_nil ?_
        (repeat refine cw_seq ?_); refine cw_region ?_
        refine Rp rfl rfl rfl rfl ?_
        refine Rp rfl rfl rfl rfl ?_
        refine rw_q rfl rfl rfl (q_ld1 rfl rfl (fun _ => rfl) rfl Mm rfl) ?_
        refine Rp rfl rfl rfl rfl ?_
        refine rw_nil ?_
        (repeat refine cw_seq ?_); refine cw_cond (b := decide (((last1 + 1) + (n2 : Int)) > 10000)) rfl rfl (fun hc4 => ?_) (fun hc4 => ?_)
        · skip
          have hc4p := of_decide_eq_true hc4
          (repeat refine cw_seq ?_); refine cw_exit ?_
          (repeat refine cw_seq ?_); refine cw_regionA (fun _ => some []) ?_
          refine ra_q (.ab (i := 0) (js := [2, 3, 4, 6, 7]) [1, 5, 8, 9] rfl Kr Kr Kr Kr Kr) (SplitB.all _) (by simp) rfl rfl rfl (q_pev rfl (fun _ => rfl)) ?_
          refine ra_q (.ab (i := 1) (js := [2, 3, 4, 6, 7]) [5, 8, 9] rfl Kr Kr Kr Kr Kr) (SplitB.all _) (by simp) rfl rfl rfl (q_ld1 rfl rfl (fun _ => rfl) rfl Mm rfl) ?_
          refine ra_q (.ab (i := 2) (js := [6, 7]) [3, 4, 5, 8, 9] rfl Kr Kr Kr Kr Kr) (SplitB.all _) (by simp) rfl rfl rfl (q_pev rfl (fun _ => rfl)) ?_
          refine ra_q (.ab (i := 3) (js := [6, 7]) [4, 5, 8, 9] rfl Kr Kr Kr Kr Kr) (SplitB.all _) (by simp) rfl rfl rfl (q_ld1 rfl rfl (fun _ => rfl) rfl Mm rfl) ?_
          refine ra_q (.ab (i := 4) (js := [6, 7]) [5, 8, 9] rfl Kr Kr Kr Kr Kr) (SplitB.all _) (by simp) rfl rfl rfl (q_pev rfl (fun _ => rfl)) ?_
          refine ra_q (.an (i := 5) (js := [6, 7]) rfl Kr Kr Kr Kr) (SplitB.all _) (by simp) rfl rfl rfl (q_take EStep ((((history_Fold l1).1).l).length) rfl rfl (fun _ => rfl) rfl (fun _ => rfl) rfl rfl Mm (fun _ => by omega) (fun _ => by omega)) ?_
          refine rw_fact (F := RdL EStep x2 (l2.take ((((history_Fold l1).1).l).length))) [RdL EStep x2 l2] Sm (fun M w h => (allF1 h).take _) ?_
          refine ra_q (.ab (i := 6) (js := []) [7, 8, 9] rfl Kr Kr Kr Kr Kr) (SplitB.all _) (by simp) rfl rfl rfl (q_pev rfl (fun _ => rfl)) ?_
          refine ra_q (.an (i := 7) (js := []) rfl Kr Kr Kr Kr) (SplitB.all _) (by simp) rfl rfl rfl (q_ld1 rfl rfl (fun _ => rfl) rfl Mm rfl) ?_
          refine ra_one 8 Kr ?_
          refine rw_call ((fun y1 a y2 b => slices_Equal_Step_spec' y1 y2 a b) x2 (l2.take ((((history_Fold l1).1).l).length)) x1.1 (((history_Fold l1).1).l)) (.an rfl rfl) (guard_none rfl) rfl rfl rfl Kr rfl rfl Sm ?_
          intro _
          refine ra_q (.an (i := 9) (js := []) rfl Kr Kr Kr Kr) (SplitB.all _) (by simp) rfl rfl rfl (q_pev rfl (fun _ => rfl)) ?_
          refine ra_nil Kr ?_
          (repeat refine cw_seq ?_)
          have hr2 : (orangerylaw_HistoryLate l1 more1) = (decide ((l2.take ((((history_Fold l1).1).l).length)) = (((history_Fold l1).1).l))) := by rw [← hf2, drop_gt hlt1]; simp only [orangerylaw_HistoryLate_L1, hc4, cond_true, cond_false]
          refine cw_ret ?_
          rw [hr2]
          exact ⟨(), _, (.cons (.tmp rfl) .nil), rfl, Sm, .nil _, .nil _⟩
        · skip
          have hc4p := of_decide_eq_false hc4
          (repeat refine cw_seq ?_); refine cw_skip ?_
          (repeat refine cw_seq ?_); refine cw_region ?_
          refine rw_q rfl rfl rfl (q_ldA rfl rfl (fun _ => rfl) rfl Mm rfl) ?_
          refine rw_q rfl rfl rfl (q_ldA rfl rfl (fun _ => rfl) rfl Mm rfl) ?_
          refine rw_call (history_Insert_spec x2 x3 (⟨l2, p1⟩ : History) (⟨((last1 + 1) + (n2 : Int)), (orangerylaw_at ((gt (more1.take ((if (30 - (l1.length : Int)) < (more1.length : Int) then (30 - (l1.length : Int)) else (more1.length : Int)).toNat)) n2).who) 3), (gt (more1.take ((if (30 - (l1.length : Int)) < (more1.length : Int) then (30 - (l1.length : Int)) else (more1.length : Int)).toNat)) n2).node, (gt (more1.take ((if (30 - (l1.length : Int)) < (more1.length : Int) then (30 - (l1.length : Int)) else (more1.length : Int)).toNat)) n2).parent, (gt (more1.take ((if (30 - (l1.length : Int)) < (more1.length : Int) then (30 - (l1.length : Int)) else (more1.length : Int)).toNat)) n2).name, (gt (more1.take ((if (30 - (l1.length : Int)) < (more1.length : Int) then (30 - (l1.length : Int)) else (more1.length : Int)).toNat)) n2).life, (gt (more1.take ((if (30 - (l1.length : Int)) < (more1.length : Int) then (30 - (l1.length : Int)) else (more1.length : Int)).toNat)) n2).seq⟩ : Op)) .sq (guard_none rfl) rfl rfl rfl Kr rfl rfl Sm ?_
          intro x4
          refine rw_pure (φ := (((history_Insert (⟨l2, p1⟩ : History) (⟨((last1 + 1) + (n2 : Int)), (orangerylaw_at ((gt (more1.take ((if (30 - (l1.length : Int)) < (more1.length : Int) then (30 - (l1.length : Int)) else (more1.length : Int)).toNat)) n2).who) 3), (gt (more1.take ((if (30 - (l1.length : Int)) < (more1.length : Int) then (30 - (l1.length : Int)) else (more1.length : Int)).toNat)) n2).node, (gt (more1.take ((if (30 - (l1.length : Int)) < (more1.length : Int) then (30 - (l1.length : Int)) else (more1.length : Int)).toNat)) n2).parent, (gt (more1.take ((if (30 - (l1.length : Int)) < (more1.length : Int) then (30 - (l1.length : Int)) else (more1.length : Int)).toNat)) n2).name, (gt (more1.take ((if (30 - (l1.length : Int)) < (more1.length : Int) then (30 - (l1.length : Int)) else (more1.length : Int)).toNat)) n2).life, (gt (more1.take ((if (30 - (l1.length : Int)) < (more1.length : Int) then (30 - (l1.length : Int)) else (more1.length : Int)).toNat)) n2).seq⟩ : Op)).1).l).length * 88 ≤ 140737488355328) [RdL EStep x4.1 (((history_Insert (⟨l2, p1⟩ : History) (⟨((last1 + 1) + (n2 : Int)), (orangerylaw_at ((gt (more1.take ((if (30 - (l1.length : Int)) < (more1.length : Int) then (30 - (l1.length : Int)) else (more1.length : Int)).toNat)) n2).who) 3), (gt (more1.take ((if (30 - (l1.length : Int)) < (more1.length : Int) then (30 - (l1.length : Int)) else (more1.length : Int)).toNat)) n2).node, (gt (more1.take ((if (30 - (l1.length : Int)) < (more1.length : Int) then (30 - (l1.length : Int)) else (more1.length : Int)).toNat)) n2).parent, (gt (more1.take ((if (30 - (l1.length : Int)) < (more1.length : Int) then (30 - (l1.length : Int)) else (more1.length : Int)).toNat)) n2).name, (gt (more1.take ((if (30 - (l1.length : Int)) < (more1.length : Int) then (30 - (l1.length : Int)) else (more1.length : Int)).toNat)) n2).life, (gt (more1.take ((if (30 - (l1.length : Int)) < (more1.length : Int) then (30 - (l1.length : Int)) else (more1.length : Int)).toNat)) n2).seq⟩ : Op)).1).l)] Sm (fun M w h => (allF1 h).len) fun hlen6 => ?_
          refine rw_pure (φ := (((history_Insert (⟨l2, p1⟩ : History) (⟨((last1 + 1) + (n2 : Int)), (orangerylaw_at ((gt (more1.take ((if (30 - (l1.length : Int)) < (more1.length : Int) then (30 - (l1.length : Int)) else (more1.length : Int)).toNat)) n2).who) 3), (gt (more1.take ((if (30 - (l1.length : Int)) < (more1.length : Int) then (30 - (l1.length : Int)) else (more1.length : Int)).toNat)) n2).node, (gt (more1.take ((if (30 - (l1.length : Int)) < (more1.length : Int) then (30 - (l1.length : Int)) else (more1.length : Int)).toNat)) n2).parent, (gt (more1.take ((if (30 - (l1.length : Int)) < (more1.length : Int) then (30 - (l1.length : Int)) else (more1.length : Int)).toNat)) n2).name, (gt (more1.take ((if (30 - (l1.length : Int)) < (more1.length : Int) then (30 - (l1.length : Int)) else (more1.length : Int)).toNat)) n2).life, (gt (more1.take ((if (30 - (l1.length : Int)) < (more1.length : Int) then (30 - (l1.length : Int)) else (more1.length : Int)).toNat)) n2).seq⟩ : Op)).1).t).length * 24 ≤ 140737488355328) [RdL EPlace x4.2 (((history_Insert (⟨l2, p1⟩ : History) (⟨((last1 + 1) + (n2 : Int)), (orangerylaw_at ((gt (more1.take ((if (30 - (l1.length : Int)) < (more1.length : Int) then (30 - (l1.length : Int)) else (more1.length : Int)).toNat)) n2).who) 3), (gt (more1.take ((if (30 - (l1.length : Int)) < (more1.length : Int) then (30 - (l1.length : Int)) else (more1.length : Int)).toNat)) n2).node, (gt (more1.take ((if (30 - (l1.length : Int)) < (more1.length : Int) then (30 - (l1.length : Int)) else (more1.length : Int)).toNat)) n2).parent, (gt (more1.take ((if (30 - (l1.length : Int)) < (more1.length : Int) then (30 - (l1.length : Int)) else (more1.length : Int)).toNat)) n2).name, (gt (more1.take ((if (30 - (l1.length : Int)) < (more1.length : Int) then (30 - (l1.length : Int)) else (more1.length : Int)).toNat)) n2).life, (gt (more1.take ((if (30 - (l1.length : Int)) < (more1.length : Int) then (30 - (l1.length : Int)) else (more1.length : Int)).toNat)) n2).seq⟩ : Op)).1).t)] Sm (fun M w h => (allF1 h).len) fun hlen7 => ?_
          refine Rp rfl rfl rfl rfl ?_
          refine Rp rfl rfl rfl rfl ?_
          refine Rp rfl rfl rfl rfl ?_
          refine rw_alloc .sq (guard_none rfl) rfl rfl rfl rfl fun g5 => ?_
          refine rw_stA .sq (.inl ⟨_, rfl⟩) (guard_none rfl) rfl rfl rfl rfl rfl rfl rfl rfl rfl Ub rfl ?_
          refine Rp rfl rfl rfl rfl ?_
          refine rw_nil ?_
          (repeat refine cw_seq ?_); refine cw_region ?_
          refine Rp rfl rfl rfl rfl ?_
          refine Rp rfl rfl rfl rfl ?_
          refine rw_nil ?_
          (repeat refine cw_seq ?_); refine cw_cond (b := (((history_Insert (⟨l2, p1⟩ : History) (⟨((last1 + 1) + (n2 : Int)), (orangerylaw_at ((gt (more1.take ((if (30 - (l1.length : Int)) < (more1.length : Int) then (30 - (l1.length : Int)) else (more1.length : Int)).toNat)) n2).who) 3), (gt (more1.take ((if (30 - (l1.length : Int)) < (more1.length : Int) then (30 - (l1.length : Int)) else (more1.length : Int)).toNat)) n2).node, (gt (more1.take ((if (30 - (l1.length : Int)) < (more1.length : Int) then (30 - (l1.length : Int)) else (more1.length : Int)).toNat)) n2).parent, (gt (more1.take ((if (30 - (l1.length : Int)) < (more1.length : Int) then (30 - (l1.length : Int)) else (more1.length : Int)).toNat)) n2).name, (gt (more1.take ((if (30 - (l1.length : Int)) < (more1.length : Int) then (30 - (l1.length : Int)) else (more1.length : Int)).toNat)) n2).life, (gt (more1.take ((if (30 - (l1.length : Int)) < (more1.length : Int) then (30 - (l1.length : Int)) else (more1.length : Int)).toNat)) n2).seq⟩ : Op)).2) != 0)) rfl rfl (fun hc5 => ?_) (fun hc5 => ?_)
          · skip
            have hc5p := bne_iff_ne.1 hc5
            (repeat refine cw_seq ?_); refine cw_exit ?_
            (repeat refine cw_seq ?_); refine cw_region ?_
            refine rw_q rfl rfl rfl (q_add rfl rfl (fun _ => rfl) rfl (fun _ => rfl) (fun _ => by omega)) ?_
            refine Rp rfl rfl rfl rfl ?_
            refine rw_nil ?_
            refine ⟨⟨(n2 + 1), l2, x2, p1, x3⟩, ⟨hlt1, (by first | assumption | omega | (simp only []; omega)), (by rw [← hf2, drop_gt hlt1]; simp only [orangerylaw_HistoryLate_L1, hc4, hc5, cond_true, cond_false] : (orangerylaw_HistoryLate l1 more1) = (orangerylaw_HistoryLate_L1 l1 last1 ((more1.take ((if (30 - (l1.length : Int)) < (more1.length : Int) then (30 - (l1.length : Int)) else (more1.length : Int)).toNat)).drop (n2 + 1)) (n2 + 1) l2 p1)).symm⟩, (by simp only []; omega), Le4⟩
          · skip
            have hc5p := eq_of_bne_false hc5
            have hil := Insert_len (eq_of_bne_false hc5)
            simp only at hil
            (repeat refine cw_seq ?_); refine cw_skip ?_
            (repeat refine cw_seq ?_); refine cw_region ?_
            refine Rp rfl rfl rfl rfl ?_
            refine rw_q rfl rfl rfl (q_ld1 rfl rfl (fun _ => rfl) rfl Mm rfl) ?_
            refine Rp rfl rfl rfl rfl ?_
            refine Rp rfl rfl rfl rfl ?_
            refine rw_nil ?_
            (repeat refine cw_seq ?_); refine cw_regionA (fun _ => some []) ?_
            refine ra_q (.ab (i := 0) (js := [2, 4, 5]) [1, 3, 6, 7, 8, 9, 10, 11, 12, 13, 14, 15, 16, 17, 18, 19, 20, 21, 22, 23, 24, 25] rfl Kr Kr Kr Kr Kr) (SplitB.all _) (by simp) rfl rfl rfl (q_pev rfl (fun _ => rfl)) ?_
            refine ra_q (.ab (i := 1) (js := [2, 4, 5]) [3, 6, 7, 8, 9, 10, 11, 12, 13, 14, 15, 16, 17, 18, 19, 20, 21, 22, 23, 24, 25] rfl Kr Kr Kr Kr Kr) (SplitB.all _) (by simp) rfl rfl rfl (q_ld1 rfl rfl (fun _ => rfl) rfl Mm rfl) ?_
            refine ra_q (.ab (i := 2) (js := [4, 5]) [3, 6, 7, 8, 9, 10, 11, 12, 13, 14, 15, 16, 17, 18, 19, 20, 21, 22, 23, 24, 25] rfl Kr Kr Kr Kr Kr) (SplitB.all _) (by simp) rfl rfl rfl (q_pev rfl (fun _ => rfl)) ?_
            refine ra_q (.ab (i := 3) (js := [4, 5]) [6, 7, 8, 9, 10, 11, 12, 13, 14, 15, 16, 17, 18, 19, 20, 21, 22, 23, 24, 25] rfl Kr Kr Kr Kr Kr) (SplitB.all _) (by simp) rfl rfl rfl (q_take EStep l2.length rfl rfl (fun _ => rfl) rfl (fun _ => rfl) rfl rfl Mm (fun _ => by omega) (fun _ => by omega)) ?_
            refine rw_fact (F := RdL EStep x4.1 ((((history_Insert (⟨l2, p1⟩ : History) (⟨((last1 + 1) + (n2 : Int)), (orangerylaw_at ((gt (more1.take ((if (30 - (l1.length : Int)) < (more1.length : Int) then (30 - (l1.length : Int)) else (more1.length : Int)).toNat)) n2).who) 3), (gt (more1.take ((if (30 - (l1.length : Int)) < (more1.length : Int) then (30 - (l1.length : Int)) else (more1.length : Int)).toNat)) n2).node, (gt (more1.take ((if (30 - (l1.length : Int)) < (more1.length : Int) then (30 - (l1.length : Int)) else (more1.length : Int)).toNat)) n2).parent, (gt (more1.take ((if (30 - (l1.length : Int)) < (more1.length : Int) then (30 - (l1.length : Int)) else (more1.length : Int)).toNat)) n2).name, (gt (more1.take ((if (30 - (l1.length : Int)) < (more1.length : Int) then (30 - (l1.length : Int)) else (more1.length : Int)).toNat)) n2).life, (gt (more1.take ((if (30 - (l1.length : Int)) < (more1.length : Int) then (30 - (l1.length : Int)) else (more1.length : Int)).toNat)) n2).seq⟩ : Op)).1).l).take l2.length)) [RdL EStep x4.1 (((history_Insert (⟨l2, p1⟩ : History) (⟨((last1 + 1) + (n2 : Int)), (orangerylaw_at ((gt (more1.take ((if (30 - (l1.length : Int)) < (more1.length : Int) then (30 - (l1.length : Int)) else (more1.length : Int)).toNat)) n2).who) 3), (gt (more1.take ((if (30 - (l1.length : Int)) < (more1.length : Int) then (30 - (l1.length : Int)) else (more1.length : Int)).toNat)) n2).node, (gt (more1.take ((if (30 - (l1.length : Int)) < (more1.length : Int) then (30 - (l1.length : Int)) else (more1.length : Int)).toNat)) n2).parent, (gt (more1.take ((if (30 - (l1.length : Int)) < (more1.length : Int) then (30 - (l1.length : Int)) else (more1.length : Int)).toNat)) n2).name, (gt (more1.take ((if (30 - (l1.length : Int)) < (more1.length : Int) then (30 - (l1.length : Int)) else (more1.length : Int)).toNat)) n2).life, (gt (more1.take ((if (30 - (l1.length : Int)) < (more1.length : Int) then (30 - (l1.length : Int)) else (more1.length : Int)).toNat)) n2).seq⟩ : Op)).1).l)] Sm (fun M w h => (allF1 h).take _) ?_
            refine ra_q (.ab (i := 4) (js := []) [5, 6, 7, 8, 9, 10, 11, 12, 13, 14, 15, 16, 17, 18, 19, 20, 21, 22, 23, 24, 25] rfl Kr Kr Kr Kr Kr) (SplitB.all _) (by simp) rfl rfl rfl (q_pev rfl (fun _ => rfl)) ?_
            refine ra_q (.ab (i := 5) (js := []) [6, 7, 8, 9, 10, 11, 12, 13, 14, 15, 16, 17, 18, 19, 20, 21, 22, 23, 24, 25] rfl Kr Kr Kr Kr Kr) (SplitB.all _) (by simp) rfl rfl rfl (q_ld1 rfl rfl (fun _ => rfl) rfl Mm rfl) ?_
            refine ra_one 6 Kr ?_
            refine rw_call ((fun y1 a y2 b => slices_Equal_Step_spec' y1 y2 a b) x4.1 ((((history_Insert (⟨l2, p1⟩ : History) (⟨((last1 + 1) + (n2 : Int)), (orangerylaw_at ((gt (more1.take ((if (30 - (l1.length : Int)) < (more1.length : Int) then (30 - (l1.length : Int)) else (more1.length : Int)).toNat)) n2).who) 3), (gt (more1.take ((if (30 - (l1.length : Int)) < (more1.length : Int) then (30 - (l1.length : Int)) else (more1.length : Int)).toNat)) n2).node, (gt (more1.take ((if (30 - (l1.length : Int)) < (more1.length : Int) then (30 - (l1.length : Int)) else (more1.length : Int)).toNat)) n2).parent, (gt (more1.take ((if (30 - (l1.length : Int)) < (more1.length : Int) then (30 - (l1.length : Int)) else (more1.length : Int)).toNat)) n2).name, (gt (more1.take ((if (30 - (l1.length : Int)) < (more1.length : Int) then (30 - (l1.length : Int)) else (more1.length : Int)).toNat)) n2).life, (gt (more1.take ((if (30 - (l1.length : Int)) < (more1.length : Int) then (30 - (l1.length : Int)) else (more1.length : Int)).toNat)) n2).seq⟩ : Op)).1).l).take l2.length) x2 l2) (.an rfl rfl) (guard_none rfl) rfl rfl rfl Kr rfl rfl Sm ?_
            intro _
            refine ra_q (.ab (i := 7) (js := []) [8, 9, 10, 11, 12, 13, 14, 15, 16, 17, 18, 19, 20, 21, 22, 23, 24, 25] rfl Kr Kr Kr Kr Kr) (SplitB.all _) (by simp) rfl rfl rfl (q_pev rfl (fun _ => rfl)) ?_
            refine ra_q (.ab (i := 8) (js := []) [9, 10, 11, 12, 13, 14, 15, 16, 17, 18, 19, 20, 21, 22, 23, 24, 25] rfl Kr Kr Kr Kr Kr) (SplitB.all _) (by simp) rfl rfl rfl (q_pev rfl (fun _ => rfl)) ?_
            refine ra_qg (.ab (i := 9) (js := [12, 13]) [10, 11, 14, 15, 16, 17, 18, 19, 20, 21, 22, 23, 24, 25] rfl Kr Kr Kr Kr Kr) (SplitB.all _) (by simp) (guard_vf rfl rfl rfl) rfl rfl (q_pev rfl Bt) ?_
            refine ra_qg (.ab (i := 10) (js := [12, 13]) [11, 14, 15, 16, 17, 18, 19, 20, 21, 22, 23, 24, 25] rfl Kr Kr Kr Kr Kr) (SplitB.all _) (by simp) (guard_vf rfl rfl rfl) rfl rfl (q_ld1 rfl rfl Bt rfl Mm rfl) ?_
            refine ra_qg (.ab (i := 11) (js := [12, 13]) [14, 15, 16, 17, 18, 19, 20, 21, 22, 23, 24, 25] rfl Kr Kr Kr Kr Kr) (SplitB.all _) (by simp) (guard_vf rfl rfl rfl) rfl rfl (q_pev rfl Bt) ?_
            refine ra_qg (.ab (i := 12) (js := []) [13, 14, 15, 16, 17, 18, 19, 20, 21, 22, 23, 24, 25] rfl Kr Kr Kr Kr Kr) (SplitB.all _) (by simp) (guard_vf rfl rfl rfl) rfl rfl (q_pev rfl Bt) ?_
            refine ra_qg (.ab (i := 13) (js := []) [14, 15, 16, 17, 18, 19, 20, 21, 22, 23, 24, 25] rfl Kr Kr Kr Kr Kr) (SplitB.all _) (by simp) (guard_vf rfl rfl rfl) rfl rfl (q_add rfl rfl Bt rfl Bt (by intro h; first | omega | (simp at h; omega))) ?_
            refine ra_qg (.ab (i := 14) (js := []) [15, 16, 17, 18, 19, 20, 21, 22, 23, 24, 25] rfl Kr Kr Kr Kr Kr) (SplitB.all _) (by simp) (guard_vf rfl rfl rfl) rfl rfl (q_pev rfl Bt) ?_
            refine ra_q (.ab (i := 15) (js := []) [16, 17, 18, 19, 20, 21, 22, 23, 24, 25] rfl Kr Kr Kr Kr Kr) (SplitB.all _) (by simp) rfl rfl rfl (q_pev rfl Bt) ?_
            refine ra_q (.an (i := 16) (js := []) rfl Kr Kr Kr Kr) (SplitB.all _) (by simp) rfl rfl rfl (q_pev rfl (fun _ => rfl)) ?_
            refine ra_qg (.ab (i := 17) (js := [19, 23]) [18, 20, 21, 22, 24, 25] rfl Kr Kr Kr Kr Kr) (SplitB.all _) (by simp) (guard_vf rfl rfl rfl) rfl rfl (q_pev rfl Bt) ?_
            refine ra_qg (.ab (i := 18) (js := [19, 23]) [20, 21, 22, 24, 25] rfl Kr Kr Kr Kr Kr) (SplitB.all _) (by simp) (guard_vf rfl rfl rfl) rfl rfl (q_ld1 rfl rfl Bt rfl Mm rfl) ?_
            refine ra_qg (.ab (i := 19) (js := [23]) [20, 21, 22, 24, 25] rfl Kr Kr Kr Kr Kr) (SplitB.all _) (by simp) (guard_vf rfl rfl rfl) rfl rfl (q_pev rfl Bt) ?_
            refine ra_qg (.ab (i := 20) (js := [23]) [21, 22, 24, 25] rfl Kr Kr Kr Kr Kr) (SplitB.all _) (by simp) (guard_vf rfl rfl rfl) rfl rfl (q_idx EStep l2.length rfl rfl Bt rfl Bt rfl rfl rfl Mm rfl (by intro h; first | omega | rfl | (simp at h; omega)) (by first | (intro _; first | assumption | omega) | (intro h; simp at h; omega))) ?_
            refine ra_qg (.ab (i := 21) (js := [23]) [22, 24, 25] rfl Kr Kr Kr Kr Kr) (SplitB.all _) (by simp) (guard_vf rfl rfl rfl) rfl rfl (q_fae rfl rfl Bt rfl rfl) ?_
            refine ra_qg (.ab (i := 22) (js := [23]) [24, 25] rfl Kr Kr Kr Kr Kr) (SplitB.all _) (by simp) (guard_vf rfl rfl rfl) rfl rfl (q_leP EStep (l := ((history_Insert (⟨l2, p1⟩ : History) (⟨((last1 + 1) + (n2 : Int)), (orangerylaw_at ((gt (more1.take ((if (30 - (l1.length : Int)) < (more1.length : Int) then (30 - (l1.length : Int)) else (more1.length : Int)).toNat)) n2).who) 3), (gt (more1.take ((if (30 - (l1.length : Int)) < (more1.length : Int) then (30 - (l1.length : Int)) else (more1.length : Int)).toNat)) n2).node, (gt (more1.take ((if (30 - (l1.length : Int)) < (more1.length : Int) then (30 - (l1.length : Int)) else (more1.length : Int)).toNat)) n2).parent, (gt (more1.take ((if (30 - (l1.length : Int)) < (more1.length : Int) then (30 - (l1.length : Int)) else (more1.length : Int)).toNat)) n2).name, (gt (more1.take ((if (30 - (l1.length : Int)) < (more1.length : Int) then (30 - (l1.length : Int)) else (more1.length : Int)).toNat)) n2).life, (gt (more1.take ((if (30 - (l1.length : Int)) < (more1.length : Int) then (30 - (l1.length : Int)) else (more1.length : Int)).toNat)) n2).seq⟩ : Op)).1).l) rfl rfl Bt rfl rfl Mm (by first | (intro _; first | assumption | omega) | (intro h; simp at h; omega)) rfl) ?_
            refine ra_qg (.ab (i := 23) (js := []) [24, 25] rfl Kr Kr Kr Kr Kr) (SplitB.all _) (by simp) (guard_vf rfl rfl rfl) rfl rfl (q_ldA rfl rfl Bt rfl Mm rfl) ?_
            refine ra_qg (.an (i := 24) (js := []) rfl Kr Kr Kr Kr) (SplitB.all _) (by simp) (guard_vf rfl rfl rfl) rfl rfl (q_neE eqT_Op (flatEq_Op ((gt (((history_Insert (⟨l2, p1⟩ : History) (⟨((last1 + 1) + (n2 : Int)), (orangerylaw_at ((gt (more1.take ((if (30 - (l1.length : Int)) < (more1.length : Int) then (30 - (l1.length : Int)) else (more1.length : Int)).toNat)) n2).who) 3), (gt (more1.take ((if (30 - (l1.length : Int)) < (more1.length : Int) then (30 - (l1.length : Int)) else (more1.length : Int)).toNat)) n2).node, (gt (more1.take ((if (30 - (l1.length : Int)) < (more1.length : Int) then (30 - (l1.length : Int)) else (more1.length : Int)).toNat)) n2).parent, (gt (more1.take ((if (30 - (l1.length : Int)) < (more1.length : Int) then (30 - (l1.length : Int)) else (more1.length : Int)).toNat)) n2).name, (gt (more1.take ((if (30 - (l1.length : Int)) < (more1.length : Int) then (30 - (l1.length : Int)) else (more1.length : Int)).toNat)) n2).life, (gt (more1.take ((if (30 - (l1.length : Int)) < (more1.length : Int) then (30 - (l1.length : Int)) else (more1.length : Int)).toNat)) n2).seq⟩ : Op)).1).l) l2.length).o) (⟨((last1 + 1) + (n2 : Int)), (orangerylaw_at ((gt (more1.take ((if (30 - (l1.length : Int)) < (more1.length : Int) then (30 - (l1.length : Int)) else (more1.length : Int)).toNat)) n2).who) 3), (gt (more1.take ((if (30 - (l1.length : Int)) < (more1.length : Int) then (30 - (l1.length : Int)) else (more1.length : Int)).toNat)) n2).node, (gt (more1.take ((if (30 - (l1.length : Int)) < (more1.length : Int) then (30 - (l1.length : Int)) else (more1.length : Int)).toNat)) n2).parent, (gt (more1.take ((if (30 - (l1.length : Int)) < (more1.length : Int) then (30 - (l1.length : Int)) else (more1.length : Int)).toNat)) n2).name, (gt (more1.take ((if (30 - (l1.length : Int)) < (more1.length : Int) then (30 - (l1.length : Int)) else (more1.length : Int)).toNat)) n2).life, (gt (more1.take ((if (30 - (l1.length : Int)) < (more1.length : Int) then (30 - (l1.length : Int)) else (more1.length : Int)).toNat)) n2).seq⟩ : Op)) rfl rfl Bt rfl Bt rfl rfl) ?_
            refine ra_q (.an (i := 25) (js := []) rfl Kr Kr Kr Kr) (SplitB.all _) (by simp) rfl rfl rfl (q_pev rfl Bt) ?_
            refine ra_nil Kr ?_
            (repeat refine cw_seq ?_); refine cw_cond (b := (((!(decide (((((history_Insert (⟨l2, p1⟩ : History) (⟨((last1 + 1) + (n2 : Int)), (orangerylaw_at ((gt (more1.take ((if (30 - (l1.length : Int)) < (more1.length : Int) then (30 - (l1.length : Int)) else (more1.length : Int)).toNat)) n2).who) 3), (gt (more1.take ((if (30 - (l1.length : Int)) < (more1.length : Int) then (30 - (l1.length : Int)) else (more1.length : Int)).toNat)) n2).node, (gt (more1.take ((if (30 - (l1.length : Int)) < (more1.length : Int) then (30 - (l1.length : Int)) else (more1.length : Int)).toNat)) n2).parent, (gt (more1.take ((if (30 - (l1.length : Int)) < (more1.length : Int) then (30 - (l1.length : Int)) else (more1.length : Int)).toNat)) n2).name, (gt (more1.take ((if (30 - (l1.length : Int)) < (more1.length : Int) then (30 - (l1.length : Int)) else (more1.length : Int)).toNat)) n2).life, (gt (more1.take ((if (30 - (l1.length : Int)) < (more1.length : Int) then (30 - (l1.length : Int)) else (more1.length : Int)).toNat)) n2).seq⟩ : Op)).1).l).take l2.length) = l2))) || (((((history_Insert (⟨l2, p1⟩ : History) (⟨((last1 + 1) + (n2 : Int)), (orangerylaw_at ((gt (more1.take ((if (30 - (l1.length : Int)) < (more1.length : Int) then (30 - (l1.length : Int)) else (more1.length : Int)).toNat)) n2).who) 3), (gt (more1.take ((if (30 - (l1.length : Int)) < (more1.length : Int) then (30 - (l1.length : Int)) else (more1.length : Int)).toNat)) n2).node, (gt (more1.take ((if (30 - (l1.length : Int)) < (more1.length : Int) then (30 - (l1.length : Int)) else (more1.length : Int)).toNat)) n2).parent, (gt (more1.take ((if (30 - (l1.length : Int)) < (more1.length : Int) then (30 - (l1.length : Int)) else (more1.length : Int)).toNat)) n2).name, (gt (more1.take ((if (30 - (l1.length : Int)) < (more1.length : Int) then (30 - (l1.length : Int)) else (more1.length : Int)).toNat)) n2).life, (gt (more1.take ((if (30 - (l1.length : Int)) < (more1.length : Int) then (30 - (l1.length : Int)) else (more1.length : Int)).toNat)) n2).seq⟩ : Op)).1).l).length : Int) != ((l2.length : Int) + 1))) || (!(decide (((gt (((history_Insert (⟨l2, p1⟩ : History) (⟨((last1 + 1) + (n2 : Int)), (orangerylaw_at ((gt (more1.take ((if (30 - (l1.length : Int)) < (more1.length : Int) then (30 - (l1.length : Int)) else (more1.length : Int)).toNat)) n2).who) 3), (gt (more1.take ((if (30 - (l1.length : Int)) < (more1.length : Int) then (30 - (l1.length : Int)) else (more1.length : Int)).toNat)) n2).node, (gt (more1.take ((if (30 - (l1.length : Int)) < (more1.length : Int) then (30 - (l1.length : Int)) else (more1.length : Int)).toNat)) n2).parent, (gt (more1.take ((if (30 - (l1.length : Int)) < (more1.length : Int) then (30 - (l1.length : Int)) else (more1.length : Int)).toNat)) n2).name, (gt (more1.take ((if (30 - (l1.length : Int)) < (more1.length : Int) then (30 - (l1.length : Int)) else (more1.length : Int)).toNat)) n2).life, (gt (more1.take ((if (30 - (l1.length : Int)) < (more1.length : Int) then (30 - (l1.length : Int)) else (more1.length : Int)).toNat)) n2).seq⟩ : Op)).1).l) l2.length).o) = (⟨((last1 + 1) + (n2 : Int)), (orangerylaw_at ((gt (more1.take ((if (30 - (l1.length : Int)) < (more1.length : Int) then (30 - (l1.length : Int)) else (more1.length : Int)).toNat)) n2).who) 3), (gt (more1.take ((if (30 - (l1.length : Int)) < (more1.length : Int) then (30 - (l1.length : Int)) else (more1.length : Int)).toNat)) n2).node, (gt (more1.take ((if (30 - (l1.length : Int)) < (more1.length : Int) then (30 - (l1.length : Int)) else (more1.length : Int)).toNat)) n2).parent, (gt (more1.take ((if (30 - (l1.length : Int)) < (more1.length : Int) then (30 - (l1.length : Int)) else (more1.length : Int)).toNat)) n2).name, (gt (more1.take ((if (30 - (l1.length : Int)) < (more1.length : Int) then (30 - (l1.length : Int)) else (more1.length : Int)).toNat)) n2).life, (gt (more1.take ((if (30 - (l1.length : Int)) < (more1.length : Int) then (30 - (l1.length : Int)) else (more1.length : Int)).toNat)) n2).seq⟩ : Op)))))) rfl rfl (fun hc6 => ?_) (fun hc6 => ?_)
            · skip
              (repeat refine cw_seq ?_); refine cw_region ?_
              refine Rp rfl rfl rfl rfl ?_
              refine rw_nil ?_
              (repeat refine cw_seq ?_)
              have hr3 : (orangerylaw_HistoryLate l1 more1) = false := by rw [← hf2, drop_gt hlt1]; simp only [orangerylaw_HistoryLate_L1, hc4, hc5, hc6, cond_true, cond_false]
              refine cw_ret ?_
              rw [hr3]
              exact ⟨(), _, (.cons (.tmp rfl) .nil), rfl, Sm, .nil _, .nil _⟩
            · skip
              (repeat refine cw_seq ?_); refine cw_skip ?_
              (repeat refine cw_seq ?_); refine cw_region ?_
              refine rw_q rfl rfl rfl (q_ldA rfl rfl (fun _ => rfl) rfl Mm rfl) ?_
              refine rw_stA .sq (.inl ⟨_, rfl⟩) (guard_none rfl) rfl rfl rfl rfl rfl rfl rfl rfl rfl Ub rfl ?_
              refine rw_nil ?_
              (repeat refine cw_seq ?_); refine cw_region ?_
              refine rw_q rfl rfl rfl (q_add rfl rfl (fun _ => rfl) rfl (fun _ => rfl) (fun _ => by omega)) ?_
              refine Rp rfl rfl rfl rfl ?_
              refine rw_nil ?_
              refine ⟨⟨(n2 + 1), ((history_Insert (⟨l2, p1⟩ : History) (⟨((last1 + 1) + (n2 : Int)), (orangerylaw_at ((gt (more1.take ((if (30 - (l1.length : Int)) < (more1.length : Int) then (30 - (l1.length : Int)) else (more1.length : Int)).toNat)) n2).who) 3), (gt (more1.take ((if (30 - (l1.length : Int)) < (more1.length : Int) then (30 - (l1.length : Int)) else (more1.length : Int)).toNat)) n2).node, (gt (more1.take ((if (30 - (l1.length : Int)) < (more1.length : Int) then (30 - (l1.length : Int)) else (more1.length : Int)).toNat)) n2).parent, (gt (more1.take ((if (30 - (l1.length : Int)) < (more1.length : Int) then (30 - (l1.length : Int)) else (more1.length : Int)).toNat)) n2).name, (gt (more1.take ((if (30 - (l1.length : Int)) < (more1.length : Int) then (30 - (l1.length : Int)) else (more1.length : Int)).toNat)) n2).life, (gt (more1.take ((if (30 - (l1.length : Int)) < (more1.length : Int) then (30 - (l1.length : Int)) else (more1.length : Int)).toNat)) n2).seq⟩ : Op)).1).l, x4.1, ((history_Insert (⟨l2, p1⟩ : History) (⟨((last1 + 1) + (n2 : Int)), (orangerylaw_at ((gt (more1.take ((if (30 - (l1.length : Int)) < (more1.length : Int) then (30 - (l1.length : Int)) else (more1.length : Int)).toNat)) n2).who) 3), (gt (more1.take ((if (30 - (l1.length : Int)) < (more1.length : Int) then (30 - (l1.length : Int)) else (more1.length : Int)).toNat)) n2).node, (gt (more1.take ((if (30 - (l1.length : Int)) < (more1.length : Int) then (30 - (l1.length : Int)) else (more1.length : Int)).toNat)) n2).parent, (gt (more1.take ((if (30 - (l1.length : Int)) < (more1.length : Int) then (30 - (l1.length : Int)) else (more1.length : Int)).toNat)) n2).name, (gt (more1.take ((if (30 - (l1.length : Int)) < (more1.length : Int) then (30 - (l1.length : Int)) else (more1.length : Int)).toNat)) n2).life, (gt (more1.take ((if (30 - (l1.length : Int)) < (more1.length : Int) then (30 - (l1.length : Int)) else (more1.length : Int)).toNat)) n2).seq⟩ : Op)).1).t, x4.2⟩, ⟨hlt1, (by first | assumption | omega | (simp only []; omega)), (by rw [← hf2, drop_gt hlt1]; simp only [orangerylaw_HistoryLate_L1, hc4, hc5, hc6, cond_true, cond_false] : (orangerylaw_HistoryLate l1 more1) = (orangerylaw_HistoryLate_L1 l1 last1 ((more1.take ((if (30 - (l1.length : Int)) < (more1.length : Int) then (30 - (l1.length : Int)) else (more1.length : Int)).toNat)).drop (n2 + 1)) (n2 + 1) (((history_Insert (⟨l2, p1⟩ : History) (⟨((last1 + 1) + (n2 : Int)), (orangerylaw_at ((gt (more1.take ((if (30 - (l1.length : Int)) < (more1.length : Int) then (30 - (l1.length : Int)) else (more1.length : Int)).toNat)) n2).who) 3), (gt (more1.take ((if (30 - (l1.length : Int)) < (more1.length : Int) then (30 - (l1.length : Int)) else (more1.length : Int)).toNat)) n2).node, (gt (more1.take ((if (30 - (l1.length : Int)) < (more1.length : Int) then (30 - (l1.length : Int)) else (more1.length : Int)).toNat)) n2).parent, (gt (more1.take ((if (30 - (l1.length : Int)) < (more1.length : Int) then (30 - (l1.length : Int)) else (more1.length : Int)).toNat)) n2).name, (gt (more1.take ((if (30 - (l1.length : Int)) < (more1.length : Int) then (30 - (l1.length : Int)) else (more1.length : Int)).toNat)) n2).life, (gt (more1.take ((if (30 - (l1.length : Int)) < (more1.length : Int) then (30 - (l1.length : Int)) else (more1.length : Int)).toNat)) n2).seq⟩ : Op)).1).l) (((history_Insert (⟨l2, p1⟩ : History) (⟨((last1 + 1) + (n2 : Int)), (orangerylaw_at ((gt (more1.take ((if (30 - (l1.length : Int)) < (more1.length : Int) then (30 - (l1.length : Int)) else (more1.length : Int)).toNat)) n2).who) 3), (gt (more1.take ((if (30 - (l1.length : Int)) < (more1.length : Int) then (30 - (l1.length : Int)) else (more1.length : Int)).toNat)) n2).node, (gt (more1.take ((if (30 - (l1.length : Int)) < (more1.length : Int) then (30 - (l1.length : Int)) else (more1.length : Int)).toNat)) n2).parent, (gt (more1.take ((if (30 - (l1.length : Int)) < (more1.length : Int) then (30 - (l1.length : Int)) else (more1.length : Int)).toNat)) n2).name, (gt (more1.take ((if (30 - (l1.length : Int)) < (more1.length : Int) then (30 - (l1.length : Int)) else (more1.length : Int)).toNat)) n2).life, (gt (more1.take ((if (30 - (l1.length : Int)) < (more1.length : Int) then (30 - (l1.length : Int)) else (more1.length : Int)).toNat)) n2).seq⟩ : Op)).1).t))).symm⟩, (by simp only []; omega), Le4⟩
      · skip
        have hge1 : (more1.take ((if (30 - (l1.length : Int)) < (more1.length : Int) then (30 - (l1.length : Int)) else (more1.length : Int)).toNat)).length ≤ n2 := by have := of_decide_eq_false hc3; omega
        (repeat refine cw_seq ?_); refine cw_exit ?_
        (repeat refine cw_seq ?_); refine cw_regionA (fun _ => some []) ?_
        refine ra_q (.ab (i := 0) (js := [2, 3, 4, 6, 7]) [1, 5, 8, 9] rfl Kr Kr Kr Kr Kr) (SplitB.all _) (by simp) rfl rfl rfl (q_pev rfl (fun _ => rfl)) ?_
        refine ra_q (.ab (i := 1) (js := [2, 3, 4, 6, 7]) [5, 8, 9] rfl Kr Kr Kr Kr Kr) (SplitB.all _) (by simp) rfl rfl rfl (q_ld1 rfl rfl (fun _ => rfl) rfl Mm rfl) ?_
        refine ra_q (.ab (i := 2) (js := [6, 7]) [3, 4, 5, 8, 9] rfl Kr Kr Kr Kr Kr) (SplitB.all _) (by simp) rfl rfl rfl (q_pev rfl (fun _ => rfl)) ?_
        refine ra_q (.ab (i := 3) (js := [6, 7]) [4, 5, 8, 9] rfl Kr Kr Kr Kr Kr) (SplitB.all _) (by simp) rfl rfl rfl (q_ld1 rfl rfl (fun _ => rfl) rfl Mm rfl) ?_
        refine ra_q (.ab (i := 4) (js := [6, 7]) [5, 8, 9] rfl Kr Kr Kr Kr Kr) (SplitB.all _) (by simp) rfl rfl rfl (q_pev rfl (fun _ => rfl)) ?_
        refine ra_q (.an (i := 5) (js := [6, 7]) rfl Kr Kr Kr Kr) (SplitB.all _) (by simp) rfl rfl rfl (q_take EStep ((((history_Fold l1).1).l).length) rfl rfl (fun _ => rfl) rfl (fun _ => rfl) rfl rfl Mm (fun _ => by omega) (fun _ => by omega)) ?_
        refine rw_fact (F := RdL EStep x2 (l2.take ((((history_Fold l1).1).l).length))) [RdL EStep x2 l2] Sm (fun M w h => (allF1 h).take _) ?_
        refine ra_q (.ab (i := 6) (js := []) [7, 8, 9] rfl Kr Kr Kr Kr Kr) (SplitB.all _) (by simp) rfl rfl rfl (q_pev rfl (fun _ => rfl)) ?_
        refine ra_q (.an (i := 7) (js := []) rfl Kr Kr Kr Kr) (SplitB.all _) (by simp) rfl rfl rfl (q_ld1 rfl rfl (fun _ => rfl) rfl Mm rfl) ?_
        refine ra_one 8 Kr ?_
        refine rw_call ((fun y1 a y2 b => slices_Equal_Step_spec' y1 y2 a b) x2 (l2.take ((((history_Fold l1).1).l).length)) x1.1 (((history_Fold l1).1).l)) (.an rfl rfl) (guard_none rfl) rfl rfl rfl Kr rfl rfl Sm ?_
        intro _
        refine ra_q (.an (i := 9) (js := []) rfl Kr Kr Kr Kr) (SplitB.all _) (by simp) rfl rfl rfl (q_pev rfl (fun _ => rfl)) ?_
        refine ra_nil Kr ?_
        (repeat refine cw_seq ?_)
        have hr4 : (orangerylaw_HistoryLate l1 more1) = (decide ((l2.take ((((history_Fold l1).1).l).length)) = (((history_Fold l1).1).l))) := by rw [← hf2, List.drop_of_length_le hge1]; simp only [orangerylaw_HistoryLate_L1, cond_true, cond_false]
        refine cw_ret ?_
        rw [hr4]
        exact ⟨(), _, (.cons (.tmp rfl) .nil), rfl, Sm, .nil _, .nil _⟩
end Go.Proofs.Ytchdacbjiomplaa
