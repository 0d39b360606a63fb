/- Part of this claim. No condition. -/
import Derived.Test.YtchdacbjiomplaaW48
import Derived.Test.YtchdacbjiomplaaLHubI
set_option linter.unusedVariables false
set_option linter.unusedSimpArgs false
set_option maxHeartbeats 2000000
namespace Go.Proofs.Ytchdacbjiomplaa
open Go Go.Proofs.Ytchdacbjiomplaa.Fw Go.Proofs
attribute [local irreducible] RdL RdN VarP RW CW
def orangerylaw_HubInOrder_L0 (l1 : List Rec) : List Rec → (List Op) → (List Int) → (List Int) → Bool
  | [], ops1, tb1, tb2 => (((((history_Fold ops1).2) == 0) && (history_Same ((history_Fold ops1).1) (((hub_Replay l1).1).h))) && ((((hub_Replay l1).1).version) == (l1.length : Int)))
  | pn1 :: rn1, ops1, tb1, tb2 => (bif ((pn1.kind) == 2) then (bif ((pn1.life) != ((gt tb2 ((pn1.who).toNat)) + 1)) then false else (orangerylaw_HubInOrder_L0 l1 rn1 ops1 (tb1.set ((pn1.who).toNat) 0) (tb2.set ((pn1.who).toNat) (pn1.life)))) else (bif ((pn1.kind) == 1) then (bif ((((pn1.o).life) != (gt tb2 (((pn1.o).who).toNat))) || (((pn1.o).seq) != (gt (tb1.set (((pn1.o).who).toNat) ((gt tb1 (((pn1.o).who).toNat)) + 1)) (((pn1.o).who).toNat)))) then false else (orangerylaw_HubInOrder_L0 l1 rn1 (ops1 ++ [(pn1.o)]) (tb1.set (((pn1.o).who).toNat) ((gt tb1 (((pn1.o).who).toNat)) + 1)) tb2)) else (orangerylaw_HubInOrder_L0 l1 rn1 ops1 tb1 tb2)))
def orangerylaw_HubInOrder (l1 : List Rec) : Bool :=
  (bif ((!orangerylaw_accepted) || (((hub_Replay l1).2) != 0)) then orangerylaw_accepted else (orangerylaw_HubInOrder_L0 l1 l1 [] (List.replicate 3 (0 : Int)) (List.replicate 3 (0 : Int))))
theorem orangerylaw_HubInOrder_spec (y1 : SlV) (l1 : List Rec) : Does Try.prog 23 [y1.val l1.length] [RdN NRec y1 l1] (fun (_ : Unit) => .bool (orangerylaw_HubInOrder l1)) (fun (_ : Unit) => []) := by
  refine does_of tab_ok Try.func23 rfl Try.ntmps23 Try.results23 rfl inferInstance (fun _ => inferInstance) fun C => ?_
  refine Pn NRec y1 l1 104 fun hlen1 => ?_
  refine Tx ?_
  refine Cl (hub_Replay_spec y1 l1) fun x1 => ?_
  refine Pr EStep x1.1 ((((hub_Replay l1).1).h).l) 88 fun hlen2 => ?_
  refine Pr EPlace x1.2.1 ((((hub_Replay l1).1).h).t) 24 fun hlen3 => ?_
  refine Pm NPeer x1.2.2 (((hub_Replay l1).1).peers) 40 fun hlen4 => ?_
  refine Tx ?_
  refine Al fun g1 => ?_
  refine Tx ?_
  refine Cl (orangerylaw_accepted_spec ) fun _ => ?_
  refine Tx ?_
  refine Cd (b := ((!orangerylaw_accepted) || (((hub_Replay l1).2) != 0))) (fun hc1 => ?_) fun hc1 => ?_
  · refine Tx ?_
    refine Cl (orangerylaw_accepted_spec ) fun _ => ?_
    refine Tx ?_
    have hr1 : (orangerylaw_HubInOrder l1) = orangerylaw_accepted := by simp only [orangerylaw_HubInOrder, hc1, Bool.true_and, Bool.and_true, Bool.false_or, Bool.or_false, Bool.false_and, Bool.and_false, Bool.true_or, Bool.or_true, Bool.not_true, Bool.not_false, cond_true, cond_false]
    refine cw_ret ?_; rw [hr1]; exact Re () (Vt Vn)
  · have hr0 := eq_of_bne_false (Bool.or_eq_false_iff.1 hc1).2
    have hrk := Replay_recs hr0
    have hrn := (Replay_ok hr0).1
    refine Tx ?_
    refine Al fun g2 => ?_
    refine Al fun g3 => ?_
    refine Tx ?_
    (repeat refine cw_seq ?_); refine Lp [0,2,3,4,5,6,24,25] [false, false, true] (fun (i_ : List Op × SlV × Option Nat × Nat × List Int × List Int) => match i_ with | ⟨ops1, x2, x2b, n1, tb1, tb2⟩ => (⟨[(7, .v (x2.val ops1.length)), (26, .v (.int .i64 (n1 : Int)))], [⟨g3, 134, (tb1.flatMap EInt.enc)⟩, ⟨g2, 134, (tb2.flatMap EInt.enc)⟩], [ownL EOp 33 x2 x2b ops1], [], (n1 ≤ l1.length) ∧ (ops1.length ≤ n1) ∧ (tb1.length = 3) ∧ (tb2.length = 3) ∧ (∀ i, i < 3 → 0 ≤ gt tb2 i ∧ gt tb2 i ≤ 50) ∧ (∀ i, i < 3 → 0 ≤ gt tb1 i ∧ gt tb1 i ≤ (n1 : Int)) ∧ (orangerylaw_HubInOrder_L0 l1 (l1.drop n1) ops1 tb1 tb2) = (orangerylaw_HubInOrder l1), l1.length - n1⟩ : Ls)) ⟨[], ⟨none, 0⟩, none, 0, (List.replicate 3 (0 : Int)), (List.replicate 3 (0 : Int))⟩ (Sc (Sc (Sc (Sc (Sc (Sc (Sc (Sc Sn)))))))) (.drop (.drop (.keep (.nil)))) ⟨Nat.zero_le _, (by first | exact Nat.le_refl _ | exact Nat.zero_le _ | omega), List.length_replicate, List.length_replicate, (rng_zero (by decide)), (rng_zero (by decide)), (by simp only [orangerylaw_HubInOrder, hc1, Bool.true_and, Bool.and_true, Bool.false_or, Bool.or_false, Bool.false_and, Bool.and_false, Bool.true_or, Bool.or_true, Bool.not_true, Bool.not_false, cond_true, cond_false] : (orangerylaw_HubInOrder l1) = (orangerylaw_HubInOrder_L0 l1 l1 [] (List.replicate 3 (0 : Int)) (List.replicate 3 (0 : Int)))).symm⟩ (Le.trans (le_nilL EOp 33) Le4) ?_
    rintro ⟨ops1, x2, x2b, n1, tb1, tb2⟩ ⟨hkn1, hops1, hl_tb1, hl_tb2, hlf, hsf, hf1⟩
    simp only [List.cons_append, List.nil_append]
    refine Tx ?_
    refine Cd (b := decide ((n1 : Int) < (l1.length : Int))) (fun hc2 => ?_) fun hc2 => ?_
    · have hlt0 : n1 < l1.length := Int.ofNat_lt.1 (of_decide_eq_true hc2)
      have hrc := hrk _ (gt_mem hlt0)
      have hwn := note_who hrc
      have hrl := rec_life hrc
      refine Tx ?_
      refine rw_exN NRec (X := y1) (l := l1) Mm fun (γ1 : Nat → SlV) => ?_
      refine rw_q rfl rfl rfl (q_idxN NRec γ1 n1 rfl rfl (fun _ => rfl) rfl (fun _ => rfl) rfl rfl rfl Mm rfl (fun _ => rfl) (fun _ => by first | assumption | omega)) ?_
      refine rw_q rfl rfl rfl (q_is (v' := .agg ⟨[.int .i64 ((gt l1 n1).kind), .int .i64 ((gt l1 n1).who), .int .i64 ((gt l1 n1).life), (γ1 n1).val ((gt l1 n1).roots).length, .int .i64 (((gt l1 n1).o).time), .int .i64 (((gt l1 n1).o).who), .int .i64 (((gt l1 n1).o).node), .int .i64 (((gt l1 n1).o).parent), .int .i64 (((gt l1 n1).o).name), .int .i64 (((gt l1 n1).o).life), .int .i64 (((gt l1 n1).o).seq)]⟩) (q_leAN NRec γ1 rfl rfl (fun _ => rfl) rfl rfl Mm (fun _ => by first | assumption | omega)) rfl) ?_
      refine rw_fact (F := RdL EInt (γ1 n1) ((gt l1 n1).roots)) [FactsG NRec γ1 l1] Sm (fun M w h => (allF1 h) n1 (by first | assumption | omega) _ (.head _)) ?_
      refine Al fun g4 => ?_
      refine Tx ?_
      refine Cd (b := (((gt l1 n1).kind) == 2)) (fun hc3 => ?_) fun hc3 => ?_
      · have hc3p := eq_of_beq hc3
        have hw2 := hwn.2.1 (by rw [eq_of_beq hc3]; decide)
        have hlb := hlf (gt l1 n1).who.toNat (by omega)
        have hl2 := hrl (eq_of_beq hc3)
        (repeat refine cw_seq ?_); refine cw_regionA (fun _ => some []) ?_
        refine Rb 0 [2,3,4,5,6] [1,7] rfl Qp ?_
        refine Ra 1 [2,3,4,5,6] rfl Q1 ?_
        refine Rb 2 [] [3,4,5,6,7] rfl Qp ?_
        refine Rb 3 [] [4,5,6,7] rfl Q1 ?_
        refine Rb 4 [] [5,6,7] rfl (q_idxB (((gt l1 n1).who).toNat) rfl rfl (fun _ => rfl) rfl (fun _ => rfl) rfl rfl rfl (fun _ => by omega) (fun _ => by first | assumption | omega)) ?_
        refine Rb 5 [] [6,7] rfl (q_lt1 EInt (((gt l1 n1).who).toNat) (o2 := 0) rfl rfl (fun _ => rfl) rfl rfl rfl Mm (fun _ => Nat.lt_of_lt_of_eq (m := 3) (by first | assumption | omega) (Eq.symm hl_tb2)) rfl) ?_
        refine Ra 6 [] rfl (q_add rfl rfl (fun _ => rfl) rfl (fun _ => rfl) (fun _ => by omega)) ?_
        refine Ra 7 [] rfl Qp ?_
        refine ra_nil Kr ?_
        (repeat refine cw_seq ?_)
        refine Cd (b := (((gt l1 n1).life) != ((gt tb2 (((gt l1 n1).who).toNat)) + 1))) (fun hc4 => ?_) fun hc4 => ?_
        · have hc4p := bne_iff_ne.1 hc4
          refine Tx ?_
          have hr2 : (orangerylaw_HubInOrder l1) = false := by rw [← hf1, drop_gt hlt0]; simp only [orangerylaw_HubInOrder_L0, hc3, hc4, Bool.true_and, Bool.and_true, Bool.false_or, Bool.or_false, Bool.false_and, Bool.and_false, Bool.true_or, Bool.or_true, Bool.not_true, Bool.not_false, cond_true, cond_false]
          refine cw_ret ?_; rw [hr2]; exact Re () (Vt Vn)
        · have hc4p := eq_of_bne_false hc4
          refine Tx ?_
          (repeat refine cw_seq ?_); refine cw_regionA (fun j => match j with | 7 => none | 9 => none | _ => some []) ?_
          refine Ra 0 [2,3,4,5] rfl Qp ?_
          refine Ra 1 [2,3,4,5] rfl Q1 ?_
          refine ra_p (.an (i := 2) (js := [4, 5, 6, 7]) rfl Kr Kr Kr Kr) rfl rfl rfl (q_pev rfl (fun _ => rfl)) ?_
          refine Ra 4 [3] rfl Qp ?_
          refine Ra 5 [3] rfl Q1 ?_
          refine Ra 6 [3] rfl (q_idxB (((gt l1 n1).who).toNat) rfl rfl (fun _ => rfl) rfl (fun _ => rfl) rfl rfl rfl (fun _ => by omega) (fun _ => by first | assumption | omega)) ?_
          refine ra_two 3 7 Kr ?_ ?_
          · refine ra_now rfl rfl rfl rfl (q_ld1 rfl rfl (fun _ => rfl) rfl Mm rfl) ?_
            refine ra_one 7 Kr ?_
            refine rw_stT1 EInt tb2 (((gt l1 n1).who).toNat) 0 ((gt l1 n1).life) (.lo [g2] rfl rfl) (.inr (by simp)) (guard_none rfl) rfl rfl rfl rfl rfl rfl rfl rfl rfl rfl rfl rfl (Nat.lt_of_lt_of_eq (m := 3) (by first | assumption | omega) (Eq.symm hl_tb2)) rfl Ub ?_
            refine Ra 8 [] rfl (q_idxB (((gt l1 n1).who).toNat) rfl rfl (fun _ => rfl) rfl (fun _ => rfl) rfl rfl rfl (fun _ => by omega) (fun _ => by first | assumption | omega)) ?_
            refine ra_one 9 Kr ?_
            refine rw_stT1 EInt tb1 (((gt l1 n1).who).toNat) 0 0 (.lo [g3] rfl rfl) (.inr (by simp)) (guard_none rfl) rfl rfl rfl rfl rfl rfl rfl rfl rfl rfl rfl rfl (Nat.lt_of_lt_of_eq (m := 3) (by first | assumption | omega) (Eq.symm hl_tb1)) rfl Ub ?_
            refine ra_nil Kr ?_
            refine Tx ?_
            refine rw_q rfl rfl rfl (q_add rfl rfl (fun _ => rfl) rfl (fun _ => rfl) (fun _ => by omega)) ?_
            refine Tx ?_
            refine ⟨⟨ops1, x2, x2b, (n1 + 1), (tb1.set (((gt l1 n1).who).toNat) 0), (tb2.set (((gt l1 n1).who).toNat) ((gt l1 n1).life))⟩, ⟨hlt0, (by (try simp only [List.length_append, List.length_cons, List.length_nil]); omega), (by rw [List.length_set]; exact hl_tb1), (by rw [List.length_set]; exact hl_tb2), (by (try simp only []); first | exact hlf | exact set_rng hlf (by omega)), (by (try simp only []); first | exact rng_mono hsf (by omega) | exact set_rng (rng_mono hsf (by omega)) (by omega)), (by rw [← hf1, drop_gt hlt0]; simp only [orangerylaw_HubInOrder_L0, hc3, hc4, Bool.true_and, Bool.and_true, Bool.false_or, Bool.or_false, Bool.false_and, Bool.and_false, Bool.true_or, Bool.or_true, Bool.not_true, Bool.not_false, cond_true, cond_false] : (orangerylaw_HubInOrder l1) = (orangerylaw_HubInOrder_L0 l1 (l1.drop (n1 + 1)) ops1 (tb1.set (((gt l1 n1).who).toNat) 0) (tb2.set (((gt l1 n1).who).toNat) ((gt l1 n1).life)))).symm⟩, (by simp only []; omega), Le4⟩
          · refine rw_stT1 EInt tb2 (((gt l1 n1).who).toNat) 0 ((gt l1 n1).life) (.lo [g2] rfl rfl) (.inr (by simp)) (guard_none rfl) rfl rfl rfl rfl rfl rfl rfl rfl rfl rfl rfl rfl (Nat.lt_of_lt_of_eq (m := 3) (by first | assumption | omega) (Eq.symm hl_tb2)) rfl Ub ?_
            refine Ra 3 [] rfl Q1 ?_
            refine Ra 8 [] rfl (q_idxB (((gt l1 n1).who).toNat) rfl rfl (fun _ => rfl) rfl (fun _ => rfl) rfl rfl rfl (fun _ => by omega) (fun _ => by first | assumption | omega)) ?_
            refine ra_one 9 Kr ?_
            refine rw_stT1 EInt tb1 (((gt l1 n1).who).toNat) 0 0 (.lo [g3] rfl rfl) (.inr (by simp)) (guard_none rfl) rfl rfl rfl rfl rfl rfl rfl rfl rfl rfl rfl rfl (Nat.lt_of_lt_of_eq (m := 3) (by first | assumption | omega) (Eq.symm hl_tb1)) rfl Ub ?_
            refine ra_nil Kr ?_
            refine Tx ?_
            refine rw_q rfl rfl rfl (q_add rfl rfl (fun _ => rfl) rfl (fun _ => rfl) (fun _ => by omega)) ?_
            refine Tx ?_
            refine ⟨⟨ops1, x2, x2b, (n1 + 1), (tb1.set (((gt l1 n1).who).toNat) 0), (tb2.set (((gt l1 n1).who).toNat) ((gt l1 n1).life))⟩, ⟨hlt0, (by (try simp only [List.length_append, List.length_cons, List.length_nil]); omega), (by rw [List.length_set]; exact hl_tb1), (by rw [List.length_set]; exact hl_tb2), (by (try simp only []); first | exact hlf | exact set_rng hlf (by omega)), (by (try simp only []); first | exact rng_mono hsf (by omega) | exact set_rng (rng_mono hsf (by omega)) (by omega)), (by rw [← hf1, drop_gt hlt0]; simp only [orangerylaw_HubInOrder_L0, hc3, hc4, Bool.true_and, Bool.and_true, Bool.false_or, Bool.or_false, Bool.false_and, Bool.and_false, Bool.true_or, Bool.or_true, Bool.not_true, Bool.not_false, cond_true, cond_false] : (orangerylaw_HubInOrder l1) = (orangerylaw_HubInOrder_L0 l1 (l1.drop (n1 + 1)) ops1 (tb1.set (((gt l1 n1).who).toNat) 0) (tb2.set (((gt l1 n1).who).toNat) ((gt l1 n1).life)))).symm⟩, (by simp only []; omega), Le4⟩
      · have hc3p := ne_of_beq_false hc3
        refine Tx ?_
        refine Cd (b := (((gt l1 n1).kind) == 1)) (fun hc5 => ?_) fun hc5 => ?_
        · have hc5p := eq_of_beq hc5
          have hw1 := hwn.1 (eq_of_beq hc5)
          have hsb := hsf (gt l1 n1).o.who.toNat (by omega)
          have hlb := hlf (gt l1 n1).o.who.toNat (by omega)
          refine Tx ?_
          refine rw_q rfl rfl rfl (q_idxB ((((gt l1 n1).o).who).toNat) rfl rfl (fun _ => rfl) rfl (fun _ => rfl) rfl rfl rfl (fun _ => by omega) (fun _ => by first | assumption | omega)) ?_
          refine rw_q rfl rfl rfl (q_lt1 EInt ((((gt l1 n1).o).who).toNat) (o2 := 0) rfl rfl (fun _ => rfl) rfl rfl rfl Mm (fun _ => Nat.lt_of_lt_of_eq (m := 3) (by first | assumption | omega) (Eq.symm hl_tb1)) rfl) ?_
          refine rw_q rfl rfl rfl (q_add rfl rfl (fun _ => rfl) rfl (fun _ => rfl) (fun _ => by omega)) ?_
          refine rw_q rfl rfl rfl (q_idxB ((((gt l1 n1).o).who).toNat) rfl rfl (fun _ => rfl) rfl (fun _ => rfl) rfl rfl rfl (fun _ => by omega) (fun _ => by first | assumption | omega)) ?_
          refine rw_stT1 EInt tb1 ((((gt l1 n1).o).who).toNat) 0 ((gt tb1 ((((gt l1 n1).o).who).toNat)) + 1) .sq (.inl ⟨_, rfl⟩) (guard_none rfl) rfl rfl rfl rfl rfl rfl rfl rfl rfl rfl rfl rfl (Nat.lt_of_lt_of_eq (m := 3) (by first | assumption | omega) (Eq.symm hl_tb1)) rfl Ub ?_
          refine rw_nil ?_
          (repeat refine cw_seq ?_); refine cw_regionA (fun _ => some []) ?_
          refine Rb 0 [3,4,5] [1,2,6,7,8,9,10,11,12,13,14,15] rfl Qp ?_
          refine Rb 1 [3,4,5] [2,6,7,8,9,10,11,12,13,14,15] rfl Qp ?_
          refine Rb 2 [3,4,5] [6,7,8,9,10,11,12,13,14,15] rfl Q1 ?_
          refine Rb 3 [] [4,5,6,7,8,9,10,11,12,13,14,15] rfl Qp ?_
          refine Rb 4 [] [5,6,7,8,9,10,11,12,13,14,15] rfl (q_idxB ((((gt l1 n1).o).who).toNat) rfl rfl (fun _ => rfl) rfl (fun _ => rfl) rfl rfl rfl (fun _ => by omega) (fun _ => by first | assumption | omega)) ?_
          refine Rb 5 [] [6,7,8,9,10,11,12,13,14,15] rfl (q_lt1 EInt ((((gt l1 n1).o).who).toNat) (o2 := 0) rfl rfl (fun _ => rfl) rfl rfl rfl Mm (fun _ => Nat.lt_of_lt_of_eq (m := 3) (by first | assumption | omega) (Eq.symm hl_tb2)) rfl) ?_
          refine Rb 6 [] [7,8,9,10,11,12,13,14,15] rfl Qp ?_
          refine Ra 7 [] rfl Qp ?_
          refine Gb 8 [11,12,13] [9,10,14,15] rfl (guard_vf rfl rfl rfl) (q_pev rfl Bt) ?_
          refine Gb 9 [11,12,13] [10,14,15] rfl (guard_vf rfl rfl rfl) (q_pev rfl Bt) ?_
          refine Gb 10 [11,12,13] [14,15] rfl (guard_vf rfl rfl rfl) (q_ld1 rfl rfl Bt rfl Mm rfl) ?_
          refine Gb 11 [] [12,13,14,15] rfl (guard_vf rfl rfl rfl) (q_pev rfl Bt) ?_
          refine Gb 12 [] [13,14,15] rfl (guard_vf rfl rfl rfl) (q_idxB ((((gt l1 n1).o).who).toNat) rfl rfl Bt rfl Bt rfl rfl rfl (by intro h; first | omega | rfl | (simp at h; omega)) (by first | (intro _; first | assumption | omega) | (intro h; simp at h; omega))) ?_
          refine Gb 13 [] [14,15] rfl (guard_vf rfl rfl rfl) (q_lt1 EInt ((((gt l1 n1).o).who).toNat) (o2 := 0) rfl rfl Bt rfl rfl rfl Mm (fun _ => Nat.lt_of_lt_of_eq (m := 3) (by first | assumption | omega) (Eq.symm (by rw [List.length_set]; exact hl_tb1))) rfl) ?_
          refine Ga 14 [] rfl (guard_vf rfl rfl rfl) (q_pev rfl Bt) ?_
          refine Ra 15 [] rfl (q_pev rfl Bt) ?_
          refine ra_nil Kr ?_
          (repeat refine cw_seq ?_)
          refine Cd (b := (((((gt l1 n1).o).life) != (gt tb2 ((((gt l1 n1).o).who).toNat))) || ((((gt l1 n1).o).seq) != (gt (tb1.set ((((gt l1 n1).o).who).toNat) ((gt tb1 ((((gt l1 n1).o).who).toNat)) + 1)) ((((gt l1 n1).o).who).toNat))))) (fun hc6 => ?_) fun hc6 => ?_
          · refine Tx ?_
            have hr3 : (orangerylaw_HubInOrder l1) = false := by rw [← hf1, drop_gt hlt0]; simp only [orangerylaw_HubInOrder_L0, hc3, hc5, hc6, Bool.true_and, Bool.and_true, Bool.false_or, Bool.or_false, Bool.false_and, Bool.and_false, Bool.true_or, Bool.or_true, Bool.not_true, Bool.not_false, cond_true, cond_false]
            refine cw_ret ?_; rw [hr3]; exact Re () (Vt Vn)
          · refine Tx ?_
            refine rw_bsliceL EOp [((gt l1 n1).o)] .sq (guard_none rfl) rfl rfl rfl rfl rfl rfl rfl rfl rfl rfl rfl rfl rfl rfl rfl fun x3 x3b => ?_
            refine rw_appendL EOp ops1 [((gt l1 n1).o)] (b := x2b) .sq (fun _ _ => .inl ⟨_, rfl⟩) (guard_none rfl) rfl rfl rfl rfl rfl rfl rfl (fun _ _ => Uo) rfl rfl rfl rfl rfl rfl rfl (reads_ownL (e := 33) (b := x3b) Mm) (by show (ops1.length + 1) * 56 ≤ 140737488355328; (try simp only [List.length_append, List.length_cons, List.length_nil]); omega) fun x4 x4b => ?_
            refine Tx ?_
            refine rw_q rfl rfl rfl (q_add rfl rfl (fun _ => rfl) rfl (fun _ => rfl) (fun _ => by omega)) ?_
            refine Tx ?_
            refine ⟨⟨(ops1 ++ [((gt l1 n1).o)]), x4, x4b, (n1 + 1), (tb1.set ((((gt l1 n1).o).who).toNat) ((gt tb1 ((((gt l1 n1).o).who).toNat)) + 1)), tb2⟩, ⟨hlt0, (by (try simp only [List.length_append, List.length_cons, List.length_nil]); omega), (by rw [List.length_set]; exact hl_tb1), hl_tb2, (by (try simp only []); first | exact hlf | exact set_rng hlf (by omega)), (by (try simp only []); first | exact rng_mono hsf (by omega) | exact set_rng (rng_mono hsf (by omega)) (by omega)), (by rw [← hf1, drop_gt hlt0]; simp only [orangerylaw_HubInOrder_L0, hc3, hc5, hc6, Bool.true_and, Bool.and_true, Bool.false_or, Bool.or_false, Bool.false_and, Bool.and_false, Bool.true_or, Bool.or_true, Bool.not_true, Bool.not_false, cond_true, cond_false] : (orangerylaw_HubInOrder l1) = (orangerylaw_HubInOrder_L0 l1 (l1.drop (n1 + 1)) (ops1 ++ [((gt l1 n1).o)]) (tb1.set ((((gt l1 n1).o).who).toNat) ((gt tb1 ((((gt l1 n1).o).who).toNat)) + 1)) tb2)).symm⟩, (by simp only []; omega), Le4⟩
        · have hc5p := ne_of_beq_false hc5
          refine Tx ?_
          refine rw_q rfl rfl rfl (q_add rfl rfl (fun _ => rfl) rfl (fun _ => rfl) (fun _ => by omega)) ?_
          refine Tx ?_
          refine ⟨⟨ops1, x2, x2b, (n1 + 1), tb1, tb2⟩, ⟨hlt0, (by (try simp only [List.length_append, List.length_cons, List.length_nil]); omega), hl_tb1, hl_tb2, (by (try simp only []); first | exact hlf | exact set_rng hlf (by omega)), (by (try simp only []); first | exact rng_mono hsf (by omega) | exact set_rng (rng_mono hsf (by omega)) (by omega)), (by rw [← hf1, drop_gt hlt0]; simp only [orangerylaw_HubInOrder_L0, hc3, hc5, Bool.true_and, Bool.and_true, Bool.false_or, Bool.or_false, Bool.false_and, Bool.and_false, Bool.true_or, Bool.or_true, Bool.not_true, Bool.not_false, cond_true, cond_false] : (orangerylaw_HubInOrder l1) = (orangerylaw_HubInOrder_L0 l1 (l1.drop (n1 + 1)) ops1 tb1 tb2)).symm⟩, (by simp only []; omega), Le4⟩
    · have hge0 : l1.length ≤ n1 := by have := of_decide_eq_false hc2; omega
      refine Tx ?_
      refine rw_le (le_freezeL EOp 33 x2 x2b ops1 Uo) ?_
      refine Cl (history_Fold_spec x2 ops1) fun x5 => ?_
      refine Pr EStep x5.1 (((history_Fold ops1).1).l) 88 fun hlen5 => ?_
      refine Pr EPlace x5.2 (((history_Fold ops1).1).t) 24 fun hlen6 => ?_
      refine Tx ?_
      refine Al fun g5 => ?_
      refine Tx ?_
      refine rw_callg (fun hG_ => history_Same_spec x5.1 x5.2 ((history_Fold ops1).1) x1.1 x1.2.1 (((hub_Replay l1).1).h)) (fun _ => rfl) .sq (guard_vt rfl rfl rfl) rfl rfl rfl Kr rfl Bt Sm ?_
      refine Tx ?_
      have hr4 : (orangerylaw_HubInOrder l1) = (((((history_Fold ops1).2) == 0) && (history_Same ((history_Fold ops1).1) (((hub_Replay l1).1).h))) && ((((hub_Replay l1).1).version) == (l1.length : Int))) := by rw [← hf1, List.drop_of_length_le hge0]; simp only [orangerylaw_HubInOrder_L0, Bool.true_and, Bool.and_true, Bool.false_or, Bool.or_false, Bool.false_and, Bool.and_false, Bool.true_or, Bool.or_true, Bool.not_true, Bool.not_false, cond_true, cond_false]
      refine cw_ret ?_; rw [hr4]; exact Re () (Vt Vn)
end Go.Proofs.Ytchdacbjiomplaa
