/- Part of this claim. No condition. -/
import Derived.Test.YtchdacbjiomplaaW31
import Derived.Test.YtchdacbjiomplaaTT
import Derived.Test.YtchdacbjiomplaaFx
set_option linter.unusedVariables false
set_option linter.unusedSimpArgs false
set_option maxHeartbeats 2000000
namespace Go.Proofs.Ytchdacbjiomplaa
open Go Go.Proofs.Ytchdacbjiomplaa.Fw Go.Proofs
attribute [local irreducible] RdL RdN VarP RW CW
theorem slices_Clone_MailP_spec (x : SlV) (l : List (NMail.G × Mail)) : DoesG Try.prog 73 [x.val l.length] [RdL NMail.E x l] ⟨[], []⟩ (fun (X : SlV × Option Nat) => X.1.val l.length) (fun (_ : SlV × Option Nat) => []) (fun (X : SlV × Option Nat) => ⟨[], [ownL NMail.E 80 X.1 X.2 l]⟩) := by
  refine does_ofG tab_ok Try.func73 rfl Try.ntmps73 Try.results73 rfl inferInstance (fun _ => inferInstance) fun C => ?_
  refine cw_pure (φ := l.length * NMail.E.by_ ≤ 140737488355328) [RdL NMail.E x l] Sm (fun M w h => (allF1 h).len) fun hlen => ?_
  refine Tx ?_
  refine rw_q rfl rfl rfl (q_eqnil rfl rfl (fun _ => rfl) rfl) ?_
  refine rw_nil ?_
  (repeat refine cw_seq ?_); refine cw_cond rfl rfl (fun hc0 => ?_) (fun hc0 => ?_)
  · refine cw_pure [RdL NMail.E x l] Sm (fun M w h => (allF1 h).nil_of hc0) fun hnil => ?_
    subst hnil
    refine cw_le (le_nilL NMail.E 80) ?_
    refine Tx ?_
    (repeat refine cw_seq ?_); refine cw_ret ?_
    exact ⟨(⟨none, 0⟩, none), _, (.cons (.tmp rfl) .nil), rfl, .nil _, .nil _, Sp⟩
  · refine Tx ?_
    refine rw_bsliceL NMail.E [] .sq (guard_none rfl) rfl rfl rfl rfl rfl rfl rfl rfl rfl rfl rfl rfl rfl rfl rfl fun x1 x1b => ?_
    refine Rp rfl rfl rfl rfl ?_
    refine rw_appendL NMail.E [] l (b := x1b) .sq (fun _ _ => .inl ⟨_, rfl⟩) (guard_none rfl) rfl rfl rfl rfl rfl rfl rfl (fun _ _ => Uo) rfl rfl rfl rfl rfl rfl rfl (reads_rdL Mm) (by simpa using hlen) fun x2 x2b => ?_
    refine Tx ?_
    (repeat refine cw_seq ?_); refine cw_ret ?_
    exact ⟨(x2, x2b), _, (.cons (.tmp rfl) .nil), rfl, .nil _, .nil _, Sp⟩
theorem slices_Clone_Mail_spec (x : SlV) (γ : Nat → NMail.G) (l : List Mail) : DoesG Try.prog 73 [x.val l.length] [RdG NMail x γ l] ⟨[], []⟩ (fun (X : SlV × Option Nat) => X.1.val l.length) (fun (_ : SlV × Option Nat) => []) (fun (X : SlV × Option Nat) => ⟨[], [ownL NMail.E 80 X.1 X.2 (zipG γ 0 l)]⟩) := by
  have := slices_Clone_MailP_spec x (zipG γ 0 l)
  rw [zipG_len] at this
  exact this

def way_Copy_L0  : List Mail → Nat → (List Mail) → (List Mail)
  | [], n1, l2 => l2
  | pn1 :: rn1, n1, l2 => (way_Copy_L0 rn1 (n1 + 1) (l2.set n1 (gt l2 n1)))
def way_Copy (l1 : List Mail) : List Mail :=
  (way_Copy_L0 l1 0 l1)
theorem way_Copy_spec (y1 : SlV) (l1 : List Mail) : DoesG Try.prog 150 [y1.val l1.length] [RdN NMail y1 l1] ⟨[], []⟩ (fun (X : SlV × Option Nat × (Nat → SlV × SlV × SlV × SlV × SlV × SlV × SlV)) => X.1.val (way_Copy l1).length) (fun (X : SlV × Option Nat × (Nat → SlV × SlV × SlV × SlV × SlV × SlV × SlV)) => [FactsG NMail X.2.2 (way_Copy l1)]) (fun (X : SlV × Option Nat × (Nat → SlV × SlV × SlV × SlV × SlV × SlV × SlV)) => ⟨[], [ownL NMail.E 80 X.1 X.2.1 (zipG X.2.2 0 (way_Copy l1))]⟩) := by
  refine does_ofG tab_ok Try.func150 rfl Try.ntmps150 Try.results150 rfl inferInstance (fun _ => inferInstance) fun C => ?_
  refine Pn NMail y1 l1 280 fun hlen1 => ?_
  refine Tx ?_
  refine rw_exN NMail (X := y1) (l := l1) Mm fun (γ1 : Nat → SlV × SlV × SlV × SlV × SlV × SlV × SlV) => ?_
  refine Cg (slices_Clone_Mail_spec y1 γ1 l1) fun x1 => ?_
  refine Tx ?_
  (repeat refine cw_seq ?_); refine Lp [2,8] [] (fun (i_ : List Mail × (Nat → SlV × SlV × SlV × SlV × SlV × SlV × SlV) × Nat) => match i_ with | ⟨l2, γ2, n1⟩ => (⟨[(0, .v (x1.1.val l2.length)), (7, .v (x1.1.val l2.length)), (9, .v (.int .i64 (n1 : Int)))], [], [ownL NMail.E 80 x1.1 x1.2 (zipG γ2 0 l2)], [FactsG NMail γ2 l2], (n1 ≤ l1.length) ∧ (l2.length = l1.length) ∧ (way_Copy_L0 (l1.drop n1) n1 l2) = (way_Copy l1), l1.length - n1⟩ : Ls)) ⟨l1, γ1, 0⟩ (Sc (Sc Sn)) (.nil) ⟨Nat.zero_le _, rfl, (by simp only [way_Copy, cond_true, cond_false] : (way_Copy l1) = (way_Copy_L0 l1 0 l1)).symm⟩ Le4 ?_
  rintro ⟨l2, γ2, n1⟩ ⟨hkn1, hll, hf1⟩
  simp only [List.cons_append, List.nil_append]
  refine Tx ?_
  refine Cd (b := decide ((n1 : Int) < (l1.length : Int))) (fun hc1 => ?_) fun hc1 => ?_
  · have hlt0 : n1 < l1.length := Int.ofNat_lt.1 (of_decide_eq_true hc1)
    refine Tx ?_
    refine rw_qO NMail.E (e := 80) (X := x1.1) (b := x1.2) (l := zipG γ2 0 l2) Mm .sq rfl rfl rfl (q_idxN NMail γ2 n1 rfl rfl (fun _ => rfl) rfl (fun _ => rfl) rfl rfl rfl (.head _) rfl (fun _ => rfl) (fun _ => by first | assumption | omega | (simp only [List.length_set]; omega))) ?_
    refine rw_qO NMail.E (e := 80) (X := x1.1) (b := x1.2) (l := zipG γ2 0 l2) Mm .sq rfl rfl rfl (q_is (v' := .agg ⟨[.int .i64 ((gt l2 n1).kind), .int .i64 ((gt l2 n1).who), .int .i64 ((gt l2 n1).life), .int .i64 ((gt l2 n1).seq), .int .i64 ((gt l2 n1).time), .int .i64 ((gt l2 n1).version), .int .i64 ((gt l2 n1).frm), .int .i64 (((gt l2 n1).o).time), .int .i64 (((gt l2 n1).o).who), .int .i64 (((gt l2 n1).o).node), .int .i64 (((gt l2 n1).o).parent), .int .i64 (((gt l2 n1).o).name), .int .i64 (((gt l2 n1).o).life), .int .i64 (((gt l2 n1).o).seq), ((γ2 n1).1).val (((gt l2 n1).v).roots).length, ((γ2 n1).2.1).val (((gt l2 n1).v).known).length, ((γ2 n1).2.2.1).val (((gt l2 n1).v).way).length, ((γ2 n1).2.2.2.1).val (((gt l2 n1).d).gone).length, ((γ2 n1).2.2.2.2.1).val (((gt l2 n1).d).here).length, ((γ2 n1).2.2.2.2.2.1).val (((gt l2 n1).d).wayGone).length, ((γ2 n1).2.2.2.2.2.2).val (((gt l2 n1).d).wayHere).length]⟩) (q_leAN NMail γ2 rfl rfl (fun _ => rfl) rfl rfl (.head _) (fun _ => by first | assumption | omega | (simp only [List.length_set]; omega))) rfl) ?_
    refine rw_fact (F := RdL EInt ((γ2 n1).1) (((gt l2 n1).v).roots)) [FactsG NMail γ2 l2] Sm (fun M w h => (allF1 h) n1 (by first | assumption | omega) _ (.head _)) ?_
    refine rw_fact (F := RdL EPlace ((γ2 n1).2.1) (((gt l2 n1).v).known)) [FactsG NMail γ2 l2] Sm (fun M w h => (allF1 h) n1 (by first | assumption | omega) _ (.tail _ (.head _))) ?_
    refine rw_fact (F := RdL EPlace ((γ2 n1).2.2.1) (((gt l2 n1).v).way)) [FactsG NMail γ2 l2] Sm (fun M w h => (allF1 h) n1 (by first | assumption | omega) _ (.tail _ (.tail _ (.head _)))) ?_
    refine rw_fact (F := RdL EInt ((γ2 n1).2.2.2.1) (((gt l2 n1).d).gone)) [FactsG NMail γ2 l2] Sm (fun M w h => (allF1 h) n1 (by first | assumption | omega) _ (.tail _ (.tail _ (.tail _ (.head _))))) ?_
    refine rw_fact (F := RdL EPlace ((γ2 n1).2.2.2.2.1) (((gt l2 n1).d).here)) [FactsG NMail γ2 l2] Sm (fun M w h => (allF1 h) n1 (by first | assumption | omega) _ (.tail _ (.tail _ (.tail _ (.tail _ (.head _)))))) ?_
    refine rw_fact (F := RdL EInt ((γ2 n1).2.2.2.2.2.1) (((gt l2 n1).d).wayGone)) [FactsG NMail γ2 l2] Sm (fun M w h => (allF1 h) n1 (by first | assumption | omega) _ (.tail _ (.tail _ (.tail _ (.tail _ (.tail _ (.head _))))))) ?_
    refine rw_fact (F := RdL EPlace ((γ2 n1).2.2.2.2.2.2) (((gt l2 n1).d).wayHere)) [FactsG NMail γ2 l2] Sm (fun M w h => (allF1 h) n1 (by first | assumption | omega) _ (.tail _ (.tail _ (.tail _ (.tail _ (.tail _ (.tail _ (.head _)))))))) ?_
    refine Al fun g1 => ?_
    refine Tx ?_
    (repeat refine cw_seq ?_); refine cw_regionA (fun j => match j with | 12 => some x1.2.toList | 15 => some x1.2.toList | _ => some []) ?_
    refine Ra 0 [1,2,3,4,5,6,7,8,9] rfl Qp ?_
    refine Ra 1 [2,3,4,5,6,7,8,9] rfl Qp ?_
    refine ra_q (.an (i := 2) (js := [3, 4, 5, 6, 7, 8, 9, 10, 11, 12]) rfl Kr Kr Kr Kr) (SplitB.all _) (by intro g hg; simp only [List.mem_append, List.mem_singleton, List.not_mem_nil, or_false, false_or, Option.mem_toList, Option.mem_def, List.append_nil] at hg; first | exact .inr ⟨ownL NMail.E 80 x1.1 x1.2 (zipG γ2 0 l2), Mm, hg⟩) rfl rfl rfl (q_pev rfl (fun _ => rfl)) ?_
    refine ra_q (.an (i := 3) (js := [4, 5, 6, 7, 8, 9, 10, 11, 12]) rfl Kr Kr Kr Kr) (SplitB.all _) (by intro g hg; simp only [List.mem_append, List.mem_singleton, List.not_mem_nil, or_false, false_or, Option.mem_toList, Option.mem_def, List.append_nil] at hg; first | exact .inr ⟨ownL NMail.E 80 x1.1 x1.2 (zipG γ2 0 l2), Mm, hg⟩) rfl rfl rfl (q_pev rfl (fun _ => rfl)) ?_
    refine Rb 4 [7,8] [5,6,9,10,11,12,13,14,15] rfl Qp ?_
    refine Rb 5 [7,8] [6,9,10,11,12,13,14,15] rfl (q_ldP rfl rfl (fun _ => rfl) rfl Mm rfl) ?_
    refine Rb 7 [6] [8,9,10,11,12,13,14,15] rfl Qp ?_
    refine Rb 8 [6] [9,10,11,12,13,14,15] rfl (q_ldP rfl rfl (fun _ => rfl) rfl Mm rfl) ?_
    refine ra_one 6 Kr ?_
    refine rw_callG (view_Copy_spec ((γ2 n1).1) ((γ2 n1).2.1) ((γ2 n1).2.2.1) ((gt l2 n1).v)) (.an rfl rfl) (.inr (by simp [Lent.ids])) (guard_none rfl) rfl rfl rfl Kr rfl rfl Sm (.nil _) (.nil _) ?_
    intro x4
    refine ra_one 9 Kr ?_
    refine rw_callG (delta_Copy_spec ((γ2 n1).2.2.2.1) ((γ2 n1).2.2.2.2.1) ((γ2 n1).2.2.2.2.2.1) ((γ2 n1).2.2.2.2.2.2) ((gt l2 n1).d)) (.an rfl rfl) (.inr (by simp [Lent.ids])) (guard_none rfl) rfl rfl rfl Kr rfl rfl Sm (.nil _) (.nil _) ?_
    intro x5
    refine rw_qO NMail.E (e := 80) (X := x1.1) (b := x1.2) (l := zipG γ2 0 l2) Mm (.ab (i := 10) (js := []) [11, 12, 13, 14, 15] rfl Kr Kr Kr Kr Kr) rfl rfl rfl (q_idxN NMail γ2 n1 rfl rfl (fun _ => rfl) rfl (fun _ => rfl) rfl rfl rfl (.head _) rfl (fun _ => rfl) (fun _ => by first | assumption | omega | (simp only [List.length_set]; omega))) ?_
    refine Ra 11 [] rfl (q_fae rfl rfl (fun _ => rfl) rfl rfl) ?_
    refine ra_one 12 Kr ?_
    refine rw_le (le_freezeL EInt 3 x4.1 x4.2.1 (((gt l2 n1).v).roots) Uo) ?_
    refine rw_le (le_freezeL EPlace 35 x4.2.2.1 x4.2.2.2.1 (((gt l2 n1).v).known) Uo) ?_
    refine rw_le (le_freezeL EPlace 35 x4.2.2.2.2.1 x4.2.2.2.2.2 (((gt l2 n1).v).way) Uo) ?_
    refine rw_stON NMail γ2 l2 n1 14 (x4.1, x4.2.2.1, x4.2.2.2.2.1, (γ2 n1).2.2.2.1, (γ2 n1).2.2.2.2.1, (γ2 n1).2.2.2.2.2.1, (γ2 n1).2.2.2.2.2.2) (gt l2 n1) (e := 80) (X := x1.1) (b := x1.2) (.an rfl rfl) (.inr (fun g h => by simp [h])) (guard_none rfl) rfl rfl rfl rfl rfl rfl rfl rfl rfl rfl rfl (by first | assumption | omega | (simp only [List.length_set]; omega)) rfl Uo ?_
    refine rw_fact (F := RdL EInt ((γ2 n1).2.2.2.1) (((gt l2 n1).d).gone)) [FactsG NMail γ2 l2] Sm (fun M w h => (allF1 h) n1 (by first | assumption | omega) _ (.tail _ (.tail _ (.tail _ (.head _))))) ?_
    refine rw_fact (F := RdL EPlace ((γ2 n1).2.2.2.2.1) (((gt l2 n1).d).here)) [FactsG NMail γ2 l2] Sm (fun M w h => (allF1 h) n1 (by first | assumption | omega) _ (.tail _ (.tail _ (.tail _ (.tail _ (.head _)))))) ?_
    refine rw_fact (F := RdL EInt ((γ2 n1).2.2.2.2.2.1) (((gt l2 n1).d).wayGone)) [FactsG NMail γ2 l2] Sm (fun M w h => (allF1 h) n1 (by first | assumption | omega) _ (.tail _ (.tail _ (.tail _ (.tail _ (.tail _ (.head _))))))) ?_
    refine rw_fact (F := RdL EPlace ((γ2 n1).2.2.2.2.2.2) (((gt l2 n1).d).wayHere)) [FactsG NMail γ2 l2] Sm (fun M w h => (allF1 h) n1 (by first | assumption | omega) _ (.tail _ (.tail _ (.tail _ (.tail _ (.tail _ (.tail _ (.head _)))))))) ?_
    refine rw_fact (F := FactsG NMail (updG γ2 n1 (x4.1, x4.2.2.1, x4.2.2.2.2.1, (γ2 n1).2.2.2.1, (γ2 n1).2.2.2.2.1, (γ2 n1).2.2.2.2.2.1, (γ2 n1).2.2.2.2.2.2)) (l2.set n1 (gt l2 n1))) [FactsG NMail γ2 l2, RdL EInt x4.1 (((gt l2 n1).v).roots), RdL EPlace x4.2.2.1 (((gt l2 n1).v).known), RdL EPlace x4.2.2.2.2.1 (((gt l2 n1).v).way), RdL EInt ((γ2 n1).2.2.2.1) (((gt l2 n1).d).gone), RdL EPlace ((γ2 n1).2.2.2.2.1) (((gt l2 n1).d).here), RdL EInt ((γ2 n1).2.2.2.2.2.1) (((gt l2 n1).d).wayGone), RdL EPlace ((γ2 n1).2.2.2.2.2.2) (((gt l2 n1).d).wayHere)] Sm (fun M w h => FactsG.upd NMail (h _ (.head _)) (allF_sub Sm h)) ?_
    have hv1 : x1.1.val l2.length = x1.1.val (l2.set n1 (gt l2 n1)).length := congrArg (SlV.val x1.1) List.length_set.symm
    try rw [hv1]
    refine rw_qO NMail.E (e := 80) (X := x1.1) (b := x1.2) (l := zipG (updG γ2 n1 (x4.1, x4.2.2.1, x4.2.2.2.2.1, (γ2 n1).2.2.2.1, (γ2 n1).2.2.2.2.1, (γ2 n1).2.2.2.2.2.1, (γ2 n1).2.2.2.2.2.2)) 0 (l2.set n1 (gt l2 n1))) Mm (.ab (i := 13) (js := []) [14, 15] rfl Kr Kr Kr Kr Kr) rfl rfl rfl (q_idxN NMail (updG γ2 n1 (x4.1, x4.2.2.1, x4.2.2.2.2.1, (γ2 n1).2.2.2.1, (γ2 n1).2.2.2.2.1, (γ2 n1).2.2.2.2.2.1, (γ2 n1).2.2.2.2.2.2)) n1 rfl rfl (fun _ => rfl) rfl (fun _ => rfl) rfl rfl rfl (.head _) rfl (fun _ => rfl) (fun _ => by first | assumption | omega | (simp only [List.length_set]; omega))) ?_
    refine Ra 14 [] rfl (q_fae rfl rfl (fun _ => rfl) rfl rfl) ?_
    refine ra_one 15 Kr ?_
    refine rw_le (le_freezeL EInt 3 x5.1 x5.2.1 (((gt l2 n1).d).gone) Uo) ?_
    refine rw_le (le_freezeL EPlace 35 x5.2.2.1 x5.2.2.2.1 (((gt l2 n1).d).here) Uo) ?_
    refine rw_le (le_freezeL EInt 3 x5.2.2.2.2.1 x5.2.2.2.2.2.1 (((gt l2 n1).d).wayGone) Uo) ?_
    refine rw_le (le_freezeL EPlace 35 x5.2.2.2.2.2.2.1 x5.2.2.2.2.2.2.2 (((gt l2 n1).d).wayHere) Uo) ?_
    refine rw_stON2 NMail γ2 l2 n1 17 (x4.1, x4.2.2.1, x4.2.2.2.2.1, (γ2 n1).2.2.2.1, (γ2 n1).2.2.2.2.1, (γ2 n1).2.2.2.2.2.1, (γ2 n1).2.2.2.2.2.2) (gt l2 n1) (x4.1, x4.2.2.1, x4.2.2.2.2.1, x5.1, x5.2.2.1, x5.2.2.2.2.1, x5.2.2.2.2.2.2.1) (gt l2 n1) (e := 80) (X := x1.1) (b := x1.2) (.an rfl rfl) (.inr (fun g h => by simp [h])) (guard_none rfl) rfl rfl rfl rfl rfl rfl rfl rfl rfl rfl rfl (by first | assumption | omega | (simp only [List.length_set]; omega)) rfl Uo ?_
    refine rw_fact (F := FactsG NMail (updG γ2 n1 (x4.1, x4.2.2.1, x4.2.2.2.2.1, x5.1, x5.2.2.1, x5.2.2.2.2.1, x5.2.2.2.2.2.2.1)) (l2.set n1 (gt l2 n1))) [FactsG NMail γ2 l2, RdL EInt x4.1 (((gt l2 n1).v).roots), RdL EPlace x4.2.2.1 (((gt l2 n1).v).known), RdL EPlace x4.2.2.2.2.1 (((gt l2 n1).v).way), RdL EInt x5.1 (((gt l2 n1).d).gone), RdL EPlace x5.2.2.1 (((gt l2 n1).d).here), RdL EInt x5.2.2.2.2.1 (((gt l2 n1).d).wayGone), RdL EPlace x5.2.2.2.2.2.2.1 (((gt l2 n1).d).wayHere)] Sm (fun M w h => FactsG.upd NMail (h _ (.head _)) (allF_sub Sm h)) ?_
    refine ra_nil Kr ?_
    refine Tx ?_
    refine rw_q rfl rfl rfl (q_add rfl rfl (fun _ => rfl) rfl (fun _ => rfl) (fun _ => by omega)) ?_
    refine Tx ?_
    refine ⟨⟨(l2.set n1 (gt l2 n1)), (updG γ2 n1 (x4.1, x4.2.2.1, x4.2.2.2.2.1, x5.1, x5.2.2.1, x5.2.2.2.2.1, x5.2.2.2.2.2.2.1)), (n1 + 1)⟩, ⟨hlt0, (by (try simp only [List.length_set]); omega), (by rw [← hf1, drop_gt hlt0]; simp only [way_Copy_L0, cond_true, cond_false] : (way_Copy l1) = (way_Copy_L0 (l1.drop (n1 + 1)) (n1 + 1) (l2.set n1 (gt l2 n1)))).symm⟩, (by simp only []; omega), Le4⟩
  · have hge0 : l1.length ≤ n1 := by have := of_decide_eq_false hc1; omega
    refine Tx ?_
    have hr1 : (way_Copy l1) = l2 := by rw [← hf1, List.drop_of_length_le hge0]; simp only [way_Copy_L0, cond_true, cond_false]
    refine cw_ret ?_; rw [hr1]; exact Re ⟨x1.1, x1.2, γ2⟩ (Vt Vn)
theorem way_Copy_L0_eq : ∀ (r : List Mail) (n : Nat) (l : List Mail), way_Copy_L0 r n l = l
  | [], _, _ => rfl
  | _ :: r, n, l => by
    have : l.set n (gt l n) = l := by
      by_cases h : n < l.length
      · rw [gt_eq h]; exact List.set_getElem_self h
      · exact List.set_eq_of_length_le (Nat.le_of_not_lt h)
    rw [way_Copy_L0, this]; exact way_Copy_L0_eq r (n + 1) l
theorem way_Copy_eq (l : List Mail) : way_Copy l = l := way_Copy_L0_eq l 0 l
theorem way_Copy_spec' (y1 : SlV) (l1 : List Mail) : DoesG Try.prog 150 [y1.val l1.length] [RdN NMail y1 l1] ⟨[], []⟩ (fun (X : SlV × Option Nat × (Nat → SlV × SlV × SlV × SlV × SlV × SlV × SlV)) => X.1.val l1.length) (fun (X : SlV × Option Nat × (Nat → SlV × SlV × SlV × SlV × SlV × SlV × SlV)) => [FactsG NMail X.2.2 l1]) (fun (X : SlV × Option Nat × (Nat → SlV × SlV × SlV × SlV × SlV × SlV × SlV)) => ⟨[], [ownL NMail.E 80 X.1 X.2.1 (zipG X.2.2 0 l1)]⟩) := by
  have := way_Copy_spec y1 l1
  rw [way_Copy_eq] at this
  exact this

def way_Send_U0_2 (l1 : List Mail) (m1 : Mail) : (List Mail) × Int :=
  (bif decide ((l1.length : Int) < 30) then ((l1 ++ [m1]), 0) else (l1, 0))
def way_Send_U0_1 (l1 : List Mail) (m1 : Mail) : (List Mail) × Int :=
  (bif ((way_Check [m1]) != 0) then (([] : List Mail), (way_Check [m1])) else (way_Send_U0_2 l1 m1))
def way_Send_U0_0 (l1 : List Mail) (m1 : Mail) : (List Mail) × Int :=
  (bif ((way_Check l1) != 0) then (([] : List Mail), (way_Check l1)) else (way_Send_U0_1 l1 m1))
def way_Send (l1 : List Mail) (m1 : Mail) : (List Mail) × Int :=
  (way_Send_U0_0 l1 m1)
theorem way_Send_spec (y1 : SlV) (l1 : List Mail) (y2 : SlV) (y3 : SlV) (y4 : SlV) (y5 : SlV) (y6 : SlV) (y7 : SlV) (y8 : SlV) (m1 : Mail) : Does Try.prog 66 [y1.val l1.length, .agg ⟨[.int .i64 m1.kind, .int .i64 m1.who, .int .i64 m1.life, .int .i64 m1.seq, .int .i64 m1.time, .int .i64 m1.version, .int .i64 m1.frm, .int .i64 m1.o.time, .int .i64 m1.o.who, .int .i64 m1.o.node, .int .i64 m1.o.parent, .int .i64 m1.o.name, .int .i64 m1.o.life, .int .i64 m1.o.seq, y2.val m1.v.roots.length, y3.val m1.v.known.length, y4.val m1.v.way.length, y5.val m1.d.gone.length, y6.val m1.d.here.length, y7.val m1.d.wayGone.length, y8.val m1.d.wayHere.length]⟩] [RdN NMail y1 l1, RdL EInt y2 m1.v.roots, RdL EPlace y3 m1.v.known, RdL EPlace y4 m1.v.way, RdL EInt y5 m1.d.gone, RdL EPlace y6 m1.d.here, RdL EInt y7 m1.d.wayGone, RdL EPlace y8 m1.d.wayHere] (fun (X : SlV) => .tuple #[X.val ((way_Send l1 m1).1).length, .int .i64 ((way_Send l1 m1).2)]) (fun (X : SlV) => [RdN NMail X ((way_Send l1 m1).1)]) := by
  refine does_of tab_ok Try.func66 rfl Try.ntmps66 Try.results66 rfl inferInstance (fun _ => inferInstance) fun C => ?_
  refine Pn NMail y1 l1 280 fun hlen1 => ?_
  refine Pc EInt y2 m1.v.roots 8 fun hlen2 => ?_
  refine Pc EPlace y3 m1.v.known 24 fun hlen3 => ?_
  refine Pc EPlace y4 m1.v.way 24 fun hlen4 => ?_
  refine Pc EInt y5 m1.d.gone 8 fun hlen5 => ?_
  refine Pc EPlace y6 m1.d.here 24 fun hlen6 => ?_
  refine Pc EInt y7 m1.d.wayGone 8 fun hlen7 => ?_
  refine Pc EPlace y8 m1.d.wayHere 24 fun hlen8 => ?_
  refine Tx ?_
  refine Bx fun g1 => ?_
  refine Tx ?_
  refine rw_bsliceL NMail.E [((y2, y3, y4, y5, y6, y7, y8), m1)] .sq (guard_none rfl) rfl rfl rfl rfl rfl rfl rfl rfl rfl rfl rfl rfl rfl (fillL_one rfl rfl) rfl fun x1 x1b => ?_
  refine rw_q rfl rfl rfl (q_buildA rfl rfl (fun _ => rfl) rfl rfl rfl rfl) ?_
  refine Tx ?_
  refine cw_le (le_freezeL NMail.E 80 x1 x1b [((y2, y3, y4, y5, y6, y7, y8), m1)] Uo) ?_
  refine cw_fact (F := RdN NMail x1 [m1]) [RdL NMail.E x1 [((y2, y3, y4, y5, y6, y7, y8), m1)], RdL EInt y2 m1.v.roots, RdL EPlace y3 m1.v.known, RdL EPlace y4 m1.v.way, RdL EInt y5 m1.d.gone, RdL EPlace y6 m1.d.here, RdL EInt y7 m1.d.wayGone, RdL EPlace y8 m1.d.wayHere] Sm (fun M w h => RdN.of NMail (hs := [((y2, y3, y4, y5, y6, y7, y8), m1)]) rfl (h _ (.head _)) (allP_cons (allF_sub Sm h) (fun p hp => by cases hp))) ?_
  (repeat refine cw_seq ?_); refine Lp [0,3,4,5,12] [true] (fun (n1 : Nat) => (⟨[(13, .v (.int .i64 (n1 : Int)))], [], [], [], (n1 ≤ 2) ∧ (match n1 with | 0 => (way_Send_U0_0 l1 m1) | 1 => (way_Send_U0_1 l1 m1) | _ => (way_Send_U0_2 l1 m1)) = (way_Send l1 m1), 2 - n1⟩ : Ls)) 0 (Sc (Sc (Sc (Sc (Sc Sn))))) (.keep (.nil)) ⟨Nat.zero_le _, (by simp only [way_Send, cond_true, cond_false] : (way_Send l1 m1) = (way_Send_U0_0 l1 m1)).symm⟩ Le4 ?_
  rintro n1 ⟨hkn1, hf1⟩
  simp only [List.cons_append, List.nil_append]
  have hkn13 : n1 = 0 ∨ n1 = 1 ∨ n1 = 2 := by omega
  rcases hkn13 with rfl | rfl | rfl
  · have hf1 : (way_Send_U0_0 l1 m1) = (way_Send l1 m1) := hf1
    refine Tx ?_
    refine Cd (b := decide ((0 : Int) < 2)) (fun hc1 => ?_) fun hc1 => ?_
    · refine Tx ?_
      refine rw_q rfl rfl rfl (q_ixL 0 rfl rfl (fun _ => rfl) rfl (fun _ => rfl) rfl rfl rfl rfl rfl) ?_
      refine Tx ?_
      refine Cl (way_Check_spec y1 l1) fun _ => ?_
      refine Tx ?_
      refine Cd (b := ((way_Check l1) != 0)) (fun hc2 => ?_) fun hc2 => ?_
      · have hc2p := bne_iff_ne.1 hc2
        refine Tx ?_
        refine cw_fact (F := RdN NMail ⟨none, 0⟩ ([] : List Mail)) [] (.nil _) (fun M w _ => RdN.nil _ M w) ?_
        have hr1 : (way_Send l1 m1) = (([] : List Mail), (way_Check l1)) := by rw [← hf1]; simp only [way_Send_U0_0, hc2, cond_true, cond_false]
        refine cw_ret ?_; rw [hr1]; exact Re (⟨none, 0⟩ : SlV) (Vt (Vt Vn))
      · have hc2p := eq_of_bne_false hc2
        refine Tx ?_
        refine rw_q rfl rfl rfl (q_add rfl rfl (fun _ => rfl) rfl (fun _ => rfl) (fun _ => by decide)) ?_
        refine Tx ?_
        refine ⟨1, ⟨by omega, (by rw [← hf1]; simp only [way_Send_U0_0, hc2, cond_true, cond_false] : (way_Send l1 m1) = (way_Send_U0_1 l1 m1)).symm⟩, (show 2 - 1 < 2 - 0 by decide), Le4⟩
    · exact Bool.noConfusion (hc1.symm.trans (decide_eq_true (by decide)))
  · have hf1 : (way_Send_U0_1 l1 m1) = (way_Send l1 m1) := hf1
    refine Tx ?_
    refine Cd (b := decide ((1 : Int) < 2)) (fun hc3 => ?_) fun hc3 => ?_
    · refine Tx ?_
      refine rw_q rfl rfl rfl (q_ixL 1 rfl rfl (fun _ => rfl) rfl (fun _ => rfl) rfl rfl rfl rfl rfl) ?_
      refine Tx ?_
      refine Cl (way_Check_spec x1 [m1]) fun _ => ?_
      refine Tx ?_
      refine Cd (b := ((way_Check [m1]) != 0)) (fun hc4 => ?_) fun hc4 => ?_
      · have hc4p := bne_iff_ne.1 hc4
        refine Tx ?_
        refine cw_fact (F := RdN NMail ⟨none, 0⟩ ([] : List Mail)) [] (.nil _) (fun M w _ => RdN.nil _ M w) ?_
        have hr2 : (way_Send l1 m1) = (([] : List Mail), (way_Check [m1])) := by rw [← hf1]; simp only [way_Send_U0_1, hc4, cond_true, cond_false]
        refine cw_ret ?_; rw [hr2]; exact Re (⟨none, 0⟩ : SlV) (Vt (Vt Vn))
      · have hc4p := eq_of_bne_false hc4
        refine Tx ?_
        refine rw_q rfl rfl rfl (q_add rfl rfl (fun _ => rfl) rfl (fun _ => rfl) (fun _ => by decide)) ?_
        refine Tx ?_
        refine ⟨2, ⟨by omega, (by rw [← hf1]; simp only [way_Send_U0_1, hc4, cond_true, cond_false] : (way_Send l1 m1) = (way_Send_U0_2 l1 m1)).symm⟩, (show 2 - 2 < 2 - 1 by decide), Le4⟩
    · exact Bool.noConfusion (hc3.symm.trans (decide_eq_true (by decide)))
  · have hf1 : (way_Send_U0_2 l1 m1) = (way_Send l1 m1) := hf1
    refine Tx ?_
    refine Cd (b := decide ((2 : Int) < 2)) (fun hc5 => ?_) fun hc5 => ?_
    · exact Bool.noConfusion (hc5.symm.trans (decide_eq_false (by decide)))
    · refine Tx ?_
      refine Cg (way_Copy_spec' y1 l1) fun x2 => ?_
      refine Tx ?_
      refine Cd (b := decide ((l1.length : Int) < 30)) (fun hc6 => ?_) fun hc6 => ?_
      · have hc6p := of_decide_eq_true hc6
        refine Tx ?_
        refine rw_bsliceL NMail.E [((y2, y3, y4, y5, y6, y7, y8), m1)] .sq (guard_none rfl) rfl rfl rfl rfl rfl rfl rfl rfl rfl rfl rfl rfl rfl (fillL_one rfl rfl) rfl fun x3 x3b => ?_
        refine rw_le (le_freezeL NMail.E 80 x3 x3b [((y2, y3, y4, y5, y6, y7, y8), m1)] Uo) ?_
        refine rw_fact (F := RdN NMail x3 [m1]) [RdL NMail.E x3 [((y2, y3, y4, y5, y6, y7, y8), m1)], RdL EInt y2 m1.v.roots, RdL EPlace y3 m1.v.known, RdL EPlace y4 m1.v.way, RdL EInt y5 m1.d.gone, RdL EPlace y6 m1.d.here, RdL EInt y7 m1.d.wayGone, RdL EPlace y8 m1.d.wayHere] Sm (fun M w h => RdN.of NMail (hs := [((y2, y3, y4, y5, y6, y7, y8), m1)]) rfl (h _ (.head _)) (allP_cons (allF_sub Sm h) (fun p hp => by cases hp))) ?_
        refine Cg (way_Copy_spec' x3 [m1]) fun x4 => ?_
        refine rw_appendN NMail x2.2.2 x4.2.2 l1 [m1] (b := x2.2.1) .sq (fun _ _ => .inl ⟨_, rfl⟩) (guard_none rfl) rfl rfl rfl rfl rfl rfl rfl (fun _ _ => Uo) rfl rfl rfl rfl rfl rfl rfl (reads_ownN (e := 80) (b := x4.2.1) Mm) (by have h30 : l1.length < 30 := (by omega); exact Nat.le_trans (Nat.mul_le_mul_right 280 (Nat.succ_le_succ (Nat.le_of_lt h30))) (by decide)) fun x5 x5b => ?_
        refine rw_fact (F := FactsG NMail (appG x2.2.2 l1.length x4.2.2) (l1 ++ [m1])) [FactsG NMail x2.2.2 l1, FactsG NMail x4.2.2 [m1]] Sm (fun M w h => FactsG.app NMail (h _ (.head _)) (h _ (.tail _ (.head _)))) ?_
        refine Tx ?_
        refine cw_le (le_freezeL NMail.E 80 x5 x5b (zipG (appG x2.2.2 l1.length x4.2.2) 0 (l1 ++ [m1])) Uo) ?_
        refine cw_fact (F := RdN NMail x5 (l1 ++ [m1])) [RdG NMail x5 (appG x2.2.2 l1.length x4.2.2) (l1 ++ [m1]), FactsG NMail (appG x2.2.2 l1.length x4.2.2) (l1 ++ [m1])] Sm (fun M w h => RdN.ofG NMail (h _ (.head _)) (h _ (.tail _ (.head _)))) ?_
        have hr3 : (way_Send l1 m1) = ((l1 ++ [m1]), 0) := by rw [← hf1]; simp only [way_Send_U0_2, hc6, cond_true, cond_false]
        refine cw_ret ?_; rw [hr3]; exact Re x5 (Vt (Vt Vn))
      · have hc6p := of_decide_eq_false hc6
        refine Tx ?_
        refine cw_le (le_freezeL NMail.E 80 x2.1 x2.2.1 (zipG x2.2.2 0 l1) Uo) ?_
        refine cw_fact (F := RdN NMail x2.1 l1) [RdG NMail x2.1 x2.2.2 l1, FactsG NMail x2.2.2 l1] Sm (fun M w h => RdN.ofG NMail (h _ (.head _)) (h _ (.tail _ (.head _)))) ?_
        have hr4 : (way_Send l1 m1) = (l1, 0) := by rw [← hf1]; simp only [way_Send_U0_2, hc6, cond_true, cond_false]
        refine cw_ret ?_; rw [hr4]; exact Re x2.1 (Vt (Vt Vn))
end Go.Proofs.Ytchdacbjiomplaa

set_option maxHeartbeats 2000000
namespace Go.Proofs.Ytchdacbjiomplaa
open Go Go.Proofs.Ytchdacbjiomplaa.Fw Go.Proofs
attribute [local irreducible] RdL RdN VarP RW CW
def slices_EqualFunc_Mail_L0 (s2 : List Mail) (eq1 : Mail → Mail → Bool) : List Mail → Nat → Bool
  | [], n1 => true
  | pn1 :: rn1, n1 => (bif (!(eq1 pn1 (gt s2 n1))) then false else (slices_EqualFunc_Mail_L0 s2 eq1 rn1 (n1 + 1)))
def slices_EqualFunc_Mail (s1 : List Mail) (s2 : List Mail) (eq1 : Mail → Mail → Bool) : Bool :=
  (bif ((s1.length : Int) != (s2.length : Int)) then false else (slices_EqualFunc_Mail_L0 s2 eq1 s1 0))
theorem slices_EqualFunc_Mail_spec (y1 : SlV) (s1 : List Mail) (y2 : SlV) (s2 : List Mail) (f1 : Nat) (caps1 : List Value) (pre1 : List Pred) [StabL pre1] (eq1 : Mail → Mail → Bool) (hfb1 : tab.fnb f1 = true) (hfn1 : ∀ (z0a_ : SlV) (z0b_ : SlV) (z0c_ : SlV) (z0d_ : SlV) (z0e_ : SlV) (z0f_ : SlV) (z0g_ : SlV) (a0_ : Mail) (z1a_ : SlV) (z1b_ : SlV) (z1c_ : SlV) (z1d_ : SlV) (z1e_ : SlV) (z1f_ : SlV) (z1g_ : SlV) (a1_ : Mail), Does Try.prog f1 ([.agg ⟨[.int .i64 a0_.kind, .int .i64 a0_.who, .int .i64 a0_.life, .int .i64 a0_.seq, .int .i64 a0_.time, .int .i64 a0_.version, .int .i64 a0_.frm, .int .i64 a0_.o.time, .int .i64 a0_.o.who, .int .i64 a0_.o.node, .int .i64 a0_.o.parent, .int .i64 a0_.o.name, .int .i64 a0_.o.life, .int .i64 a0_.o.seq, z0a_.val a0_.v.roots.length, z0b_.val a0_.v.known.length, z0c_.val a0_.v.way.length, z0d_.val a0_.d.gone.length, z0e_.val a0_.d.here.length, z0f_.val a0_.d.wayGone.length, z0g_.val a0_.d.wayHere.length]⟩, .agg ⟨[.int .i64 a1_.kind, .int .i64 a1_.who, .int .i64 a1_.life, .int .i64 a1_.seq, .int .i64 a1_.time, .int .i64 a1_.version, .int .i64 a1_.frm, .int .i64 a1_.o.time, .int .i64 a1_.o.who, .int .i64 a1_.o.node, .int .i64 a1_.o.parent, .int .i64 a1_.o.name, .int .i64 a1_.o.life, .int .i64 a1_.o.seq, z1a_.val a1_.v.roots.length, z1b_.val a1_.v.known.length, z1c_.val a1_.v.way.length, z1d_.val a1_.d.gone.length, z1e_.val a1_.d.here.length, z1f_.val a1_.d.wayGone.length, z1g_.val a1_.d.wayHere.length]⟩] ++ caps1) (RdL EInt z0a_ a0_.v.roots :: RdL EPlace z0b_ a0_.v.known :: RdL EPlace z0c_ a0_.v.way :: RdL EInt z0d_ a0_.d.gone :: RdL EPlace z0e_ a0_.d.here :: RdL EInt z0f_ a0_.d.wayGone :: RdL EPlace z0g_ a0_.d.wayHere :: RdL EInt z1a_ a1_.v.roots :: RdL EPlace z1b_ a1_.v.known :: RdL EPlace z1c_ a1_.v.way :: RdL EInt z1d_ a1_.d.gone :: RdL EPlace z1e_ a1_.d.here :: RdL EInt z1f_ a1_.d.wayGone :: RdL EPlace z1g_ a1_.d.wayHere :: pre1) (fun (_ : Unit) => .bool (eq1 a0_ a1_)) (fun (_ : Unit) => [])) : Does Try.prog 151 [y1.val s1.length, y2.val s2.length, .func (.func f1) #[] ⟨caps1⟩] (RdN NMail y1 s1 :: RdN NMail y2 s2 :: pre1) (fun (_ : Unit) => .bool (slices_EqualFunc_Mail s1 s2 eq1)) (fun (_ : Unit) => []) := by
  refine does_of tab_ok Try.func151 rfl Try.ntmps151 Try.results151 rfl inferInstance (fun _ => inferInstance) fun C => ?_
  refine cw_pure (φ := s1.length * 280 ≤ 140737488355328) [RdN NMail y1 s1] Sf (fun M w h => (allF1 h).len) fun hlen1 => ?_
  refine cw_pure (φ := s2.length * 280 ≤ 140737488355328) [RdN NMail y2 s2] Sf (fun M w h => (allF1 h).len) fun hlen2 => ?_
  refine Tx ?_
  refine Cd (b := ((s1.length : Int) != (s2.length : Int))) (fun hc1 => ?_) fun hc1 => ?_
  · have hc1p := bne_iff_ne.1 hc1
    refine Tx ?_
    have hr1 : (slices_EqualFunc_Mail s1 s2 eq1) = false := by simp only [slices_EqualFunc_Mail, hc1, cond_true, cond_false]
    refine cw_ret ?_
    rw [hr1]
    exact ⟨(), _, (.cons (.tmp rfl) .nil), rfl, Sf, .nil _, .nil _⟩
  · have hc1p := eq_of_bne_false hc1
    refine Tx ?_
    (repeat refine cw_seq ?_); refine Lp [1,2,6,15,16] [] (fun (n1 : Nat) => (⟨[(17, .v (.int .i64 (n1 : Int)))], [], [], [], (n1 ≤ s1.length) ∧ (slices_EqualFunc_Mail_L0 s2 eq1 (s1.drop n1) n1) = (slices_EqualFunc_Mail s1 s2 eq1), s1.length - n1⟩ : Ls)) 0 (Sc (Sc (Sc (Sc (Sc Sn))))) (.nil) ⟨Nat.zero_le _, (by simp only [slices_EqualFunc_Mail, hc1, cond_true, cond_false] : (slices_EqualFunc_Mail s1 s2 eq1) = (slices_EqualFunc_Mail_L0 s2 eq1 s1 0)).symm⟩ Le5 ?_
    rintro n1 ⟨hkn1, hf1⟩
    simp only [List.cons_append, List.nil_append]
    refine Tx ?_
    refine Cd (b := decide ((n1 : Int) < (s1.length : Int))) (fun hc2 => ?_) fun hc2 => ?_
    · have hlt0 : n1 < s1.length := Int.ofNat_lt.1 (of_decide_eq_true hc2)
      refine Tx ?_
      refine rw_exN NMail (X := y1) (l := s1) Mm fun (γ1 : Nat → SlV × SlV × SlV × SlV × SlV × SlV × SlV) => ?_
      refine rw_q rfl rfl rfl (q_idxN NMail γ1 n1 rfl rfl (fun _ => rfl) rfl (fun _ => rfl) rfl rfl rfl Mm rfl (fun _ => rfl) (fun _ => by first | assumption | omega)) ?_
      refine rw_q rfl rfl rfl (q_is (v' := .agg ⟨[.int .i64 ((gt s1 n1).kind), .int .i64 ((gt s1 n1).who), .int .i64 ((gt s1 n1).life), .int .i64 ((gt s1 n1).seq), .int .i64 ((gt s1 n1).time), .int .i64 ((gt s1 n1).version), .int .i64 ((gt s1 n1).frm), .int .i64 (((gt s1 n1).o).time), .int .i64 (((gt s1 n1).o).who), .int .i64 (((gt s1 n1).o).node), .int .i64 (((gt s1 n1).o).parent), .int .i64 (((gt s1 n1).o).name), .int .i64 (((gt s1 n1).o).life), .int .i64 (((gt s1 n1).o).seq), ((γ1 n1).1).val (((gt s1 n1).v).roots).length, ((γ1 n1).2.1).val (((gt s1 n1).v).known).length, ((γ1 n1).2.2.1).val (((gt s1 n1).v).way).length, ((γ1 n1).2.2.2.1).val (((gt s1 n1).d).gone).length, ((γ1 n1).2.2.2.2.1).val (((gt s1 n1).d).here).length, ((γ1 n1).2.2.2.2.2.1).val (((gt s1 n1).d).wayGone).length, ((γ1 n1).2.2.2.2.2.2).val (((gt s1 n1).d).wayHere).length]⟩) (q_leAN NMail γ1 rfl rfl (fun _ => rfl) rfl rfl Mm (fun _ => by first | assumption | omega)) rfl) ?_
      refine rw_fact (F := RdL EInt ((γ1 n1).1) (((gt s1 n1).v).roots)) [FactsG NMail γ1 s1] Sf (fun M w h => (allF1 h) n1 (by first | assumption | omega) _ (.head _)) ?_
      refine rw_fact (F := RdL EPlace ((γ1 n1).2.1) (((gt s1 n1).v).known)) [FactsG NMail γ1 s1] Sf (fun M w h => (allF1 h) n1 (by first | assumption | omega) _ (.tail _ (.head _))) ?_
      refine rw_fact (F := RdL EPlace ((γ1 n1).2.2.1) (((gt s1 n1).v).way)) [FactsG NMail γ1 s1] Sf (fun M w h => (allF1 h) n1 (by first | assumption | omega) _ (.tail _ (.tail _ (.head _)))) ?_
      refine rw_fact (F := RdL EInt ((γ1 n1).2.2.2.1) (((gt s1 n1).d).gone)) [FactsG NMail γ1 s1] Sf (fun M w h => (allF1 h) n1 (by first | assumption | omega) _ (.tail _ (.tail _ (.tail _ (.head _))))) ?_
      refine rw_fact (F := RdL EPlace ((γ1 n1).2.2.2.2.1) (((gt s1 n1).d).here)) [FactsG NMail γ1 s1] Sf (fun M w h => (allF1 h) n1 (by first | assumption | omega) _ (.tail _ (.tail _ (.tail _ (.tail _ (.head _)))))) ?_
      refine rw_fact (F := RdL EInt ((γ1 n1).2.2.2.2.2.1) (((gt s1 n1).d).wayGone)) [FactsG NMail γ1 s1] Sf (fun M w h => (allF1 h) n1 (by first | assumption | omega) _ (.tail _ (.tail _ (.tail _ (.tail _ (.tail _ (.head _))))))) ?_
      refine rw_fact (F := RdL EPlace ((γ1 n1).2.2.2.2.2.2) (((gt s1 n1).d).wayHere)) [FactsG NMail γ1 s1] Sf (fun M w h => (allF1 h) n1 (by first | assumption | omega) _ (.tail _ (.tail _ (.tail _ (.tail _ (.tail _ (.tail _ (.head _)))))))) ?_
      refine Al fun g1 => ?_
      refine Tx ?_
      refine rw_exN NMail (X := y2) (l := s2) Mm fun (γ2 : Nat → SlV × SlV × SlV × SlV × SlV × SlV × SlV) => ?_
      refine rw_q rfl rfl rfl (q_idxN NMail γ2 n1 rfl rfl (fun _ => rfl) rfl (fun _ => rfl) rfl rfl rfl Mm rfl (fun _ => rfl) (fun _ => by first | assumption | omega)) ?_
      refine rw_q rfl rfl rfl (q_is (v' := .agg ⟨[.int .i64 ((gt s2 n1).kind), .int .i64 ((gt s2 n1).who), .int .i64 ((gt s2 n1).life), .int .i64 ((gt s2 n1).seq), .int .i64 ((gt s2 n1).time), .int .i64 ((gt s2 n1).version), .int .i64 ((gt s2 n1).frm), .int .i64 (((gt s2 n1).o).time), .int .i64 (((gt s2 n1).o).who), .int .i64 (((gt s2 n1).o).node), .int .i64 (((gt s2 n1).o).parent), .int .i64 (((gt s2 n1).o).name), .int .i64 (((gt s2 n1).o).life), .int .i64 (((gt s2 n1).o).seq), ((γ2 n1).1).val (((gt s2 n1).v).roots).length, ((γ2 n1).2.1).val (((gt s2 n1).v).known).length, ((γ2 n1).2.2.1).val (((gt s2 n1).v).way).length, ((γ2 n1).2.2.2.1).val (((gt s2 n1).d).gone).length, ((γ2 n1).2.2.2.2.1).val (((gt s2 n1).d).here).length, ((γ2 n1).2.2.2.2.2.1).val (((gt s2 n1).d).wayGone).length, ((γ2 n1).2.2.2.2.2.2).val (((gt s2 n1).d).wayHere).length]⟩) (q_leAN NMail γ2 rfl rfl (fun _ => rfl) rfl rfl Mm (fun _ => by first | assumption | omega)) rfl) ?_
      refine rw_fact (F := RdL EInt ((γ2 n1).1) (((gt s2 n1).v).roots)) [FactsG NMail γ2 s2] Sf (fun M w h => (allF1 h) n1 (by first | assumption | omega) _ (.head _)) ?_
      refine rw_fact (F := RdL EPlace ((γ2 n1).2.1) (((gt s2 n1).v).known)) [FactsG NMail γ2 s2] Sf (fun M w h => (allF1 h) n1 (by first | assumption | omega) _ (.tail _ (.head _))) ?_
      refine rw_fact (F := RdL EPlace ((γ2 n1).2.2.1) (((gt s2 n1).v).way)) [FactsG NMail γ2 s2] Sf (fun M w h => (allF1 h) n1 (by first | assumption | omega) _ (.tail _ (.tail _ (.head _)))) ?_
      refine rw_fact (F := RdL EInt ((γ2 n1).2.2.2.1) (((gt s2 n1).d).gone)) [FactsG NMail γ2 s2] Sf (fun M w h => (allF1 h) n1 (by first | assumption | omega) _ (.tail _ (.tail _ (.tail _ (.head _))))) ?_
      refine rw_fact (F := RdL EPlace ((γ2 n1).2.2.2.2.1) (((gt s2 n1).d).here)) [FactsG NMail γ2 s2] Sf (fun M w h => (allF1 h) n1 (by first | assumption | omega) _ (.tail _ (.tail _ (.tail _ (.tail _ (.head _)))))) ?_
      refine rw_fact (F := RdL EInt ((γ2 n1).2.2.2.2.2.1) (((gt s2 n1).d).wayGone)) [FactsG NMail γ2 s2] Sf (fun M w h => (allF1 h) n1 (by first | assumption | omega) _ (.tail _ (.tail _ (.tail _ (.tail _ (.tail _ (.head _))))))) ?_
      refine rw_fact (F := RdL EPlace ((γ2 n1).2.2.2.2.2.2) (((gt s2 n1).d).wayHere)) [FactsG NMail γ2 s2] Sf (fun M w h => (allF1 h) n1 (by first | assumption | omega) _ (.tail _ (.tail _ (.tail _ (.tail _ (.tail _ (.tail _ (.head _)))))))) ?_
      refine Al fun g2 => ?_
      refine Tx ?_
      refine rw_callv (hfn1 ((γ1 n1).1) ((γ1 n1).2.1) ((γ1 n1).2.2.1) ((γ1 n1).2.2.2.1) ((γ1 n1).2.2.2.2.1) ((γ1 n1).2.2.2.2.2.1) ((γ1 n1).2.2.2.2.2.2) (gt s1 n1) ((γ2 n1).1) ((γ2 n1).2.1) ((γ2 n1).2.2.1) ((γ2 n1).2.2.2.1) ((γ2 n1).2.2.2.2.1) ((γ2 n1).2.2.2.2.2.1) ((γ2 n1).2.2.2.2.2.2) (gt s2 n1)) .sq (guard_none rfl) rfl rfl rfl rfl rfl (by assumption) rfl rfl rfl Sf ?_
      intro _
      refine Tx ?_
      refine Cd (b := (!(eq1 (gt s1 n1) (gt s2 n1)))) (fun hc3 => ?_) fun hc3 => ?_
      · refine Tx ?_
        have hr2 : (slices_EqualFunc_Mail s1 s2 eq1) = false := by rw [← hf1, drop_gt hlt0]; simp only [slices_EqualFunc_Mail_L0, hc3, cond_true, cond_false]
        refine cw_ret ?_
        rw [hr2]
        exact ⟨(), _, (.cons (.tmp rfl) .nil), rfl, Sf, .nil _, .nil _⟩
      · refine Tx ?_
        refine rw_q rfl rfl rfl (q_add rfl rfl (fun _ => rfl) rfl (fun _ => rfl) (fun _ => by omega)) ?_
        refine Tx ?_
        refine ⟨(n1 + 1), ⟨hlt0, (by rw [← hf1, drop_gt hlt0]; simp only [slices_EqualFunc_Mail_L0, hc3, cond_true, cond_false] : (slices_EqualFunc_Mail s1 s2 eq1) = (slices_EqualFunc_Mail_L0 s2 eq1 (s1.drop (n1 + 1)) (n1 + 1))).symm⟩, (by simp only []; omega), Le5⟩
    · have hge0 : s1.length ≤ n1 := by have := of_decide_eq_false hc2; omega
      refine Tx ?_
      have hr3 : (slices_EqualFunc_Mail s1 s2 eq1) = true := by rw [← hf1, List.drop_of_length_le hge0]; simp only [slices_EqualFunc_Mail_L0, cond_true, cond_false]
      refine cw_ret ?_
      rw [hr3]
      exact ⟨(), _, (.cons (.tmp rfl) .nil), rfl, Sf, .nil _, .nil _⟩

def way_Same (a1 : List Mail) (b1 : List Mail) : Bool :=
  (slices_EqualFunc_Mail a1 b1 way_same)
theorem way_Same_spec (y1 : SlV) (a1 : List Mail) (y2 : SlV) (b1 : List Mail) : Does Try.prog 68 [y1.val a1.length, y2.val b1.length] [RdN NMail y1 a1, RdN NMail y2 b1] (fun (_ : Unit) => .bool (way_Same a1 b1)) (fun (_ : Unit) => []) := by
  refine does_of tab_ok Try.func68 rfl Try.ntmps68 Try.results68 rfl inferInstance (fun _ => inferInstance) fun C => ?_
  refine Pn NMail y1 a1 280 fun hlen1 => ?_
  refine Pn NMail y2 b1 280 fun hlen2 => ?_
  refine Tx ?_
  refine Cl (slices_EqualFunc_Mail_spec y1 a1 y2 b1 _ _ _ way_same Kr (fun z0a_ z0b_ z0c_ z0d_ z0e_ z0f_ z0g_ a0_ z1a_ z1b_ z1c_ z1d_ z1e_ z1f_ z1g_ a1_ => way_same_spec z0a_ z0b_ z0c_ z0d_ z0e_ z0f_ z0g_ a0_ z1a_ z1b_ z1c_ z1d_ z1e_ z1f_ z1g_ a1_)) fun _ => ?_
  refine Tx ?_
  have hr1 : (way_Same a1 b1) = (slices_EqualFunc_Mail a1 b1 way_same) := by simp only [way_Same, cond_true, cond_false]
  refine cw_ret ?_; rw [hr1]; exact Re () (Vt Vn)
end Go.Proofs.Ytchdacbjiomplaa

set_option maxHeartbeats 2000000
namespace Go.Proofs.Ytchdacbjiomplaa
open Go Go.Proofs.Ytchdacbjiomplaa.Fw Go.Proofs
attribute [local irreducible] RdL RdN VarP RW CW
theorem slices_Delete_MailP_spec (X : SlV) (b : Option Nat) (l : List (NMail.G × Mail)) (i j : Nat) (hij : i ≤ j) (hj : j ≤ l.length) : DoesG Try.prog 74 [X.val l.length, .int .i64 (i : Int), .int .i64 (j : Int)] [] ⟨[], [ownL NMail.E 80 X b l]⟩ (fun (_ : Unit) => X.val (l.take i ++ l.drop j).length) (fun (_ : Unit) => []) (fun (_ : Unit) => ⟨[], [ownL NMail.E 80 X b (l.take i ++ l.drop j)]⟩) := by
  refine does_ofG tab_ok Try.func74 rfl Try.ntmps74 Try.results74 rfl inferInstance (fun _ => inferInstance) fun C => ?_
  refine cw_capO NMail.E (e := 80) (X := X) (b := b) (l := l) Mm fun hcap => ?_
  refine cw_lenO NMail.E (e := 80) (X := X) (b := b) (l := l) Mm fun hl63 hlby => ?_
  have hlen : (l.take i ++ l.drop j).length = i + (l.length - j) := by simp; omega
  refine Tx ?_
  refine rw_q rfl rfl rfl (q_sl3 (k0 := i) (h := j) (m := l.length) rfl rfl (fun _ => rfl) rfl (fun _ => rfl) rfl (fun _ => rfl) rfl (fun _ => rfl) rfl rfl (fun _ => rfl) (fun _ => rfl) (fun _ => rfl) (fun _ => hij) (fun _ => hj) (fun _ => hcap.1)) ?_
  refine Tx ?_
  refine Cd (b := ((i : Int) == (j : Int))) (fun hc1 => ?_) fun hc1 => ?_
  · have hc1p := eq_of_beq hc1
    have hl1 : l.take i ++ l.drop j = l := by rw [show j = i by omega]; exact List.take_append_drop i l
    refine Tx ?_
    refine cw_ret ?_
    rw [hl1]
    exact ⟨(), _, (.cons (.tmp rfl) .nil), rfl, .nil _, .nil _, Sp⟩
  · refine Tx ?_
    (repeat refine cw_seq ?_); refine cw_regionA (fun k => match k with | 6 => some b.toList | _ => some []) ?_
    refine Rb 0 [1,3,4,5] [2,6,7] rfl Qp ?_
    refine Rb 1 [3,4,5] [2,6,7] rfl Qp ?_
    refine rw_qO NMail.E (e := 80) (X := X) (b := b) (l := l) Mm (.ab (i := 2) (js := [3, 4, 5]) [6, 7] rfl Kr Kr Kr Kr Kr) rfl rfl rfl (q_take NMail.E (l := l) i rfl rfl (fun _ => rfl) rfl (fun _ => rfl) rfl rfl (.head _) (fun _ => rfl) (fun _ => by omega)) ?_
    refine Rb 3 [4] [5,6,7] rfl Qp ?_
    refine Rb 4 [] [5,6,7] rfl Qp ?_
    refine Rb 5 [] [6,7] rfl (q_drop NMail.E (l := l) (X := X) j rfl rfl (fun _ => rfl) rfl (fun _ => rfl) rfl rfl (fun _ => rfl) (fun _ => hj)) ?_
    refine ra_one 6 Kr ?_
    refine rw_appendCut NMail.E l i j (e := 80) (X := X) (b := b) (.an rfl rfl) (.inr (fun g h => by simp [h])) (guard_none rfl) rfl rfl rfl rfl rfl rfl rfl rfl rfl hij hj Uo ?_
    refine Ra 7 [] rfl Qp ?_
    refine ra_nil Kr ?_
    refine Tx ?_
    refine rw_q rfl rfl rfl (q_sllh (k0 := (l.take i ++ l.drop j).length) (h := l.length) rfl rfl (fun _ => rfl) rfl (fun _ => rfl) rfl (fun _ => rfl) rfl rfl (fun _ => rfl) (fun _ => rfl) (fun _ => by omega) (fun _ => hcap.1)) ?_
    refine rw_clearT NMail.E (l.take i ++ l.drop j) l.length (e := 80) (X := X) (b := b) .sq (.inl ⟨_, rfl⟩) (guard_none rfl) rfl rfl rfl rfl rfl rfl rfl rfl rfl rfl (by omega) hcap.1 Mm ?_
    refine Tx ?_
    refine cw_ret ?_
    exact ⟨(), _, (.cons (.tmp rfl) .nil), rfl, .nil _, .nil _, Sp⟩
theorem slices_Delete_Mail_spec (X : SlV) (b : Option Nat) (γ : Nat → NMail.G) (l : List Mail) (i j : Nat) (hij : i ≤ j) (hj : j ≤ l.length) : DoesG Try.prog 74 [X.val l.length, .int .i64 (i : Int), .int .i64 (j : Int)] [] ⟨[], [ownL NMail.E 80 X b (zipG γ 0 l)]⟩ (fun (_ : Unit) => X.val (l.take i ++ l.drop j).length) (fun (_ : Unit) => []) (fun (_ : Unit) => ⟨[], [ownL NMail.E 80 X b (zipG (appG γ i (dropG γ j)) 0 (l.take i ++ l.drop j))]⟩) := by
  have := slices_Delete_MailP_spec X b (zipG γ 0 l) i j hij (by rw [zipG_len]; exact hj)
  rw [zipG_del γ l i j (by omega), zipG_len, zipG_len] at this
  exact this
theorem slices_Delete_Mail_int (X : SlV) (b : Option Nat) (γ : Nat → NMail.G) (l : List Mail) (i j : Int) (h0 : 0 ≤ i) (hij : i ≤ j) (hj : j ≤ (l.length : Int)) : DoesG Try.prog 74 [X.val l.length, .int .i64 i, .int .i64 j] [] ⟨[], [ownL NMail.E 80 X b (zipG γ 0 l)]⟩ (fun (_ : Unit) => X.val (l.take i.toNat ++ l.drop j.toNat).length) (fun (_ : Unit) => []) (fun (_ : Unit) => ⟨[], [ownL NMail.E 80 X b (zipG (appG γ i.toNat (dropG γ j.toNat)) 0 (l.take i.toNat ++ l.drop j.toNat))]⟩) := by
  have := slices_Delete_Mail_spec X b γ l i.toNat j.toNat (by omega) (by omega)
  rw [Int.toNat_of_nonneg h0, Int.toNat_of_nonneg (Int.le_trans h0 hij)] at this
  exact this

theorem slices_Clone_MailP_own (X : SlV) (b : Option Nat) (l : List (NMail.G × Mail)) (k h : Nat) (hk : k < h) (hh : h ≤ l.length) : DoesG Try.prog 73 [.slice (slA X.a X.c k NMail.E.esz) (h - k) (X.c - k)] [] ⟨[], [ownL NMail.E 80 X b l]⟩ (fun (Y : SlV × Option Nat) => Y.1.val ((l.drop k).take (h - k)).length) (fun (_ : SlV × Option Nat) => []) (fun (Y : SlV × Option Nat) => ⟨[], [ownL NMail.E 80 Y.1 Y.2 ((l.drop k).take (h - k)), ownL NMail.E 80 X b l]⟩) := by
  refine does_ofG tab_ok Try.func73 rfl Try.ntmps73 Try.results73 rfl inferInstance (fun _ => inferInstance) fun C => ?_
  have hl1 : ((l.drop k).take (h - k)).length = h - k := by simp; omega
  refine cw_lenO NMail.E (e := 80) (X := X) (b := b) (l := l) Mm fun hl63 hlby => ?_
  refine cw_someO NMail.E (e := 80) (X := X) (b := b) (l := l) Mm (by omega) fun hsome => ?_
  have hs2 : (slA X.a X.c k NMail.E.esz).isNone = false := slA_some hsome
  refine Tx ?_
  refine rw_q rfl rfl rfl (q_eqnil rfl rfl (fun _ => rfl) rfl) ?_
  refine rw_nil ?_
  (repeat refine cw_seq ?_); refine cw_cond rfl rfl (fun hc0 => ?_) (fun hc0 => ?_)
  · exact Bool.noConfusion (hs2.symm.trans hc0)
  · refine Tx ?_
    refine rw_bsliceL NMail.E [] .sq (guard_none rfl) rfl rfl rfl rfl rfl rfl rfl rfl rfl rfl rfl rfl rfl rfl rfl fun x1 x1b => ?_
    refine Rp rfl rfl rfl rfl ?_
    refine rw_appendL NMail.E [] ((l.drop k).take (h - k)) (b := x1b) .sq (fun _ _ => .inl ⟨_, rfl⟩) (guard_none rfl) rfl rfl rfl rfl rfl rfl rfl (fun _ _ => Uo) rfl rfl rfl rfl rfl rfl rfl (by rw [hl1]; exact reads_ownC (e := 80) (X := X) (b := b) (by omega) hh Mm) (by rw [hl1]; exact Nat.le_trans (Nat.mul_le_mul_right _ (by simp; omega)) hlby) fun x2 x2b => ?_
    refine Tx ?_
    (repeat refine cw_seq ?_); refine cw_ret ?_
    exact ⟨(x2, x2b), _, (.cons (.tmp rfl) .nil), rfl, .nil _, .nil _, Sp⟩
theorem slices_Clone_Mail_own (X : SlV) (b : Option Nat) (γ : Nat → NMail.G) (l : List Mail) (k h : Nat) (hk : k < h) (hh : h ≤ l.length) : DoesG Try.prog 73 [.slice (slA X.a X.c k NMail.E.esz) (h - k) (X.c - k)] [] ⟨[], [ownL NMail.E 80 X b (zipG γ 0 l)]⟩ (fun (Y : SlV × Option Nat) => Y.1.val ((l.drop k).take (h - k)).length) (fun (_ : SlV × Option Nat) => []) (fun (Y : SlV × Option Nat) => ⟨[], [ownL NMail.E 80 Y.1 Y.2 (zipG (dropG γ k) 0 ((l.drop k).take (h - k))), ownL NMail.E 80 X b (zipG γ 0 l)]⟩) := by
  have := slices_Clone_MailP_own X b (zipG γ 0 l) k h hk (by rw [zipG_len]; exact hh)
  rw [zipG_cut γ l k (h - k), zipG_len] at this
  exact this

theorem way_Copy_own0 (X0 : SlV) (b0 : Option Nat) (γ0 : Nat → SlV × SlV × SlV × SlV × SlV × SlV × SlV) (l0 : List Mail) (k0 h0 : Nat) (hk0 : k0 < h0) (hh0 : h0 ≤ l0.length) (l1 : List Mail) (hl1 : l1 = (l0.drop k0).take (h0 - k0)) : DoesG Try.prog 150 [.slice (slA X0.a X0.c k0 NMail.E.esz) (h0 - k0) (X0.c - k0)] [FactsG NMail γ0 l0] ⟨[], [ownL NMail.E 80 X0 b0 (zipG γ0 0 l0)]⟩ (fun (X : SlV × Option Nat × (Nat → SlV × SlV × SlV × SlV × SlV × SlV × SlV)) => X.1.val (way_Copy l1).length) (fun (X : SlV × Option Nat × (Nat → SlV × SlV × SlV × SlV × SlV × SlV × SlV)) => [FactsG NMail X.2.2 (way_Copy l1)]) (fun (X : SlV × Option Nat × (Nat → SlV × SlV × SlV × SlV × SlV × SlV × SlV)) => ⟨[], [ownL NMail.E 80 X.1 X.2.1 (zipG X.2.2 0 (way_Copy l1)), ownL NMail.E 80 X0 b0 (zipG γ0 0 l0)]⟩) := by
  refine does_ofG tab_ok Try.func150 rfl Try.ntmps150 Try.results150 rfl inferInstance (fun _ => inferInstance) fun C => ?_
  have hlen0 : l1.length = h0 - k0 := by rw [hl1]; simp; omega
  refine cw_lenO NMail.E (e := 80) (X := X0) (b := b0) (l := zipG γ0 0 l0) Mm fun hl63 hlby => ?_
  have hl63 : l0.length ≤ 9223372036854775807 := Nat.le_trans (Nat.le_of_eq (zipG_len γ0 0 l0).symm) hl63
  have hlby : l0.length * 280 ≤ 140737488355328 := Nat.le_trans (Nat.le_of_eq (congrArg (· * 280) (zipG_len γ0 0 l0).symm)) hlby
  have hlen1 : l1.length * 280 ≤ 140737488355328 := Nat.le_trans (Nat.mul_le_mul_right 280 (by omega)) hlby
  refine Tx ?_
  refine rw_callG (slices_Clone_Mail_own X0 b0 γ0 l0 k0 h0 hk0 hh0) .sq (.inl ⟨_, rfl⟩) (guard_none rfl) rfl rfl rfl Kr rfl rfl Sm (.nil _) (.cons (.here _ _) (.nil _)) ?_
  intro x1
  simp only [← hl1, List.cons_append, List.nil_append]
  refine rw_fact (F := FactsG NMail (dropG γ0 k0) l1) [FactsG NMail γ0 l0] Sm (fun M w h => by rw [hl1]; exact FactsG.take NMail _ (FactsG.drop NMail k0 (allF1 h))) ?_
  refine Tx ?_
  (repeat refine cw_seq ?_); refine Lp [2,8] [] (fun (i_ : List Mail × (Nat → SlV × SlV × SlV × SlV × SlV × SlV × SlV) × Nat) => match i_ with | ⟨l2, γ2, n1⟩ => (⟨[(0, .v (x1.1.val l2.length)), (7, .v (x1.1.val l2.length)), (9, .v (.int .i64 (n1 : Int)))], [], [ownL NMail.E 80 x1.1 x1.2 (zipG γ2 0 l2), ownL NMail.E 80 X0 b0 (zipG γ0 0 l0)], [FactsG NMail γ2 l2], (n1 ≤ l1.length) ∧ (l2.length = l1.length) ∧ (way_Copy_L0 (l1.drop n1) n1 l2) = (way_Copy l1), l1.length - n1⟩ : Ls)) ⟨l1, (dropG γ0 k0), 0⟩ (Sc (Sc Sn)) (.nil) ⟨Nat.zero_le _, rfl, (by simp only [way_Copy, cond_true, cond_false] : (way_Copy l1) = (way_Copy_L0 l1 0 l1)).symm⟩ Le4 ?_
  rintro ⟨l2, γ2, n1⟩ ⟨hkn1, hll, hf1⟩
  simp only [List.cons_append, List.nil_append]
  refine Tx ?_
  refine Cd (b := decide ((n1 : Int) < (l1.length : Int))) (fun hc1 => ?_) fun hc1 => ?_
  · have hlt0 : n1 < l1.length := Int.ofNat_lt.1 (of_decide_eq_true hc1)
    refine Tx ?_
    refine rw_qO NMail.E (e := 80) (X := x1.1) (b := x1.2) (l := zipG γ2 0 l2) Mm .sq rfl rfl rfl (q_idxN NMail γ2 n1 rfl rfl (fun _ => rfl) rfl (fun _ => rfl) rfl rfl rfl (.head _) rfl (fun _ => rfl) (fun _ => by first | assumption | omega | (simp only [List.length_set]; omega))) ?_
    refine rw_qO NMail.E (e := 80) (X := x1.1) (b := x1.2) (l := zipG γ2 0 l2) Mm .sq rfl rfl rfl (q_is (v' := .agg ⟨[.int .i64 ((gt l2 n1).kind), .int .i64 ((gt l2 n1).who), .int .i64 ((gt l2 n1).life), .int .i64 ((gt l2 n1).seq), .int .i64 ((gt l2 n1).time), .int .i64 ((gt l2 n1).version), .int .i64 ((gt l2 n1).frm), .int .i64 (((gt l2 n1).o).time), .int .i64 (((gt l2 n1).o).who), .int .i64 (((gt l2 n1).o).node), .int .i64 (((gt l2 n1).o).parent), .int .i64 (((gt l2 n1).o).name), .int .i64 (((gt l2 n1).o).life), .int .i64 (((gt l2 n1).o).seq), ((γ2 n1).1).val (((gt l2 n1).v).roots).length, ((γ2 n1).2.1).val (((gt l2 n1).v).known).length, ((γ2 n1).2.2.1).val (((gt l2 n1).v).way).length, ((γ2 n1).2.2.2.1).val (((gt l2 n1).d).gone).length, ((γ2 n1).2.2.2.2.1).val (((gt l2 n1).d).here).length, ((γ2 n1).2.2.2.2.2.1).val (((gt l2 n1).d).wayGone).length, ((γ2 n1).2.2.2.2.2.2).val (((gt l2 n1).d).wayHere).length]⟩) (q_leAN NMail γ2 rfl rfl (fun _ => rfl) rfl rfl (.head _) (fun _ => by first | assumption | omega | (simp only [List.length_set]; omega))) rfl) ?_
    refine rw_fact (F := RdL EInt ((γ2 n1).1) (((gt l2 n1).v).roots)) [FactsG NMail γ2 l2] Sm (fun M w h => (allF1 h) n1 (by first | assumption | omega) _ (.head _)) ?_
    refine rw_fact (F := RdL EPlace ((γ2 n1).2.1) (((gt l2 n1).v).known)) [FactsG NMail γ2 l2] Sm (fun M w h => (allF1 h) n1 (by first | assumption | omega) _ (.tail _ (.head _))) ?_
    refine rw_fact (F := RdL EPlace ((γ2 n1).2.2.1) (((gt l2 n1).v).way)) [FactsG NMail γ2 l2] Sm (fun M w h => (allF1 h) n1 (by first | assumption | omega) _ (.tail _ (.tail _ (.head _)))) ?_
    refine rw_fact (F := RdL EInt ((γ2 n1).2.2.2.1) (((gt l2 n1).d).gone)) [FactsG NMail γ2 l2] Sm (fun M w h => (allF1 h) n1 (by first | assumption | omega) _ (.tail _ (.tail _ (.tail _ (.head _))))) ?_
    refine rw_fact (F := RdL EPlace ((γ2 n1).2.2.2.2.1) (((gt l2 n1).d).here)) [FactsG NMail γ2 l2] Sm (fun M w h => (allF1 h) n1 (by first | assumption | omega) _ (.tail _ (.tail _ (.tail _ (.tail _ (.head _)))))) ?_
    refine rw_fact (F := RdL EInt ((γ2 n1).2.2.2.2.2.1) (((gt l2 n1).d).wayGone)) [FactsG NMail γ2 l2] Sm (fun M w h => (allF1 h) n1 (by first | assumption | omega) _ (.tail _ (.tail _ (.tail _ (.tail _ (.tail _ (.head _))))))) ?_
    refine rw_fact (F := RdL EPlace ((γ2 n1).2.2.2.2.2.2) (((gt l2 n1).d).wayHere)) [FactsG NMail γ2 l2] Sm (fun M w h => (allF1 h) n1 (by first | assumption | omega) _ (.tail _ (.tail _ (.tail _ (.tail _ (.tail _ (.tail _ (.head _)))))))) ?_
    refine Al fun g1 => ?_
    refine Tx ?_
    (repeat refine cw_seq ?_); refine cw_regionA (fun j => match j with | 12 => some x1.2.toList | 15 => some x1.2.toList | _ => some []) ?_
    refine Ra 0 [1,2,3,4,5,6,7,8,9] rfl Qp ?_
    refine Ra 1 [2,3,4,5,6,7,8,9] rfl Qp ?_
    refine ra_q (.an (i := 2) (js := [3, 4, 5, 6, 7, 8, 9, 10, 11, 12]) rfl Kr Kr Kr Kr) (SplitB.all _) (by intro g hg; simp only [List.mem_append, List.mem_singleton, List.not_mem_nil, or_false, false_or, Option.mem_toList, Option.mem_def, List.append_nil] at hg; first | exact .inr ⟨ownL NMail.E 80 x1.1 x1.2 (zipG γ2 0 l2), Mm, hg⟩) rfl rfl rfl (q_pev rfl (fun _ => rfl)) ?_
    refine ra_q (.an (i := 3) (js := [4, 5, 6, 7, 8, 9, 10, 11, 12]) rfl Kr Kr Kr Kr) (SplitB.all _) (by intro g hg; simp only [List.mem_append, List.mem_singleton, List.not_mem_nil, or_false, false_or, Option.mem_toList, Option.mem_def, List.append_nil] at hg; first | exact .inr ⟨ownL NMail.E 80 x1.1 x1.2 (zipG γ2 0 l2), Mm, hg⟩) rfl rfl rfl (q_pev rfl (fun _ => rfl)) ?_
    refine Rb 4 [7,8] [5,6,9,10,11,12,13,14,15] rfl Qp ?_
    refine Rb 5 [7,8] [6,9,10,11,12,13,14,15] rfl (q_ldP rfl rfl (fun _ => rfl) rfl Mm rfl) ?_
    refine Rb 7 [6] [8,9,10,11,12,13,14,15] rfl Qp ?_
    refine Rb 8 [6] [9,10,11,12,13,14,15] rfl (q_ldP rfl rfl (fun _ => rfl) rfl Mm rfl) ?_
    refine ra_one 6 Kr ?_
    refine rw_callG (view_Copy_spec ((γ2 n1).1) ((γ2 n1).2.1) ((γ2 n1).2.2.1) ((gt l2 n1).v)) (.an rfl rfl) (.inr (by simp [Lent.ids])) (guard_none rfl) rfl rfl rfl Kr rfl rfl Sm (.nil _) (.nil _) ?_
    intro x4
    refine ra_one 9 Kr ?_
    refine rw_callG (delta_Copy_spec ((γ2 n1).2.2.2.1) ((γ2 n1).2.2.2.2.1) ((γ2 n1).2.2.2.2.2.1) ((γ2 n1).2.2.2.2.2.2) ((gt l2 n1).d)) (.an rfl rfl) (.inr (by simp [Lent.ids])) (guard_none rfl) rfl rfl rfl Kr rfl rfl Sm (.nil _) (.nil _) ?_
    intro x5
    refine rw_qO NMail.E (e := 80) (X := x1.1) (b := x1.2) (l := zipG γ2 0 l2) Mm (.ab (i := 10) (js := []) [11, 12, 13, 14, 15] rfl Kr Kr Kr Kr Kr) rfl rfl rfl (q_idxN NMail γ2 n1 rfl rfl (fun _ => rfl) rfl (fun _ => rfl) rfl rfl rfl (.head _) rfl (fun _ => rfl) (fun _ => by first | assumption | omega | (simp only [List.length_set]; omega))) ?_
    refine Ra 11 [] rfl (q_fae rfl rfl (fun _ => rfl) rfl rfl) ?_
    refine ra_one 12 Kr ?_
    refine rw_le (le_freezeL EInt 3 x4.1 x4.2.1 (((gt l2 n1).v).roots) Uo) ?_
    refine rw_le (le_freezeL EPlace 35 x4.2.2.1 x4.2.2.2.1 (((gt l2 n1).v).known) Uo) ?_
    refine rw_le (le_freezeL EPlace 35 x4.2.2.2.2.1 x4.2.2.2.2.2 (((gt l2 n1).v).way) Uo) ?_
    refine rw_stON NMail γ2 l2 n1 14 (x4.1, x4.2.2.1, x4.2.2.2.2.1, (γ2 n1).2.2.2.1, (γ2 n1).2.2.2.2.1, (γ2 n1).2.2.2.2.2.1, (γ2 n1).2.2.2.2.2.2) (gt l2 n1) (e := 80) (X := x1.1) (b := x1.2) (.an rfl rfl) (.inr (fun g h => by simp [h])) (guard_none rfl) rfl rfl rfl rfl rfl rfl rfl rfl rfl rfl rfl (by first | assumption | omega | (simp only [List.length_set]; omega)) rfl Uo ?_
    refine rw_fact (F := RdL EInt ((γ2 n1).2.2.2.1) (((gt l2 n1).d).gone)) [FactsG NMail γ2 l2] Sm (fun M w h => (allF1 h) n1 (by first | assumption | omega) _ (.tail _ (.tail _ (.tail _ (.head _))))) ?_
    refine rw_fact (F := RdL EPlace ((γ2 n1).2.2.2.2.1) (((gt l2 n1).d).here)) [FactsG NMail γ2 l2] Sm (fun M w h => (allF1 h) n1 (by first | assumption | omega) _ (.tail _ (.tail _ (.tail _ (.tail _ (.head _)))))) ?_
    refine rw_fact (F := RdL EInt ((γ2 n1).2.2.2.2.2.1) (((gt l2 n1).d).wayGone)) [FactsG NMail γ2 l2] Sm (fun M w h => (allF1 h) n1 (by first | assumption | omega) _ (.tail _ (.tail _ (.tail _ (.tail _ (.tail _ (.head _))))))) ?_
    refine rw_fact (F := RdL EPlace ((γ2 n1).2.2.2.2.2.2) (((gt l2 n1).d).wayHere)) [FactsG NMail γ2 l2] Sm (fun M w h => (allF1 h) n1 (by first | assumption | omega) _ (.tail _ (.tail _ (.tail _ (.tail _ (.tail _ (.tail _ (.head _)))))))) ?_
    refine rw_fact (F := FactsG NMail (updG γ2 n1 (x4.1, x4.2.2.1, x4.2.2.2.2.1, (γ2 n1).2.2.2.1, (γ2 n1).2.2.2.2.1, (γ2 n1).2.2.2.2.2.1, (γ2 n1).2.2.2.2.2.2)) (l2.set n1 (gt l2 n1))) [FactsG NMail γ2 l2, RdL EInt x4.1 (((gt l2 n1).v).roots), RdL EPlace x4.2.2.1 (((gt l2 n1).v).known), RdL EPlace x4.2.2.2.2.1 (((gt l2 n1).v).way), RdL EInt ((γ2 n1).2.2.2.1) (((gt l2 n1).d).gone), RdL EPlace ((γ2 n1).2.2.2.2.1) (((gt l2 n1).d).here), RdL EInt ((γ2 n1).2.2.2.2.2.1) (((gt l2 n1).d).wayGone), RdL EPlace ((γ2 n1).2.2.2.2.2.2) (((gt l2 n1).d).wayHere)] Sm (fun M w h => FactsG.upd NMail (h _ (.head _)) (allF_sub Sm h)) ?_
    have hv1 : x1.1.val l2.length = x1.1.val (l2.set n1 (gt l2 n1)).length := congrArg (SlV.val x1.1) List.length_set.symm
    try rw [hv1]
    refine rw_qO NMail.E (e := 80) (X := x1.1) (b := x1.2) (l := zipG (updG γ2 n1 (x4.1, x4.2.2.1, x4.2.2.2.2.1, (γ2 n1).2.2.2.1, (γ2 n1).2.2.2.2.1, (γ2 n1).2.2.2.2.2.1, (γ2 n1).2.2.2.2.2.2)) 0 (l2.set n1 (gt l2 n1))) Mm (.ab (i := 13) (js := []) [14, 15] rfl Kr Kr Kr Kr Kr) rfl rfl rfl (q_idxN NMail (updG γ2 n1 (x4.1, x4.2.2.1, x4.2.2.2.2.1, (γ2 n1).2.2.2.1, (γ2 n1).2.2.2.2.1, (γ2 n1).2.2.2.2.2.1, (γ2 n1).2.2.2.2.2.2)) n1 rfl rfl (fun _ => rfl) rfl (fun _ => rfl) rfl rfl rfl (.head _) rfl (fun _ => rfl) (fun _ => by first | assumption | omega | (simp only [List.length_set]; omega))) ?_
    refine Ra 14 [] rfl (q_fae rfl rfl (fun _ => rfl) rfl rfl) ?_
    refine ra_one 15 Kr ?_
    refine rw_le (le_freezeL EInt 3 x5.1 x5.2.1 (((gt l2 n1).d).gone) Uo) ?_
    refine rw_le (le_freezeL EPlace 35 x5.2.2.1 x5.2.2.2.1 (((gt l2 n1).d).here) Uo) ?_
    refine rw_le (le_freezeL EInt 3 x5.2.2.2.2.1 x5.2.2.2.2.2.1 (((gt l2 n1).d).wayGone) Uo) ?_
    refine rw_le (le_freezeL EPlace 35 x5.2.2.2.2.2.2.1 x5.2.2.2.2.2.2.2 (((gt l2 n1).d).wayHere) Uo) ?_
    refine rw_stON2 NMail γ2 l2 n1 17 (x4.1, x4.2.2.1, x4.2.2.2.2.1, (γ2 n1).2.2.2.1, (γ2 n1).2.2.2.2.1, (γ2 n1).2.2.2.2.2.1, (γ2 n1).2.2.2.2.2.2) (gt l2 n1) (x4.1, x4.2.2.1, x4.2.2.2.2.1, x5.1, x5.2.2.1, x5.2.2.2.2.1, x5.2.2.2.2.2.2.1) (gt l2 n1) (e := 80) (X := x1.1) (b := x1.2) (.an rfl rfl) (.inr (fun g h => by simp [h])) (guard_none rfl) rfl rfl rfl rfl rfl rfl rfl rfl rfl rfl rfl (by first | assumption | omega | (simp only [List.length_set]; omega)) rfl Uo ?_
    refine rw_fact (F := FactsG NMail (updG γ2 n1 (x4.1, x4.2.2.1, x4.2.2.2.2.1, x5.1, x5.2.2.1, x5.2.2.2.2.1, x5.2.2.2.2.2.2.1)) (l2.set n1 (gt l2 n1))) [FactsG NMail γ2 l2, RdL EInt x4.1 (((gt l2 n1).v).roots), RdL EPlace x4.2.2.1 (((gt l2 n1).v).known), RdL EPlace x4.2.2.2.2.1 (((gt l2 n1).v).way), RdL EInt x5.1 (((gt l2 n1).d).gone), RdL EPlace x5.2.2.1 (((gt l2 n1).d).here), RdL EInt x5.2.2.2.2.1 (((gt l2 n1).d).wayGone), RdL EPlace x5.2.2.2.2.2.2.1 (((gt l2 n1).d).wayHere)] Sm (fun M w h => FactsG.upd NMail (h _ (.head _)) (allF_sub Sm h)) ?_
    refine ra_nil Kr ?_
    refine Tx ?_
    refine rw_q rfl rfl rfl (q_add rfl rfl (fun _ => rfl) rfl (fun _ => rfl) (fun _ => by omega)) ?_
    refine Tx ?_
    refine ⟨⟨(l2.set n1 (gt l2 n1)), (updG γ2 n1 (x4.1, x4.2.2.1, x4.2.2.2.2.1, x5.1, x5.2.2.1, x5.2.2.2.2.1, x5.2.2.2.2.2.2.1)), (n1 + 1)⟩, ⟨hlt0, (by (try simp only [List.length_set]); omega), (by rw [← hf1, drop_gt hlt0]; simp only [way_Copy_L0, cond_true, cond_false] : (way_Copy l1) = (way_Copy_L0 (l1.drop (n1 + 1)) (n1 + 1) (l2.set n1 (gt l2 n1)))).symm⟩, (by simp only []; omega), Le4⟩
  · have hge0 : l1.length ≤ n1 := by have := of_decide_eq_false hc1; omega
    refine Tx ?_
    have hr1 : (way_Copy l1) = l2 := by rw [← hf1, List.drop_of_length_le hge0]; simp only [way_Copy_L0, cond_true, cond_false]
    refine cw_ret ?_; rw [hr1]; exact Re ⟨x1.1, x1.2, γ2⟩ (Vt Vn)
theorem way_Copy_own (X0 : SlV) (b0 : Option Nat) (γ0 : Nat → SlV × SlV × SlV × SlV × SlV × SlV × SlV) (l0 : List Mail) (k0 h0 : Nat) (hk0 : k0 < h0) (hh0 : h0 ≤ l0.length) : DoesG Try.prog 150 [.slice (slA X0.a X0.c k0 NMail.E.esz) (h0 - k0) (X0.c - k0)] [FactsG NMail γ0 l0] ⟨[], [ownL NMail.E 80 X0 b0 (zipG γ0 0 l0)]⟩ (fun (X : SlV × Option Nat × (Nat → SlV × SlV × SlV × SlV × SlV × SlV × SlV)) => X.1.val ((l0.drop k0).take (h0 - k0)).length) (fun (X : SlV × Option Nat × (Nat → SlV × SlV × SlV × SlV × SlV × SlV × SlV)) => [FactsG NMail X.2.2 ((l0.drop k0).take (h0 - k0))]) (fun (X : SlV × Option Nat × (Nat → SlV × SlV × SlV × SlV × SlV × SlV × SlV)) => ⟨[], [ownL NMail.E 80 X.1 X.2.1 (zipG X.2.2 0 ((l0.drop k0).take (h0 - k0))), ownL NMail.E 80 X0 b0 (zipG γ0 0 l0)]⟩) := by
  have := way_Copy_own0 X0 b0 γ0 l0 k0 h0 hk0 hh0 _ rfl
  rw [way_Copy_eq] at this
  exact this
end Go.Proofs.Ytchdacbjiomplaa
