/- Part of this claim. No condition. -/
import Derived.Test.YtchdacbjiomplaaW31
import Derived.Test.YtchdacbjiomplaaTNest
set_option linter.unusedVariables false
set_option linter.unusedSimpArgs false
namespace Go.Proofs.Ytchdacbjiomplaa
open Go Go.Proofs.Ytchdacbjiomplaa.Fw Go.Proofs
attribute [local irreducible] RdL RdN VarP
theorem slices_Clone_MailP_spec (x : SlV) (l : List (NMail.G × Mail)) : DoesG Try.prog 73 [x.val l.length] [RdL NMail.E x l] ⟨[], []⟩ (fun (X : SlV × Option Nat) => X.1.val l.length) (fun (_ : SlV × Option Nat) => []) (fun (X : SlV × Option Nat) => ⟨[], [ownL NMail.E 80 X.1 X.2 l]⟩) := by
  refine does_ofG tab_ok Try.func73 rfl Try.ntmps73 Try.results73 rfl inferInstance (fun _ => inferInstance) fun C => ?_
  refine cw_pure (φ := l.length * NMail.E.by_ ≤ 140737488355328) [RdL NMail.E x l] Sm (fun M w h => (allF1 h).len) fun hlen => ?_
  (repeat refine cw_seq ?_); refine cw_region ?_
  refine Rp rfl rfl rfl rfl ?_
  refine rw_nil ?_
  (repeat refine cw_seq ?_); refine cw_region ?_
  refine Rp rfl rfl rfl rfl ?_
  refine rw_q rfl rfl rfl (q_eqnil rfl rfl (fun _ => rfl) rfl) ?_
  refine rw_nil ?_
  (repeat refine cw_seq ?_); refine cw_cond rfl rfl (fun hc0 => ?_) (fun hc0 => ?_)
  · refine cw_pure [RdL NMail.E x l] Sm (fun M w h => (allF1 h).nil_of hc0) fun hnil => ?_
    subst hnil
    refine cw_le (le_nilL NMail.E 80) ?_
    (repeat refine cw_seq ?_); refine cw_region ?_
    refine Rp rfl rfl rfl rfl ?_
    refine rw_nil ?_
    (repeat refine cw_seq ?_); refine cw_ret ?_
    exact ⟨(⟨none, 0⟩, none), _, (.cons (.tmp rfl) .nil), rfl, .nil _, .nil _, Sp⟩
  · (repeat refine cw_seq ?_); refine cw_skip ?_
    (repeat refine cw_seq ?_); refine cw_region ?_
    refine rw_bsliceL NMail.E [] .sq (guard_none rfl) rfl rfl rfl rfl rfl rfl rfl rfl rfl rfl rfl rfl rfl rfl rfl fun x1 x1b => ?_
    refine Rp rfl rfl rfl rfl ?_
    refine rw_appendL NMail.E [] l (b := x1b) .sq (fun _ _ => .inl ⟨_, rfl⟩) (guard_none rfl) rfl rfl rfl rfl rfl rfl rfl (fun _ _ => Uo) rfl rfl rfl rfl rfl rfl rfl (reads_rdL Mm) (by simpa using hlen) fun x2 x2b => ?_
    refine Rp rfl rfl rfl rfl ?_
    refine rw_nil ?_
    (repeat refine cw_seq ?_); refine cw_ret ?_
    exact ⟨(x2, x2b), _, (.cons (.tmp rfl) .nil), rfl, .nil _, .nil _, Sp⟩
theorem slices_Clone_Mail_spec (x : SlV) (γ : Nat → NMail.G) (l : List Mail) : DoesG Try.prog 73 [x.val l.length] [RdG NMail x γ l] ⟨[], []⟩ (fun (X : SlV × Option Nat) => X.1.val l.length) (fun (_ : SlV × Option Nat) => []) (fun (X : SlV × Option Nat) => ⟨[], [ownL NMail.E 80 X.1 X.2 (zipG γ 0 l)]⟩) := by
  have := slices_Clone_MailP_spec x (zipG γ 0 l)
  rw [zipG_len] at this
  exact this

def way_Copy_L0  : List Mail → Nat → (List Mail) → (List Mail)
  | [], n1, l2 => l2
  | pn1 :: rn1, n1, l2 => (way_Copy_L0 rn1 (n1 + 1) (l2.set n1 (gt l2 n1)))
def way_Copy (l1 : List Mail) : List Mail :=
  (way_Copy_L0 l1 0 l1)
theorem way_Copy_spec (y1 : SlV) (l1 : List Mail) : DoesG Try.prog 150 [y1.val l1.length] [RdN NMail y1 l1] ⟨[], []⟩ (fun (X : SlV × Option Nat × (Nat → SlV × SlV × SlV × SlV × SlV × SlV × SlV)) => X.1.val (way_Copy l1).length) (fun (X : SlV × Option Nat × (Nat → SlV × SlV × SlV × SlV × SlV × SlV × SlV)) => [FactsG NMail X.2.2 (way_Copy l1)]) (fun (X : SlV × Option Nat × (Nat → SlV × SlV × SlV × SlV × SlV × SlV × SlV)) => ⟨[], [ownL NMail.E 80 X.1 X.2.1 (zipG X.2.2 0 (way_Copy l1))]⟩) := by
  refine does_ofG tab_ok Try.func150 rfl Try.ntmps150 Try.results150 rfl inferInstance (fun _ => inferInstance) fun C => ?_
  refine cw_pure (φ := l1.length * 280 ≤ 140737488355328) [RdN NMail y1 l1] Sm (fun M w h => (allF1 h).len) fun hlen1 => ?_
  (repeat refine cw_seq ?_); refine cw_region ?_
  refine Rp rfl rfl rfl rfl ?_
  refine rw_nil ?_
  (repeat refine cw_seq ?_); refine cw_region ?_
  refine Rp rfl rfl rfl rfl ?_
  refine rw_exN NMail (X := y1) (l := l1) Mm fun (γ1 : Nat → SlV × SlV × SlV × SlV × SlV × SlV × SlV) => ?_
  refine rw_callG (slices_Clone_Mail_spec y1 γ1 l1) .sq (.inl ⟨_, rfl⟩) (guard_none rfl) rfl rfl rfl Kr rfl rfl Sm (.nil _) (.nil _) ?_
  intro x1
  refine Rp rfl rfl rfl rfl ?_
  refine rw_nil ?_
  (repeat refine cw_seq ?_); refine cw_region ?_
  refine Rp rfl rfl rfl rfl ?_
  refine Rp rfl rfl rfl rfl ?_
  refine Rp rfl rfl rfl rfl ?_
  refine rw_nil ?_
  (repeat refine cw_seq ?_); refine cw_block ?_
  (repeat refine cw_seq ?_); refine cw_loopS [2, 8] [] (fun (i_ : List Mail × (Nat → SlV × SlV × SlV × SlV × SlV × SlV × SlV) × Nat) => match i_ with | ⟨l2, γ2, n1⟩ => [(0, .v (x1.1.val l2.length)), (7, .v (x1.1.val l2.length)), (9, .v (.int .i64 (n1 : Int)))]) (fun (i_ : List Mail × (Nat → SlV × SlV × SlV × SlV × SlV × SlV × SlV) × Nat) => match i_ with | ⟨l2, γ2, n1⟩ => []) (fun (i_ : List Mail × (Nat → SlV × SlV × SlV × SlV × SlV × SlV × SlV) × Nat) => match i_ with | ⟨l2, γ2, n1⟩ => [ownL NMail.E 80 x1.1 x1.2 (zipG γ2 0 l2)]) (fun (i_ : List Mail × (Nat → SlV × SlV × SlV × SlV × SlV × SlV × SlV) × Nat) => match i_ with | ⟨l2, γ2, n1⟩ => [FactsG NMail γ2 l2]) (fun (i_ : List Mail × (Nat → SlV × SlV × SlV × SlV × SlV × SlV × SlV) × Nat) => match i_ with | ⟨l2, γ2, n1⟩ => (n1 ≤ l1.length) ∧ (l2.length = l1.length) ∧ (way_Copy_L0 (l1.drop n1) n1 l2) = (way_Copy l1)) (fun (i_ : List Mail × (Nat → SlV × SlV × SlV × SlV × SlV × SlV × SlV) × Nat) => match i_ with | ⟨l2, γ2, n1⟩ => l1.length - n1) ⟨l1, γ1, 0⟩ (.cons rfl (.cons rfl (.nil _))) (.nil) ⟨Nat.zero_le _, rfl, (by simp only [way_Copy, cond_true, cond_false] : (way_Copy l1) = (way_Copy_L0 l1 0 l1)).symm⟩ Le4 ?_
  rintro ⟨l2, γ2, n1⟩ ⟨hkn1, hll, hf1⟩
  simp only [List.cons_append, List.nil_append]
  (repeat refine cw_seq ?_); refine cw_region ?_
  refine Rp rfl rfl rfl rfl ?_
  refine rw_nil ?_
  (repeat refine cw_seq ?_); refine cw_cond (b := decide ((n1 : Int) < (l1.length : Int))) rfl rfl (fun hc1 => ?_) (fun hc1 => ?_)
  · skip
    have hlt0 : n1 < l1.length := Int.ofNat_lt.1 (of_decide_eq_true hc1)
    (repeat refine cw_seq ?_); refine cw_skip ?_
    (repeat refine cw_seq ?_); refine cw_block ?_
    (repeat refine cw_seq ?_); refine cw_region ?_
    refine Rp rfl rfl rfl rfl ?_
    refine rw_qO NMail.E (e := 80) (X := x1.1) (b := x1.2) (l := zipG γ2 0 l2) Mm .sq rfl rfl rfl (q_idxN NMail γ2 n1 rfl rfl (fun _ => rfl) rfl (fun _ => rfl) rfl rfl rfl (.head _) rfl (fun _ => rfl) (fun _ => by first | assumption | omega | (simp only [List.length_set]; omega))) ?_
    refine rw_qO NMail.E (e := 80) (X := x1.1) (b := x1.2) (l := zipG γ2 0 l2) Mm .sq rfl rfl rfl (q_is (v' := .agg ⟨[.int .i64 ((gt l2 n1).kind), .int .i64 ((gt l2 n1).who), .int .i64 ((gt l2 n1).life), .int .i64 ((gt l2 n1).seq), .int .i64 ((gt l2 n1).time), .int .i64 ((gt l2 n1).version), .int .i64 ((gt l2 n1).frm), .int .i64 (((gt l2 n1).o).time), .int .i64 (((gt l2 n1).o).who), .int .i64 (((gt l2 n1).o).node), .int .i64 (((gt l2 n1).o).parent), .int .i64 (((gt l2 n1).o).name), .int .i64 (((gt l2 n1).o).life), .int .i64 (((gt l2 n1).o).seq), ((γ2 n1).1).val (((gt l2 n1).v).roots).length, ((γ2 n1).2.1).val (((gt l2 n1).v).known).length, ((γ2 n1).2.2.1).val (((gt l2 n1).v).way).length, ((γ2 n1).2.2.2.1).val (((gt l2 n1).d).gone).length, ((γ2 n1).2.2.2.2.1).val (((gt l2 n1).d).here).length, ((γ2 n1).2.2.2.2.2.1).val (((gt l2 n1).d).wayGone).length, ((γ2 n1).2.2.2.2.2.2).val (((gt l2 n1).d).wayHere).length]⟩) (q_leAN NMail γ2 rfl rfl (fun _ => rfl) rfl rfl (.head _) (fun _ => by first | assumption | omega | (simp only [List.length_set]; omega))) rfl) ?_
    refine rw_fact (F := RdL EInt ((γ2 n1).1) (((gt l2 n1).v).roots)) [FactsG NMail γ2 l2] Sm (fun M w h => (allF1 h) n1 (by first | assumption | omega) _ (.head _)) ?_
    refine rw_fact (F := RdL EPlace ((γ2 n1).2.1) (((gt l2 n1).v).known)) [FactsG NMail γ2 l2] Sm (fun M w h => (allF1 h) n1 (by first | assumption | omega) _ (.tail _ (.head _))) ?_
    refine rw_fact (F := RdL EPlace ((γ2 n1).2.2.1) (((gt l2 n1).v).way)) [FactsG NMail γ2 l2] Sm (fun M w h => (allF1 h) n1 (by first | assumption | omega) _ (.tail _ (.tail _ (.head _)))) ?_
    refine rw_fact (F := RdL EInt ((γ2 n1).2.2.2.1) (((gt l2 n1).d).gone)) [FactsG NMail γ2 l2] Sm (fun M w h => (allF1 h) n1 (by first | assumption | omega) _ (.tail _ (.tail _ (.tail _ (.head _))))) ?_
    refine rw_fact (F := RdL EPlace ((γ2 n1).2.2.2.2.1) (((gt l2 n1).d).here)) [FactsG NMail γ2 l2] Sm (fun M w h => (allF1 h) n1 (by first | assumption | omega) _ (.tail _ (.tail _ (.tail _ (.tail _ (.head _)))))) ?_
    refine rw_fact (F := RdL EInt ((γ2 n1).2.2.2.2.2.1) (((gt l2 n1).d).wayGone)) [FactsG NMail γ2 l2] Sm (fun M w h => (allF1 h) n1 (by first | assumption | omega) _ (.tail _ (.tail _ (.tail _ (.tail _ (.tail _ (.head _))))))) ?_
    refine rw_fact (F := RdL EPlace ((γ2 n1).2.2.2.2.2.2) (((gt l2 n1).d).wayHere)) [FactsG NMail γ2 l2] Sm (fun M w h => (allF1 h) n1 (by first | assumption | omega) _ (.tail _ (.tail _ (.tail _ (.tail _ (.tail _ (.tail _ (.head _)))))))) ?_
    refine rw_alloc .sq (guard_none rfl) rfl rfl rfl rfl fun g1 => ?_
    refine Rp rfl rfl rfl rfl ?_
    refine rw_stA .sq (.inl ⟨_, rfl⟩) (guard_none rfl) rfl rfl rfl rfl rfl rfl rfl rfl rfl Ub rfl ?_
    refine rw_nil ?_
    (repeat refine cw_seq ?_); refine cw_regionA (fun j => match j with | 12 => some x1.2.toList | 15 => some x1.2.toList | _ => some []) ?_
    refine ra_q (.an (i := 0) (js := [1, 2, 3, 4, 5, 6, 7, 8, 9]) rfl Kr Kr Kr Kr) (SplitB.all _) (by simp) rfl rfl rfl (q_pev rfl (fun _ => rfl)) ?_
    refine ra_q (.an (i := 1) (js := [2, 3, 4, 5, 6, 7, 8, 9]) rfl Kr Kr Kr Kr) (SplitB.all _) (by simp) rfl rfl rfl (q_pev rfl (fun _ => rfl)) ?_
    refine ra_q (.an (i := 2) (js := [3, 4, 5, 6, 7, 8, 9, 10, 11, 12]) rfl Kr Kr Kr Kr) (SplitB.all _) (by intro g hg; simp only [List.mem_append, List.mem_singleton, List.not_mem_nil, or_false, false_or, Option.mem_toList, Option.mem_def, List.append_nil] at hg; first | exact .inr ⟨ownL NMail.E 80 x1.1 x1.2 (zipG γ2 0 l2), Mm, hg⟩) rfl rfl rfl (q_pev rfl (fun _ => rfl)) ?_
    refine ra_q (.an (i := 3) (js := [4, 5, 6, 7, 8, 9, 10, 11, 12]) rfl Kr Kr Kr Kr) (SplitB.all _) (by intro g hg; simp only [List.mem_append, List.mem_singleton, List.not_mem_nil, or_false, false_or, Option.mem_toList, Option.mem_def, List.append_nil] at hg; first | exact .inr ⟨ownL NMail.E 80 x1.1 x1.2 (zipG γ2 0 l2), Mm, hg⟩) rfl rfl rfl (q_pev rfl (fun _ => rfl)) ?_
    refine ra_q (.ab (i := 4) (js := [7, 8]) [5, 6, 9, 10, 11, 12, 13, 14, 15] rfl Kr Kr Kr Kr Kr) (SplitB.all _) (by simp) rfl rfl rfl (q_pev rfl (fun _ => rfl)) ?_
    refine ra_q (.ab (i := 5) (js := [7, 8]) [6, 9, 10, 11, 12, 13, 14, 15] rfl Kr Kr Kr Kr Kr) (SplitB.all _) (by simp) rfl rfl rfl (q_ldP rfl rfl (fun _ => rfl) rfl Mm rfl) ?_
    refine ra_q (.ab (i := 7) (js := [6]) [8, 9, 10, 11, 12, 13, 14, 15] rfl Kr Kr Kr Kr Kr) (SplitB.all _) (by simp) rfl rfl rfl (q_pev rfl (fun _ => rfl)) ?_
    refine ra_q (.ab (i := 8) (js := [6]) [9, 10, 11, 12, 13, 14, 15] rfl Kr Kr Kr Kr Kr) (SplitB.all _) (by simp) rfl rfl rfl (q_ldP rfl rfl (fun _ => rfl) rfl Mm rfl) ?_
    refine ra_one 6 Kr ?_
    refine rw_callG (view_Copy_spec ((γ2 n1).1) ((γ2 n1).2.1) ((γ2 n1).2.2.1) ((gt l2 n1).v)) (.an rfl rfl) (.inr (by simp [Lent.ids])) (guard_none rfl) rfl rfl rfl Kr rfl rfl Sm (.nil _) (.nil _) ?_
    intro x4
    refine ra_one 9 Kr ?_
    refine rw_callG (delta_Copy_spec ((γ2 n1).2.2.2.1) ((γ2 n1).2.2.2.2.1) ((γ2 n1).2.2.2.2.2.1) ((γ2 n1).2.2.2.2.2.2) ((gt l2 n1).d)) (.an rfl rfl) (.inr (by simp [Lent.ids])) (guard_none rfl) rfl rfl rfl Kr rfl rfl Sm (.nil _) (.nil _) ?_
    intro x5
    refine rw_qO NMail.E (e := 80) (X := x1.1) (b := x1.2) (l := zipG γ2 0 l2) Mm (.ab (i := 10) (js := []) [11, 12, 13, 14, 15] rfl Kr Kr Kr Kr Kr) rfl rfl rfl (q_idxN NMail γ2 n1 rfl rfl (fun _ => rfl) rfl (fun _ => rfl) rfl rfl rfl (.head _) rfl (fun _ => rfl) (fun _ => by first | assumption | omega | (simp only [List.length_set]; omega))) ?_
    refine ra_q (.an (i := 11) (js := []) rfl Kr Kr Kr Kr) (SplitB.all _) (by simp) rfl rfl rfl (q_fae rfl rfl (fun _ => rfl) rfl rfl) ?_
    refine ra_one 12 Kr ?_
    refine rw_le (le_freezeL EInt 3 x4.1 x4.2.1 (((gt l2 n1).v).roots) Uo) ?_
    refine rw_le (le_freezeL EPlace 35 x4.2.2.1 x4.2.2.2.1 (((gt l2 n1).v).known) Uo) ?_
    refine rw_le (le_freezeL EPlace 35 x4.2.2.2.2.1 x4.2.2.2.2.2 (((gt l2 n1).v).way) Uo) ?_
    refine rw_stON NMail γ2 l2 n1 14 (x4.1, x4.2.2.1, x4.2.2.2.2.1, (γ2 n1).2.2.2.1, (γ2 n1).2.2.2.2.1, (γ2 n1).2.2.2.2.2.1, (γ2 n1).2.2.2.2.2.2) (gt l2 n1) (e := 80) (X := x1.1) (b := x1.2) (.an rfl rfl) (.inr (fun g h => by simp [h])) (guard_none rfl) rfl rfl rfl rfl rfl rfl rfl rfl rfl rfl rfl (by first | assumption | omega | (simp only [List.length_set]; omega)) rfl Uo ?_
    refine rw_fact (F := RdL EInt ((γ2 n1).2.2.2.1) (((gt l2 n1).d).gone)) [FactsG NMail γ2 l2] Sm (fun M w h => (allF1 h) n1 (by first | assumption | omega) _ (.tail _ (.tail _ (.tail _ (.head _))))) ?_
    refine rw_fact (F := RdL EPlace ((γ2 n1).2.2.2.2.1) (((gt l2 n1).d).here)) [FactsG NMail γ2 l2] Sm (fun M w h => (allF1 h) n1 (by first | assumption | omega) _ (.tail _ (.tail _ (.tail _ (.tail _ (.head _)))))) ?_
    refine rw_fact (F := RdL EInt ((γ2 n1).2.2.2.2.2.1) (((gt l2 n1).d).wayGone)) [FactsG NMail γ2 l2] Sm (fun M w h => (allF1 h) n1 (by first | assumption | omega) _ (.tail _ (.tail _ (.tail _ (.tail _ (.tail _ (.head _))))))) ?_
    refine rw_fact (F := RdL EPlace ((γ2 n1).2.2.2.2.2.2) (((gt l2 n1).d).wayHere)) [FactsG NMail γ2 l2] Sm (fun M w h => (allF1 h) n1 (by first | assumption | omega) _ (.tail _ (.tail _ (.tail _ (.tail _ (.tail _ (.tail _ (.head _)))))))) ?_
    refine rw_fact (F := FactsG NMail (updG γ2 n1 (x4.1, x4.2.2.1, x4.2.2.2.2.1, (γ2 n1).2.2.2.1, (γ2 n1).2.2.2.2.1, (γ2 n1).2.2.2.2.2.1, (γ2 n1).2.2.2.2.2.2)) (l2.set n1 (gt l2 n1))) [FactsG NMail γ2 l2, RdL EInt x4.1 (((gt l2 n1).v).roots), RdL EPlace x4.2.2.1 (((gt l2 n1).v).known), RdL EPlace x4.2.2.2.2.1 (((gt l2 n1).v).way), RdL EInt ((γ2 n1).2.2.2.1) (((gt l2 n1).d).gone), RdL EPlace ((γ2 n1).2.2.2.2.1) (((gt l2 n1).d).here), RdL EInt ((γ2 n1).2.2.2.2.2.1) (((gt l2 n1).d).wayGone), RdL EPlace ((γ2 n1).2.2.2.2.2.2) (((gt l2 n1).d).wayHere)] Sm (fun M w h => FactsG.upd NMail (h _ (.head _)) (allF_sub Sm h)) ?_
    have hv1 : x1.1.val l2.length = x1.1.val (l2.set n1 (gt l2 n1)).length := congrArg (SlV.val x1.1) List.length_set.symm
    try rw [hv1]
    refine rw_qO NMail.E (e := 80) (X := x1.1) (b := x1.2) (l := zipG (updG γ2 n1 (x4.1, x4.2.2.1, x4.2.2.2.2.1, (γ2 n1).2.2.2.1, (γ2 n1).2.2.2.2.1, (γ2 n1).2.2.2.2.2.1, (γ2 n1).2.2.2.2.2.2)) 0 (l2.set n1 (gt l2 n1))) Mm (.ab (i := 13) (js := []) [14, 15] rfl Kr Kr Kr Kr Kr) rfl rfl rfl (q_idxN NMail (updG γ2 n1 (x4.1, x4.2.2.1, x4.2.2.2.2.1, (γ2 n1).2.2.2.1, (γ2 n1).2.2.2.2.1, (γ2 n1).2.2.2.2.2.1, (γ2 n1).2.2.2.2.2.2)) n1 rfl rfl (fun _ => rfl) rfl (fun _ => rfl) rfl rfl rfl (.head _) rfl (fun _ => rfl) (fun _ => by first | assumption | omega | (simp only [List.length_set]; omega))) ?_
    refine ra_q (.an (i := 14) (js := []) rfl Kr Kr Kr Kr) (SplitB.all _) (by simp) rfl rfl rfl (q_fae rfl rfl (fun _ => rfl) rfl rfl) ?_
    refine ra_one 15 Kr ?_
    refine rw_le (le_freezeL EInt 3 x5.1 x5.2.1 (((gt l2 n1).d).gone) Uo) ?_
    refine rw_le (le_freezeL EPlace 35 x5.2.2.1 x5.2.2.2.1 (((gt l2 n1).d).here) Uo) ?_
    refine rw_le (le_freezeL EInt 3 x5.2.2.2.2.1 x5.2.2.2.2.2.1 (((gt l2 n1).d).wayGone) Uo) ?_
    refine rw_le (le_freezeL EPlace 35 x5.2.2.2.2.2.2.1 x5.2.2.2.2.2.2.2 (((gt l2 n1).d).wayHere) Uo) ?_
    refine rw_stON2 NMail γ2 l2 n1 17 (x4.1, x4.2.2.1, x4.2.2.2.2.1, (γ2 n1).2.2.2.1, (γ2 n1).2.2.2.2.1, (γ2 n1).2.2.2.2.2.1, (γ2 n1).2.2.2.2.2.2) (gt l2 n1) (x4.1, x4.2.2.1, x4.2.2.2.2.1, x5.1, x5.2.2.1, x5.2.2.2.2.1, x5.2.2.2.2.2.2.1) (gt l2 n1) (e := 80) (X := x1.1) (b := x1.2) (.an rfl rfl) (.inr (fun g h => by simp [h])) (guard_none rfl) rfl rfl rfl rfl rfl rfl rfl rfl rfl rfl rfl (by first | assumption | omega | (simp only [List.length_set]; omega)) rfl Uo ?_
    refine rw_fact (F := FactsG NMail (updG γ2 n1 (x4.1, x4.2.2.1, x4.2.2.2.2.1, x5.1, x5.2.2.1, x5.2.2.2.2.1, x5.2.2.2.2.2.2.1)) (l2.set n1 (gt l2 n1))) [FactsG NMail γ2 l2, RdL EInt x4.1 (((gt l2 n1).v).roots), RdL EPlace x4.2.2.1 (((gt l2 n1).v).known), RdL EPlace x4.2.2.2.2.1 (((gt l2 n1).v).way), RdL EInt x5.1 (((gt l2 n1).d).gone), RdL EPlace x5.2.2.1 (((gt l2 n1).d).here), RdL EInt x5.2.2.2.2.1 (((gt l2 n1).d).wayGone), RdL EPlace x5.2.2.2.2.2.2.1 (((gt l2 n1).d).wayHere)] Sm (fun M w h => FactsG.upd NMail (h _ (.head _)) (allF_sub Sm h)) ?_
    refine ra_nil Kr ?_
    (repeat refine cw_seq ?_); refine cw_region ?_
    refine rw_q rfl rfl rfl (q_add rfl rfl (fun _ => rfl) rfl (fun _ => rfl) (fun _ => by omega)) ?_
    refine Rp rfl rfl rfl rfl ?_
    refine rw_nil ?_
    refine ⟨⟨(l2.set n1 (gt l2 n1)), (updG γ2 n1 (x4.1, x4.2.2.1, x4.2.2.2.2.1, x5.1, x5.2.2.1, x5.2.2.2.2.1, x5.2.2.2.2.2.2.1)), (n1 + 1)⟩, ⟨hlt0, (by (try simp only [List.length_set]); omega), (by rw [← hf1, drop_gt hlt0]; simp only [way_Copy_L0, cond_true, cond_false] : (way_Copy l1) = (way_Copy_L0 (l1.drop (n1 + 1)) (n1 + 1) (l2.set n1 (gt l2 n1)))).symm⟩, (by simp only []; omega), Le4⟩
  · skip
    have hge0 : l1.length ≤ n1 := by have := of_decide_eq_false hc1; omega
    (repeat refine cw_seq ?_); refine cw_exit ?_
    (repeat refine cw_seq ?_); refine cw_region ?_
    refine Rp rfl rfl rfl rfl ?_
    refine Rp rfl rfl rfl rfl ?_
    refine rw_nil ?_
    (repeat refine cw_seq ?_)
    have hr1 : (way_Copy l1) = l2 := by rw [← hf1, List.drop_of_length_le hge0]; simp only [way_Copy_L0, cond_true, cond_false]
    refine cw_ret ?_
    rw [hr1]
    exact ⟨⟨x1.1, x1.2, γ2⟩, _, (.cons (.tmp rfl) .nil), rfl, Sm, .nil _, Sp⟩
theorem way_Copy_L0_eq : ∀ (r : List Mail) (n : Nat) (l : List Mail), way_Copy_L0 r n l = l
  | [], _, _ => rfl
  | _ :: r, n, l => by
    have : l.set n (gt l n) = l := by
      by_cases h : n < l.length
      · rw [gt_eq h]; exact List.set_getElem_self h
      · exact List.set_eq_of_length_le (Nat.le_of_not_lt h)
    rw [way_Copy_L0, this]; exact way_Copy_L0_eq r (n + 1) l
theorem way_Copy_eq (l : List Mail) : way_Copy l = l := way_Copy_L0_eq l 0 l
theorem way_Copy_spec' (y1 : SlV) (l1 : List Mail) : DoesG Try.prog 150 [y1.val l1.length] [RdN NMail y1 l1] ⟨[], []⟩ (fun (X : SlV × Option Nat × (Nat → SlV × SlV × SlV × SlV × SlV × SlV × SlV)) => X.1.val l1.length) (fun (X : SlV × Option Nat × (Nat → SlV × SlV × SlV × SlV × SlV × SlV × SlV)) => [FactsG NMail X.2.2 l1]) (fun (X : SlV × Option Nat × (Nat → SlV × SlV × SlV × SlV × SlV × SlV × SlV)) => ⟨[], [ownL NMail.E 80 X.1 X.2.1 (zipG X.2.2 0 l1)]⟩) := by
  have := way_Copy_spec y1 l1
  rw [way_Copy_eq] at this
  exact this

def way_Send_U0_2 (l1 : List Mail) (m1 : Mail) : (List Mail) × Int :=
  (bif decide ((l1.length : Int) < 30) then ((l1 ++ [m1]), 0) else (l1, 0))
def way_Send_U0_1 (l1 : List Mail) (m1 : Mail) : (List Mail) × Int :=
  (bif ((way_Check [m1]) != 0) then (([] : List Mail), (way_Check [m1])) else (way_Send_U0_2 l1 m1))
def way_Send_U0_0 (l1 : List Mail) (m1 : Mail) : (List Mail) × Int :=
  (bif ((way_Check l1) != 0) then (([] : List Mail), (way_Check l1)) else (way_Send_U0_1 l1 m1))
def way_Send (l1 : List Mail) (m1 : Mail) : (List Mail) × Int :=
  (way_Send_U0_0 l1 m1)
theorem way_Send_spec (y1 : SlV) (l1 : List Mail) (y2 : SlV) (y3 : SlV) (y4 : SlV) (y5 : SlV) (y6 : SlV) (y7 : SlV) (y8 : SlV) (m1 : Mail) : Does Try.prog 66 [y1.val l1.length, .agg ⟨[.int .i64 m1.kind, .int .i64 m1.who, .int .i64 m1.life, .int .i64 m1.seq, .int .i64 m1.time, .int .i64 m1.version, .int .i64 m1.frm, .int .i64 m1.o.time, .int .i64 m1.o.who, .int .i64 m1.o.node, .int .i64 m1.o.parent, .int .i64 m1.o.name, .int .i64 m1.o.life, .int .i64 m1.o.seq, y2.val m1.v.roots.length, y3.val m1.v.known.length, y4.val m1.v.way.length, y5.val m1.d.gone.length, y6.val m1.d.here.length, y7.val m1.d.wayGone.length, y8.val m1.d.wayHere.length]⟩] [RdN NMail y1 l1, RdL EInt y2 m1.v.roots, RdL EPlace y3 m1.v.known, RdL EPlace y4 m1.v.way, RdL EInt y5 m1.d.gone, RdL EPlace y6 m1.d.here, RdL EInt y7 m1.d.wayGone, RdL EPlace y8 m1.d.wayHere] (fun (X : SlV) => .tuple #[X.val ((way_Send l1 m1).1).length, .int .i64 ((way_Send l1 m1).2)]) (fun (X : SlV) => [RdN NMail X ((way_Send l1 m1).1)]) := by
  refine does_of tab_ok Try.func66 rfl Try.ntmps66 Try.results66 rfl inferInstance (fun _ => inferInstance) fun C => ?_
  refine cw_pure (φ := l1.length * 280 ≤ 140737488355328) [RdN NMail y1 l1] Sm (fun M w h => (allF1 h).len) fun hlen1 => ?_
  refine cw_pure (φ := m1.v.roots.length * 8 ≤ 140737488355328) [RdL EInt y2 m1.v.roots] Sm (fun M w h => (allF1 h).len) fun hlen2 => ?_
  refine cw_pure (φ := m1.v.known.length * 24 ≤ 140737488355328) [RdL EPlace y3 m1.v.known] Sm (fun M w h => (allF1 h).len) fun hlen3 => ?_
  refine cw_pure (φ := m1.v.way.length * 24 ≤ 140737488355328) [RdL EPlace y4 m1.v.way] Sm (fun M w h => (allF1 h).len) fun hlen4 => ?_
  refine cw_pure (φ := m1.d.gone.length * 8 ≤ 140737488355328) [RdL EInt y5 m1.d.gone] Sm (fun M w h => (allF1 h).len) fun hlen5 => ?_
  refine cw_pure (φ := m1.d.here.length * 24 ≤ 140737488355328) [RdL EPlace y6 m1.d.here] Sm (fun M w h => (allF1 h).len) fun hlen6 => ?_
  refine cw_pure (φ := m1.d.wayGone.length * 8 ≤ 140737488355328) [RdL EInt y7 m1.d.wayGone] Sm (fun M w h => (allF1 h).len) fun hlen7 => ?_
  refine cw_pure (φ := m1.d.wayHere.length * 24 ≤ 140737488355328) [RdL EPlace y8 m1.d.wayHere] Sm (fun M w h => (allF1 h).len) fun hlen8 => ?_
  (repeat refine cw_seq ?_); refine cw_region ?_
  refine rw_box_agg .sq (guard_none rfl) rfl rfl rfl rfl rfl fun g1 => ?_
  refine Rp rfl rfl rfl rfl ?_
  refine Rp rfl rfl rfl rfl ?_
  refine rw_nil ?_
  (repeat refine cw_seq ?_); refine cw_region ?_
  refine Rp rfl rfl rfl rfl ?_
  refine rw_q rfl rfl rfl (q_ldA rfl rfl (fun _ => rfl) rfl Mm rfl) ?_
  refine rw_bsliceL NMail.E [((y2, y3, y4, y5, y6, y7, y8), m1)] .sq (guard_none rfl) rfl rfl rfl rfl rfl rfl rfl rfl rfl rfl rfl rfl rfl (fillL_one rfl rfl) rfl fun x1 x1b => ?_
  refine rw_q rfl rfl rfl (q_buildA rfl rfl (fun _ => rfl) rfl rfl rfl rfl) ?_
  refine Rp rfl rfl rfl rfl ?_
  refine rw_nil ?_
  (repeat refine cw_seq ?_); refine cw_block ?_
  refine cw_le (le_freezeL NMail.E 80 x1 x1b [((y2, y3, y4, y5, y6, y7, y8), m1)] Uo) ?_
  refine cw_fact (F := RdN NMail x1 [m1]) [RdL NMail.E x1 [((y2, y3, y4, y5, y6, y7, y8), m1)], RdL EInt y2 m1.v.roots, RdL EPlace y3 m1.v.known, RdL EPlace y4 m1.v.way, RdL EInt y5 m1.d.gone, RdL EPlace y6 m1.d.here, RdL EInt y7 m1.d.wayGone, RdL EPlace y8 m1.d.wayHere] Sm (fun M w h => RdN.of NMail (hs := [((y2, y3, y4, y5, y6, y7, y8), m1)]) rfl (h _ (.head _)) (allP_cons (allF_sub Sm h) (fun p hp => by cases hp))) ?_
  (repeat refine cw_seq ?_); refine cw_loopS [0, 3, 4, 5, 12] [true] (fun (n1 : Nat) => [(13, .v (.int .i64 (n1 : Int)))]) (fun (n1 : Nat) => []) (fun (n1 : Nat) => []) (fun (n1 : Nat) => []) (fun (n1 : Nat) => (n1 ≤ 2) ∧ (match n1 with | 0 => (way_Send_U0_0 l1 m1) | 1 => (way_Send_U0_1 l1 m1) | _ => (way_Send_U0_2 l1 m1)) = (way_Send l1 m1)) (fun (n1 : Nat) => 2 - n1) 0 (.cons rfl (.cons rfl (.cons rfl (.cons rfl (.cons rfl (.nil _)))))) (.keep (.nil)) ⟨Nat.zero_le _, (by simp only [way_Send, cond_true, cond_false] : (way_Send l1 m1) = (way_Send_U0_0 l1 m1)).symm⟩ Le4 ?_
  rintro n1 ⟨hkn1, hf1⟩
  simp only [List.cons_append, List.nil_append]
  have hkn13 : n1 = 0 ∨ n1 = 1 ∨ n1 = 2 := by omega
  rcases hkn13 with rfl | rfl | rfl
  · skip
    have hf1 : (way_Send_U0_0 l1 m1) = (way_Send l1 m1) := hf1
    (repeat refine cw_seq ?_); refine cw_region ?_
    refine Rp rfl rfl rfl rfl ?_
    refine rw_nil ?_
    (repeat refine cw_seq ?_); refine cw_cond (b := decide ((0 : Int) < 2)) rfl rfl (fun hc1 => ?_) (fun hc1 => ?_)
    · skip
      (repeat refine cw_seq ?_); refine cw_skip ?_
      (repeat refine cw_seq ?_); refine cw_block ?_
      (repeat refine cw_seq ?_); refine cw_region ?_
      refine rw_q rfl rfl rfl (q_ixL 0 rfl rfl (fun _ => rfl) rfl (fun _ => rfl) rfl rfl rfl rfl rfl) ?_
      refine Rp rfl rfl rfl rfl ?_
      refine rw_nil ?_
      (repeat refine cw_seq ?_); refine cw_region ?_
      refine Rp rfl rfl rfl rfl ?_
      refine rw_call (way_Check_spec y1 l1) .sq (guard_none rfl) rfl rfl rfl Kr rfl rfl Sm ?_
      intro _
      refine Rp rfl rfl rfl rfl ?_
      refine rw_nil ?_
      (repeat refine cw_seq ?_); refine cw_region ?_
      refine Rp rfl rfl rfl rfl ?_
      refine Rp rfl rfl rfl rfl ?_
      refine rw_nil ?_
      (repeat refine cw_seq ?_); refine cw_cond (b := ((way_Check l1) != 0)) rfl rfl (fun hc2 => ?_) (fun hc2 => ?_)
      · skip
        have hc2p := bne_iff_ne.1 hc2
        (repeat refine cw_seq ?_); refine cw_region ?_
        refine Rp rfl rfl rfl rfl ?_
        refine Rp rfl rfl rfl rfl ?_
        refine Rp rfl rfl rfl rfl ?_
        refine rw_nil ?_
        (repeat refine cw_seq ?_)
        refine cw_fact (F := RdN NMail ⟨none, 0⟩ ([] : List Mail)) [] (.nil _) (fun M w _ => RdN.nil _ M w) ?_
        have hr1 : (way_Send l1 m1) = (([] : List Mail), (way_Check l1)) := by rw [← hf1]; simp only [way_Send_U0_0, hc2, cond_true, cond_false]
        refine cw_ret ?_
        rw [hr1]
        exact ⟨(⟨none, 0⟩ : SlV), _, (.cons (.tmp rfl) (.cons (.tmp rfl) .nil)), rfl, Sm, .nil _, .nil _⟩
      · skip
        have hc2p := eq_of_bne_false hc2
        (repeat refine cw_seq ?_); refine cw_skip ?_
        (repeat refine cw_seq ?_); refine cw_region ?_
        refine rw_q rfl rfl rfl (q_add rfl rfl (fun _ => rfl) rfl (fun _ => rfl) (fun _ => by decide)) ?_
        refine Rp rfl rfl rfl rfl ?_
        refine rw_nil ?_
        refine ⟨1, ⟨by omega, (by rw [← hf1]; simp only [way_Send_U0_0, hc2, cond_true, cond_false] : (way_Send l1 m1) = (way_Send_U0_1 l1 m1)).symm⟩, (by decide), Le4⟩
    · skip
      exact Bool.noConfusion (hc1.symm.trans (decide_eq_true (by decide)))
  · skip
    have hf1 : (way_Send_U0_1 l1 m1) = (way_Send l1 m1) := hf1
    (repeat refine cw_seq ?_); refine cw_region ?_
    refine Rp rfl rfl rfl rfl ?_
    refine rw_nil ?_
    (repeat refine cw_seq ?_); refine cw_cond (b := decide ((1 : Int) < 2)) rfl rfl (fun hc3 => ?_) (fun hc3 => ?_)
    · skip
      (repeat refine cw_seq ?_); refine cw_skip ?_
      (repeat refine cw_seq ?_); refine cw_block ?_
      (repeat refine cw_seq ?_); refine cw_region ?_
      refine rw_q rfl rfl rfl (q_ixL 1 rfl rfl (fun _ => rfl) rfl (fun _ => rfl) rfl rfl rfl rfl rfl) ?_
      refine Rp rfl rfl rfl rfl ?_
      refine rw_nil ?_
      (repeat refine cw_seq ?_); refine cw_region ?_
      refine Rp rfl rfl rfl rfl ?_
      refine rw_call (way_Check_spec x1 [m1]) .sq (guard_none rfl) rfl rfl rfl Kr rfl rfl Sm ?_
      intro _
      refine Rp rfl rfl rfl rfl ?_
      refine rw_nil ?_
      (repeat refine cw_seq ?_); refine cw_region ?_
      refine Rp rfl rfl rfl rfl ?_
      refine Rp rfl rfl rfl rfl ?_
      refine rw_nil ?_
      (repeat refine cw_seq ?_); refine cw_cond (b := ((way_Check [m1]) != 0)) rfl rfl (fun hc4 => ?_) (fun hc4 => ?_)
      · skip
        have hc4p := bne_iff_ne.1 hc4
        (repeat refine cw_seq ?_); refine cw_region ?_
        refine Rp rfl rfl rfl rfl ?_
        refine Rp rfl rfl rfl rfl ?_
        refine Rp rfl rfl rfl rfl ?_
        refine rw_nil ?_
        (repeat refine cw_seq ?_)
        refine cw_fact (F := RdN NMail ⟨none, 0⟩ ([] : List Mail)) [] (.nil _) (fun M w _ => RdN.nil _ M w) ?_
        have hr2 : (way_Send l1 m1) = (([] : List Mail), (way_Check [m1])) := by rw [← hf1]; simp only [way_Send_U0_1, hc4, cond_true, cond_false]
        refine cw_ret ?_
        rw [hr2]
        exact ⟨(⟨none, 0⟩ : SlV), _, (.cons (.tmp rfl) (.cons (.tmp rfl) .nil)), rfl, Sm, .nil _, .nil _⟩
      · skip
        have hc4p := eq_of_bne_false hc4
        (repeat refine cw_seq ?_); refine cw_skip ?_
        (repeat refine cw_seq ?_); refine cw_region ?_
        refine rw_q rfl rfl rfl (q_add rfl rfl (fun _ => rfl) rfl (fun _ => rfl) (fun _ => by decide)) ?_
        refine Rp rfl rfl rfl rfl ?_
        refine rw_nil ?_
        refine ⟨2, ⟨by omega, (by rw [← hf1]; simp only [way_Send_U0_1, hc4, cond_true, cond_false] : (way_Send l1 m1) = (way_Send_U0_2 l1 m1)).symm⟩, (by decide), Le4⟩
    · skip
      exact Bool.noConfusion (hc3.symm.trans (decide_eq_true (by decide)))
  · skip
    have hf1 : (way_Send_U0_2 l1 m1) = (way_Send l1 m1) := hf1
    (repeat refine cw_seq ?_); refine cw_region ?_
    refine Rp rfl rfl rfl rfl ?_
    refine rw_nil ?_
    (repeat refine cw_seq ?_); refine cw_cond (b := decide ((2 : Int) < 2)) rfl rfl (fun hc5 => ?_) (fun hc5 => ?_)
    · skip
      exact Bool.noConfusion (hc5.symm.trans (decide_eq_false (by decide)))
    · skip
      (repeat refine cw_seq ?_); refine cw_exit ?_
      (repeat refine cw_seq ?_); refine cw_region ?_
      refine Rp rfl rfl rfl rfl ?_
      refine rw_callG (way_Copy_spec' y1 l1) .sq (.inl ⟨_, rfl⟩) (guard_none rfl) rfl rfl rfl Kr rfl rfl Sm (.nil _) (.nil _) ?_
      intro x2
      refine Rp rfl rfl rfl rfl ?_
      refine rw_nil ?_
      (repeat refine cw_seq ?_); refine cw_region ?_
      refine Rp rfl rfl rfl rfl ?_
      refine Rp rfl rfl rfl rfl ?_
      refine Rp rfl rfl rfl rfl ?_
      refine rw_nil ?_
      (repeat refine cw_seq ?_); refine cw_cond (b := decide ((l1.length : Int) < 30)) rfl rfl (fun hc6 => ?_) (fun hc6 => ?_)
      · skip
        have hc6p := of_decide_eq_true hc6
        (repeat refine cw_seq ?_); refine cw_region ?_
        refine Rp rfl rfl rfl rfl ?_
        refine rw_q rfl rfl rfl (q_ldA rfl rfl (fun _ => rfl) rfl Mm rfl) ?_
        refine rw_bsliceL NMail.E [((y2, y3, y4, y5, y6, y7, y8), m1)] .sq (guard_none rfl) rfl rfl rfl rfl rfl rfl rfl rfl rfl rfl rfl rfl rfl (fillL_one rfl rfl) rfl fun x3 x3b => ?_
        refine rw_le (le_freezeL NMail.E 80 x3 x3b [((y2, y3, y4, y5, y6, y7, y8), m1)] Uo) ?_
        refine rw_fact (F := RdN NMail x3 [m1]) [RdL NMail.E x3 [((y2, y3, y4, y5, y6, y7, y8), m1)], RdL EInt y2 m1.v.roots, RdL EPlace y3 m1.v.known, RdL EPlace y4 m1.v.way, RdL EInt y5 m1.d.gone, RdL EPlace y6 m1.d.here, RdL EInt y7 m1.d.wayGone, RdL EPlace y8 m1.d.wayHere] Sm (fun M w h => RdN.of NMail (hs := [((y2, y3, y4, y5, y6, y7, y8), m1)]) rfl (h _ (.head _)) (allP_cons (allF_sub Sm h) (fun p hp => by cases hp))) ?_
        refine rw_callG (way_Copy_spec' x3 [m1]) .sq (.inl ⟨_, rfl⟩) (guard_none rfl) rfl rfl rfl Kr rfl rfl Sm (.nil _) (.nil _) ?_
        intro x4
        refine rw_appendN NMail x2.2.2 x4.2.2 l1 [m1] (b := x2.2.1) .sq (fun _ _ => .inl ⟨_, rfl⟩) (guard_none rfl) rfl rfl rfl rfl rfl rfl rfl (fun _ _ => Uo) rfl rfl rfl rfl rfl rfl rfl (reads_ownN (e := 80) (b := x4.2.1) Mm) (by have h30 : l1.length < 30 := (by omega); exact Nat.le_trans (Nat.mul_le_mul_right 280 (Nat.succ_le_succ (Nat.le_of_lt h30))) (by decide)) fun x5 x5b => ?_
        refine rw_fact (F := FactsG NMail (appG x2.2.2 l1.length x4.2.2) (l1 ++ [m1])) [FactsG NMail x2.2.2 l1, FactsG NMail x4.2.2 [m1]] Sm (fun M w h => FactsG.app NMail (h _ (.head _)) (h _ (.tail _ (.head _)))) ?_
        refine Rp rfl rfl rfl rfl ?_
        refine rw_nil ?_
        (repeat refine cw_seq ?_); refine cw_region ?_
        refine Rp rfl rfl rfl rfl ?_
        refine Rp rfl rfl rfl rfl ?_
        refine Rp rfl rfl rfl rfl ?_
        refine rw_nil ?_
        (repeat refine cw_seq ?_)
        refine cw_le (le_freezeL NMail.E 80 x5 x5b (zipG (appG x2.2.2 l1.length x4.2.2) 0 (l1 ++ [m1])) Uo) ?_
        refine cw_fact (F := RdN NMail x5 (l1 ++ [m1])) [RdG NMail x5 (appG x2.2.2 l1.length x4.2.2) (l1 ++ [m1]), FactsG NMail (appG x2.2.2 l1.length x4.2.2) (l1 ++ [m1])] Sm (fun M w h => RdN.ofG NMail (h _ (.head _)) (h _ (.tail _ (.head _)))) ?_
        have hr3 : (way_Send l1 m1) = ((l1 ++ [m1]), 0) := by rw [← hf1]; simp only [way_Send_U0_2, hc6, cond_true, cond_false]
        refine cw_ret ?_
        rw [hr3]
        exact ⟨x5, _, (.cons (.tmp rfl) (.cons (.tmp rfl) .nil)), rfl, Sm, .nil _, .nil _⟩
      · skip
        have hc6p := of_decide_eq_false hc6
        (repeat refine cw_seq ?_); refine cw_skip ?_
        (repeat refine cw_seq ?_); refine cw_region ?_
        refine Rp rfl rfl rfl rfl ?_
        refine Rp rfl rfl rfl rfl ?_
        refine Rp rfl rfl rfl rfl ?_
        refine rw_nil ?_
        (repeat refine cw_seq ?_)
        refine cw_le (le_freezeL NMail.E 80 x2.1 x2.2.1 (zipG x2.2.2 0 l1) Uo) ?_
        refine cw_fact (F := RdN NMail x2.1 l1) [RdG NMail x2.1 x2.2.2 l1, FactsG NMail x2.2.2 l1] Sm (fun M w h => RdN.ofG NMail (h _ (.head _)) (h _ (.tail _ (.head _)))) ?_
        have hr4 : (way_Send l1 m1) = (l1, 0) := by rw [← hf1]; simp only [way_Send_U0_2, hc6, cond_true, cond_false]
        refine cw_ret ?_
        rw [hr4]
        exact ⟨x2.1, _, (.cons (.tmp rfl) (.cons (.tmp rfl) .nil)), rfl, Sm, .nil _, .nil _⟩
end Go.Proofs.Ytchdacbjiomplaa
