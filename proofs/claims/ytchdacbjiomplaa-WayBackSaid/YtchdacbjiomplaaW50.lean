/- Part of this claim. No condition. -/
import Derived.Test.YtchdacbjiomplaaW40
import Derived.Test.YtchdacbjiomplaaW41
import Derived.Test.YtchdacbjiomplaaFx
set_option linter.unusedVariables false
set_option linter.unusedSimpArgs false
namespace Go.Proofs.Ytchdacbjiomplaa
open Go Go.Proofs.Ytchdacbjiomplaa.Fw Go.Proofs
attribute [local irreducible] RdL RdN VarP
theorem slices_Delete_MailP_spec (X : SlV) (b : Option Nat) (l : List (NMail.G × Mail)) (i j : Nat) (hij : i ≤ j) (hj : j ≤ l.length) : DoesG Try.prog 74 [X.val l.length, .int .i64 (i : Int), .int .i64 (j : Int)] [] ⟨[], [ownL NMail.E 80 X b l]⟩ (fun (_ : Unit) => X.val (l.take i ++ l.drop j).length) (fun (_ : Unit) => []) (fun (_ : Unit) => ⟨[], [ownL NMail.E 80 X b (l.take i ++ l.drop j)]⟩) := by
  refine does_ofG tab_ok Try.func74 rfl Try.ntmps74 Try.results74 rfl inferInstance (fun _ => inferInstance) fun C => ?_
  refine cw_capO NMail.E (e := 80) (X := X) (b := b) (l := l) Mm fun hcap => ?_
  refine cw_lenO NMail.E (e := 80) (X := X) (b := b) (l := l) Mm fun hl63 hlby => ?_
  have hlen : (l.take i ++ l.drop j).length = i + (l.length - j) := by simp; omega
  (repeat refine cw_seq ?_); refine cw_region ?_
  refine Rp rfl rfl rfl rfl ?_
  refine rw_nil ?_
  (repeat refine cw_seq ?_); refine cw_region ?_
  iterate 5 refine Rp rfl rfl rfl rfl ?_
  refine rw_q rfl rfl rfl (q_sl3 (k0 := i) (h := j) (m := l.length) rfl rfl (fun _ => rfl) rfl (fun _ => rfl) rfl (fun _ => rfl) rfl (fun _ => rfl) rfl rfl (fun _ => rfl) (fun _ => rfl) (fun _ => rfl) (fun _ => hij) (fun _ => hj) (fun _ => hcap.1)) ?_
  refine rw_nil ?_
  (repeat refine cw_seq ?_); refine cw_region ?_
  iterate 3 refine Rp rfl rfl rfl rfl ?_
  refine rw_nil ?_
  (repeat refine cw_seq ?_); refine cw_cond (b := ((i : Int) == (j : Int))) rfl rfl (fun hc1 => ?_) (fun hc1 => ?_)
  · have hc1p := eq_of_beq hc1
    have hl1 : l.take i ++ l.drop j = l := by rw [show j = i by omega]; exact List.take_append_drop i l
    (repeat refine cw_seq ?_); refine cw_region ?_
    iterate 2 refine Rp rfl rfl rfl rfl ?_
    refine rw_nil ?_
    (repeat refine cw_seq ?_)
    refine cw_ret ?_
    rw [hl1]
    exact ⟨(), _, (.cons (.tmp rfl) .nil), rfl, .nil _, .nil _, Sp⟩
  · (repeat refine cw_seq ?_); refine cw_skip ?_
    (repeat refine cw_seq ?_); refine cw_region ?_
    iterate 3 refine Rp rfl rfl rfl rfl ?_
    refine rw_nil ?_
    (repeat refine cw_seq ?_); refine cw_regionA (fun k => match k with | 6 => some b.toList | _ => some []) ?_
    refine ra_q (.ab (i := 0) (js := [1, 3, 4, 5]) [2, 6, 7] rfl Kr Kr Kr Kr Kr) (SplitB.all _) (by simp) rfl rfl rfl (q_pev rfl (fun _ => rfl)) ?_
    refine ra_q (.ab (i := 1) (js := [3, 4, 5]) [2, 6, 7] rfl Kr Kr Kr Kr Kr) (SplitB.all _) (by simp) rfl rfl rfl (q_pev rfl (fun _ => rfl)) ?_
    refine rw_qO NMail.E (e := 80) (X := X) (b := b) (l := l) Mm (.ab (i := 2) (js := [3, 4, 5]) [6, 7] rfl Kr Kr Kr Kr Kr) rfl rfl rfl (q_take NMail.E (l := l) i rfl rfl (fun _ => rfl) rfl (fun _ => rfl) rfl rfl (.head _) (fun _ => rfl) (fun _ => by omega)) ?_
    refine ra_q (.ab (i := 3) (js := [4]) [5, 6, 7] rfl Kr Kr Kr Kr Kr) (SplitB.all _) (by simp) rfl rfl rfl (q_pev rfl (fun _ => rfl)) ?_
    refine ra_q (.ab (i := 4) (js := []) [5, 6, 7] rfl Kr Kr Kr Kr Kr) (SplitB.all _) (by simp) rfl rfl rfl (q_pev rfl (fun _ => rfl)) ?_
    refine ra_q (.ab (i := 5) (js := []) [6, 7] rfl Kr Kr Kr Kr Kr) (SplitB.all _) (by simp) rfl rfl rfl (q_drop NMail.E (l := l) (X := X) j rfl rfl (fun _ => rfl) rfl (fun _ => rfl) rfl rfl (fun _ => rfl) (fun _ => hj)) ?_
    refine ra_one 6 Kr ?_
    refine rw_appendCut NMail.E l i j (e := 80) (X := X) (b := b) (.an rfl rfl) (.inr (fun g h => by simp [h])) (guard_none rfl) rfl rfl rfl rfl rfl rfl rfl rfl rfl hij hj Uo ?_
    refine ra_q (.an (i := 7) (js := []) rfl Kr Kr Kr Kr) (SplitB.all _) (by simp) rfl rfl rfl (q_pev rfl (fun _ => rfl)) ?_
    refine ra_nil Kr ?_
    (repeat refine cw_seq ?_); refine cw_region ?_
    iterate 4 refine Rp rfl rfl rfl rfl ?_
    refine rw_q rfl rfl rfl (q_sllh (k0 := (l.take i ++ l.drop j).length) (h := l.length) rfl rfl (fun _ => rfl) rfl (fun _ => rfl) rfl (fun _ => rfl) rfl rfl (fun _ => rfl) (fun _ => rfl) (fun _ => by omega) (fun _ => hcap.1)) ?_
    refine rw_clearT NMail.E (l.take i ++ l.drop j) l.length (e := 80) (X := X) (b := b) .sq (.inl ⟨_, rfl⟩) (guard_none rfl) rfl rfl rfl rfl rfl rfl rfl rfl rfl rfl (by omega) hcap.1 Mm ?_
    refine rw_nil ?_
    (repeat refine cw_seq ?_); refine cw_region ?_
    iterate 2 refine Rp rfl rfl rfl rfl ?_
    refine rw_nil ?_
    (repeat refine cw_seq ?_)
    refine cw_ret ?_
    exact ⟨(), _, (.cons (.tmp rfl) .nil), rfl, .nil _, .nil _, Sp⟩
theorem slices_Delete_Mail_spec (X : SlV) (b : Option Nat) (γ : Nat → NMail.G) (l : List Mail) (i j : Nat) (hij : i ≤ j) (hj : j ≤ l.length) : DoesG Try.prog 74 [X.val l.length, .int .i64 (i : Int), .int .i64 (j : Int)] [] ⟨[], [ownL NMail.E 80 X b (zipG γ 0 l)]⟩ (fun (_ : Unit) => X.val (l.take i ++ l.drop j).length) (fun (_ : Unit) => []) (fun (_ : Unit) => ⟨[], [ownL NMail.E 80 X b (zipG (appG γ i (dropG γ j)) 0 (l.take i ++ l.drop j))]⟩) := by
  have := slices_Delete_MailP_spec X b (zipG γ 0 l) i j hij (by rw [zipG_len]; exact hj)
  rw [zipG_del γ l i j (by omega), zipG_len, zipG_len] at this
  exact this
theorem slices_Delete_Mail_int (X : SlV) (b : Option Nat) (γ : Nat → NMail.G) (l : List Mail) (i j : Int) (h0 : 0 ≤ i) (hij : i ≤ j) (hj : j ≤ (l.length : Int)) : DoesG Try.prog 74 [X.val l.length, .int .i64 i, .int .i64 j] [] ⟨[], [ownL NMail.E 80 X b (zipG γ 0 l)]⟩ (fun (_ : Unit) => X.val (l.take i.toNat ++ l.drop j.toNat).length) (fun (_ : Unit) => []) (fun (_ : Unit) => ⟨[], [ownL NMail.E 80 X b (zipG (appG γ i.toNat (dropG γ j.toNat)) 0 (l.take i.toNat ++ l.drop j.toNat))]⟩) := by
  have := slices_Delete_Mail_spec X b γ l i.toNat j.toNat (by omega) (by omega)
  rw [Int.toNat_of_nonneg h0, Int.toNat_of_nonneg (Int.le_trans h0 hij)] at this
  exact this

theorem slices_Clone_MailP_own (X : SlV) (b : Option Nat) (l : List (NMail.G × Mail)) (k h : Nat) (hk : k < h) (hh : h ≤ l.length) : DoesG Try.prog 73 [.slice (slA X.a X.c k NMail.E.esz) (h - k) (X.c - k)] [] ⟨[], [ownL NMail.E 80 X b l]⟩ (fun (Y : SlV × Option Nat) => Y.1.val ((l.drop k).take (h - k)).length) (fun (_ : SlV × Option Nat) => []) (fun (Y : SlV × Option Nat) => ⟨[], [ownL NMail.E 80 Y.1 Y.2 ((l.drop k).take (h - k)), ownL NMail.E 80 X b l]⟩) := by
  refine does_ofG tab_ok Try.func73 rfl Try.ntmps73 Try.results73 rfl inferInstance (fun _ => inferInstance) fun C => ?_
  have hl1 : ((l.drop k).take (h - k)).length = h - k := by simp; omega
  refine cw_lenO NMail.E (e := 80) (X := X) (b := b) (l := l) Mm fun hl63 hlby => ?_
  refine cw_someO NMail.E (e := 80) (X := X) (b := b) (l := l) Mm (by omega) fun hsome => ?_
  have hs2 : (slA X.a X.c k NMail.E.esz).isNone = false := slA_some hsome
  (repeat refine cw_seq ?_); refine cw_region ?_
  refine Rp rfl rfl rfl rfl ?_
  refine rw_nil ?_
  (repeat refine cw_seq ?_); refine cw_region ?_
  refine Rp rfl rfl rfl rfl ?_
  refine rw_q rfl rfl rfl (q_eqnil rfl rfl (fun _ => rfl) rfl) ?_
  refine rw_nil ?_
  (repeat refine cw_seq ?_); refine cw_cond rfl rfl (fun hc0 => ?_) (fun hc0 => ?_)
  · exact Bool.noConfusion (hs2.symm.trans hc0)
  · (repeat refine cw_seq ?_); refine cw_skip ?_
    (repeat refine cw_seq ?_); refine cw_region ?_
    refine rw_bsliceL NMail.E [] .sq (guard_none rfl) rfl rfl rfl rfl rfl rfl rfl rfl rfl rfl rfl rfl rfl rfl rfl fun x1 x1b => ?_
    refine Rp rfl rfl rfl rfl ?_
    refine rw_appendL NMail.E [] ((l.drop k).take (h - k)) (b := x1b) .sq (fun _ _ => .inl ⟨_, rfl⟩) (guard_none rfl) rfl rfl rfl rfl rfl rfl rfl (fun _ _ => Uo) rfl rfl rfl rfl rfl rfl rfl (by rw [hl1]; exact reads_ownC (e := 80) (X := X) (b := b) (by omega) hh Mm) (by rw [hl1]; exact Nat.le_trans (Nat.mul_le_mul_right _ (by simp; omega)) hlby) fun x2 x2b => ?_
    refine Rp rfl rfl rfl rfl ?_
    refine rw_nil ?_
    (repeat refine cw_seq ?_); refine cw_ret ?_
    exact ⟨(x2, x2b), _, (.cons (.tmp rfl) .nil), rfl, .nil _, .nil _, Sp⟩
theorem slices_Clone_Mail_own (X : SlV) (b : Option Nat) (γ : Nat → NMail.G) (l : List Mail) (k h : Nat) (hk : k < h) (hh : h ≤ l.length) : DoesG Try.prog 73 [.slice (slA X.a X.c k NMail.E.esz) (h - k) (X.c - k)] [] ⟨[], [ownL NMail.E 80 X b (zipG γ 0 l)]⟩ (fun (Y : SlV × Option Nat) => Y.1.val ((l.drop k).take (h - k)).length) (fun (_ : SlV × Option Nat) => []) (fun (Y : SlV × Option Nat) => ⟨[], [ownL NMail.E 80 Y.1 Y.2 (zipG (dropG γ k) 0 ((l.drop k).take (h - k))), ownL NMail.E 80 X b (zipG γ 0 l)]⟩) := by
  have := slices_Clone_MailP_own X b (zipG γ 0 l) k h hk (by rw [zipG_len]; exact hh)
  rw [zipG_cut γ l k (h - k), zipG_len] at this
  exact this

theorem way_Copy_own0 (X0 : SlV) (b0 : Option Nat) (γ0 : Nat → SlV × SlV × SlV × SlV × SlV × SlV × SlV) (l0 : List Mail) (k0 h0 : Nat) (hk0 : k0 < h0) (hh0 : h0 ≤ l0.length) (l1 : List Mail) (hl1 : l1 = (l0.drop k0).take (h0 - k0)) : DoesG Try.prog 150 [.slice (slA X0.a X0.c k0 NMail.E.esz) (h0 - k0) (X0.c - k0)] [FactsG NMail γ0 l0] ⟨[], [ownL NMail.E 80 X0 b0 (zipG γ0 0 l0)]⟩ (fun (X : SlV × Option Nat × (Nat → SlV × SlV × SlV × SlV × SlV × SlV × SlV)) => X.1.val (way_Copy l1).length) (fun (X : SlV × Option Nat × (Nat → SlV × SlV × SlV × SlV × SlV × SlV × SlV)) => [FactsG NMail X.2.2 (way_Copy l1)]) (fun (X : SlV × Option Nat × (Nat → SlV × SlV × SlV × SlV × SlV × SlV × SlV)) => ⟨[], [ownL NMail.E 80 X.1 X.2.1 (zipG X.2.2 0 (way_Copy l1)), ownL NMail.E 80 X0 b0 (zipG γ0 0 l0)]⟩) := by
  refine does_ofG tab_ok Try.func150 rfl Try.ntmps150 Try.results150 rfl inferInstance (fun _ => inferInstance) fun C => ?_
  have hlen0 : l1.length = h0 - k0 := by rw [hl1]; simp; omega
  refine cw_lenO NMail.E (e := 80) (X := X0) (b := b0) (l := zipG γ0 0 l0) Mm fun hl63 hlby => ?_
  have hl63 : l0.length ≤ 9223372036854775807 := Nat.le_trans (Nat.le_of_eq (zipG_len γ0 0 l0).symm) hl63
  have hlby : l0.length * 280 ≤ 140737488355328 := Nat.le_trans (Nat.le_of_eq (congrArg (· * 280) (zipG_len γ0 0 l0).symm)) hlby
  have hlen1 : l1.length * 280 ≤ 140737488355328 := Nat.le_trans (Nat.mul_le_mul_right 280 (by omega)) hlby
  (repeat refine cw_seq ?_); refine cw_region ?_
  refine Rp rfl rfl rfl rfl ?_
  refine rw_nil ?_
  (repeat refine cw_seq ?_); refine cw_region ?_
  refine Rp rfl rfl rfl rfl ?_
  refine rw_callG (slices_Clone_Mail_own X0 b0 γ0 l0 k0 h0 hk0 hh0) .sq (.inl ⟨_, rfl⟩) (guard_none rfl) rfl rfl rfl Kr rfl rfl Sm (.nil _) (.cons (.here _ _) (.nil _)) ?_
  intro x1
  simp only [← hl1, List.cons_append, List.nil_append]
  refine rw_fact (F := FactsG NMail (dropG γ0 k0) l1) [FactsG NMail γ0 l0] Sm (fun M w h => by rw [hl1]; exact FactsG.take NMail _ (FactsG.drop NMail k0 (allF1 h))) ?_
  refine Rp rfl rfl rfl rfl ?_
  refine rw_nil ?_
  (repeat refine cw_seq ?_); refine cw_region ?_
  refine Rp rfl rfl rfl rfl ?_
  refine Rp rfl rfl rfl rfl ?_
  refine Rp rfl rfl rfl rfl ?_
  refine rw_nil ?_
  (repeat refine cw_seq ?_); refine cw_block ?_
  (repeat refine cw_seq ?_); refine cw_loopS [2, 8] [] (fun (i_ : List Mail × (Nat → SlV × SlV × SlV × SlV × SlV × SlV × SlV) × Nat) => match i_ with | ⟨l2, γ2, n1⟩ => [(0, .v (x1.1.val l2.length)), (7, .v (x1.1.val l2.length)), (9, .v (.int .i64 (n1 : Int)))]) (fun (i_ : List Mail × (Nat → SlV × SlV × SlV × SlV × SlV × SlV × SlV) × Nat) => match i_ with | ⟨l2, γ2, n1⟩ => []) (fun (i_ : List Mail × (Nat → SlV × SlV × SlV × SlV × SlV × SlV × SlV) × Nat) => match i_ with | ⟨l2, γ2, n1⟩ => [ownL NMail.E 80 x1.1 x1.2 (zipG γ2 0 l2), ownL NMail.E 80 X0 b0 (zipG γ0 0 l0)]) (fun (i_ : List Mail × (Nat → SlV × SlV × SlV × SlV × SlV × SlV × SlV) × Nat) => match i_ with | ⟨l2, γ2, n1⟩ => [FactsG NMail γ2 l2]) (fun (i_ : List Mail × (Nat → SlV × SlV × SlV × SlV × SlV × SlV × SlV) × Nat) => match i_ with | ⟨l2, γ2, n1⟩ => (n1 ≤ l1.length) ∧ (l2.length = l1.length) ∧ (way_Copy_L0 (l1.drop n1) n1 l2) = (way_Copy l1)) (fun (i_ : List Mail × (Nat → SlV × SlV × SlV × SlV × SlV × SlV × SlV) × Nat) => match i_ with | ⟨l2, γ2, n1⟩ => l1.length - n1) ⟨l1, (dropG γ0 k0), 0⟩ (.cons rfl (.cons rfl (.nil _))) (.nil) ⟨Nat.zero_le _, rfl, (by simp only [way_Copy, cond_true, cond_false] : (way_Copy l1) = (way_Copy_L0 l1 0 l1)).symm⟩ Le4 ?_
  rintro ⟨l2, γ2, n1⟩ ⟨hkn1, hll, hf1⟩
  simp only [List.cons_append, List.nil_append]
  (repeat refine cw_seq ?_); refine cw_region ?_
  refine Rp rfl rfl rfl rfl ?_
  refine rw_nil ?_
  (repeat refine cw_seq ?_); refine cw_cond (b := decide ((n1 : Int) < (l1.length : Int))) rfl rfl (fun hc1 => ?_) (fun hc1 => ?_)
  · skip
    have hlt0 : n1 < l1.length := Int.ofNat_lt.1 (of_decide_eq_true hc1)
    (repeat refine cw_seq ?_); refine cw_skip ?_
    (repeat refine cw_seq ?_); refine cw_block ?_
    (repeat refine cw_seq ?_); refine cw_region ?_
    refine Rp rfl rfl rfl rfl ?_
    refine rw_qO NMail.E (e := 80) (X := x1.1) (b := x1.2) (l := zipG γ2 0 l2) Mm .sq rfl rfl rfl (q_idxN NMail γ2 n1 rfl rfl (fun _ => rfl) rfl (fun _ => rfl) rfl rfl rfl (.head _) rfl (fun _ => rfl) (fun _ => by first | assumption | omega | (simp only [List.length_set]; omega))) ?_
    refine rw_qO NMail.E (e := 80) (X := x1.1) (b := x1.2) (l := zipG γ2 0 l2) Mm .sq rfl rfl rfl (q_is (v' := .agg ⟨[.int .i64 ((gt l2 n1).kind), .int .i64 ((gt l2 n1).who), .int .i64 ((gt l2 n1).life), .int .i64 ((gt l2 n1).seq), .int .i64 ((gt l2 n1).time), .int .i64 ((gt l2 n1).version), .int .i64 ((gt l2 n1).frm), .int .i64 (((gt l2 n1).o).time), .int .i64 (((gt l2 n1).o).who), .int .i64 (((gt l2 n1).o).node), .int .i64 (((gt l2 n1).o).parent), .int .i64 (((gt l2 n1).o).name), .int .i64 (((gt l2 n1).o).life), .int .i64 (((gt l2 n1).o).seq), ((γ2 n1).1).val (((gt l2 n1).v).roots).length, ((γ2 n1).2.1).val (((gt l2 n1).v).known).length, ((γ2 n1).2.2.1).val (((gt l2 n1).v).way).length, ((γ2 n1).2.2.2.1).val (((gt l2 n1).d).gone).length, ((γ2 n1).2.2.2.2.1).val (((gt l2 n1).d).here).length, ((γ2 n1).2.2.2.2.2.1).val (((gt l2 n1).d).wayGone).length, ((γ2 n1).2.2.2.2.2.2).val (((gt l2 n1).d).wayHere).length]⟩) (q_leAN NMail γ2 rfl rfl (fun _ => rfl) rfl rfl (.head _) (fun _ => by first | assumption | omega | (simp only [List.length_set]; omega))) rfl) ?_
    refine rw_fact (F := RdL EInt ((γ2 n1).1) (((gt l2 n1).v).roots)) [FactsG NMail γ2 l2] Sm (fun M w h => (allF1 h) n1 (by first | assumption | omega) _ (.head _)) ?_
    refine rw_fact (F := RdL EPlace ((γ2 n1).2.1) (((gt l2 n1).v).known)) [FactsG NMail γ2 l2] Sm (fun M w h => (allF1 h) n1 (by first | assumption | omega) _ (.tail _ (.head _))) ?_
    refine rw_fact (F := RdL EPlace ((γ2 n1).2.2.1) (((gt l2 n1).v).way)) [FactsG NMail γ2 l2] Sm (fun M w h => (allF1 h) n1 (by first | assumption | omega) _ (.tail _ (.tail _ (.head _)))) ?_
    refine rw_fact (F := RdL EInt ((γ2 n1).2.2.2.1) (((gt l2 n1).d).gone)) [FactsG NMail γ2 l2] Sm (fun M w h => (allF1 h) n1 (by first | assumption | omega) _ (.tail _ (.tail _ (.tail _ (.head _))))) ?_
    refine rw_fact (F := RdL EPlace ((γ2 n1).2.2.2.2.1) (((gt l2 n1).d).here)) [FactsG NMail γ2 l2] Sm (fun M w h => (allF1 h) n1 (by first | assumption | omega) _ (.tail _ (.tail _ (.tail _ (.tail _ (.head _)))))) ?_
    refine rw_fact (F := RdL EInt ((γ2 n1).2.2.2.2.2.1) (((gt l2 n1).d).wayGone)) [FactsG NMail γ2 l2] Sm (fun M w h => (allF1 h) n1 (by first | assumption | omega) _ (.tail _ (.tail _ (.tail _ (.tail _ (.tail _ (.head _))))))) ?_
    refine rw_fact (F := RdL EPlace ((γ2 n1).2.2.2.2.2.2) (((gt l2 n1).d).wayHere)) [FactsG NMail γ2 l2] Sm (fun M w h => (allF1 h) n1 (by first | assumption | omega) _ (.tail _ (.tail _ (.tail _ (.tail _ (.tail _ (.tail _ (.head _)))))))) ?_
    refine rw_alloc .sq (guard_none rfl) rfl rfl rfl rfl fun g1 => ?_
    refine Rp rfl rfl rfl rfl ?_
    refine rw_stA .sq (.inl ⟨_, rfl⟩) (guard_none rfl) rfl rfl rfl rfl rfl rfl rfl rfl rfl Ub rfl ?_
    refine rw_nil ?_
    (repeat refine cw_seq ?_); refine cw_regionA (fun j => match j with | 12 => some x1.2.toList | 15 => some x1.2.toList | _ => some []) ?_
    refine ra_q (.an (i := 0) (js := [1, 2, 3, 4, 5, 6, 7, 8, 9]) rfl Kr Kr Kr Kr) (SplitB.all _) (by simp) rfl rfl rfl (q_pev rfl (fun _ => rfl)) ?_
    refine ra_q (.an (i := 1) (js := [2, 3, 4, 5, 6, 7, 8, 9]) rfl Kr Kr Kr Kr) (SplitB.all _) (by simp) rfl rfl rfl (q_pev rfl (fun _ => rfl)) ?_
    refine ra_q (.an (i := 2) (js := [3, 4, 5, 6, 7, 8, 9, 10, 11, 12]) rfl Kr Kr Kr Kr) (SplitB.all _) (by intro g hg; simp only [List.mem_append, List.mem_singleton, List.not_mem_nil, or_false, false_or, Option.mem_toList, Option.mem_def, List.append_nil] at hg; first | exact .inr ⟨ownL NMail.E 80 x1.1 x1.2 (zipG γ2 0 l2), Mm, hg⟩) rfl rfl rfl (q_pev rfl (fun _ => rfl)) ?_
    refine ra_q (.an (i := 3) (js := [4, 5, 6, 7, 8, 9, 10, 11, 12]) rfl Kr Kr Kr Kr) (SplitB.all _) (by intro g hg; simp only [List.mem_append, List.mem_singleton, List.not_mem_nil, or_false, false_or, Option.mem_toList, Option.mem_def, List.append_nil] at hg; first | exact .inr ⟨ownL NMail.E 80 x1.1 x1.2 (zipG γ2 0 l2), Mm, hg⟩) rfl rfl rfl (q_pev rfl (fun _ => rfl)) ?_
    refine ra_q (.ab (i := 4) (js := [7, 8]) [5, 6, 9, 10, 11, 12, 13, 14, 15] rfl Kr Kr Kr Kr Kr) (SplitB.all _) (by simp) rfl rfl rfl (q_pev rfl (fun _ => rfl)) ?_
    refine ra_q (.ab (i := 5) (js := [7, 8]) [6, 9, 10, 11, 12, 13, 14, 15] rfl Kr Kr Kr Kr Kr) (SplitB.all _) (by simp) rfl rfl rfl (q_ldP rfl rfl (fun _ => rfl) rfl Mm rfl) ?_
    refine ra_q (.ab (i := 7) (js := [6]) [8, 9, 10, 11, 12, 13, 14, 15] rfl Kr Kr Kr Kr Kr) (SplitB.all _) (by simp) rfl rfl rfl (q_pev rfl (fun _ => rfl)) ?_
    refine ra_q (.ab (i := 8) (js := [6]) [9, 10, 11, 12, 13, 14, 15] rfl Kr Kr Kr Kr Kr) (SplitB.all _) (by simp) rfl rfl rfl (q_ldP rfl rfl (fun _ => rfl) rfl Mm rfl) ?_
    refine ra_one 6 Kr ?_
    refine rw_callG (view_Copy_spec ((γ2 n1).1) ((γ2 n1).2.1) ((γ2 n1).2.2.1) ((gt l2 n1).v)) (.an rfl rfl) (.inr (by simp [Lent.ids])) (guard_none rfl) rfl rfl rfl Kr rfl rfl Sm (.nil _) (.nil _) ?_
    intro x4
    refine ra_one 9 Kr ?_
    refine rw_callG (delta_Copy_spec ((γ2 n1).2.2.2.1) ((γ2 n1).2.2.2.2.1) ((γ2 n1).2.2.2.2.2.1) ((γ2 n1).2.2.2.2.2.2) ((gt l2 n1).d)) (.an rfl rfl) (.inr (by simp [Lent.ids])) (guard_none rfl) rfl rfl rfl Kr rfl rfl Sm (.nil _) (.nil _) ?_
    intro x5
    refine rw_qO NMail.E (e := 80) (X := x1.1) (b := x1.2) (l := zipG γ2 0 l2) Mm (.ab (i := 10) (js := []) [11, 12, 13, 14, 15] rfl Kr Kr Kr Kr Kr) rfl rfl rfl (q_idxN NMail γ2 n1 rfl rfl (fun _ => rfl) rfl (fun _ => rfl) rfl rfl rfl (.head _) rfl (fun _ => rfl) (fun _ => by first | assumption | omega | (simp only [List.length_set]; omega))) ?_
    refine ra_q (.an (i := 11) (js := []) rfl Kr Kr Kr Kr) (SplitB.all _) (by simp) rfl rfl rfl (q_fae rfl rfl (fun _ => rfl) rfl rfl) ?_
    refine ra_one 12 Kr ?_
    refine rw_le (le_freezeL EInt 3 x4.1 x4.2.1 (((gt l2 n1).v).roots) Uo) ?_
    refine rw_le (le_freezeL EPlace 35 x4.2.2.1 x4.2.2.2.1 (((gt l2 n1).v).known) Uo) ?_
    refine rw_le (le_freezeL EPlace 35 x4.2.2.2.2.1 x4.2.2.2.2.2 (((gt l2 n1).v).way) Uo) ?_
    refine rw_stON NMail γ2 l2 n1 14 (x4.1, x4.2.2.1, x4.2.2.2.2.1, (γ2 n1).2.2.2.1, (γ2 n1).2.2.2.2.1, (γ2 n1).2.2.2.2.2.1, (γ2 n1).2.2.2.2.2.2) (gt l2 n1) (e := 80) (X := x1.1) (b := x1.2) (.an rfl rfl) (.inr (fun g h => by simp [h])) (guard_none rfl) rfl rfl rfl rfl rfl rfl rfl rfl rfl rfl rfl (by first | assumption | omega | (simp only [List.length_set]; omega)) rfl Uo ?_
    refine rw_fact (F := RdL EInt ((γ2 n1).2.2.2.1) (((gt l2 n1).d).gone)) [FactsG NMail γ2 l2] Sm (fun M w h => (allF1 h) n1 (by first | assumption | omega) _ (.tail _ (.tail _ (.tail _ (.head _))))) ?_
    refine rw_fact (F := RdL EPlace ((γ2 n1).2.2.2.2.1) (((gt l2 n1).d).here)) [FactsG NMail γ2 l2] Sm (fun M w h => (allF1 h) n1 (by first | assumption | omega) _ (.tail _ (.tail _ (.tail _ (.tail _ (.head _)))))) ?_
    refine rw_fact (F := RdL EInt ((γ2 n1).2.2.2.2.2.1) (((gt l2 n1).d).wayGone)) [FactsG NMail γ2 l2] Sm (fun M w h => (allF1 h) n1 (by first | assumption | omega) _ (.tail _ (.tail _ (.tail _ (.tail _ (.tail _ (.head _))))))) ?_
    refine rw_fact (F := RdL EPlace ((γ2 n1).2.2.2.2.2.2) (((gt l2 n1).d).wayHere)) [FactsG NMail γ2 l2] Sm (fun M w h => (allF1 h) n1 (by first | assumption | omega) _ (.tail _ (.tail _ (.tail _ (.tail _ (.tail _ (.tail _ (.head _)))))))) ?_
    refine rw_fact (F := FactsG NMail (updG γ2 n1 (x4.1, x4.2.2.1, x4.2.2.2.2.1, (γ2 n1).2.2.2.1, (γ2 n1).2.2.2.2.1, (γ2 n1).2.2.2.2.2.1, (γ2 n1).2.2.2.2.2.2)) (l2.set n1 (gt l2 n1))) [FactsG NMail γ2 l2, RdL EInt x4.1 (((gt l2 n1).v).roots), RdL EPlace x4.2.2.1 (((gt l2 n1).v).known), RdL EPlace x4.2.2.2.2.1 (((gt l2 n1).v).way), RdL EInt ((γ2 n1).2.2.2.1) (((gt l2 n1).d).gone), RdL EPlace ((γ2 n1).2.2.2.2.1) (((gt l2 n1).d).here), RdL EInt ((γ2 n1).2.2.2.2.2.1) (((gt l2 n1).d).wayGone), RdL EPlace ((γ2 n1).2.2.2.2.2.2) (((gt l2 n1).d).wayHere)] Sm (fun M w h => FactsG.upd NMail (h _ (.head _)) (allF_sub Sm h)) ?_
    have hv1 : x1.1.val l2.length = x1.1.val (l2.set n1 (gt l2 n1)).length := congrArg (SlV.val x1.1) List.length_set.symm
    try rw [hv1]
    refine rw_qO NMail.E (e := 80) (X := x1.1) (b := x1.2) (l := zipG (updG γ2 n1 (x4.1, x4.2.2.1, x4.2.2.2.2.1, (γ2 n1).2.2.2.1, (γ2 n1).2.2.2.2.1, (γ2 n1).2.2.2.2.2.1, (γ2 n1).2.2.2.2.2.2)) 0 (l2.set n1 (gt l2 n1))) Mm (.ab (i := 13) (js := []) [14, 15] rfl Kr Kr Kr Kr Kr) rfl rfl rfl (q_idxN NMail (updG γ2 n1 (x4.1, x4.2.2.1, x4.2.2.2.2.1, (γ2 n1).2.2.2.1, (γ2 n1).2.2.2.2.1, (γ2 n1).2.2.2.2.2.1, (γ2 n1).2.2.2.2.2.2)) n1 rfl rfl (fun _ => rfl) rfl (fun _ => rfl) rfl rfl rfl (.head _) rfl (fun _ => rfl) (fun _ => by first | assumption | omega | (simp only [List.length_set]; omega))) ?_
    refine ra_q (.an (i := 14) (js := []) rfl Kr Kr Kr Kr) (SplitB.all _) (by simp) rfl rfl rfl (q_fae rfl rfl (fun _ => rfl) rfl rfl) ?_
    refine ra_one 15 Kr ?_
    refine rw_le (le_freezeL EInt 3 x5.1 x5.2.1 (((gt l2 n1).d).gone) Uo) ?_
    refine rw_le (le_freezeL EPlace 35 x5.2.2.1 x5.2.2.2.1 (((gt l2 n1).d).here) Uo) ?_
    refine rw_le (le_freezeL EInt 3 x5.2.2.2.2.1 x5.2.2.2.2.2.1 (((gt l2 n1).d).wayGone) Uo) ?_
    refine rw_le (le_freezeL EPlace 35 x5.2.2.2.2.2.2.1 x5.2.2.2.2.2.2.2 (((gt l2 n1).d).wayHere) Uo) ?_
    refine rw_stON2 NMail γ2 l2 n1 17 (x4.1, x4.2.2.1, x4.2.2.2.2.1, (γ2 n1).2.2.2.1, (γ2 n1).2.2.2.2.1, (γ2 n1).2.2.2.2.2.1, (γ2 n1).2.2.2.2.2.2) (gt l2 n1) (x4.1, x4.2.2.1, x4.2.2.2.2.1, x5.1, x5.2.2.1, x5.2.2.2.2.1, x5.2.2.2.2.2.2.1) (gt l2 n1) (e := 80) (X := x1.1) (b := x1.2) (.an rfl rfl) (.inr (fun g h => by simp [h])) (guard_none rfl) rfl rfl rfl rfl rfl rfl rfl rfl rfl rfl rfl (by first | assumption | omega | (simp only [List.length_set]; omega)) rfl Uo ?_
    refine rw_fact (F := FactsG NMail (updG γ2 n1 (x4.1, x4.2.2.1, x4.2.2.2.2.1, x5.1, x5.2.2.1, x5.2.2.2.2.1, x5.2.2.2.2.2.2.1)) (l2.set n1 (gt l2 n1))) [FactsG NMail γ2 l2, RdL EInt x4.1 (((gt l2 n1).v).roots), RdL EPlace x4.2.2.1 (((gt l2 n1).v).known), RdL EPlace x4.2.2.2.2.1 (((gt l2 n1).v).way), RdL EInt x5.1 (((gt l2 n1).d).gone), RdL EPlace x5.2.2.1 (((gt l2 n1).d).here), RdL EInt x5.2.2.2.2.1 (((gt l2 n1).d).wayGone), RdL EPlace x5.2.2.2.2.2.2.1 (((gt l2 n1).d).wayHere)] Sm (fun M w h => FactsG.upd NMail (h _ (.head _)) (allF_sub Sm h)) ?_
    refine ra_nil Kr ?_
    (repeat refine cw_seq ?_); refine cw_region ?_
    refine rw_q rfl rfl rfl (q_add rfl rfl (fun _ => rfl) rfl (fun _ => rfl) (fun _ => by omega)) ?_
    refine Rp rfl rfl rfl rfl ?_
    refine rw_nil ?_
    refine ⟨⟨(l2.set n1 (gt l2 n1)), (updG γ2 n1 (x4.1, x4.2.2.1, x4.2.2.2.2.1, x5.1, x5.2.2.1, x5.2.2.2.2.1, x5.2.2.2.2.2.2.1)), (n1 + 1)⟩, ⟨hlt0, (by (try simp only [List.length_set]); omega), (by rw [← hf1, drop_gt hlt0]; simp only [way_Copy_L0, cond_true, cond_false] : (way_Copy l1) = (way_Copy_L0 (l1.drop (n1 + 1)) (n1 + 1) (l2.set n1 (gt l2 n1)))).symm⟩, (by simp only []; omega), Le4⟩
  · skip
    have hge0 : l1.length ≤ n1 := by have := of_decide_eq_false hc1; omega
    (repeat refine cw_seq ?_); refine cw_exit ?_
    (repeat refine cw_seq ?_); refine cw_region ?_
    refine Rp rfl rfl rfl rfl ?_
    refine Rp rfl rfl rfl rfl ?_
    refine rw_nil ?_
    (repeat refine cw_seq ?_)
    have hr1 : (way_Copy l1) = l2 := by rw [← hf1, List.drop_of_length_le hge0]; simp only [way_Copy_L0, cond_true, cond_false]
    refine cw_ret ?_
    rw [hr1]
    exact ⟨⟨x1.1, x1.2, γ2⟩, _, (.cons (.tmp rfl) .nil), rfl, Sm, .nil _, Sp⟩
theorem way_Copy_own (X0 : SlV) (b0 : Option Nat) (γ0 : Nat → SlV × SlV × SlV × SlV × SlV × SlV × SlV) (l0 : List Mail) (k0 h0 : Nat) (hk0 : k0 < h0) (hh0 : h0 ≤ l0.length) : DoesG Try.prog 150 [.slice (slA X0.a X0.c k0 NMail.E.esz) (h0 - k0) (X0.c - k0)] [FactsG NMail γ0 l0] ⟨[], [ownL NMail.E 80 X0 b0 (zipG γ0 0 l0)]⟩ (fun (X : SlV × Option Nat × (Nat → SlV × SlV × SlV × SlV × SlV × SlV × SlV)) => X.1.val ((l0.drop k0).take (h0 - k0)).length) (fun (X : SlV × Option Nat × (Nat → SlV × SlV × SlV × SlV × SlV × SlV × SlV)) => [FactsG NMail X.2.2 ((l0.drop k0).take (h0 - k0))]) (fun (X : SlV × Option Nat × (Nat → SlV × SlV × SlV × SlV × SlV × SlV × SlV)) => ⟨[], [ownL NMail.E 80 X.1 X.2.1 (zipG X.2.2 0 ((l0.drop k0).take (h0 - k0))), ownL NMail.E 80 X0 b0 (zipG γ0 0 l0)]⟩) := by
  have := way_Copy_own0 X0 b0 γ0 l0 k0 h0 hk0 hh0 _ rfl
  rw [way_Copy_eq] at this
  exact this
end Go.Proofs.Ytchdacbjiomplaa
