/- Part of this claim. No condition. -/
import Derived.Test.YtaiefncoholnnaaDoorY20
set_option linter.unusedVariables false
set_option linter.unusedSimpArgs false
set_option maxHeartbeats 2000000
namespace Go.Proofs.YtaiefncoholnnaaDoor
open Go Go.Proofs.YtaiefncoholnnaaDoor.Fw Go.Proofs
attribute [local irreducible] RdL RdN VarP LibP RW CW
theorem slices_Grow_Rec_spec (y : SlV) (l : List Rec) (n : Int) (hy : y = ⟨none, 0⟩ ∧ l = []) (hn : 0 ≤ n ∧ n * 104 ≤ 140737488355328) : DoesG Tryd.prog 47 [y.val l.length, .int .i64 n] [RdN NRec y l] ⟨[], []⟩ (fun (X : SlV × Option Nat × (Nat → SlV)) => X.1.val ([] : List Rec).length) (fun (X : SlV × Option Nat × (Nat → SlV)) => [FactsG NRec X.2.2 ([] : List Rec)]) (fun (X : SlV × Option Nat × (Nat → SlV)) => ⟨[], [ownL NRec.E 28 X.1 X.2.1 (zipG X.2.2 0 ([] : List Rec))]⟩) := by
  obtain ⟨hy1, hy2⟩ := hy
  subst hy1; subst hy2
  obtain ⟨k, rfl⟩ : ∃ k : Nat, n = k := ⟨n.toNat, by omega⟩
  refine does_ofG tab_ok Tryd.func47 rfl Tryd.ntmps47 Tryd.results47 rfl inferInstance (fun _ => inferInstance) fun C => ?_
  refine cw_le (le_nilL NRec.E 28) ?_
  refine Tx ?_
  refine Cd (b := decide ((k : Int) < 0)) (fun hc => ?_) fun hc => ?_
  · exact absurd (of_decide_eq_true hc) (by omega)
  · refine Tx ?_
    refine rw_q rfl rfl rfl (q_cap rfl rfl (fun _ => rfl) rfl) ?_
    refine Tx ?_
    refine rw_q rfl rfl rfl (q_is (v' := .int .i64 0) (q_sub rfl rfl (fun _ => rfl) rfl (fun _ => rfl) (fun _ => by decide)) rfl) ?_
    refine rw_q rfl rfl rfl (q_is (v' := .int .i64 (k : Int)) (q_sub rfl rfl (fun _ => rfl) rfl (fun _ => rfl) (fun _ => by omega)) (by simp)) ?_
    refine Tx ?_
    refine Cd (b := decide ((k : Int) > 0)) (fun hc1 => ?_) fun hc1 => ?_
    · have hk := of_decide_eq_true hc1
      refine Tx ?_
      refine rw_q rfl rfl rfl (q_cap rfl rfl (fun _ => rfl) rfl) ?_
      refine rw_q rfl rfl rfl (q_slhi (h := 0) rfl rfl (fun _ => rfl) rfl (fun _ => rfl) rfl rfl (fun _ => rfl) (fun _ => Nat.le_refl _)) ?_
      refine Rp rfl rfl rfl rfl ?_
      refine rw_appendZ (n := k) (e := 28) (by_ := 104) .sq (guard_none rfl) rfl rfl rfl rfl rfl rfl rfl rfl und_3 (fun _ _ _ => .here _ _ _) rfl rfl rfl rfl rfl rfl (by omega) (by omega) (by omega) fun x1 b1 zs => ?_
      refine Tx ?_
      refine rw_takeO (k := 0) .sq (guard_none rfl) rfl rfl rfl rfl rfl rfl rfl rfl rfl (.here _ _ _) rfl (Nat.zero_le _) ?_
      refine Tx ?_
      (repeat refine cw_seq ?_); refine cw_fact (F := FactsG NRec (fun _ => default) ([] : List Rec)) [] (.nil _) (fun M w _ => FactsG.nil NRec _ M w) ?_; refine cw_ret ?_
      exact ⟨(x1, b1, fun _ => default), _, (.cons (.tmp rfl) .nil), rfl, Sm, .nil _, Sp⟩
    · refine Tx ?_
      (repeat refine cw_seq ?_); refine cw_fact (F := FactsG NRec (fun _ => default) ([] : List Rec)) [] (.nil _) (fun M w _ => FactsG.nil NRec _ M w) ?_; refine cw_ret ?_
      exact ⟨(⟨none, 0⟩, none, fun _ => default), _, (.cons (.tmp rfl) .nil), rfl, Sm, .nil _, Sp⟩

def slices_Concat_Rec_L1  : List (List Rec) → (List Rec) → (List Rec)
  | [], newslice1 => newslice1
  | pn2 :: rn2, newslice1 => (slices_Concat_Rec_L1 rn2 (newslice1 ++ pn2))
def slices_Concat_Rec_L0 (slices1 : List (List Rec)) : List (List Rec) → Nat → (List Rec)
  | [], size1 => (slices_Concat_Rec_L1 slices1 ([] : List Rec))
  | pn1 :: rn1, size1 => (bif decide (((size1 : Int) + (pn1.length : Int)) < 0) then [] else (slices_Concat_Rec_L0 slices1 rn1 (size1 + pn1.length)))
def slices_Concat_Rec (slices1 : List (List Rec)) : List Rec :=
  (slices_Concat_Rec_L0 slices1 slices1 0)
theorem slices_Concat_Rec_spec (y1 : SlV) (slices1 : List (List Rec)) (hct : slices1.flatten.length * 104 ≤ 140737488355328) : DoesG Tryd.prog 23 [y1.val slices1.length] [RdN NRecs y1 slices1] ⟨[], []⟩ (fun (X : SlV × Option Nat × (Nat → SlV)) => X.1.val (slices_Concat_Rec slices1).length) (fun (X : SlV × Option Nat × (Nat → SlV)) => [FactsG NRec X.2.2 (slices_Concat_Rec slices1)]) (fun (X : SlV × Option Nat × (Nat → SlV)) => ⟨[], [ownL NRec.E 28 X.1 X.2.1 (zipG X.2.2 0 (slices_Concat_Rec slices1))]⟩) := by
  refine does_ofG tab_ok Tryd.func23 rfl Tryd.ntmps23 Tryd.results23 rfl inferInstance (fun _ => inferInstance) fun C => ?_
  refine Pn NRecs y1 slices1 24 fun hlen1 => ?_
  refine Tx ?_
  (repeat refine cw_seq ?_); refine Lp [0,2,9,10] [] (fun (i_ : Nat × Nat) => match i_ with | ⟨size1, n1⟩ => (⟨[(3, .v (.int .i64 (size1 : Int))), (11, .v (.int .i64 (n1 : Int)))], [], [], [], (n1 ≤ slices1.length) ∧ (size1 = ((slices1.take n1).flatten.length : Int)) ∧ (slices_Concat_Rec_L0 slices1 (slices1.drop n1) size1) = (slices_Concat_Rec slices1), slices1.length - n1⟩ : Ls)) ⟨0, 0⟩ (Sc (Sc (Sc (Sc Sn)))) (.nil) ⟨Nat.zero_le _, (by simp), (by simp only [slices_Concat_Rec, cond_true, cond_false] : (slices_Concat_Rec slices1) = (slices_Concat_Rec_L0 slices1 slices1 0)).symm⟩ Le4 ?_
  rintro ⟨size1, n1⟩ ⟨hkn1, hsz, hf1⟩
  simp only [List.cons_append, List.nil_append]
  refine Tx ?_
  refine Cd (b := decide ((n1 : Int) < (slices1.length : Int))) (fun hc1 => ?_) fun hc1 => ?_
  · have hlt0 : n1 < slices1.length := Int.ofNat_lt.1 (of_decide_eq_true hc1)
    refine Tx ?_
    refine rw_exN NRecs (X := y1) (l := slices1) Mm fun (γ1 : Nat → SlV) => ?_
    refine rw_q rfl rfl rfl (q_idxN NRecs γ1 n1 rfl rfl (fun _ => rfl) rfl (fun _ => rfl) rfl rfl rfl Mm rfl (fun _ => rfl) (fun _ => by first | assumption | omega)) ?_
    refine rw_q rfl rfl rfl (q_le1N NRecs γ1 (v := (γ1 n1).val (gt slices1 n1).length) rfl rfl (fun _ => rfl) rfl rfl Mm (fun _ => by first | assumption | omega) rfl) ?_
    refine rw_fact (F := RdN NRec (γ1 n1) (gt slices1 n1)) [FactsG NRecs γ1 slices1] Sm (fun M w h => (allF1 h) n1 (by first | assumption | omega) _ (.head _)) ?_
    refine Tx ?_
    refine rw_q rfl rfl rfl (q_add rfl rfl (fun _ => rfl) rfl (fun _ => rfl) (fun _ => by have := (cat_step slices1 hlt0).2; omega)) ?_
    refine Tx ?_
    refine Cd (b := decide (((size1 : Int) + ((gt slices1 n1).length : Int)) < 0)) (fun hc2 => ?_) fun hc2 => ?_
    · have hc2p := of_decide_eq_true hc2
      exact absurd (of_decide_eq_true hc2) (by omega)
    · have hc2p := of_decide_eq_false hc2
      refine Tx ?_
      refine rw_q rfl rfl rfl (q_add rfl rfl (fun _ => rfl) rfl (fun _ => rfl) (fun _ => by omega)) ?_
      refine Tx ?_
      refine ⟨⟨(size1 + (gt slices1 n1).length), (n1 + 1)⟩, ⟨hlt0, (by rw [(cat_step slices1 hlt0).1, List.length_append]; simp only [hsz]; omega), (by rw [← hf1, drop_gt hlt0]; simp only [slices_Concat_Rec_L0, hc2, cond_true, cond_false] : (slices_Concat_Rec slices1) = (slices_Concat_Rec_L0 slices1 (slices1.drop (n1 + 1)) (size1 + (gt slices1 n1).length))).symm⟩, (by simp only []; omega), Le4⟩
  · have hge0 : slices1.length ≤ n1 := by have := of_decide_eq_false hc1; omega
    refine Tx ?_
    refine rw_fact (F := RdN NRec ⟨none, 0⟩ ([] : List Rec)) [] (.nil _) (fun M w _ => RdN.nil _ M w) ?_
    refine Cg (slices_Grow_Rec_spec (⟨none, 0⟩ : SlV) ([] : List Rec) (size1 : Int) ⟨rfl, rfl⟩ (by have h_ : (slices1.take n1).flatten.length ≤ slices1.flatten.length := (by rw [List.take_of_length_le hge0]; exact Nat.le_refl _); omega)) fun x1 => ?_
    refine Tx ?_
    (repeat refine cw_seq ?_); refine Lp [2,25,26] [] (fun (i_ : List Rec × SlV × Option Nat × (Nat → SlV) × Nat) => match i_ with | ⟨newslice1, x2, x2b, γ2, n2⟩ => (⟨[(6, .v (x2.val newslice1.length)), (27, .v (.int .i64 (n2 : Int)))], [], [ownL NRec.E 28 x2 x2b (zipG γ2 0 newslice1)], [FactsG NRec γ2 newslice1], (n2 ≤ slices1.length) ∧ (newslice1.length = (slices1.take n2).flatten.length) ∧ (slices_Concat_Rec_L1 (slices1.drop n2) newslice1) = (slices_Concat_Rec slices1), slices1.length - n2⟩ : Ls)) ⟨([] : List Rec), x1.1, x1.2.1, x1.2.2, 0⟩ (Sc (Sc (Sc Sn))) (.nil) ⟨Nat.zero_le _, (by simp), (by rw [← hf1, List.drop_of_length_le hge0]; simp only [slices_Concat_Rec_L0, cond_true, cond_false] : (slices_Concat_Rec slices1) = (slices_Concat_Rec_L1 slices1 ([] : List Rec))).symm⟩ Le4 ?_
    rintro ⟨newslice1, x2, x2b, γ2, n2⟩ ⟨hkn2, hnl, hf2⟩
    simp only [List.cons_append, List.nil_append]
    refine Tx ?_
    refine Cd (b := decide ((n2 : Int) < (slices1.length : Int))) (fun hc3 => ?_) fun hc3 => ?_
    · have hlt1 : n2 < slices1.length := Int.ofNat_lt.1 (of_decide_eq_true hc3)
      refine Tx ?_
      refine rw_exN NRecs (X := y1) (l := slices1) Mm fun (γ3 : Nat → SlV) => ?_
      refine rw_q rfl rfl rfl (q_idxN NRecs γ3 n2 rfl rfl (fun _ => rfl) rfl (fun _ => rfl) rfl rfl rfl Mm rfl (fun _ => rfl) (fun _ => by first | assumption | omega)) ?_
      refine rw_q rfl rfl rfl (q_le1N NRecs γ3 (v := (γ3 n2).val (gt slices1 n2).length) rfl rfl (fun _ => rfl) rfl rfl Mm (fun _ => by first | assumption | omega) rfl) ?_
      refine rw_fact (F := RdN NRec (γ3 n2) (gt slices1 n2)) [FactsG NRecs γ3 slices1] Sm (fun M w h => (allF1 h) n2 (by first | assumption | omega) _ (.head _)) ?_
      refine Tx ?_
      refine rw_exN NRec (X := (γ3 n2)) (l := (gt slices1 n2)) Mm fun (γ4 : Nat → SlV) => ?_
      refine rw_appendN NRec γ2 γ4 newslice1 (gt slices1 n2) (b := x2b) .sq (fun _ _ => .inl ⟨_, rfl⟩) (guard_none rfl) rfl rfl rfl rfl rfl rfl rfl (fun _ _ => Uo) rfl rfl rfl rfl rfl rfl rfl (reads_rdN (EN := NRec) (X := (γ3 n2)) (γ := γ4) (l := (gt slices1 n2)) Mm) (by have := (cat_step slices1 hlt1).2; show (_ + _) * 104 ≤ _; omega) fun x3 x3b => ?_
      refine rw_fact (F := FactsG NRec (appG γ2 newslice1.length γ4) (newslice1 ++ (gt slices1 n2))) [FactsG NRec γ2 newslice1, FactsG NRec γ4 (gt slices1 n2)] Sm (fun M w h => FactsG.app NRec (h _ (.head _)) (h _ (.tail _ (.head _)))) ?_
      refine Tx ?_
      refine rw_q rfl rfl rfl (q_add rfl rfl (fun _ => rfl) rfl (fun _ => rfl) (fun _ => by omega)) ?_
      refine Tx ?_
      refine ⟨⟨(newslice1 ++ (gt slices1 n2)), x3, x3b, (appG γ2 newslice1.length γ4), (n2 + 1)⟩, ⟨hlt1, (by rw [(cat_step slices1 hlt1).1]; simp only [List.length_append]; omega), (by rw [← hf2, drop_gt hlt1]; simp only [slices_Concat_Rec_L1, cond_true, cond_false] : (slices_Concat_Rec slices1) = (slices_Concat_Rec_L1 (slices1.drop (n2 + 1)) (newslice1 ++ (gt slices1 n2)))).symm⟩, (by simp only []; omega), Le4⟩
    · have hge1 : slices1.length ≤ n2 := by have := of_decide_eq_false hc3; omega
      refine Tx ?_
      have hr1 : (slices_Concat_Rec slices1) = newslice1 := by rw [← hf2, List.drop_of_length_le hge1]; simp only [slices_Concat_Rec_L1, cond_true, cond_false]
      refine cw_ret ?_; rw [hr1]; exact Re ⟨x2, x2b, γ2⟩ (Vt Vn)
theorem slices_Concat_Rec_eq (ls : List (List Rec)) : slices_Concat_Rec ls = ls.flatten := by
  have h1 : ∀ (l : List (List Rec)) (acc : List Rec), slices_Concat_Rec_L1 l acc = acc ++ l.flatten := by
    intro l
    induction l with
    | nil => intro acc; simp [slices_Concat_Rec_L1]
    | cons a r ih => intro acc; rw [slices_Concat_Rec_L1, ih]; simp
  have h0 : ∀ (l : List (List Rec)) (k : Nat), slices_Concat_Rec_L0 ls l k = slices_Concat_Rec_L1 ls [] := by
    intro l
    induction l with
    | nil => intro k; rfl
    | cons a r ih =>
      intro k
      have : decide (((k : Int) + (a.length : Int)) < 0) = false := by simp; omega
      rw [slices_Concat_Rec_L0, this, cond_false, ih]
  rw [slices_Concat_Rec, h0, h1, List.nil_append]
theorem slices_Concat_Rec_spec' (y1 : SlV) (ls : List (List Rec)) (hct : ls.flatten.length * 104 ≤ 140737488355328) : DoesG Tryd.prog 23 [y1.val ls.length] [RdN NRecs y1 ls] ⟨[], []⟩ (fun (X : SlV × Option Nat × (Nat → SlV)) => X.1.val ls.flatten.length) (fun (X : SlV × Option Nat × (Nat → SlV)) => [FactsG NRec X.2.2 ls.flatten]) (fun (X : SlV × Option Nat × (Nat → SlV)) => ⟨[], [ownL NRec.E 28 X.1 X.2.1 (zipG X.2.2 0 ls.flatten)]⟩) := by
  have := slices_Concat_Rec_spec y1 ls hct
  rw [slices_Concat_Rec_eq] at this
  exact this

def slices_EqualFunc_Rec_L0 (s2 : List Rec) (eq1 : Rec → Rec → Bool) : List Rec → Nat → Bool
  | [], n1 => true
  | pn1 :: rn1, n1 => (bif (!(eq1 pn1 (gt s2 n1))) then false else (slices_EqualFunc_Rec_L0 s2 eq1 rn1 (n1 + 1)))
def slices_EqualFunc_Rec (s1 : List Rec) (s2 : List Rec) (eq1 : Rec → Rec → Bool) : Bool :=
  (bif ((s1.length : Int) != (s2.length : Int)) then false else (slices_EqualFunc_Rec_L0 s2 eq1 s1 0))
theorem slices_EqualFunc_Rec_spec (y1 : SlV) (s1 : List Rec) (y2 : SlV) (s2 : List Rec) (f1 : Nat) (caps1 : List Value) (pre1 : List Pred) [StabL pre1] (eq1 : Rec → Rec → Bool) (hfb1 : tab.fnb f1 = true) (hfn1 : ∀ (z0a_ : SlV) (a0_ : Rec) (z1a_ : SlV) (a1_ : Rec), Does Tryd.prog f1 ([.agg ⟨[.int .i64 a0_.kind, .int .i64 a0_.who, .int .i64 a0_.life, z0a_.val a0_.roots.length, .int .i64 a0_.o.time, .int .i64 a0_.o.who, .int .i64 a0_.o.node, .int .i64 a0_.o.parent, .int .i64 a0_.o.name, .int .i64 a0_.o.life, .int .i64 a0_.o.seq]⟩, .agg ⟨[.int .i64 a1_.kind, .int .i64 a1_.who, .int .i64 a1_.life, z1a_.val a1_.roots.length, .int .i64 a1_.o.time, .int .i64 a1_.o.who, .int .i64 a1_.o.node, .int .i64 a1_.o.parent, .int .i64 a1_.o.name, .int .i64 a1_.o.life, .int .i64 a1_.o.seq]⟩] ++ caps1) (RdL EInt z0a_ a0_.roots :: RdL EInt z1a_ a1_.roots :: pre1) (fun (_ : Unit) => .bool (eq1 a0_ a1_)) (fun (_ : Unit) => [])) : Does Tryd.prog 22 [y1.val s1.length, y2.val s2.length, .func (.func f1) #[] ⟨caps1⟩] (RdN NRec y1 s1 :: RdN NRec y2 s2 :: pre1) (fun (_ : Unit) => .bool (slices_EqualFunc_Rec s1 s2 eq1)) (fun (_ : Unit) => []) := by
  refine does_of tab_ok Tryd.func22 rfl Tryd.ntmps22 Tryd.results22 rfl inferInstance (fun _ => inferInstance) fun C => ?_
  refine cw_pure (φ := s1.length * 104 ≤ 140737488355328) [RdN NRec y1 s1] Sf (fun M w h => (allF1 h).len) fun hlen1 => ?_
  refine cw_pure (φ := s2.length * 104 ≤ 140737488355328) [RdN NRec y2 s2] Sf (fun M w h => (allF1 h).len) fun hlen2 => ?_
  refine Tx ?_
  refine Cd (b := ((s1.length : Int) != (s2.length : Int))) (fun hc1 => ?_) fun hc1 => ?_
  · have hc1p := bne_iff_ne.1 hc1
    refine Tx ?_
    have hr1 : (slices_EqualFunc_Rec s1 s2 eq1) = false := by simp only [slices_EqualFunc_Rec, hc1, cond_true, cond_false]
    refine cw_ret ?_
    rw [hr1]
    exact ⟨(), _, (.cons (.tmp rfl) .nil), rfl, Sf, .nil _, .nil _⟩
  · have hc1p := eq_of_bne_false hc1
    refine Tx ?_
    (repeat refine cw_seq ?_); refine Lp [1,2,6,15,16] [] (fun (n1 : Nat) => (⟨[(17, .v (.int .i64 (n1 : Int)))], [], [], [], (n1 ≤ s1.length) ∧ (slices_EqualFunc_Rec_L0 s2 eq1 (s1.drop n1) n1) = (slices_EqualFunc_Rec s1 s2 eq1), s1.length - n1⟩ : Ls)) 0 (Sc (Sc (Sc (Sc (Sc Sn))))) (.nil) ⟨Nat.zero_le _, (by simp only [slices_EqualFunc_Rec, hc1, cond_true, cond_false] : (slices_EqualFunc_Rec s1 s2 eq1) = (slices_EqualFunc_Rec_L0 s2 eq1 s1 0)).symm⟩ Le5 ?_
    rintro n1 ⟨hkn1, hf1⟩
    simp only [List.cons_append, List.nil_append]
    refine Tx ?_
    refine Cd (b := decide ((n1 : Int) < (s1.length : Int))) (fun hc2 => ?_) fun hc2 => ?_
    · have hlt0 : n1 < s1.length := Int.ofNat_lt.1 (of_decide_eq_true hc2)
      refine Tx ?_
      refine rw_exN NRec (X := y1) (l := s1) Mm fun (γ1 : Nat → SlV) => ?_
      refine rw_q rfl rfl rfl (q_idxN NRec γ1 n1 rfl rfl (fun _ => rfl) rfl (fun _ => rfl) rfl rfl rfl Mm rfl (fun _ => rfl) (fun _ => by first | assumption | omega)) ?_
      refine rw_q rfl rfl rfl (q_is (v' := .agg ⟨[.int .i64 ((gt s1 n1).kind), .int .i64 ((gt s1 n1).who), .int .i64 ((gt s1 n1).life), (γ1 n1).val ((gt s1 n1).roots).length, .int .i64 (((gt s1 n1).o).time), .int .i64 (((gt s1 n1).o).who), .int .i64 (((gt s1 n1).o).node), .int .i64 (((gt s1 n1).o).parent), .int .i64 (((gt s1 n1).o).name), .int .i64 (((gt s1 n1).o).life), .int .i64 (((gt s1 n1).o).seq)]⟩) (q_leAN NRec γ1 rfl rfl (fun _ => rfl) rfl rfl Mm (fun _ => by first | assumption | omega)) rfl) ?_
      refine rw_fact (F := RdL EInt (γ1 n1) ((gt s1 n1).roots)) [FactsG NRec γ1 s1] Sf (fun M w h => (allF1 h) n1 (by first | assumption | omega) _ (.head _)) ?_
      refine Al fun g1 => ?_
      refine Tx ?_
      refine rw_exN NRec (X := y2) (l := s2) Mm fun (γ2 : Nat → SlV) => ?_
      refine rw_q rfl rfl rfl (q_idxN NRec γ2 n1 rfl rfl (fun _ => rfl) rfl (fun _ => rfl) rfl rfl rfl Mm rfl (fun _ => rfl) (fun _ => by first | assumption | omega)) ?_
      refine rw_q rfl rfl rfl (q_is (v' := .agg ⟨[.int .i64 ((gt s2 n1).kind), .int .i64 ((gt s2 n1).who), .int .i64 ((gt s2 n1).life), (γ2 n1).val ((gt s2 n1).roots).length, .int .i64 (((gt s2 n1).o).time), .int .i64 (((gt s2 n1).o).who), .int .i64 (((gt s2 n1).o).node), .int .i64 (((gt s2 n1).o).parent), .int .i64 (((gt s2 n1).o).name), .int .i64 (((gt s2 n1).o).life), .int .i64 (((gt s2 n1).o).seq)]⟩) (q_leAN NRec γ2 rfl rfl (fun _ => rfl) rfl rfl Mm (fun _ => by first | assumption | omega)) rfl) ?_
      refine rw_fact (F := RdL EInt (γ2 n1) ((gt s2 n1).roots)) [FactsG NRec γ2 s2] Sf (fun M w h => (allF1 h) n1 (by first | assumption | omega) _ (.head _)) ?_
      refine Al fun g2 => ?_
      refine Tx ?_
      refine rw_callv (hfn1 (γ1 n1) (gt s1 n1) (γ2 n1) (gt s2 n1)) .sq (guard_none rfl) rfl rfl rfl rfl rfl (by assumption) rfl rfl rfl Sf ?_
      intro _
      refine Tx ?_
      refine Cd (b := (!(eq1 (gt s1 n1) (gt s2 n1)))) (fun hc3 => ?_) fun hc3 => ?_
      · refine Tx ?_
        have hr2 : (slices_EqualFunc_Rec s1 s2 eq1) = false := by rw [← hf1, drop_gt hlt0]; simp only [slices_EqualFunc_Rec_L0, hc3, cond_true, cond_false]
        refine cw_ret ?_
        rw [hr2]
        exact ⟨(), _, (.cons (.tmp rfl) .nil), rfl, Sf, .nil _, .nil _⟩
      · refine Tx ?_
        refine rw_q rfl rfl rfl (q_add rfl rfl (fun _ => rfl) rfl (fun _ => rfl) (fun _ => by omega)) ?_
        refine Tx ?_
        refine ⟨(n1 + 1), ⟨hlt0, (by rw [← hf1, drop_gt hlt0]; simp only [slices_EqualFunc_Rec_L0, hc3, cond_true, cond_false] : (slices_EqualFunc_Rec s1 s2 eq1) = (slices_EqualFunc_Rec_L0 s2 eq1 (s1.drop (n1 + 1)) (n1 + 1))).symm⟩, (by simp only []; omega), Le5⟩
    · have hge0 : s1.length ≤ n1 := by have := of_decide_eq_false hc2; omega
      refine Tx ?_
      have hr3 : (slices_EqualFunc_Rec s1 s2 eq1) = true := by rw [← hf1, List.drop_of_length_le hge0]; simp only [slices_EqualFunc_Rec_L0, cond_true, cond_false]
      refine cw_ret ?_
      rw [hr3]
      exact ⟨(), _, (.cons (.tmp rfl) .nil), rfl, Sf, .nil _, .nil _⟩
end Go.Proofs.YtaiefncoholnnaaDoor
