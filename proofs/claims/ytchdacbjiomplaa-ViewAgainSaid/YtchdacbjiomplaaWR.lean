/- Part of this claim. No condition. -/
import Derived.Test.YtchdacbjiomplaaWB
import Derived.Test.YtchdacbjiomplaaWV
import Derived.Test.YtchdacbjiomplaaLSays
set_option linter.unusedVariables false
set_option linter.unusedSimpArgs false
set_option maxHeartbeats 2000000
namespace Go.Proofs.Ytchdacbjiomplaa
open Go Go.Proofs.Ytchdacbjiomplaa.Fw Go.Proofs
attribute [local irreducible] RW CW
theorem slices_Grow_Place_spec (y : SlV) (l : List Place) (n : Int) (hy : y = ⟨none, 0⟩ ∧ l = []) (hn : 0 ≤ n ∧ n * 24 ≤ 140737488355328) : DoesG Try.prog 169 [y.val l.length, .int .i64 n] [RdL EPlace y l] ⟨[], []⟩ (fun (X : SlV × Option Nat) => X.1.val ([] : List Place).length) (fun (_ : SlV × Option Nat) => []) (fun (X : SlV × Option Nat) => ⟨[], [ownL EPlace 35 X.1 X.2 []]⟩) := by
  obtain ⟨hy1, hy2⟩ := hy
  subst hy1; subst hy2
  obtain ⟨k, rfl⟩ : ∃ k : Nat, n = k := ⟨n.toNat, by omega⟩
  refine does_ofG tab_ok Try.func169 rfl Try.ntmps169 Try.results169 rfl inferInstance (fun _ => inferInstance) fun C => ?_
  refine cw_le (le_nilL EPlace 35) ?_
  refine Tx ?_
  refine Cd (b := decide ((k : Int) < 0)) (fun hc => ?_) fun hc => ?_
  · exact absurd (of_decide_eq_true hc) (by omega)
  · refine Tx ?_
    refine rw_q rfl rfl rfl (q_cap rfl rfl (fun _ => rfl) rfl) ?_
    refine Tx ?_
    refine rw_q rfl rfl rfl (q_is (v' := .int .i64 0) (q_sub rfl rfl (fun _ => rfl) rfl (fun _ => rfl) (fun _ => by decide)) rfl) ?_
    refine rw_q rfl rfl rfl (q_is (v' := .int .i64 (k : Int)) (q_sub rfl rfl (fun _ => rfl) rfl (fun _ => rfl) (fun _ => by omega)) (by simp)) ?_
    refine Tx ?_
    refine Cd (b := decide ((k : Int) > 0)) (fun hc1 => ?_) fun hc1 => ?_
    · have hk := of_decide_eq_true hc1
      refine Tx ?_
      refine rw_q rfl rfl rfl (q_cap rfl rfl (fun _ => rfl) rfl) ?_
      refine rw_q rfl rfl rfl (q_slhi (h := 0) rfl rfl (fun _ => rfl) rfl (fun _ => rfl) rfl rfl (fun _ => rfl) (fun _ => Nat.le_refl _)) ?_
      refine Rp rfl rfl rfl rfl ?_
      refine rw_appendZ (n := k) (e := 35) (by_ := 24) .sq (guard_none rfl) rfl rfl rfl rfl rfl rfl rfl rfl und_3 (fun _ _ _ => .here _ _ _) rfl rfl rfl rfl rfl rfl (by omega) (by omega) (by omega) fun x1 b1 zs => ?_
      refine Tx ?_
      refine rw_takeO (k := 0) .sq (guard_none rfl) rfl rfl rfl rfl rfl rfl rfl rfl rfl (.here _ _ _) rfl (Nat.zero_le _) ?_
      refine Tx ?_
      (repeat refine cw_seq ?_); refine cw_ret ?_
      exact ⟨(x1, b1), _, (.cons (.tmp rfl) .nil), rfl, .nil _, .nil _, Sp⟩
    · refine Tx ?_
      (repeat refine cw_seq ?_); refine cw_ret ?_
      exact ⟨(⟨none, 0⟩, none), _, (.cons (.tmp rfl) .nil), rfl, .nil _, .nil _, Sp⟩

def slices_Concat_Place_L1  : List (List Place) → (List Place) → (List Place)
  | [], newslice1 => newslice1
  | pn2 :: rn2, newslice1 => (slices_Concat_Place_L1 rn2 (newslice1 ++ pn2))
def slices_Concat_Place_L0 (slices1 : List (List Place)) : List (List Place) → Nat → (List Place)
  | [], size1 => (slices_Concat_Place_L1 slices1 ([] : List Place))
  | pn1 :: rn1, size1 => (bif decide (((size1 : Int) + (pn1.length : Int)) < 0) then [] else (slices_Concat_Place_L0 slices1 rn1 (size1 + pn1.length)))
def slices_Concat_Place (slices1 : List (List Place)) : List Place :=
  (slices_Concat_Place_L0 slices1 slices1 0)
theorem slices_Concat_Place_spec (y1 : SlV) (slices1 : List (List Place)) (hct : slices1.flatten.length * 24 ≤ 140737488355328) : DoesG Try.prog 102 [y1.val slices1.length] [RdN NPlaces y1 slices1] ⟨[], []⟩ (fun (X : SlV × Option Nat) => X.1.val (slices_Concat_Place slices1).length) (fun (X : SlV × Option Nat) => []) (fun (X : SlV × Option Nat) => ⟨[], [ownL EPlace 35 X.1 X.2 (slices_Concat_Place slices1)]⟩) := by
  refine does_ofG tab_ok Try.func102 rfl Try.ntmps102 Try.results102 rfl inferInstance (fun _ => inferInstance) fun C => ?_
  refine Pn NPlaces y1 slices1 24 fun hlen1 => ?_
  refine Tx ?_
  (repeat refine cw_seq ?_); refine Lp [0,2,9,10] [] (fun (i_ : Nat × Nat) => match i_ with | ⟨size1, n1⟩ => (⟨[(3, .v (.int .i64 (size1 : Int))), (11, .v (.int .i64 (n1 : Int)))], [], [], [], (n1 ≤ slices1.length) ∧ (size1 = ((slices1.take n1).flatten.length : Int)) ∧ (slices_Concat_Place_L0 slices1 (slices1.drop n1) size1) = (slices_Concat_Place slices1), slices1.length - n1⟩ : Ls)) ⟨0, 0⟩ (Sc (Sc (Sc (Sc Sn)))) (.nil) ⟨Nat.zero_le _, (by simp), (by simp only [slices_Concat_Place, cond_true, cond_false] : (slices_Concat_Place slices1) = (slices_Concat_Place_L0 slices1 slices1 0)).symm⟩ Le4 ?_
  rintro ⟨size1, n1⟩ ⟨hkn1, hsz, hf1⟩
  simp only [List.cons_append, List.nil_append]
  refine Tx ?_
  refine Cd (b := decide ((n1 : Int) < (slices1.length : Int))) (fun hc1 => ?_) fun hc1 => ?_
  · have hlt0 : n1 < slices1.length := Int.ofNat_lt.1 (of_decide_eq_true hc1)
    refine Tx ?_
    refine rw_exN NPlaces (X := y1) (l := slices1) Mm fun (γ1 : Nat → SlV) => ?_
    refine rw_q rfl rfl rfl (q_idxN NPlaces γ1 n1 rfl rfl (fun _ => rfl) rfl (fun _ => rfl) rfl rfl rfl Mm rfl (fun _ => rfl) (fun _ => by first | assumption | omega)) ?_
    refine rw_q rfl rfl rfl (q_le1N NPlaces γ1 (v := (γ1 n1).val (gt slices1 n1).length) rfl rfl (fun _ => rfl) rfl rfl Mm (fun _ => by first | assumption | omega) rfl) ?_
    refine rw_fact (F := RdL EPlace (γ1 n1) (gt slices1 n1)) [FactsG NPlaces γ1 slices1] Sm (fun M w h => (allF1 h) n1 (by first | assumption | omega) _ (.head _)) ?_
    refine Tx ?_
    refine rw_q rfl rfl rfl (q_add rfl rfl (fun _ => rfl) rfl (fun _ => rfl) (fun _ => by have := (cat_step slices1 hlt0).2; omega)) ?_
    refine Tx ?_
    refine Cd (b := decide (((size1 : Int) + ((gt slices1 n1).length : Int)) < 0)) (fun hc2 => ?_) fun hc2 => ?_
    · have hc2p := of_decide_eq_true hc2
      exact absurd (of_decide_eq_true hc2) (by omega)
    · have hc2p := of_decide_eq_false hc2
      refine Tx ?_
      refine rw_q rfl rfl rfl (q_add rfl rfl (fun _ => rfl) rfl (fun _ => rfl) (fun _ => by omega)) ?_
      refine Tx ?_
      refine ⟨⟨(size1 + (gt slices1 n1).length), (n1 + 1)⟩, ⟨hlt0, (by rw [(cat_step slices1 hlt0).1, List.length_append]; simp only [hsz]; omega), (by rw [← hf1, drop_gt hlt0]; simp only [slices_Concat_Place_L0, hc2, cond_true, cond_false] : (slices_Concat_Place slices1) = (slices_Concat_Place_L0 slices1 (slices1.drop (n1 + 1)) (size1 + (gt slices1 n1).length))).symm⟩, (by simp only []; omega), Le4⟩
  · have hge0 : slices1.length ≤ n1 := by have := of_decide_eq_false hc1; omega
    refine Tx ?_
    refine Fr EPlace ?_
    refine Cg (slices_Grow_Place_spec (⟨none, 0⟩ : SlV) ([] : List Place) (size1 : Int) ⟨rfl, rfl⟩ (by have h_ : (slices1.take n1).flatten.length ≤ slices1.flatten.length := (by rw [List.take_of_length_le hge0]; exact Nat.le_refl _); omega)) fun x1 => ?_
    refine Tx ?_
    (repeat refine cw_seq ?_); refine Lp [2,25,26] [] (fun (i_ : List Place × SlV × Option Nat × Nat) => match i_ with | ⟨newslice1, x2, x2b, n2⟩ => (⟨[(6, .v (x2.val newslice1.length)), (27, .v (.int .i64 (n2 : Int)))], [], [ownL EPlace 35 x2 x2b newslice1], [], (n2 ≤ slices1.length) ∧ (newslice1.length = (slices1.take n2).flatten.length) ∧ (slices_Concat_Place_L1 (slices1.drop n2) newslice1) = (slices_Concat_Place slices1), slices1.length - n2⟩ : Ls)) ⟨([] : List Place), x1.1, x1.2, 0⟩ (Sc (Sc (Sc Sn))) (.nil) ⟨Nat.zero_le _, (by simp), (by rw [← hf1, List.drop_of_length_le hge0]; simp only [slices_Concat_Place_L0, cond_true, cond_false] : (slices_Concat_Place slices1) = (slices_Concat_Place_L1 slices1 ([] : List Place))).symm⟩ Le4 ?_
    rintro ⟨newslice1, x2, x2b, n2⟩ ⟨hkn2, hnl, hf2⟩
    simp only [List.cons_append, List.nil_append]
    refine Tx ?_
    refine Cd (b := decide ((n2 : Int) < (slices1.length : Int))) (fun hc3 => ?_) fun hc3 => ?_
    · have hlt1 : n2 < slices1.length := Int.ofNat_lt.1 (of_decide_eq_true hc3)
      refine Tx ?_
      refine rw_exN NPlaces (X := y1) (l := slices1) Mm fun (γ2 : Nat → SlV) => ?_
      refine rw_q rfl rfl rfl (q_idxN NPlaces γ2 n2 rfl rfl (fun _ => rfl) rfl (fun _ => rfl) rfl rfl rfl Mm rfl (fun _ => rfl) (fun _ => by first | assumption | omega)) ?_
      refine rw_q rfl rfl rfl (q_le1N NPlaces γ2 (v := (γ2 n2).val (gt slices1 n2).length) rfl rfl (fun _ => rfl) rfl rfl Mm (fun _ => by first | assumption | omega) rfl) ?_
      refine rw_fact (F := RdL EPlace (γ2 n2) (gt slices1 n2)) [FactsG NPlaces γ2 slices1] Sm (fun M w h => (allF1 h) n2 (by first | assumption | omega) _ (.head _)) ?_
      refine Tx ?_
      refine rw_appendL EPlace newslice1 (gt slices1 n2) (b := x2b) .sq (fun _ _ => .inl ⟨_, rfl⟩) (guard_none rfl) rfl rfl rfl rfl rfl rfl rfl (fun _ _ => Uo) rfl rfl rfl rfl rfl rfl rfl (reads_rdL Mm) (by have := (cat_step slices1 hlt1).2; show (_ + _) * 24 ≤ _; omega) fun x3 x3b => ?_
      refine Tx ?_
      refine rw_q rfl rfl rfl (q_add rfl rfl (fun _ => rfl) rfl (fun _ => rfl) (fun _ => by omega)) ?_
      refine Tx ?_
      refine ⟨⟨(newslice1 ++ (gt slices1 n2)), x3, x3b, (n2 + 1)⟩, ⟨hlt1, (by rw [(cat_step slices1 hlt1).1]; simp only [List.length_append]; omega), (by rw [← hf2, drop_gt hlt1]; simp only [slices_Concat_Place_L1, cond_true, cond_false] : (slices_Concat_Place slices1) = (slices_Concat_Place_L1 (slices1.drop (n2 + 1)) (newslice1 ++ (gt slices1 n2)))).symm⟩, (by simp only []; omega), Le4⟩
    · have hge1 : slices1.length ≤ n2 := by have := of_decide_eq_false hc3; omega
      refine Tx ?_
      have hr1 : (slices_Concat_Place slices1) = newslice1 := by rw [← hf2, List.drop_of_length_le hge1]; simp only [slices_Concat_Place_L1, cond_true, cond_false]
      refine cw_ret ?_; rw [hr1]; exact Re ⟨x2, x2b⟩ (Vt Vn)
theorem slices_Concat_Place_eq (ls : List (List Place)) : slices_Concat_Place ls = ls.flatten := by
  have h1 : ∀ (l : List (List Place)) (acc : List Place), slices_Concat_Place_L1 l acc = acc ++ l.flatten := by
    intro l
    induction l with
    | nil => intro acc; simp [slices_Concat_Place_L1]
    | cons a r ih => intro acc; rw [slices_Concat_Place_L1, ih]; simp
  have h0 : ∀ (l : List (List Place)) (k : Nat), slices_Concat_Place_L0 ls l k = slices_Concat_Place_L1 ls [] := by
    intro l
    induction l with
    | nil => intro k; rfl
    | cons a r ih =>
      intro k
      have : decide (((k : Int) + (a.length : Int)) < 0) = false := by simp; omega
      rw [slices_Concat_Place_L0, this, cond_false, ih]
  rw [slices_Concat_Place, h0, h1, List.nil_append]
theorem slices_Concat_Place_spec' (y1 : SlV) (ls : List (List Place)) (hct : ls.flatten.length * 24 ≤ 140737488355328) : DoesG Try.prog 102 [y1.val ls.length] [RdN NPlaces y1 ls] ⟨[], []⟩ (fun (X : SlV × Option Nat) => X.1.val ls.flatten.length) (fun (_ : SlV × Option Nat) => []) (fun (X : SlV × Option Nat) => ⟨[], [ownL EPlace 35 X.1 X.2 ls.flatten]⟩) := by
  have := slices_Concat_Place_spec y1 ls hct
  rw [slices_Concat_Place_eq] at this
  exact this

def orangeryref_CheckRoots_L0  : List Int → Int → Int
  | [], last1 => 0
  | pn1 :: rn1, last1 => (bif (!(orangeryref_in pn1 0 16)) then 5 else (bif decide (pn1 ≤ last1) then 6 else (orangeryref_CheckRoots_L0 rn1 pn1)))
def orangeryref_CheckRoots (l1 : List Int) : Int :=
  (bif decide ((l1.length : Int) > 4) then 2 else (orangeryref_CheckRoots_L0 l1 (-1)))
theorem orangeryref_CheckRoots_spec (y1 : SlV) (l1 : List Int) : Does Try.prog 45 [y1.val l1.length] [RdL EInt y1 l1] (fun (_ : Unit) => .int .i64 (orangeryref_CheckRoots l1)) (fun (_ : Unit) => []) := by
  refine does_of tab_ok Try.func45 rfl Try.ntmps45 Try.results45 rfl inferInstance (fun _ => inferInstance) fun C => ?_
  refine Pc EInt y1 l1 8 fun hlen1 => ?_
  refine Tx ?_
  refine Cd (b := decide ((l1.length : Int) > 4)) (fun hc1 => ?_) fun hc1 => ?_
  · have hc1p := of_decide_eq_true hc1
    refine Tx ?_
    have hr1 : (orangeryref_CheckRoots l1) = 2 := by simp only [orangeryref_CheckRoots, hc1, cond_true, cond_false]
    refine cw_ret ?_; rw [hr1]; exact Re () (Vt Vn)
  · have hc1p := of_decide_eq_false hc1
    refine Tx ?_
    (repeat refine cw_seq ?_); refine Lp [2,9,10] [] (fun (i_ : Int × Nat) => match i_ with | ⟨last1, n1⟩ => (⟨[(3, .v (.int .i64 last1)), (11, .v (.int .i64 (n1 : Int)))], [], [], [], (n1 ≤ l1.length) ∧ (orangeryref_CheckRoots_L0 (l1.drop n1) last1) = (orangeryref_CheckRoots l1), l1.length - n1⟩ : Ls)) ⟨(-1), 0⟩ (Sc (Sc (Sc Sn))) (.nil) ⟨Nat.zero_le _, (by simp only [orangeryref_CheckRoots, hc1, cond_true, cond_false] : (orangeryref_CheckRoots l1) = (orangeryref_CheckRoots_L0 l1 (-1))).symm⟩ Le4 ?_
    rintro ⟨last1, n1⟩ ⟨hkn1, hf1⟩
    simp only [List.cons_append, List.nil_append]
    refine Tx ?_
    refine Cd (b := decide ((n1 : Int) < (l1.length : Int))) (fun hc2 => ?_) fun hc2 => ?_
    · have hlt0 : n1 < l1.length := Int.ofNat_lt.1 (of_decide_eq_true hc2)
      refine Tx ?_
      refine rw_q rfl rfl rfl (q_idx EInt n1 rfl rfl (fun _ => rfl) rfl (fun _ => rfl) rfl rfl rfl Mm rfl (fun _ => rfl) (fun _ => by first | assumption | omega)) ?_
      refine rw_q rfl rfl rfl (q_le1 EInt rfl rfl (fun _ => rfl) rfl rfl Mm (fun _ => by first | assumption | omega) rfl) ?_
      refine Tx ?_
      refine Cl (orangeryref_in_spec (gt l1 n1) 0 16) fun _ => ?_
      refine Tx ?_
      refine Cd (b := (!(orangeryref_in (gt l1 n1) 0 16))) (fun hc3 => ?_) fun hc3 => ?_
      · refine Tx ?_
        have hr2 : (orangeryref_CheckRoots l1) = 5 := by rw [← hf1, drop_gt hlt0]; simp only [orangeryref_CheckRoots_L0, hc3, cond_true, cond_false]
        refine cw_ret ?_; rw [hr2]; exact Re () (Vt Vn)
      · refine Tx ?_
        refine Cd (b := decide ((gt l1 n1) ≤ last1)) (fun hc4 => ?_) fun hc4 => ?_
        · have hc4p := of_decide_eq_true hc4
          refine Tx ?_
          have hr3 : (orangeryref_CheckRoots l1) = 6 := by rw [← hf1, drop_gt hlt0]; simp only [orangeryref_CheckRoots_L0, hc3, hc4, cond_true, cond_false]
          refine cw_ret ?_; rw [hr3]; exact Re () (Vt Vn)
        · have hc4p := of_decide_eq_false hc4
          refine Tx ?_
          refine rw_q rfl rfl rfl (q_add rfl rfl (fun _ => rfl) rfl (fun _ => rfl) (fun _ => by omega)) ?_
          refine Tx ?_
          refine ⟨⟨(gt l1 n1), (n1 + 1)⟩, ⟨hlt0, (by rw [← hf1, drop_gt hlt0]; simp only [orangeryref_CheckRoots_L0, hc3, hc4, cond_true, cond_false] : (orangeryref_CheckRoots l1) = (orangeryref_CheckRoots_L0 (l1.drop (n1 + 1)) (gt l1 n1))).symm⟩, (by simp only []; omega), Le4⟩
    · have hge0 : l1.length ≤ n1 := by have := of_decide_eq_false hc2; omega
      refine Tx ?_
      have hr4 : (orangeryref_CheckRoots l1) = 0 := by rw [← hf1, List.drop_of_length_le hge0]; simp only [orangeryref_CheckRoots_L0, cond_true, cond_false]
      refine cw_ret ?_; rw [hr4]; exact Re () (Vt Vn)

def orangeryref_SameView (a1 : View) (b1 : View) : Bool :=
  (((decide (a1.roots = b1.roots)) && (decide (a1.known = b1.known))) && (decide (a1.way = b1.way)))
theorem orangeryref_SameView_spec (y1 : SlV) (y2 : SlV) (y3 : SlV) (a1 : View) (y4 : SlV) (y5 : SlV) (y6 : SlV) (b1 : View) : Does Try.prog 46 [.agg ⟨[y1.val a1.roots.length, y2.val a1.known.length, y3.val a1.way.length]⟩, .agg ⟨[y4.val b1.roots.length, y5.val b1.known.length, y6.val b1.way.length]⟩] [RdL EInt y1 a1.roots, RdL EPlace y2 a1.known, RdL EPlace y3 a1.way, RdL EInt y4 b1.roots, RdL EPlace y5 b1.known, RdL EPlace y6 b1.way] (fun (_ : Unit) => .bool (orangeryref_SameView a1 b1)) (fun (_ : Unit) => []) := by
  refine does_of tab_ok Try.func46 rfl Try.ntmps46 Try.results46 rfl inferInstance (fun _ => inferInstance) fun C => ?_
  refine Pc EInt y1 a1.roots 8 fun hlen1 => ?_
  refine Pc EPlace y2 a1.known 24 fun hlen2 => ?_
  refine Pc EPlace y3 a1.way 24 fun hlen3 => ?_
  refine Pc EInt y4 b1.roots 8 fun hlen4 => ?_
  refine Pc EPlace y5 b1.known 24 fun hlen5 => ?_
  refine Pc EPlace y6 b1.way 24 fun hlen6 => ?_
  refine Tx ?_
  refine Bx fun g1 => ?_
  refine Bx fun g2 => ?_
  refine Tx ?_
  refine Cl ((fun y1 a y2 b => slices_Equal_Int_spec' y1 y2 a b) y1 a1.roots y4 b1.roots) fun _ => ?_
  refine Tx ?_
  refine rw_callg (fun hG_ => (fun y1 a y2 b => slices_Equal_Place_spec' y1 y2 a b) y2 a1.known y5 b1.known) (fun _ => rfl) .sq (guard_vt rfl rfl rfl) rfl rfl rfl Kr rfl Bt Sm ?_
  refine Tx ?_
  refine rw_callg (fun hG_ => (fun y1 a y2 b => slices_Equal_Place_spec' y1 y2 a b) y3 a1.way y6 b1.way) (fun _ => rfl) .sq (guard_vt rfl rfl rfl) rfl rfl rfl Kr rfl Bt Sm ?_
  refine Tx ?_
  have hr1 : (orangeryref_SameView a1 b1) = (((decide (a1.roots = b1.roots)) && (decide (a1.known = b1.known))) && (decide (a1.way = b1.way))) := by simp only [orangeryref_SameView, cond_true, cond_false]
  refine cw_ret ?_; rw [hr1]; exact Re () (Vt Vn)

theorem chain_L0_in {l : List Place} (hpar : ∀ p ∈ l, 0 ≤ p.parent ∧ p.parent ≤ 16) : ∀ (f : Nat) (node : Int) (out : List Int), f + out.length = 19 → 1 ≤ out.length → out.Nodup → (∀ x ∈ out.tail, 0 ≤ x ∧ x ≤ 16) →
    1 ≤ (orangeryref_chain_L0 l f node out).length ∧ (orangeryref_chain_L0 l f node out).length ≤ 18
  | 0, node, out, hf, h1, hn, ht => by have := chain_len hn ht; omega
  | f + 1, node, out, hf, h1, hn, ht => by
    rw [orangeryref_chain_L0]
    cases hb : (((tree_Find l node).node == 0) || decide ((tree_Find l node).parent ∈ out)) with
    | true => exact ⟨h1, chain_len hn ht⟩
    | false =>
      obtain ⟨h2, h3⟩ := Bool.or_eq_false_iff.1 hb
      refine chain_L0_in hpar f _ _ (by simp; omega) (by simp) (nodup_snoc hn (by simpa using h3)) (tail_snoc ht (hpar _ (find_mem' (by simpa using h2))))
theorem chain_in {l : List Place} (hpar : ∀ p ∈ l, 0 ≤ p.parent ∧ p.parent ≤ 16) (n : Int) : 1 ≤ (orangeryref_chain l n).length ∧ (orangeryref_chain l n).length ≤ 18 :=
  chain_L0_in hpar 18 n [n] rfl (by simp) (by simp) (by simp)
theorem CheckRoots_len {l : List Int} (h : orangeryref_CheckRoots l = 0) : l.length ≤ 4 := by
  unfold orangeryref_CheckRoots at h
  cases hb : decide ((l.length : Int) > 4) with
  | true => rw [hb] at h; simp at h
  | false => simp at hb; omega

def orangeryref_Seen_L2 (roots1 : List Int) : List Int → Bool → Bool
  | [], known3 => known3
  | pn3 :: rn3, known3 => (orangeryref_Seen_L2 roots1 rn3 (known3 || (decide (pn3 ∈ roots1))))
def orangeryref_Seen_L1 (t1 : List Place) (roots1 : List Int) (up1 : List Int) : List Place → (List Place) → (List Place) → (View × Int)
  | [], known1, way1 => ((⟨roots1, known1, way1⟩ : View), 0)
  | pn2 :: rn2, known1, way1 => (bif ((orangeryref_Seen_L2 roots1 (orangeryref_chain t1 (pn2.node)) false)) then (orangeryref_Seen_L1 t1 roots1 up1 rn2 (known1 ++ [pn2]) way1) else (bif (decide ((pn2.node) ∈ up1)) then (orangeryref_Seen_L1 t1 roots1 up1 rn2 known1 (way1 ++ [pn2])) else (orangeryref_Seen_L1 t1 roots1 up1 rn2 known1 way1)))
def orangeryref_Seen_L0 (t1 : List Place) (roots1 : List Int) : List Int → (List Int) → (View × Int)
  | [], up1 => (orangeryref_Seen_L1 t1 roots1 up1 t1 [] [])
  | pn1 :: rn1, up1 => (orangeryref_Seen_L0 t1 roots1 rn1 (up1 ++ ((orangeryref_chain t1 pn1).drop 1)))
def orangeryref_Seen (t1 : List Place) (roots1 : List Int) : View × Int :=
  (bif ((orangeryref_CheckTree t1) != 0) then ((⟨([] : List Int), ([] : List Place), ([] : List Place)⟩ : View), (orangeryref_CheckTree t1)) else (bif ((orangeryref_CheckRoots roots1) != 0) then ((⟨([] : List Int), ([] : List Place), ([] : List Place)⟩ : View), (orangeryref_CheckRoots roots1)) else (orangeryref_Seen_L0 t1 roots1 roots1 [])))
theorem orangeryref_Seen_spec (y1 : SlV) (t1 : List Place) (y2 : SlV) (roots1 : List Int) : Does Try.prog 43 [.agg ⟨[y1.val t1.length]⟩, y2.val roots1.length] [RdL EPlace y1 t1, RdL EInt y2 roots1] (fun (X : SlV × SlV × SlV) => .tuple #[.agg ⟨[X.1.val (((orangeryref_Seen t1 roots1).1).roots).length, X.2.1.val (((orangeryref_Seen t1 roots1).1).known).length, X.2.2.val (((orangeryref_Seen t1 roots1).1).way).length]⟩, .int .i64 ((orangeryref_Seen t1 roots1).2)]) (fun (X : SlV × SlV × SlV) => [RdL EInt X.1 (((orangeryref_Seen t1 roots1).1).roots), RdL EPlace X.2.1 (((orangeryref_Seen t1 roots1).1).known), RdL EPlace X.2.2 (((orangeryref_Seen t1 roots1).1).way)]) := by
  refine does_of tab_ok Try.func43 rfl Try.ntmps43 Try.results43 rfl inferInstance (fun _ => inferInstance) fun C => ?_
  refine Pc EPlace y1 t1 24 fun hlen1 => ?_
  refine Pc EInt y2 roots1 8 fun hlen2 => ?_
  refine Tx ?_
  refine Bx fun g1 => ?_
  refine Al fun g2 => ?_
  refine Tx ?_
  refine Cl (orangeryref_CheckTree_spec y1 t1) fun _ => ?_
  refine Tx ?_
  refine Cd (b := ((orangeryref_CheckTree t1) != 0)) (fun hc1 => ?_) fun hc1 => ?_
  · have hc1p := bne_iff_ne.1 hc1
    refine Tx ?_
    refine Fc EInt ?_
    refine Fc EPlace ?_
    have hr1 : (orangeryref_Seen t1 roots1) = ((⟨([] : List Int), ([] : List Place), ([] : List Place)⟩ : View), (orangeryref_CheckTree t1)) := by simp only [orangeryref_Seen, hc1, cond_true, cond_false]
    refine cw_ret ?_; rw [hr1]; exact Re ⟨(⟨none, 0⟩ : SlV), (⟨none, 0⟩ : SlV), (⟨none, 0⟩ : SlV)⟩ (Va (Vt Vn))
  · have hc1p := eq_of_bne_false hc1
    have hct := eq_of_bne_false hc1
    refine Tx ?_
    refine Cl (orangeryref_CheckRoots_spec y2 roots1) fun _ => ?_
    refine Tx ?_
    refine Cd (b := ((orangeryref_CheckRoots roots1) != 0)) (fun hc2 => ?_) fun hc2 => ?_
    · have hc2p := bne_iff_ne.1 hc2
      refine Tx ?_
      refine Fc EInt ?_
      refine Fc EPlace ?_
      have hr2 : (orangeryref_Seen t1 roots1) = ((⟨([] : List Int), ([] : List Place), ([] : List Place)⟩ : View), (orangeryref_CheckRoots roots1)) := by simp only [orangeryref_Seen, hc1, hc2, cond_true, cond_false]
      refine cw_ret ?_; rw [hr2]; exact Re ⟨(⟨none, 0⟩ : SlV), (⟨none, 0⟩ : SlV), (⟨none, 0⟩ : SlV)⟩ (Va (Vt Vn))
    · have hc2p := eq_of_bne_false hc2
      have hrl := CheckRoots_len (eq_of_bne_false hc2)
      refine Tx ?_
      refine Al fun g3 => ?_
      refine Tx ?_
      (repeat refine cw_seq ?_); refine Lp [1,2,4,5,8,31,32] [true, true, true] (fun (i_ : List Int × SlV × Option Nat × Nat) => match i_ with | ⟨up1, x1, x1b, n1⟩ => (⟨[(9, .v (x1.val up1.length)), (33, .v (.int .i64 (n1 : Int)))], [], [ownL EInt 3 x1 x1b up1], [], (n1 ≤ roots1.length) ∧ (up1.length ≤ 18 * n1) ∧ (orangeryref_Seen_L0 t1 roots1 (roots1.drop n1) up1) = (orangeryref_Seen t1 roots1), roots1.length - n1⟩ : Ls)) ⟨[], ⟨none, 0⟩, none, 0⟩ (Sc (Sc (Sc (Sc (Sc (Sc (Sc Sn))))))) (.keep (.keep (.keep (.nil)))) ⟨Nat.zero_le _, (by first | exact Nat.le_refl _ | exact Nat.zero_le _ | omega), (by simp only [orangeryref_Seen, hc1, hc2, cond_true, cond_false] : (orangeryref_Seen t1 roots1) = (orangeryref_Seen_L0 t1 roots1 roots1 [])).symm⟩ (Le.trans (le_nilL EInt 3) Le4) ?_
      rintro ⟨up1, x1, x1b, n1⟩ ⟨hkn1, hupl, hf1⟩
      simp only [List.cons_append, List.nil_append]
      refine Tx ?_
      refine Cd (b := decide ((n1 : Int) < (roots1.length : Int))) (fun hc3 => ?_) fun hc3 => ?_
      · have hlt0 : n1 < roots1.length := Int.ofNat_lt.1 (of_decide_eq_true hc3)
        refine Tx ?_
        refine rw_q rfl rfl rfl (q_idx EInt n1 rfl rfl (fun _ => rfl) rfl (fun _ => rfl) rfl rfl rfl Mm rfl (fun _ => rfl) (fun _ => by first | assumption | omega)) ?_
        refine rw_q rfl rfl rfl (q_le1 EInt rfl rfl (fun _ => rfl) rfl rfl Mm (fun _ => by first | assumption | omega) rfl) ?_
        refine Tx ?_
        refine Cl (orangeryref_chain_spec y1 t1 (gt roots1 n1) (CheckTree_par hct)) fun x2 => ?_
        refine Pr EInt x2 (orangeryref_chain t1 (gt roots1 n1)) 8 fun hlen3 => ?_
        have hch := chain_in (CheckTree_par hct) (gt roots1 n1)
        refine rw_q rfl rfl rfl (q_drop EInt 1 rfl rfl (fun _ => rfl) rfl (fun _ => rfl) rfl rfl (fun _ => by omega) (fun _ => by omega)) ?_
        refine rw_fact (F := RdL EInt (⟨slA x2.a x2.c 1 EInt.esz, x2.c - 1⟩ : SlV) ((orangeryref_chain t1 (gt roots1 n1)).drop 1)) [RdL EInt x2 (orangeryref_chain t1 (gt roots1 n1))] Sm (fun M w h => (allF1 h).drop _ (by omega)) ?_
        refine rw_appendL EInt up1 ((orangeryref_chain t1 (gt roots1 n1)).drop 1) (b := x1b) .sq (fun _ _ => .inl ⟨_, rfl⟩) (guard_none rfl) rfl rfl rfl rfl rfl rfl rfl (fun _ _ => Uo) rfl rfl rfl rfl rfl rfl rfl (reads_rdL Mm) (by show (_ + _) * 8 ≤ _; simp only [List.length_drop]; omega) fun x3 x3b => ?_
        refine Tx ?_
        refine rw_q rfl rfl rfl (q_add rfl rfl (fun _ => rfl) rfl (fun _ => rfl) (fun _ => by omega)) ?_
        refine Tx ?_
        refine ⟨⟨(up1 ++ ((orangeryref_chain t1 (gt roots1 n1)).drop 1)), x3, x3b, (n1 + 1)⟩, ⟨hlt0, (by simp only [List.length_append, List.length_drop]; omega), (by rw [← hf1, drop_gt hlt0]; simp only [orangeryref_Seen_L0, cond_true, cond_false] : (orangeryref_Seen t1 roots1) = (orangeryref_Seen_L0 t1 roots1 (roots1.drop (n1 + 1)) (up1 ++ ((orangeryref_chain t1 (gt roots1 n1)).drop 1)))).symm⟩, (by simp only []; omega), Le4⟩
      · have hge0 : roots1.length ≤ n1 := by have := of_decide_eq_false hc3; omega
        refine Tx ?_
        (repeat refine cw_seq ?_); refine Lp [1,2,4,5,8,9,46,47] [false, true, true] (fun (i_ : Nat × List Place × SlV × Option Nat × List Place × SlV × Option Nat) => match i_ with | ⟨n2, known1, x4, x4b, way1, x5, x5b⟩ => (⟨[(48, .v (.int .i64 (n2 : Int)))], [⟨g3, 51, [y2.val roots1.length, x4.val known1.length, x5.val way1.length]⟩], [ownL EInt 3 x1 x1b up1, ownL EPlace 35 x4 x4b known1, ownL EPlace 35 x5 x5b way1], [], (n2 ≤ t1.length) ∧ (known1.length ≤ n2) ∧ (way1.length ≤ n2) ∧ (orangeryref_Seen_L1 t1 roots1 up1 (t1.drop n2) known1 way1) = (orangeryref_Seen t1 roots1), t1.length - n2⟩ : Ls)) ⟨0, [], ⟨none, 0⟩, none, [], ⟨none, 0⟩, none⟩ (Sc (Sc (Sc (Sc (Sc (Sc (Sc (Sc Sn)))))))) (.drop (.keep (.keep (.nil)))) ⟨Nat.zero_le _, (by first | exact Nat.le_refl _ | exact Nat.zero_le _ | omega), (by first | exact Nat.le_refl _ | exact Nat.zero_le _ | omega), (by rw [← hf1, List.drop_of_length_le hge0]; simp only [orangeryref_Seen_L0, cond_true, cond_false] : (orangeryref_Seen t1 roots1) = (orangeryref_Seen_L1 t1 roots1 up1 t1 [] [])).symm⟩ (Le.trans (le_nilL EPlace 35) (Le.trans (le_nilL EPlace 35) Le4)) ?_
        rintro ⟨n2, known1, x4, x4b, way1, x5, x5b⟩ ⟨hkn2, hknown1, hway1, hf2⟩
        simp only [List.cons_append, List.nil_append]
        refine Tx ?_
        refine Cd (b := decide ((n2 : Int) < (t1.length : Int))) (fun hc4 => ?_) fun hc4 => ?_
        · have hlt1 : n2 < t1.length := Int.ofNat_lt.1 (of_decide_eq_true hc4)
          refine Tx ?_
          refine rw_q rfl rfl rfl (q_idx EPlace n2 rfl rfl (fun _ => rfl) rfl (fun _ => rfl) rfl rfl rfl Mm rfl (fun _ => rfl) (fun _ => by first | assumption | omega)) ?_
          refine rw_q rfl rfl rfl (q_leA EPlace rfl rfl (fun _ => rfl) rfl rfl Mm (fun _ => by first | assumption | omega)) ?_
          refine Al fun g4 => ?_
          refine Tx ?_
          refine Cl (orangeryref_chain_spec y1 t1 ((gt t1 n2).node) (CheckTree_par hct)) fun x6 => ?_
          refine Pr EInt x6 (orangeryref_chain t1 ((gt t1 n2).node)) 8 fun hlen4 => ?_
          refine Ty ?_
          refine cw_joinB [1, 2, 4, 5, 8, 9, 13, 46, 47, 48, 49, 50, 51, 52, 53, 54, 55, 56, 57] [true, true, true, true] (fun (known2 : Bool) => [(14, .v (.bool known2))]) (fun (known2 : Bool) => []) (fun (known2 : Bool) => [ownL EInt 3 x1 x1b up1, ownL EPlace 35 x4 x4b known1, ownL EPlace 35 x5 x5b way1]) (fun (known2 : Bool) => []) (fun (known2 : Bool) => known2 = (orangeryref_Seen_L2 roots1 (orangeryref_chain t1 ((gt t1 n2).node)) false)) (.cons rfl (.cons rfl (.cons rfl (.cons rfl (.cons rfl (.cons rfl (.cons rfl (.cons rfl (.cons rfl (.cons rfl (.cons rfl (.cons rfl (.cons rfl (.cons rfl (.cons rfl (.cons rfl (.cons rfl (.cons rfl (.cons rfl (.nil _)))))))))))))))))))) (.keep (.keep (.keep (.keep (.nil))))) ?_ ?_
          · refine Tx ?_
            (repeat refine cw_seq ?_); refine Lp [1,2,4,5,8,9,13,46,47,48,49,50,51,52,53,54,55,56,57] [true, true, true, true] (fun (i_ : Bool × Nat) => match i_ with | ⟨known3, n3⟩ => (⟨[(14, .v (.bool known3)), (58, .v (.int .i64 (n3 : Int)))], [], [ownL EInt 3 x1 x1b up1, ownL EPlace 35 x4 x4b known1, ownL EPlace 35 x5 x5b way1], [], (n3 ≤ (orangeryref_chain t1 ((gt t1 n2).node)).length) ∧ (orangeryref_Seen_L2 roots1 ((orangeryref_chain t1 ((gt t1 n2).node)).drop n3) known3) = (orangeryref_Seen_L2 roots1 (orangeryref_chain t1 ((gt t1 n2).node)) false), (orangeryref_chain t1 ((gt t1 n2).node)).length - n3⟩ : Ls)) ⟨false, 0⟩ (Sc (Sc (Sc (Sc (Sc (Sc (Sc (Sc (Sc (Sc (Sc (Sc (Sc (Sc (Sc (Sc (Sc (Sc (Sc Sn))))))))))))))))))) (.keep (.keep (.keep (.keep (.nil))))) ⟨Nat.zero_le _, (rfl : (orangeryref_Seen_L2 roots1 (orangeryref_chain t1 ((gt t1 n2).node)) false) = (orangeryref_Seen_L2 roots1 (orangeryref_chain t1 ((gt t1 n2).node)) false)).symm⟩ Le4 ?_
            rintro ⟨known3, n3⟩ ⟨hkn3, hf3⟩
            simp only [List.cons_append, List.nil_append]
            refine Tx ?_
            refine Cd (b := decide ((n3 : Int) < ((orangeryref_chain t1 ((gt t1 n2).node)).length : Int))) (fun hc5 => ?_) fun hc5 => ?_
            · have hlt2 : n3 < (orangeryref_chain t1 ((gt t1 n2).node)).length := Int.ofNat_lt.1 (of_decide_eq_true hc5)
              refine Tx ?_
              refine rw_q rfl rfl rfl (q_idx EInt n3 rfl rfl (fun _ => rfl) rfl (fun _ => rfl) rfl rfl rfl Mm rfl (fun _ => rfl) (fun _ => by first | assumption | omega)) ?_
              refine rw_q rfl rfl rfl (q_le1 EInt rfl rfl (fun _ => rfl) rfl rfl Mm (fun _ => by first | assumption | omega) rfl) ?_
              refine Tx ?_
              refine rw_callg (fun hG_ => slices_Contains_int_spec' y2 roots1 (gt (orangeryref_chain t1 ((gt t1 n2).node)) n3)) (fun _ => rfl) .sq (guard_vf rfl rfl rfl) rfl rfl rfl Kr rfl Bt Sm ?_
              refine Tx ?_
              refine rw_q rfl rfl rfl (q_add rfl rfl (fun _ => rfl) rfl (fun _ => rfl) (fun _ => by omega)) ?_
              refine Tx ?_
              refine ⟨⟨(known3 || (decide ((gt (orangeryref_chain t1 ((gt t1 n2).node)) n3) ∈ roots1))), (n3 + 1)⟩, ⟨hlt2, (by rw [← hf3, drop_gt hlt2]; simp only [orangeryref_Seen_L2, cond_true, cond_false] : (orangeryref_Seen_L2 roots1 (orangeryref_chain t1 ((gt t1 n2).node)) false) = (orangeryref_Seen_L2 roots1 ((orangeryref_chain t1 ((gt t1 n2).node)).drop (n3 + 1)) (known3 || (decide ((gt (orangeryref_chain t1 ((gt t1 n2).node)) n3) ∈ roots1))))).symm⟩, (by simp only []; omega), Le4⟩
            · have hge2 : (orangeryref_chain t1 ((gt t1 n2).node)).length ≤ n3 := by have := of_decide_eq_false hc5; omega
              refine Tx ?_
              have hv1 : (orangeryref_Seen_L2 roots1 (orangeryref_chain t1 ((gt t1 n2).node)) false) = known3 := by rw [← hf3, List.drop_of_length_le hge2]; simp only [orangeryref_Seen_L2, cond_true, cond_false]
              refine ⟨known3, hv1.symm, Le4⟩
          · rintro known2 rfl
            simp only [List.cons_append, List.nil_append]
            refine Tx ?_
            refine Cd (b := ((orangeryref_Seen_L2 roots1 (orangeryref_chain t1 ((gt t1 n2).node)) false))) (fun hc6 => ?_) fun hc6 => ?_
            · refine Tx ?_
              refine rw_bsliceL EPlace [(gt t1 n2)] .sq (guard_none rfl) rfl rfl rfl rfl rfl rfl rfl rfl rfl rfl rfl rfl rfl rfl rfl fun x7 x7b => ?_
              refine rw_appendL EPlace known1 [(gt t1 n2)] (b := x4b) .sq (fun _ _ => .inl ⟨_, rfl⟩) (guard_none rfl) rfl rfl rfl rfl rfl rfl rfl (fun _ _ => Uo) rfl rfl rfl rfl rfl rfl rfl (reads_ownL (e := 35) (b := x7b) Mm) (by show (known1.length + 1) * 24 ≤ 140737488355328; (try simp only [List.length_append, List.length_cons, List.length_nil]); omega) fun x8 x8b => ?_
              refine Tx ?_
              refine rw_q rfl rfl rfl (q_add rfl rfl (fun _ => rfl) rfl (fun _ => rfl) (fun _ => by omega)) ?_
              refine Tx ?_
              refine ⟨⟨(n2 + 1), (known1 ++ [(gt t1 n2)]), x8, x8b, way1, x5, x5b⟩, ⟨hlt1, (by simp only [List.length_append, List.length_cons, List.length_nil]; omega), (by simp only [List.length_append, List.length_cons, List.length_nil]; omega), (by rw [← hf2, drop_gt hlt1]; simp only [orangeryref_Seen_L1, hc6, cond_true, cond_false] : (orangeryref_Seen t1 roots1) = (orangeryref_Seen_L1 t1 roots1 up1 (t1.drop (n2 + 1)) (known1 ++ [(gt t1 n2)]) way1)).symm⟩, (by simp only []; omega), Le4⟩
            · refine Tx ?_
              refine rw_callR (slices_Contains_int_spec' x1 up1 ((gt t1 n2).node)) .sq (guard_none rfl) rfl rfl rfl Kr rfl rfl (.own Mm (.nil _ _)) ?_
              intro _
              refine Tx ?_
              refine Cd (b := (decide (((gt t1 n2).node) ∈ up1))) (fun hc7 => ?_) fun hc7 => ?_
              · refine Tx ?_
                refine rw_bsliceL EPlace [(gt t1 n2)] .sq (guard_none rfl) rfl rfl rfl rfl rfl rfl rfl rfl rfl rfl rfl rfl rfl rfl rfl fun x9 x9b => ?_
                refine rw_appendL EPlace way1 [(gt t1 n2)] (b := x5b) .sq (fun _ _ => .inl ⟨_, rfl⟩) (guard_none rfl) rfl rfl rfl rfl rfl rfl rfl (fun _ _ => Uo) rfl rfl rfl rfl rfl rfl rfl (reads_ownL (e := 35) (b := x9b) Mm) (by show (way1.length + 1) * 24 ≤ 140737488355328; (try simp only [List.length_append, List.length_cons, List.length_nil]); omega) fun x10 x10b => ?_
                refine Tx ?_
                refine rw_q rfl rfl rfl (q_add rfl rfl (fun _ => rfl) rfl (fun _ => rfl) (fun _ => by omega)) ?_
                refine Tx ?_
                refine ⟨⟨(n2 + 1), known1, x4, x4b, (way1 ++ [(gt t1 n2)]), x10, x10b⟩, ⟨hlt1, (by simp only [List.length_append, List.length_cons, List.length_nil]; omega), (by simp only [List.length_append, List.length_cons, List.length_nil]; omega), (by rw [← hf2, drop_gt hlt1]; simp only [orangeryref_Seen_L1, hc6, hc7, cond_true, cond_false] : (orangeryref_Seen t1 roots1) = (orangeryref_Seen_L1 t1 roots1 up1 (t1.drop (n2 + 1)) known1 (way1 ++ [(gt t1 n2)]))).symm⟩, (by simp only []; omega), Le4⟩
              · refine Tx ?_
                refine rw_q rfl rfl rfl (q_add rfl rfl (fun _ => rfl) rfl (fun _ => rfl) (fun _ => by omega)) ?_
                refine Tx ?_
                refine ⟨⟨(n2 + 1), known1, x4, x4b, way1, x5, x5b⟩, ⟨hlt1, (by simp only [List.length_append, List.length_cons, List.length_nil]; omega), (by simp only [List.length_append, List.length_cons, List.length_nil]; omega), (by rw [← hf2, drop_gt hlt1]; simp only [orangeryref_Seen_L1, hc6, hc7, cond_true, cond_false] : (orangeryref_Seen t1 roots1) = (orangeryref_Seen_L1 t1 roots1 up1 (t1.drop (n2 + 1)) known1 way1)).symm⟩, (by simp only []; omega), Le4⟩
        · have hge1 : t1.length ≤ n2 := by have := of_decide_eq_false hc4; omega
          refine Tx ?_
          refine cw_le (le_freezeL EPlace 35 x4 x4b known1 Uo) ?_
          refine cw_le (le_freezeL EPlace 35 x5 x5b way1 Uo) ?_
          have hr3 : (orangeryref_Seen t1 roots1) = ((⟨roots1, known1, way1⟩ : View), 0) := by rw [← hf2, List.drop_of_length_le hge1]; simp only [orangeryref_Seen_L1, cond_true, cond_false]
          refine cw_ret ?_; rw [hr3]; exact Re ⟨y2, x4, x5⟩ (Va (Vt Vn))
end Go.Proofs.Ytchdacbjiomplaa

set_option maxHeartbeats 2000000
namespace Go.Proofs.Ytchdacbjiomplaa
open Go Go.Proofs.Ytchdacbjiomplaa.Fw Go.Proofs
attribute [local irreducible] RW CW
theorem CheckTree_len {t : List Place} (h : orangeryref_CheckTree t = 0) : t.length ≤ 15 := check_len ((tree_Check_eq t).trans ((CheckTree_eq t).symm.trans h))
theorem cat2 {a b : List Place} {φ : Place → Prop} (ha : ∀ p ∈ a, φ p) (hb : ∀ p ∈ b, φ p) : ∀ p ∈ ([a, b] : List (List Place)).flatten, φ p := fun p hp => by
  simp only [List.flatten_cons, List.flatten_nil, List.append_nil, List.mem_append] at hp
  rcases hp with hp | hp
  · exact ha p hp
  · exact hb p hp

def orangeryref_AllOf (v1 : View) : List Place :=
  (orangeryref_places (orangeryref_table ([v1.known, v1.way].flatten)))
theorem orangeryref_AllOf_spec (y1 : SlV) (y2 : SlV) (y3 : SlV) (v1 : View) (hl : v1.known.length ≤ 1000 ∧ v1.way.length ≤ 1000) (hk : ∀ p ∈ v1.known, 0 ≤ p.node ∧ p.node < 16) (hw : ∀ p ∈ v1.way, 0 ≤ p.node ∧ p.node < 16) : Does Try.prog 135 [.agg ⟨[y1.val v1.roots.length, y2.val v1.known.length, y3.val v1.way.length]⟩] [RdL EInt y1 v1.roots, RdL EPlace y2 v1.known, RdL EPlace y3 v1.way] (fun (X : SlV) => .agg ⟨[X.val (orangeryref_AllOf v1).length]⟩) (fun (X : SlV) => [RdL EPlace X (orangeryref_AllOf v1)]) := by
  refine does_of tab_ok Try.func135 rfl Try.ntmps135 Try.results135 rfl inferInstance (fun _ => inferInstance) fun C => ?_
  refine Pc EInt y1 v1.roots 8 fun hlen1 => ?_
  refine Pc EPlace y2 v1.known 24 fun hlen2 => ?_
  refine Pc EPlace y3 v1.way 24 fun hlen3 => ?_
  refine Tx ?_
  refine Bx fun g1 => ?_
  refine Al fun g2 => ?_
  refine Tx ?_
  refine rw_bsliceL NPlaces.E [(y2, v1.known), (y3, v1.way)] .sq (guard_none rfl) rfl rfl rfl rfl rfl rfl rfl rfl rfl rfl rfl rfl rfl rfl rfl fun x1 x1b => ?_
  refine rw_le (le_freezeL NPlaces.E 27 x1 x1b [(y2, v1.known), (y3, v1.way)] Uo) ?_
  refine rw_fact (F := RdN NPlaces x1 [v1.known, v1.way]) [RdL NPlaces.E x1 [(y2, v1.known), (y3, v1.way)], RdL EPlace y2 v1.known, RdL EPlace y3 v1.way] Sm (fun M w h => RdN.of NPlaces (hs := [(y2, v1.known), (y3, v1.way)]) rfl (h _ (.head _)) (allP_cons (allF_sub Sm h) (allP_cons (allF_sub Sm h) (fun p hp => by cases hp)))) ?_
  refine Cg (slices_Concat_Place_spec' x1 [v1.known, v1.way] (by obtain ⟨h1, h2⟩ := hl; simp only [List.flatten_cons, List.flatten_nil, List.append_nil, List.length_append]; omega)) fun x2 => ?_
  refine rw_callR (orangeryref_table_spec x2.1 ([v1.known, v1.way].flatten) (cat2 hk hw)) .sq (guard_none rfl) rfl rfl rfl Kr rfl rfl (.own Mm (.nil _ _)) ?_
  intro _
  refine Cl (orangeryref_places_spec (orangeryref_table ([v1.known, v1.way].flatten)) (table_len _)) fun x3 => ?_
  refine Pr EPlace x3 (orangeryref_places (orangeryref_table ([v1.known, v1.way].flatten))) 24 fun hlen4 => ?_
  refine Tx ?_
  have hr1 : (orangeryref_AllOf v1) = (orangeryref_places (orangeryref_table ([v1.known, v1.way].flatten))) := by simp only [orangeryref_AllOf, cond_true, cond_false]
  refine cw_ret ?_; rw [hr1]; exact Re x3 (Va Vn)

def orangeryref_CheckView (v1 : View) : Int :=
  (bif ((orangeryref_CheckRoots v1.roots) != 0) then (orangeryref_CheckRoots v1.roots) else (bif ((orangeryref_CheckTree v1.known) != 0) then (orangeryref_CheckTree v1.known) else (bif ((orangeryref_CheckTree v1.way) != 0) then (orangeryref_CheckTree v1.way) else (bif ((((orangeryref_Seen (orangeryref_AllOf v1) v1.roots).2) == 0) && (!(orangeryref_SameView v1 ((orangeryref_Seen (orangeryref_AllOf v1) v1.roots).1)))) then 4 else (orangeryref_Seen (orangeryref_AllOf v1) v1.roots).2))))
theorem orangeryref_CheckView_spec (y1 : SlV) (y2 : SlV) (y3 : SlV) (v1 : View) : Does Try.prog 48 [.agg ⟨[y1.val v1.roots.length, y2.val v1.known.length, y3.val v1.way.length]⟩] [RdL EInt y1 v1.roots, RdL EPlace y2 v1.known, RdL EPlace y3 v1.way] (fun (_ : Unit) => .int .i64 (orangeryref_CheckView v1)) (fun (_ : Unit) => []) := by
  refine does_of tab_ok Try.func48 rfl Try.ntmps48 Try.results48 rfl inferInstance (fun _ => inferInstance) fun C => ?_
  refine Pc EInt y1 v1.roots 8 fun hlen1 => ?_
  refine Pc EPlace y2 v1.known 24 fun hlen2 => ?_
  refine Pc EPlace y3 v1.way 24 fun hlen3 => ?_
  refine Tx ?_
  refine Bx fun g1 => ?_
  refine Tx ?_
  refine Cl (orangeryref_CheckRoots_spec y1 v1.roots) fun _ => ?_
  refine Tx ?_
  refine Cd (b := ((orangeryref_CheckRoots v1.roots) != 0)) (fun hc1 => ?_) fun hc1 => ?_
  · have hc1p := bne_iff_ne.1 hc1
    refine Tx ?_
    have hr1 : (orangeryref_CheckView v1) = (orangeryref_CheckRoots v1.roots) := by simp only [orangeryref_CheckView, hc1, cond_true, cond_false]
    refine cw_ret ?_; rw [hr1]; exact Re () (Vt Vn)
  · have hc1p := eq_of_bne_false hc1
    refine Tx ?_
    refine Cl (orangeryref_CheckTree_spec y2 v1.known) fun _ => ?_
    refine Tx ?_
    refine Cd (b := ((orangeryref_CheckTree v1.known) != 0)) (fun hc2 => ?_) fun hc2 => ?_
    · have hc2p := bne_iff_ne.1 hc2
      refine Tx ?_
      have hr2 : (orangeryref_CheckView v1) = (orangeryref_CheckTree v1.known) := by simp only [orangeryref_CheckView, hc1, hc2, cond_true, cond_false]
      refine cw_ret ?_; rw [hr2]; exact Re () (Vt Vn)
    · have hc2p := eq_of_bne_false hc2
      have hct1 := eq_of_bne_false hc2
      refine Tx ?_
      refine Cl (orangeryref_CheckTree_spec y3 v1.way) fun _ => ?_
      refine Tx ?_
      refine Cd (b := ((orangeryref_CheckTree v1.way) != 0)) (fun hc3 => ?_) fun hc3 => ?_
      · have hc3p := bne_iff_ne.1 hc3
        refine Tx ?_
        have hr3 : (orangeryref_CheckView v1) = (orangeryref_CheckTree v1.way) := by simp only [orangeryref_CheckView, hc1, hc2, hc3, cond_true, cond_false]
        refine cw_ret ?_; rw [hr3]; exact Re () (Vt Vn)
      · have hc3p := eq_of_bne_false hc3
        have hct2 := eq_of_bne_false hc3
        refine Tx ?_
        refine cw_join [1, 2] [true] (fun (i_ : Nat × SlV × SlV × SlV) => match i_ with | ⟨g2, x1, x2, x3⟩ => [(6, .v (.pointer (some ⟨g2, 0, none⟩))), (7, .v (.int .i64 ((orangeryref_Seen (orangeryref_AllOf v1) v1.roots).2)))]) (fun (i_ : Nat × SlV × SlV × SlV) => match i_ with | ⟨g2, x1, x2, x3⟩ => [⟨g2, 51, [x1.val (((orangeryref_Seen (orangeryref_AllOf v1) v1.roots).1).roots).length, x2.val (((orangeryref_Seen (orangeryref_AllOf v1) v1.roots).1).known).length, x3.val (((orangeryref_Seen (orangeryref_AllOf v1) v1.roots).1).way).length]⟩]) (fun (i_ : Nat × SlV × SlV × SlV) => match i_ with | ⟨g2, x1, x2, x3⟩ => []) (fun (i_ : Nat × SlV × SlV × SlV) => match i_ with | ⟨g2, x1, x2, x3⟩ => [RdL EInt x1 (((orangeryref_Seen (orangeryref_AllOf v1) v1.roots).1).roots), RdL EPlace x2 (((orangeryref_Seen (orangeryref_AllOf v1) v1.roots).1).known), RdL EPlace x3 (((orangeryref_Seen (orangeryref_AllOf v1) v1.roots).1).way)]) (fun _ => True) (.cons rfl (.cons rfl (.nil _))) (.keep (.nil)) ?_ ?_
        · refine cw_regionA (fun j => match j with | 9 => none | _ => some []) ?_
          refine Rb 0 [2,3,8] [1,4,5,6,7,9,10] rfl (q_ldA rfl rfl (fun _ => rfl) rfl Mm rfl) ?_
          refine Rb 2 [1,8] [3,4,5,6,7,9,10] rfl Qp ?_
          refine Rb 3 [1,8] [4,5,6,7,9,10] rfl Q1 ?_
          refine ra_two 1 8 Kr ?_ ?_
          · refine rw_call (orangeryref_AllOf_spec y1 y2 y3 v1 ⟨Nat.le_trans (CheckTree_len hct1) (by omega), Nat.le_trans (CheckTree_len hct2) (by omega)⟩ (CheckTree_node hct1) (CheckTree_node hct2)) (.an rfl rfl) (guard_none rfl) rfl rfl rfl Kr rfl rfl Sm ?_
            intro x4
            refine Pr EPlace x4 (orangeryref_AllOf v1) 24 fun hlen4 => ?_
            refine ra_two 4 8 Kr ?_ ?_
            · refine rw_call (orangeryref_Seen_spec x4 (orangeryref_AllOf v1) y1 v1.roots) (.an rfl rfl) (guard_none rfl) rfl rfl rfl Kr rfl rfl Sm ?_
              intro x5
              refine Pr EInt x5.1 (((orangeryref_Seen (orangeryref_AllOf v1) v1.roots).1).roots) 8 fun hlen5 => ?_
              refine Pr EPlace x5.2.1 (((orangeryref_Seen (orangeryref_AllOf v1) v1.roots).1).known) 24 fun hlen6 => ?_
              refine Pr EPlace x5.2.2 (((orangeryref_Seen (orangeryref_AllOf v1) v1.roots).1).way) 24 fun hlen7 => ?_
              refine Ra 5 [8] rfl Qp ?_
              refine Ra 6 [7,8] rfl Qp ?_
              refine ra_p (.an (i := 7) (js := [8, 9]) rfl Kr Kr Kr Kr) rfl rfl rfl (q_pev rfl (fun _ => rfl)) ?_
              refine ra_one 8 Kr ?_
              refine rw_alloc (.an rfl rfl) (guard_none rfl) rfl rfl rfl rfl fun g3 => ?_
              refine ra_one 9 Kr ?_
              refine rw_stA (.lo [g3] rfl rfl) (.inr (by simp)) (guard_none rfl) rfl rfl rfl rfl rfl rfl rfl rfl rfl Ub rfl ?_
              refine Ra 10 [] rfl Qp ?_
              refine ra_nil Kr ?_
              refine ⟨⟨g3, x5.1, x5.2.1, x5.2.2⟩, trivial, Le4⟩
            · refine rw_alloc (.an rfl rfl) (guard_none rfl) rfl rfl rfl rfl fun g4 => ?_
              refine ra_one 4 Kr ?_
              refine rw_call (orangeryref_Seen_spec x4 (orangeryref_AllOf v1) y1 v1.roots) (.an rfl rfl) (guard_none rfl) rfl rfl rfl Kr rfl rfl Sm ?_
              intro x6
              refine Pr EInt x6.1 (((orangeryref_Seen (orangeryref_AllOf v1) v1.roots).1).roots) 8 fun hlen8 => ?_
              refine Pr EPlace x6.2.1 (((orangeryref_Seen (orangeryref_AllOf v1) v1.roots).1).known) 24 fun hlen9 => ?_
              refine Pr EPlace x6.2.2 (((orangeryref_Seen (orangeryref_AllOf v1) v1.roots).1).way) 24 fun hlen10 => ?_
              refine Ra 5 [] rfl Qp ?_
              refine Ra 6 [7] rfl Qp ?_
              refine ra_p (.an (i := 7) (js := [9]) rfl Kr Kr Kr Kr) rfl rfl rfl (q_pev rfl (fun _ => rfl)) ?_
              refine ra_one 9 Kr ?_
              refine rw_stA (.lo [g4] rfl rfl) (.inr (by simp)) (guard_none rfl) rfl rfl rfl rfl rfl rfl rfl rfl rfl Ub rfl ?_
              refine Ra 10 [] rfl Qp ?_
              refine ra_nil Kr ?_
              refine ⟨⟨g4, x6.1, x6.2.1, x6.2.2⟩, trivial, Le4⟩
          · refine rw_alloc (.an rfl rfl) (guard_none rfl) rfl rfl rfl rfl fun g5 => ?_
            refine ra_one 1 Kr ?_
            refine rw_call (orangeryref_AllOf_spec y1 y2 y3 v1 ⟨Nat.le_trans (CheckTree_len hct1) (by omega), Nat.le_trans (CheckTree_len hct2) (by omega)⟩ (CheckTree_node hct1) (CheckTree_node hct2)) (.an rfl rfl) (guard_none rfl) rfl rfl rfl Kr rfl rfl Sm ?_
            intro x7
            refine Pr EPlace x7 (orangeryref_AllOf v1) 24 fun hlen11 => ?_
            refine ra_one 4 Kr ?_
            refine rw_call (orangeryref_Seen_spec x7 (orangeryref_AllOf v1) y1 v1.roots) (.an rfl rfl) (guard_none rfl) rfl rfl rfl Kr rfl rfl Sm ?_
            intro x8
            refine Pr EInt x8.1 (((orangeryref_Seen (orangeryref_AllOf v1) v1.roots).1).roots) 8 fun hlen12 => ?_
            refine Pr EPlace x8.2.1 (((orangeryref_Seen (orangeryref_AllOf v1) v1.roots).1).known) 24 fun hlen13 => ?_
            refine Pr EPlace x8.2.2 (((orangeryref_Seen (orangeryref_AllOf v1) v1.roots).1).way) 24 fun hlen14 => ?_
            refine Ra 5 [] rfl Qp ?_
            refine Ra 6 [7] rfl Qp ?_
            refine ra_p (.an (i := 7) (js := [9]) rfl Kr Kr Kr Kr) rfl rfl rfl (q_pev rfl (fun _ => rfl)) ?_
            refine ra_one 9 Kr ?_
            refine rw_stA (.lo [g5] rfl rfl) (.inr (by simp)) (guard_none rfl) rfl rfl rfl rfl rfl rfl rfl rfl rfl Ub rfl ?_
            refine Ra 10 [] rfl Qp ?_
            refine ra_nil Kr ?_
            refine ⟨⟨g5, x8.1, x8.2.1, x8.2.2⟩, trivial, Le4⟩
        · rintro ⟨g2, x1, x2, x3⟩ -
          simp only [List.cons_append, List.nil_append]
          refine Tx ?_
          refine rw_callg (fun hG_ => orangeryref_SameView_spec y1 y2 y3 v1 x1 x2 x3 ((orangeryref_Seen (orangeryref_AllOf v1) v1.roots).1)) (fun _ => rfl) .sq (guard_vt rfl rfl rfl) rfl rfl rfl Kr rfl Bt Sm ?_
          refine Tx ?_
          refine Cd (b := ((((orangeryref_Seen (orangeryref_AllOf v1) v1.roots).2) == 0) && (!(orangeryref_SameView v1 ((orangeryref_Seen (orangeryref_AllOf v1) v1.roots).1))))) (fun hc4 => ?_) fun hc4 => ?_
          · refine Tx ?_
            have hr4 : (orangeryref_CheckView v1) = 4 := by simp only [orangeryref_CheckView, hc1, hc2, hc3, hc4, cond_true, cond_false]
            refine cw_ret ?_; rw [hr4]; exact Re () (Vt Vn)
          · refine Tx ?_
            have hr5 : (orangeryref_CheckView v1) = (orangeryref_Seen (orangeryref_AllOf v1) v1.roots).2 := by simp only [orangeryref_CheckView, hc1, hc2, hc3, hc4, cond_true, cond_false]
            refine cw_ret ?_; rw [hr5]; exact Re () (Vt Vn)
end Go.Proofs.Ytchdacbjiomplaa
