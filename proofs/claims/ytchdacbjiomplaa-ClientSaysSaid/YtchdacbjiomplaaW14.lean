/- Part of this claim. No condition. -/
import Derived.Test.YtchdacbjiomplaaW8
import Derived.Test.YtchdacbjiomplaaW11
set_option linter.unusedVariables false
set_option linter.unusedSimpArgs false
namespace Go.Proofs.Ytchdacbjiomplaa
open Go Go.Proofs.Ytchdacbjiomplaa.Fw Go.Proofs
theorem slices_Grow_Place_spec (y : SlV) (l : List Place) (n : Int) (hy : y = ⟨none, 0⟩ ∧ l = []) (hn : 0 ≤ n ∧ n * 24 ≤ 140737488355328) : DoesG Try.prog 169 [y.val l.length, .int .i64 n] [RdL EPlace y l] ⟨[], []⟩ (fun (X : SlV × Option Nat) => X.1.val ([] : List Place).length) (fun (_ : SlV × Option Nat) => []) (fun (X : SlV × Option Nat) => ⟨[], [ownL EPlace 35 X.1 X.2 []]⟩) := by
  obtain ⟨hy1, hy2⟩ := hy
  subst hy1; subst hy2
  obtain ⟨k, rfl⟩ : ∃ k : Nat, n = k := ⟨n.toNat, by omega⟩
  refine does_ofG tab_ok Try.func169 rfl Try.ntmps169 Try.results169 rfl inferInstance (fun _ => inferInstance) fun C => ?_
  refine cw_le (le_nilL EPlace 35) ?_
  (repeat refine cw_seq ?_); refine cw_region ?_
  refine Rp rfl rfl rfl rfl ?_
  refine rw_nil ?_
  (repeat refine cw_seq ?_); refine cw_region ?_
  refine Rp rfl rfl rfl rfl ?_
  refine Rp rfl rfl rfl rfl ?_
  refine rw_nil ?_
  (repeat refine cw_seq ?_); refine cw_cond (b := decide ((k : Int) < 0)) rfl rfl (fun hc => ?_) (fun hc => ?_)
  · exact absurd (of_decide_eq_true hc) (by omega)
  · (repeat refine cw_seq ?_); refine cw_skip ?_
    (repeat refine cw_seq ?_); refine cw_region ?_
    refine Rp rfl rfl rfl rfl ?_
    refine Rp rfl rfl rfl rfl ?_
    refine rw_q rfl rfl rfl (q_cap rfl rfl (fun _ => rfl) rfl) ?_
    refine Rp rfl rfl rfl rfl ?_
    refine Rp rfl rfl rfl rfl ?_
    refine rw_q rfl rfl rfl (q_is (v' := .int .i64 0) (q_sub rfl rfl (fun _ => rfl) rfl (fun _ => rfl) (fun _ => by decide)) rfl) ?_
    refine rw_q rfl rfl rfl (q_is (v' := .int .i64 (k : Int)) (q_sub rfl rfl (fun _ => rfl) rfl (fun _ => rfl) (fun _ => by omega)) (by simp)) ?_
    refine Rp rfl rfl rfl rfl ?_
    refine rw_nil ?_
    (repeat refine cw_seq ?_); refine cw_region ?_
    refine Rp rfl rfl rfl rfl ?_
    refine Rp rfl rfl rfl rfl ?_
    refine rw_nil ?_
    (repeat refine cw_seq ?_); refine cw_cond (b := decide ((k : Int) > 0)) rfl rfl (fun hc1 => ?_) (fun hc1 => ?_)
    · have hk := of_decide_eq_true hc1
      (repeat refine cw_seq ?_); refine cw_region ?_
      refine Rp rfl rfl rfl rfl ?_
      refine Rp rfl rfl rfl rfl ?_
      refine rw_q rfl rfl rfl (q_cap rfl rfl (fun _ => rfl) rfl) ?_
      refine rw_q rfl rfl rfl (q_slhi (h := 0) rfl rfl (fun _ => rfl) rfl (fun _ => rfl) rfl rfl (fun _ => rfl) (fun _ => Nat.le_refl _)) ?_
      refine Rp rfl rfl rfl rfl ?_
      refine rw_appendZ (n := k) (e := 35) (by_ := 24) .sq (guard_none rfl) rfl rfl rfl rfl rfl rfl rfl rfl und_3 (fun _ _ _ => .here _ _ _) rfl rfl rfl rfl rfl rfl (by omega) (by omega) (by omega) fun x1 b1 zs => ?_
      refine Rp rfl rfl rfl rfl ?_
      refine Rp rfl rfl rfl rfl ?_
      refine rw_takeO (k := 0) .sq (guard_none rfl) rfl rfl rfl rfl rfl rfl rfl rfl rfl (.here _ _ _) rfl (Nat.zero_le _) ?_
      refine Rp rfl rfl rfl rfl ?_
      refine rw_nil ?_
      (repeat refine cw_seq ?_); refine cw_region ?_
      refine Rp rfl rfl rfl rfl ?_
      refine Rp rfl rfl rfl rfl ?_
      refine rw_nil ?_
      (repeat refine cw_seq ?_); refine cw_ret ?_
      exact ⟨(x1, b1), _, (.cons (.tmp rfl) .nil), rfl, .nil _, .nil _, Sp⟩
    · (repeat refine cw_seq ?_); refine cw_skip ?_
      (repeat refine cw_seq ?_); refine cw_region ?_
      refine Rp rfl rfl rfl rfl ?_
      refine Rp rfl rfl rfl rfl ?_
      refine rw_nil ?_
      (repeat refine cw_seq ?_); refine cw_ret ?_
      exact ⟨(⟨none, 0⟩, none), _, (.cons (.tmp rfl) .nil), rfl, .nil _, .nil _, Sp⟩

def slices_Concat_Place_L1  : List (List Place) → (List Place) → (List Place)
  | [], newslice1 => newslice1
  | pn2 :: rn2, newslice1 => (slices_Concat_Place_L1 rn2 (newslice1 ++ pn2))
def slices_Concat_Place_L0 (slices1 : List (List Place)) : List (List Place) → Nat → (List Place)
  | [], size1 => (slices_Concat_Place_L1 slices1 ([] : List Place))
  | pn1 :: rn1, size1 => (bif decide (((size1 : Int) + (pn1.length : Int)) < 0) then [] else (slices_Concat_Place_L0 slices1 rn1 (size1 + pn1.length)))
def slices_Concat_Place (slices1 : List (List Place)) : List Place :=
  (slices_Concat_Place_L0 slices1 slices1 0)
theorem slices_Concat_Place_spec (y1 : SlV) (slices1 : List (List Place)) (hct : slices1.flatten.length * 24 ≤ 140737488355328) : DoesG Try.prog 102 [y1.val slices1.length] [RdN NPlaces y1 slices1] ⟨[], []⟩ (fun (X : SlV × Option Nat) => X.1.val (slices_Concat_Place slices1).length) (fun (X : SlV × Option Nat) => []) (fun (X : SlV × Option Nat) => ⟨[], [ownL EPlace 35 X.1 X.2 (slices_Concat_Place slices1)]⟩) := by
  refine does_ofG tab_ok Try.func102 rfl Try.ntmps102 Try.results102 rfl inferInstance (fun _ => inferInstance) fun C => ?_
  refine cw_pure (φ := slices1.length * 24 ≤ 140737488355328) [RdN NPlaces y1 slices1] Sm (fun M w h => (allF1 h).len) fun hlen1 => ?_
  (repeat refine cw_seq ?_); refine cw_region ?_
  refine Rp rfl rfl rfl rfl ?_
  refine rw_nil ?_
  (repeat refine cw_seq ?_); refine cw_region ?_
  refine Rp rfl rfl rfl rfl ?_
  refine rw_nil ?_
  (repeat refine cw_seq ?_); refine cw_region ?_
  refine Rp rfl rfl rfl rfl ?_
  refine Rp rfl rfl rfl rfl ?_
  refine Rp rfl rfl rfl rfl ?_
  refine rw_nil ?_
  (repeat refine cw_seq ?_); refine cw_block ?_
  (repeat refine cw_seq ?_); refine cw_loopS [0, 2, 9, 10] [] (fun (i_ : Nat × Nat) => match i_ with | ⟨size1, n1⟩ => [(3, .v (.int .i64 (size1 : Int))), (11, .v (.int .i64 (n1 : Int)))]) (fun (i_ : Nat × Nat) => match i_ with | ⟨size1, n1⟩ => []) (fun (i_ : Nat × Nat) => match i_ with | ⟨size1, n1⟩ => []) (fun (i_ : Nat × Nat) => match i_ with | ⟨size1, n1⟩ => []) (fun (i_ : Nat × Nat) => match i_ with | ⟨size1, n1⟩ => (n1 ≤ slices1.length) ∧ (size1 = ((slices1.take n1).flatten.length : Int)) ∧ (slices_Concat_Place_L0 slices1 (slices1.drop n1) size1) = (slices_Concat_Place slices1)) (fun (i_ : Nat × Nat) => match i_ with | ⟨size1, n1⟩ => slices1.length - n1) ⟨0, 0⟩ (.cons rfl (.cons rfl (.cons rfl (.cons rfl (.nil _))))) (.nil) ⟨Nat.zero_le _, (by simp), (by simp only [slices_Concat_Place, cond_true, cond_false] : (slices_Concat_Place slices1) = (slices_Concat_Place_L0 slices1 slices1 0)).symm⟩ Le4 ?_
  rintro ⟨size1, n1⟩ ⟨hkn1, hsz, hf1⟩
  simp only [List.cons_append, List.nil_append]
  (repeat refine cw_seq ?_); refine cw_region ?_
  refine Rp rfl rfl rfl rfl ?_
  refine rw_nil ?_
  (repeat refine cw_seq ?_); refine cw_cond (b := decide ((n1 : Int) < (slices1.length : Int))) rfl rfl (fun hc1 => ?_) (fun hc1 => ?_)
  · skip
    have hlt0 : n1 < slices1.length := Int.ofNat_lt.1 (of_decide_eq_true hc1)
    (repeat refine cw_seq ?_); refine cw_skip ?_
    (repeat refine cw_seq ?_); refine cw_block ?_
    (repeat refine cw_seq ?_); refine cw_region ?_
    refine rw_exN NPlaces (X := y1) (l := slices1) Mm fun (γ1 : Nat → SlV) => ?_
    refine rw_q rfl rfl rfl (q_idxN NPlaces γ1 n1 rfl rfl (fun _ => rfl) rfl (fun _ => rfl) rfl rfl rfl Mm rfl (fun _ => rfl) (fun _ => by first | assumption | omega)) ?_
    refine rw_q rfl rfl rfl (q_le1N NPlaces γ1 (v := (γ1 n1).val (gt slices1 n1).length) rfl rfl (fun _ => rfl) rfl rfl Mm (fun _ => by first | assumption | omega) rfl) ?_
    refine rw_fact (F := RdL EPlace (γ1 n1) (gt slices1 n1)) [FactsG NPlaces γ1 slices1] Sm (fun M w h => (allF1 h) n1 (by first | assumption | omega) _ (.head _)) ?_
    refine Rp rfl rfl rfl rfl ?_
    refine rw_nil ?_
    (repeat refine cw_seq ?_); refine cw_region ?_
    refine Rp rfl rfl rfl rfl ?_
    refine Rp rfl rfl rfl rfl ?_
    refine Rp rfl rfl rfl rfl ?_
    refine rw_q rfl rfl rfl (q_add rfl rfl (fun _ => rfl) rfl (fun _ => rfl) (fun _ => by have := (cat_step slices1 hlt0).2; omega)) ?_
    refine Rp rfl rfl rfl rfl ?_
    refine rw_nil ?_
    (repeat refine cw_seq ?_); refine cw_region ?_
    refine Rp rfl rfl rfl rfl ?_
    refine Rp rfl rfl rfl rfl ?_
    refine rw_nil ?_
    (repeat refine cw_seq ?_); refine cw_cond (b := decide (((size1 : Int) + ((gt slices1 n1).length : Int)) < 0)) rfl rfl (fun hc2 => ?_) (fun hc2 => ?_)
    · skip
      have hc2p := of_decide_eq_true hc2
      exact absurd (of_decide_eq_true hc2) (by omega)
    · skip
      have hc2p := of_decide_eq_false hc2
      (repeat refine cw_seq ?_); refine cw_skip ?_
      (repeat refine cw_seq ?_); refine cw_region ?_
      refine rw_q rfl rfl rfl (q_add rfl rfl (fun _ => rfl) rfl (fun _ => rfl) (fun _ => by omega)) ?_
      refine Rp rfl rfl rfl rfl ?_
      refine rw_nil ?_
      refine ⟨⟨(size1 + (gt slices1 n1).length), (n1 + 1)⟩, ⟨hlt0, (by rw [(cat_step slices1 hlt0).1, List.length_append]; simp only [hsz]; omega), (by rw [← hf1, drop_gt hlt0]; simp only [slices_Concat_Place_L0, hc2, cond_true, cond_false] : (slices_Concat_Place slices1) = (slices_Concat_Place_L0 slices1 (slices1.drop (n1 + 1)) (size1 + (gt slices1 n1).length))).symm⟩, (by simp only []; omega), Le4⟩
  · skip
    have hge0 : slices1.length ≤ n1 := by have := of_decide_eq_false hc1; omega
    (repeat refine cw_seq ?_); refine cw_exit ?_
    (repeat refine cw_seq ?_); refine cw_region ?_
    refine Rp rfl rfl rfl rfl ?_
    refine rw_fact (F := RdL EPlace ⟨none, 0⟩ ([] : List Place)) [] (.nil _) (fun M w _ => RdL.nil _ _ _ (by omega) M w) ?_
    refine rw_callG (slices_Grow_Place_spec (⟨none, 0⟩ : SlV) ([] : List Place) (size1 : Int) ⟨rfl, rfl⟩ (by have h_ : (slices1.take n1).flatten.length ≤ slices1.flatten.length := (by rw [List.take_of_length_le hge0]; exact Nat.le_refl _); omega)) .sq (.inl ⟨_, rfl⟩) (guard_none rfl) rfl rfl rfl Kr rfl rfl Sm (.nil _) (.nil _) ?_
    intro x1
    refine Rp rfl rfl rfl rfl ?_
    refine rw_nil ?_
    (repeat refine cw_seq ?_); refine cw_region ?_
    refine Rp rfl rfl rfl rfl ?_
    refine Rp rfl rfl rfl rfl ?_
    refine Rp rfl rfl rfl rfl ?_
    refine rw_nil ?_
    (repeat refine cw_seq ?_); refine cw_block ?_
    (repeat refine cw_seq ?_); refine cw_loopS [2, 25, 26] [] (fun (i_ : List Place × SlV × Option Nat × Nat) => match i_ with | ⟨newslice1, x2, x2b, n2⟩ => [(6, .v (x2.val newslice1.length)), (27, .v (.int .i64 (n2 : Int)))]) (fun (i_ : List Place × SlV × Option Nat × Nat) => match i_ with | ⟨newslice1, x2, x2b, n2⟩ => []) (fun (i_ : List Place × SlV × Option Nat × Nat) => match i_ with | ⟨newslice1, x2, x2b, n2⟩ => [ownL EPlace 35 x2 x2b newslice1]) (fun (i_ : List Place × SlV × Option Nat × Nat) => match i_ with | ⟨newslice1, x2, x2b, n2⟩ => []) (fun (i_ : List Place × SlV × Option Nat × Nat) => match i_ with | ⟨newslice1, x2, x2b, n2⟩ => (n2 ≤ slices1.length) ∧ (newslice1.length = (slices1.take n2).flatten.length) ∧ (slices_Concat_Place_L1 (slices1.drop n2) newslice1) = (slices_Concat_Place slices1)) (fun (i_ : List Place × SlV × Option Nat × Nat) => match i_ with | ⟨newslice1, x2, x2b, n2⟩ => slices1.length - n2) ⟨([] : List Place), x1.1, x1.2, 0⟩ (.cons rfl (.cons rfl (.cons rfl (.nil _)))) (.nil) ⟨Nat.zero_le _, (by simp), (by rw [← hf1, List.drop_of_length_le hge0]; simp only [slices_Concat_Place_L0, cond_true, cond_false] : (slices_Concat_Place slices1) = (slices_Concat_Place_L1 slices1 ([] : List Place))).symm⟩ Le4 ?_
    rintro ⟨newslice1, x2, x2b, n2⟩ ⟨hkn2, hnl, hf2⟩
    simp only [List.cons_append, List.nil_append]
    (repeat refine cw_seq ?_); refine cw_region ?_
    refine Rp rfl rfl rfl rfl ?_
    refine rw_nil ?_
    (repeat refine cw_seq ?_); refine cw_cond (b := decide ((n2 : Int) < (slices1.length : Int))) rfl rfl (fun hc3 => ?_) (fun hc3 => ?_)
    · skip
      have hlt1 : n2 < slices1.length := Int.ofNat_lt.1 (of_decide_eq_true hc3)
      (repeat refine cw_seq ?_); refine cw_skip ?_
      (repeat refine cw_seq ?_); refine cw_block ?_
      (repeat refine cw_seq ?_); refine cw_region ?_
      refine rw_exN NPlaces (X := y1) (l := slices1) Mm fun (γ2 : Nat → SlV) => ?_
      refine rw_q rfl rfl rfl (q_idxN NPlaces γ2 n2 rfl rfl (fun _ => rfl) rfl (fun _ => rfl) rfl rfl rfl Mm rfl (fun _ => rfl) (fun _ => by first | assumption | omega)) ?_
      refine rw_q rfl rfl rfl (q_le1N NPlaces γ2 (v := (γ2 n2).val (gt slices1 n2).length) rfl rfl (fun _ => rfl) rfl rfl Mm (fun _ => by first | assumption | omega) rfl) ?_
      refine rw_fact (F := RdL EPlace (γ2 n2) (gt slices1 n2)) [FactsG NPlaces γ2 slices1] Sm (fun M w h => (allF1 h) n2 (by first | assumption | omega) _ (.head _)) ?_
      refine Rp rfl rfl rfl rfl ?_
      refine rw_nil ?_
      (repeat refine cw_seq ?_); refine cw_region ?_
      refine Rp rfl rfl rfl rfl ?_
      refine Rp rfl rfl rfl rfl ?_
      refine rw_appendL EPlace newslice1 (gt slices1 n2) (b := x2b) .sq (fun _ _ => .inl ⟨_, rfl⟩) (guard_none rfl) rfl rfl rfl rfl rfl rfl rfl (fun _ _ => Uo) rfl rfl rfl rfl rfl rfl rfl (reads_rdL Mm) (by have := (cat_step slices1 hlt1).2; show (_ + _) * 24 ≤ _; omega) fun x3 x3b => ?_
      refine Rp rfl rfl rfl rfl ?_
      refine rw_nil ?_
      (repeat refine cw_seq ?_); refine cw_region ?_
      refine rw_q rfl rfl rfl (q_add rfl rfl (fun _ => rfl) rfl (fun _ => rfl) (fun _ => by omega)) ?_
      refine Rp rfl rfl rfl rfl ?_
      refine rw_nil ?_
      refine ⟨⟨(newslice1 ++ (gt slices1 n2)), x3, x3b, (n2 + 1)⟩, ⟨hlt1, (by rw [(cat_step slices1 hlt1).1]; simp only [List.length_append]; omega), (by rw [← hf2, drop_gt hlt1]; simp only [slices_Concat_Place_L1, cond_true, cond_false] : (slices_Concat_Place slices1) = (slices_Concat_Place_L1 (slices1.drop (n2 + 1)) (newslice1 ++ (gt slices1 n2)))).symm⟩, (by simp only []; omega), Le4⟩
    · skip
      have hge1 : slices1.length ≤ n2 := by have := of_decide_eq_false hc3; omega
      (repeat refine cw_seq ?_); refine cw_exit ?_
      (repeat refine cw_seq ?_); refine cw_region ?_
      refine Rp rfl rfl rfl rfl ?_
      refine Rp rfl rfl rfl rfl ?_
      refine rw_nil ?_
      (repeat refine cw_seq ?_)
      have hr1 : (slices_Concat_Place slices1) = newslice1 := by rw [← hf2, List.drop_of_length_le hge1]; simp only [slices_Concat_Place_L1, cond_true, cond_false]
      refine cw_ret ?_
      rw [hr1]
      exact ⟨⟨x2, x2b⟩, _, (.cons (.tmp rfl) .nil), rfl, Sm, .nil _, Sp⟩
theorem slices_Concat_Place_eq (ls : List (List Place)) : slices_Concat_Place ls = ls.flatten := by
  have h1 : ∀ (l : List (List Place)) (acc : List Place), slices_Concat_Place_L1 l acc = acc ++ l.flatten := by
    intro l
    induction l with
    | nil => intro acc; simp [slices_Concat_Place_L1]
    | cons a r ih => intro acc; rw [slices_Concat_Place_L1, ih]; simp
  have h0 : ∀ (l : List (List Place)) (k : Nat), slices_Concat_Place_L0 ls l k = slices_Concat_Place_L1 ls [] := by
    intro l
    induction l with
    | nil => intro k; rfl
    | cons a r ih =>
      intro k
      have : decide (((k : Int) + (a.length : Int)) < 0) = false := by simp; omega
      rw [slices_Concat_Place_L0, this, cond_false, ih]
  rw [slices_Concat_Place, h0, h1, List.nil_append]
theorem slices_Concat_Place_spec' (y1 : SlV) (ls : List (List Place)) (hct : ls.flatten.length * 24 ≤ 140737488355328) : DoesG Try.prog 102 [y1.val ls.length] [RdN NPlaces y1 ls] ⟨[], []⟩ (fun (X : SlV × Option Nat) => X.1.val ls.flatten.length) (fun (_ : SlV × Option Nat) => []) (fun (X : SlV × Option Nat) => ⟨[], [ownL EPlace 35 X.1 X.2 ls.flatten]⟩) := by
  have := slices_Concat_Place_spec y1 ls hct
  rw [slices_Concat_Place_eq] at this
  exact this

def orangeryref_CheckRoots_L0  : List Int → Int → Int
  | [], last1 => 0
  | pn1 :: rn1, last1 => (bif (!(orangeryref_in pn1 0 16)) then 5 else (bif decide (pn1 ≤ last1) then 6 else (orangeryref_CheckRoots_L0 rn1 pn1)))
def orangeryref_CheckRoots (l1 : List Int) : Int :=
  (bif decide ((l1.length : Int) > 4) then 2 else (orangeryref_CheckRoots_L0 l1 (-1)))
theorem orangeryref_CheckRoots_spec (y1 : SlV) (l1 : List Int) : Does Try.prog 45 [y1.val l1.length] [RdL EInt y1 l1] (fun (_ : Unit) => .int .i64 (orangeryref_CheckRoots l1)) (fun (_ : Unit) => []) := by
  refine does_of tab_ok Try.func45 rfl Try.ntmps45 Try.results45 rfl inferInstance (fun _ => inferInstance) fun C => ?_
  refine cw_pure (φ := l1.length * 8 ≤ 140737488355328) [RdL EInt y1 l1] Sm (fun M w h => (allF1 h).len) fun hlen1 => ?_
  (repeat refine cw_seq ?_); refine cw_region ?_
  refine Rp rfl rfl rfl rfl ?_
  refine rw_nil ?_
  (repeat refine cw_seq ?_); refine cw_region ?_
  refine Rp rfl rfl rfl rfl ?_
  refine Rp rfl rfl rfl rfl ?_
  refine Rp rfl rfl rfl rfl ?_
  refine rw_nil ?_
  (repeat refine cw_seq ?_); refine cw_cond (b := decide ((l1.length : Int) > 4)) rfl rfl (fun hc1 => ?_) (fun hc1 => ?_)
  · skip
    have hc1p := of_decide_eq_true hc1
    (repeat refine cw_seq ?_); refine cw_region ?_
    refine Rp rfl rfl rfl rfl ?_
    refine rw_nil ?_
    (repeat refine cw_seq ?_)
    have hr1 : (orangeryref_CheckRoots l1) = 2 := by simp only [orangeryref_CheckRoots, hc1, cond_true, cond_false]
    refine cw_ret ?_
    rw [hr1]
    exact ⟨(), _, (.cons (.tmp rfl) .nil), rfl, Sm, .nil _, .nil _⟩
  · skip
    have hc1p := of_decide_eq_false hc1
    (repeat refine cw_seq ?_); refine cw_skip ?_
    (repeat refine cw_seq ?_); refine cw_region ?_
    refine Rp rfl rfl rfl rfl ?_
    refine rw_nil ?_
    (repeat refine cw_seq ?_); refine cw_region ?_
    refine Rp rfl rfl rfl rfl ?_
    refine Rp rfl rfl rfl rfl ?_
    refine Rp rfl rfl rfl rfl ?_
    refine rw_nil ?_
    (repeat refine cw_seq ?_); refine cw_block ?_
    (repeat refine cw_seq ?_); refine cw_loopS [2, 9, 10] [] (fun (i_ : Int × Nat) => match i_ with | ⟨last1, n1⟩ => [(3, .v (.int .i64 last1)), (11, .v (.int .i64 (n1 : Int)))]) (fun (i_ : Int × Nat) => match i_ with | ⟨last1, n1⟩ => []) (fun (i_ : Int × Nat) => match i_ with | ⟨last1, n1⟩ => []) (fun (i_ : Int × Nat) => match i_ with | ⟨last1, n1⟩ => []) (fun (i_ : Int × Nat) => match i_ with | ⟨last1, n1⟩ => (n1 ≤ l1.length) ∧ (orangeryref_CheckRoots_L0 (l1.drop n1) last1) = (orangeryref_CheckRoots l1)) (fun (i_ : Int × Nat) => match i_ with | ⟨last1, n1⟩ => l1.length - n1) ⟨(-1), 0⟩ (.cons rfl (.cons rfl (.cons rfl (.nil _)))) (.nil) ⟨Nat.zero_le _, (by simp only [orangeryref_CheckRoots, hc1, cond_true, cond_false] : (orangeryref_CheckRoots l1) = (orangeryref_CheckRoots_L0 l1 (-1))).symm⟩ Le4 ?_
    rintro ⟨last1, n1⟩ ⟨hkn1, hf1⟩
    simp only [List.cons_append, List.nil_append]
    (repeat refine cw_seq ?_); refine cw_region ?_
    refine Rp rfl rfl rfl rfl ?_
    refine rw_nil ?_
    (repeat refine cw_seq ?_); refine cw_cond (b := decide ((n1 : Int) < (l1.length : Int))) rfl rfl (fun hc2 => ?_) (fun hc2 => ?_)
    · skip
      have hlt0 : n1 < l1.length := Int.ofNat_lt.1 (of_decide_eq_true hc2)
      (repeat refine cw_seq ?_); refine cw_skip ?_
      (repeat refine cw_seq ?_); refine cw_block ?_
      (repeat refine cw_seq ?_); refine cw_region ?_
      refine rw_q rfl rfl rfl (q_idx EInt n1 rfl rfl (fun _ => rfl) rfl (fun _ => rfl) rfl rfl rfl Mm rfl (fun _ => rfl) (fun _ => by first | assumption | omega)) ?_
      refine rw_q rfl rfl rfl (q_le1 EInt rfl rfl (fun _ => rfl) rfl rfl Mm (fun _ => by first | assumption | omega) rfl) ?_
      refine Rp rfl rfl rfl rfl ?_
      refine rw_nil ?_
      (repeat refine cw_seq ?_); refine cw_region ?_
      refine Rp rfl rfl rfl rfl ?_
      refine rw_call (orangeryref_in_spec (gt l1 n1) 0 16) .sq (guard_none rfl) rfl rfl rfl Kr rfl rfl Sm ?_
      intro _
      refine Rp rfl rfl rfl rfl ?_
      refine rw_nil ?_
      (repeat refine cw_seq ?_); refine cw_cond (b := (!(orangeryref_in (gt l1 n1) 0 16))) rfl rfl (fun hc3 => ?_) (fun hc3 => ?_)
      · skip
        (repeat refine cw_seq ?_); refine cw_region ?_
        refine Rp rfl rfl rfl rfl ?_
        refine rw_nil ?_
        (repeat refine cw_seq ?_)
        have hr2 : (orangeryref_CheckRoots l1) = 5 := by rw [← hf1, drop_gt hlt0]; simp only [orangeryref_CheckRoots_L0, hc3, cond_true, cond_false]
        refine cw_ret ?_
        rw [hr2]
        exact ⟨(), _, (.cons (.tmp rfl) .nil), rfl, Sm, .nil _, .nil _⟩
      · skip
        (repeat refine cw_seq ?_); refine cw_skip ?_
        (repeat refine cw_seq ?_); refine cw_region ?_
        refine Rp rfl rfl rfl rfl ?_
        refine Rp rfl rfl rfl rfl ?_
        refine Rp rfl rfl rfl rfl ?_
        refine rw_nil ?_
        (repeat refine cw_seq ?_); refine cw_cond (b := decide ((gt l1 n1) ≤ last1)) rfl rfl (fun hc4 => ?_) (fun hc4 => ?_)
        · skip
          have hc4p := of_decide_eq_true hc4
          (repeat refine cw_seq ?_); refine cw_region ?_
          refine Rp rfl rfl rfl rfl ?_
          refine rw_nil ?_
          (repeat refine cw_seq ?_)
          have hr3 : (orangeryref_CheckRoots l1) = 6 := by rw [← hf1, drop_gt hlt0]; simp only [orangeryref_CheckRoots_L0, hc3, hc4, cond_true, cond_false]
          refine cw_ret ?_
          rw [hr3]
          exact ⟨(), _, (.cons (.tmp rfl) .nil), rfl, Sm, .nil _, .nil _⟩
        · skip
          have hc4p := of_decide_eq_false hc4
          (repeat refine cw_seq ?_); refine cw_skip ?_
          (repeat refine cw_seq ?_); refine cw_region ?_
          refine Rp rfl rfl rfl rfl ?_
          refine Rp rfl rfl rfl rfl ?_
          refine rw_nil ?_
          (repeat refine cw_seq ?_); refine cw_region ?_
          refine rw_q rfl rfl rfl (q_add rfl rfl (fun _ => rfl) rfl (fun _ => rfl) (fun _ => by omega)) ?_
          refine Rp rfl rfl rfl rfl ?_
          refine rw_nil ?_
          refine ⟨⟨(gt l1 n1), (n1 + 1)⟩, ⟨hlt0, (by rw [← hf1, drop_gt hlt0]; simp only [orangeryref_CheckRoots_L0, hc3, hc4, cond_true, cond_false] : (orangeryref_CheckRoots l1) = (orangeryref_CheckRoots_L0 (l1.drop (n1 + 1)) (gt l1 n1))).symm⟩, (by simp only []; omega), Le4⟩
    · skip
      have hge0 : l1.length ≤ n1 := by have := of_decide_eq_false hc2; omega
      (repeat refine cw_seq ?_); refine cw_exit ?_
      (repeat refine cw_seq ?_); refine cw_region ?_
      refine Rp rfl rfl rfl rfl ?_
      refine rw_nil ?_
      (repeat refine cw_seq ?_)
      have hr4 : (orangeryref_CheckRoots l1) = 0 := by rw [← hf1, List.drop_of_length_le hge0]; simp only [orangeryref_CheckRoots_L0, cond_true, cond_false]
      refine cw_ret ?_
      rw [hr4]
      exact ⟨(), _, (.cons (.tmp rfl) .nil), rfl, Sm, .nil _, .nil _⟩

def orangeryref_SameView (a1 : View) (b1 : View) : Bool :=
  (((decide (a1.roots = b1.roots)) && (decide (a1.known = b1.known))) && (decide (a1.way = b1.way)))
theorem orangeryref_SameView_spec (y1 : SlV) (y2 : SlV) (y3 : SlV) (a1 : View) (y4 : SlV) (y5 : SlV) (y6 : SlV) (b1 : View) : Does Try.prog 46 [.agg ⟨[y1.val a1.roots.length, y2.val a1.known.length, y3.val a1.way.length]⟩, .agg ⟨[y4.val b1.roots.length, y5.val b1.known.length, y6.val b1.way.length]⟩] [RdL EInt y1 a1.roots, RdL EPlace y2 a1.known, RdL EPlace y3 a1.way, RdL EInt y4 b1.roots, RdL EPlace y5 b1.known, RdL EPlace y6 b1.way] (fun (_ : Unit) => .bool (orangeryref_SameView a1 b1)) (fun (_ : Unit) => []) := by
  refine does_of tab_ok Try.func46 rfl Try.ntmps46 Try.results46 rfl inferInstance (fun _ => inferInstance) fun C => ?_
  refine cw_pure (φ := a1.roots.length * 8 ≤ 140737488355328) [RdL EInt y1 a1.roots] Sm (fun M w h => (allF1 h).len) fun hlen1 => ?_
  refine cw_pure (φ := a1.known.length * 24 ≤ 140737488355328) [RdL EPlace y2 a1.known] Sm (fun M w h => (allF1 h).len) fun hlen2 => ?_
  refine cw_pure (φ := a1.way.length * 24 ≤ 140737488355328) [RdL EPlace y3 a1.way] Sm (fun M w h => (allF1 h).len) fun hlen3 => ?_
  refine cw_pure (φ := b1.roots.length * 8 ≤ 140737488355328) [RdL EInt y4 b1.roots] Sm (fun M w h => (allF1 h).len) fun hlen4 => ?_
  refine cw_pure (φ := b1.known.length * 24 ≤ 140737488355328) [RdL EPlace y5 b1.known] Sm (fun M w h => (allF1 h).len) fun hlen5 => ?_
  refine cw_pure (φ := b1.way.length * 24 ≤ 140737488355328) [RdL EPlace y6 b1.way] Sm (fun M w h => (allF1 h).len) fun hlen6 => ?_
  (repeat refine cw_seq ?_); refine cw_region ?_
  refine rw_box_agg .sq (guard_none rfl) rfl rfl rfl rfl rfl fun g1 => ?_
  refine rw_box_agg .sq (guard_none rfl) rfl rfl rfl rfl rfl fun g2 => ?_
  refine Rp rfl rfl rfl rfl ?_
  refine rw_nil ?_
  (repeat refine cw_seq ?_); refine cw_region ?_
  refine Rp rfl rfl rfl rfl ?_
  refine rw_q rfl rfl rfl (q_ld1 rfl rfl (fun _ => rfl) rfl Mm rfl) ?_
  refine Rp rfl rfl rfl rfl ?_
  refine rw_q rfl rfl rfl (q_ld1 rfl rfl (fun _ => rfl) rfl Mm rfl) ?_
  refine rw_call ((fun y1 a y2 b => slices_Equal_Int_spec' y1 y2 a b) y1 a1.roots y4 b1.roots) .sq (guard_none rfl) rfl rfl rfl Kr rfl rfl Sm ?_
  intro _
  refine Rp rfl rfl rfl rfl ?_
  refine rw_qg (guard_vt rfl rfl rfl) rfl rfl (q_pev rfl Bt) ?_
  refine rw_qg (guard_vt rfl rfl rfl) rfl rfl (q_ld1 rfl rfl Bt rfl Mm rfl) ?_
  refine rw_qg (guard_vt rfl rfl rfl) rfl rfl (q_pev rfl Bt) ?_
  refine rw_qg (guard_vt rfl rfl rfl) rfl rfl (q_ld1 rfl rfl Bt rfl Mm rfl) ?_
  refine rw_callg (fun hG_ => (fun y1 a y2 b => slices_Equal_Place_spec' y1 y2 a b) y2 a1.known y5 b1.known) (fun _ => rfl) .sq (guard_vt rfl rfl rfl) rfl rfl rfl Kr rfl Bt Sm ?_
  refine rw_q rfl rfl rfl (q_pev rfl Bt) ?_
  refine Rp rfl rfl rfl rfl ?_
  refine rw_qg (guard_vt rfl rfl rfl) rfl rfl (q_pev rfl Bt) ?_
  refine rw_qg (guard_vt rfl rfl rfl) rfl rfl (q_ld1 rfl rfl Bt rfl Mm rfl) ?_
  refine rw_qg (guard_vt rfl rfl rfl) rfl rfl (q_pev rfl Bt) ?_
  refine rw_qg (guard_vt rfl rfl rfl) rfl rfl (q_ld1 rfl rfl Bt rfl Mm rfl) ?_
  refine rw_callg (fun hG_ => (fun y1 a y2 b => slices_Equal_Place_spec' y1 y2 a b) y3 a1.way y6 b1.way) (fun _ => rfl) .sq (guard_vt rfl rfl rfl) rfl rfl rfl Kr rfl Bt Sm ?_
  refine rw_q rfl rfl rfl (q_pev rfl Bt) ?_
  refine Rp rfl rfl rfl rfl ?_
  refine rw_nil ?_
  (repeat refine cw_seq ?_)
  have hr1 : (orangeryref_SameView a1 b1) = (((decide (a1.roots = b1.roots)) && (decide (a1.known = b1.known))) && (decide (a1.way = b1.way))) := by simp only [orangeryref_SameView, cond_true, cond_false]
  refine cw_ret ?_
  rw [hr1]
  exact ⟨(), _, (.cons (.tmp rfl) .nil), rfl, Sm, .nil _, .nil _⟩

theorem chain_L0_in {l : List Place} (hpar : ∀ p ∈ l, 0 ≤ p.parent ∧ p.parent ≤ 16) : ∀ (f : Nat) (node : Int) (out : List Int), f + out.length = 19 → 1 ≤ out.length → out.Nodup → (∀ x ∈ out.tail, 0 ≤ x ∧ x ≤ 16) →
    1 ≤ (orangeryref_chain_L0 l f node out).length ∧ (orangeryref_chain_L0 l f node out).length ≤ 18
  | 0, node, out, hf, h1, hn, ht => by have := chain_len hn ht; omega
  | f + 1, node, out, hf, h1, hn, ht => by
    rw [orangeryref_chain_L0]
    cases hb : (((tree_Find l node).node == 0) || decide ((tree_Find l node).parent ∈ out)) with
    | true => exact ⟨h1, chain_len hn ht⟩
    | false =>
      obtain ⟨h2, h3⟩ := Bool.or_eq_false_iff.1 hb
      refine chain_L0_in hpar f _ _ (by simp; omega) (by simp) (nodup_snoc hn (by simpa using h3)) (tail_snoc ht (hpar _ (find_mem' (by simpa using h2))))
theorem chain_in {l : List Place} (hpar : ∀ p ∈ l, 0 ≤ p.parent ∧ p.parent ≤ 16) (n : Int) : 1 ≤ (orangeryref_chain l n).length ∧ (orangeryref_chain l n).length ≤ 18 :=
  chain_L0_in hpar 18 n [n] rfl (by simp) (by simp) (by simp)
theorem CheckRoots_len {l : List Int} (h : orangeryref_CheckRoots l = 0) : l.length ≤ 4 := by
  unfold orangeryref_CheckRoots at h
  cases hb : decide ((l.length : Int) > 4) with
  | true => rw [hb] at h; simp at h
  | false => simp at hb; omega

def orangeryref_Seen_L2 (roots1 : List Int) : List Int → Bool → Bool
  | [], known3 => known3
  | pn3 :: rn3, known3 => (orangeryref_Seen_L2 roots1 rn3 (known3 || (decide (pn3 ∈ roots1))))
def orangeryref_Seen_L1 (t1 : List Place) (roots1 : List Int) (up1 : List Int) : List Place → (List Place) → (List Place) → (View × Int)
  | [], known1, way1 => ((⟨roots1, known1, way1⟩ : View), 0)
  | pn2 :: rn2, known1, way1 => (bif ((orangeryref_Seen_L2 roots1 (orangeryref_chain t1 (pn2.node)) false)) then (orangeryref_Seen_L1 t1 roots1 up1 rn2 (known1 ++ [pn2]) way1) else (bif (decide ((pn2.node) ∈ up1)) then (orangeryref_Seen_L1 t1 roots1 up1 rn2 known1 (way1 ++ [pn2])) else (orangeryref_Seen_L1 t1 roots1 up1 rn2 known1 way1)))
def orangeryref_Seen_L0 (t1 : List Place) (roots1 : List Int) : List Int → (List Int) → (View × Int)
  | [], up1 => (orangeryref_Seen_L1 t1 roots1 up1 t1 [] [])
  | pn1 :: rn1, up1 => (orangeryref_Seen_L0 t1 roots1 rn1 (up1 ++ ((orangeryref_chain t1 pn1).drop 1)))
def orangeryref_Seen (t1 : List Place) (roots1 : List Int) : View × Int :=
  (bif ((orangeryref_CheckTree t1) != 0) then ((⟨([] : List Int), ([] : List Place), ([] : List Place)⟩ : View), (orangeryref_CheckTree t1)) else (bif ((orangeryref_CheckRoots roots1) != 0) then ((⟨([] : List Int), ([] : List Place), ([] : List Place)⟩ : View), (orangeryref_CheckRoots roots1)) else (orangeryref_Seen_L0 t1 roots1 roots1 [])))
theorem orangeryref_Seen_spec (y1 : SlV) (t1 : List Place) (y2 : SlV) (roots1 : List Int) : Does Try.prog 43 [.agg ⟨[y1.val t1.length]⟩, y2.val roots1.length] [RdL EPlace y1 t1, RdL EInt y2 roots1] (fun (X : SlV × SlV × SlV) => .tuple #[.agg ⟨[X.1.val (((orangeryref_Seen t1 roots1).1).roots).length, X.2.1.val (((orangeryref_Seen t1 roots1).1).known).length, X.2.2.val (((orangeryref_Seen t1 roots1).1).way).length]⟩, .int .i64 ((orangeryref_Seen t1 roots1).2)]) (fun (X : SlV × SlV × SlV) => [RdL EInt X.1 (((orangeryref_Seen t1 roots1).1).roots), RdL EPlace X.2.1 (((orangeryref_Seen t1 roots1).1).known), RdL EPlace X.2.2 (((orangeryref_Seen t1 roots1).1).way)]) := by
  refine does_of tab_ok Try.func43 rfl Try.ntmps43 Try.results43 rfl inferInstance (fun _ => inferInstance) fun C => ?_
  refine cw_pure (φ := t1.length * 24 ≤ 140737488355328) [RdL EPlace y1 t1] Sm (fun M w h => (allF1 h).len) fun hlen1 => ?_
  refine cw_pure (φ := roots1.length * 8 ≤ 140737488355328) [RdL EInt y2 roots1] Sm (fun M w h => (allF1 h).len) fun hlen2 => ?_
  (repeat refine cw_seq ?_); refine cw_region ?_
  refine rw_box_agg .sq (guard_none rfl) rfl rfl rfl rfl rfl fun g1 => ?_
  refine rw_alloc .sq (guard_none rfl) rfl rfl rfl rfl fun g2 => ?_
  refine Rp rfl rfl rfl rfl ?_
  refine rw_nil ?_
  (repeat refine cw_seq ?_); refine cw_region ?_
  refine rw_q rfl rfl rfl (q_ldA rfl rfl (fun _ => rfl) rfl Mm rfl) ?_
  refine rw_call (orangeryref_CheckTree_spec y1 t1) .sq (guard_none rfl) rfl rfl rfl Kr rfl rfl Sm ?_
  intro _
  refine Rp rfl rfl rfl rfl ?_
  refine rw_nil ?_
  (repeat refine cw_seq ?_); refine cw_region ?_
  refine Rp rfl rfl rfl rfl ?_
  refine Rp rfl rfl rfl rfl ?_
  refine rw_nil ?_
  (repeat refine cw_seq ?_); refine cw_cond (b := ((orangeryref_CheckTree t1) != 0)) rfl rfl (fun hc1 => ?_) (fun hc1 => ?_)
  · skip
    have hc1p := bne_iff_ne.1 hc1
    (repeat refine cw_seq ?_); refine cw_region ?_
    refine Rp rfl rfl rfl rfl ?_
    refine Rp rfl rfl rfl rfl ?_
    refine rw_stA .sq (.inl ⟨_, rfl⟩) (guard_none rfl) rfl rfl rfl rfl rfl rfl rfl rfl rfl Ub rfl ?_
    refine Rp rfl rfl rfl rfl ?_
    refine rw_nil ?_
    (repeat refine cw_seq ?_)
    refine cw_fact (F := RdL EInt ⟨none, 0⟩ ([] : List Int)) [] (.nil _) (fun M w _ => RdL.nil _ _ _ (by omega) M w) ?_
    refine cw_fact (F := RdL EPlace ⟨none, 0⟩ ([] : List Place)) [] (.nil _) (fun M w _ => RdL.nil _ _ _ (by omega) M w) ?_
    have hr1 : (orangeryref_Seen t1 roots1) = ((⟨([] : List Int), ([] : List Place), ([] : List Place)⟩ : View), (orangeryref_CheckTree t1)) := by simp only [orangeryref_Seen, hc1, cond_true, cond_false]
    refine cw_ret ?_
    rw [hr1]
    exact ⟨⟨(⟨none, 0⟩ : SlV), (⟨none, 0⟩ : SlV), (⟨none, 0⟩ : SlV)⟩, _, (.cons (.agg rfl rfl Mm rfl) (.cons (.tmp rfl) .nil)), rfl, Sm, .nil _, .nil _⟩
  · skip
    have hc1p := eq_of_bne_false hc1
    have hct := eq_of_bne_false hc1
    (repeat refine cw_seq ?_); refine cw_skip ?_
    (repeat refine cw_seq ?_); refine cw_region ?_
    refine Rp rfl rfl rfl rfl ?_
    refine rw_call (orangeryref_CheckRoots_spec y2 roots1) .sq (guard_none rfl) rfl rfl rfl Kr rfl rfl Sm ?_
    intro _
    refine Rp rfl rfl rfl rfl ?_
    refine rw_nil ?_
    (repeat refine cw_seq ?_); refine cw_region ?_
    refine Rp rfl rfl rfl rfl ?_
    refine Rp rfl rfl rfl rfl ?_
    refine rw_nil ?_
    (repeat refine cw_seq ?_); refine cw_cond (b := ((orangeryref_CheckRoots roots1) != 0)) rfl rfl (fun hc2 => ?_) (fun hc2 => ?_)
    · skip
      have hc2p := bne_iff_ne.1 hc2
      (repeat refine cw_seq ?_); refine cw_region ?_
      refine Rp rfl rfl rfl rfl ?_
      refine Rp rfl rfl rfl rfl ?_
      refine rw_stA .sq (.inl ⟨_, rfl⟩) (guard_none rfl) rfl rfl rfl rfl rfl rfl rfl rfl rfl Ub rfl ?_
      refine Rp rfl rfl rfl rfl ?_
      refine rw_nil ?_
      (repeat refine cw_seq ?_)
      refine cw_fact (F := RdL EInt ⟨none, 0⟩ ([] : List Int)) [] (.nil _) (fun M w _ => RdL.nil _ _ _ (by omega) M w) ?_
      refine cw_fact (F := RdL EPlace ⟨none, 0⟩ ([] : List Place)) [] (.nil _) (fun M w _ => RdL.nil _ _ _ (by omega) M w) ?_
      have hr2 : (orangeryref_Seen t1 roots1) = ((⟨([] : List Int), ([] : List Place), ([] : List Place)⟩ : View), (orangeryref_CheckRoots roots1)) := by simp only [orangeryref_Seen, hc1, hc2, cond_true, cond_false]
      refine cw_ret ?_
      rw [hr2]
      exact ⟨⟨(⟨none, 0⟩ : SlV), (⟨none, 0⟩ : SlV), (⟨none, 0⟩ : SlV)⟩, _, (.cons (.agg rfl rfl Mm rfl) (.cons (.tmp rfl) .nil)), rfl, Sm, .nil _, .nil _⟩
    · skip
      have hc2p := eq_of_bne_false hc2
      have hrl := CheckRoots_len (eq_of_bne_false hc2)
      (repeat refine cw_seq ?_); refine cw_skip ?_
      (repeat refine cw_seq ?_); refine cw_region ?_
      refine Rp rfl rfl rfl rfl ?_
      refine Rp rfl rfl rfl rfl ?_
      refine rw_alloc .sq (guard_none rfl) rfl rfl rfl rfl fun g3 => ?_
      refine rw_stA .sq (.inl ⟨_, rfl⟩) (guard_none rfl) rfl rfl rfl rfl rfl rfl rfl rfl rfl Ub rfl ?_
      refine rw_nil ?_
      (repeat refine cw_seq ?_); refine cw_region ?_
      refine Rp rfl rfl rfl rfl ?_
      refine rw_nil ?_
      (repeat refine cw_seq ?_); refine cw_region ?_
      refine Rp rfl rfl rfl rfl ?_
      refine Rp rfl rfl rfl rfl ?_
      refine Rp rfl rfl rfl rfl ?_
      refine rw_nil ?_
      (repeat refine cw_seq ?_); refine cw_block ?_
      (repeat refine cw_seq ?_); refine cw_loopS [1, 2, 4, 5, 8, 31, 32] [true, true, true] (fun (i_ : List Int × SlV × Option Nat × Nat) => match i_ with | ⟨up1, x1, x1b, n1⟩ => [(9, .v (x1.val up1.length)), (33, .v (.int .i64 (n1 : Int)))]) (fun (i_ : List Int × SlV × Option Nat × Nat) => match i_ with | ⟨up1, x1, x1b, n1⟩ => []) (fun (i_ : List Int × SlV × Option Nat × Nat) => match i_ with | ⟨up1, x1, x1b, n1⟩ => [ownL EInt 3 x1 x1b up1]) (fun (i_ : List Int × SlV × Option Nat × Nat) => match i_ with | ⟨up1, x1, x1b, n1⟩ => []) (fun (i_ : List Int × SlV × Option Nat × Nat) => match i_ with | ⟨up1, x1, x1b, n1⟩ => (n1 ≤ roots1.length) ∧ (up1.length ≤ 18 * n1) ∧ (orangeryref_Seen_L0 t1 roots1 (roots1.drop n1) up1) = (orangeryref_Seen t1 roots1)) (fun (i_ : List Int × SlV × Option Nat × Nat) => match i_ with | ⟨up1, x1, x1b, n1⟩ => roots1.length - n1) ⟨[], ⟨none, 0⟩, none, 0⟩ (.cons rfl (.cons rfl (.cons rfl (.cons rfl (.cons rfl (.cons rfl (.cons rfl (.nil _)))))))) (.keep (.keep (.keep (.nil)))) ⟨Nat.zero_le _, (by first | exact Nat.le_refl _ | exact Nat.zero_le _ | omega), (by simp only [orangeryref_Seen, hc1, hc2, cond_true, cond_false] : (orangeryref_Seen t1 roots1) = (orangeryref_Seen_L0 t1 roots1 roots1 [])).symm⟩ (Le.trans (le_nilL EInt 3) Le4) ?_
      rintro ⟨up1, x1, x1b, n1⟩ ⟨hkn1, hupl, hf1⟩
      simp only [List.cons_append, List.nil_append]
      (repeat refine cw_seq ?_); refine cw_region ?_
      refine Rp rfl rfl rfl rfl ?_
      refine rw_nil ?_
      (repeat refine cw_seq ?_); refine cw_cond (b := decide ((n1 : Int) < (roots1.length : Int))) rfl rfl (fun hc3 => ?_) (fun hc3 => ?_)
      · skip
        have hlt0 : n1 < roots1.length := Int.ofNat_lt.1 (of_decide_eq_true hc3)
        (repeat refine cw_seq ?_); refine cw_skip ?_
        (repeat refine cw_seq ?_); refine cw_block ?_
        (repeat refine cw_seq ?_); refine cw_region ?_
        refine rw_q rfl rfl rfl (q_idx EInt n1 rfl rfl (fun _ => rfl) rfl (fun _ => rfl) rfl rfl rfl Mm rfl (fun _ => rfl) (fun _ => by first | assumption | omega)) ?_
        refine rw_q rfl rfl rfl (q_le1 EInt rfl rfl (fun _ => rfl) rfl rfl Mm (fun _ => by first | assumption | omega) rfl) ?_
        refine Rp rfl rfl rfl rfl ?_
        refine rw_nil ?_
        (repeat refine cw_seq ?_); refine cw_region ?_
        refine Rp rfl rfl rfl rfl ?_
        refine Rp rfl rfl rfl rfl ?_
        refine rw_q rfl rfl rfl (q_ld1 rfl rfl (fun _ => rfl) rfl Mm rfl) ?_
        refine Rp rfl rfl rfl rfl ?_
        refine rw_call (orangeryref_chain_spec y1 t1 (gt roots1 n1) (CheckTree_par hct)) .sq (guard_none rfl) rfl rfl rfl Kr rfl rfl Sm ?_
        intro x2
        refine rw_pure (φ := (orangeryref_chain t1 (gt roots1 n1)).length * 8 ≤ 140737488355328) [RdL EInt x2 (orangeryref_chain t1 (gt roots1 n1))] Sm (fun M w h => (allF1 h).len) fun hlen3 => ?_
        have hch := chain_in (CheckTree_par hct) (gt roots1 n1)
        refine rw_q rfl rfl rfl (q_drop EInt 1 rfl rfl (fun _ => rfl) rfl (fun _ => rfl) rfl rfl (fun _ => by omega) (fun _ => by omega)) ?_
        refine rw_fact (F := RdL EInt (⟨slA x2.a x2.c 1 EInt.esz, x2.c - 1⟩ : SlV) ((orangeryref_chain t1 (gt roots1 n1)).drop 1)) [RdL EInt x2 (orangeryref_chain t1 (gt roots1 n1))] Sm (fun M w h => (allF1 h).drop _ (by omega)) ?_
        refine rw_appendL EInt up1 ((orangeryref_chain t1 (gt roots1 n1)).drop 1) (b := x1b) .sq (fun _ _ => .inl ⟨_, rfl⟩) (guard_none rfl) rfl rfl rfl rfl rfl rfl rfl (fun _ _ => Uo) rfl rfl rfl rfl rfl rfl rfl (reads_rdL Mm) (by show (_ + _) * 8 ≤ _; simp only [List.length_drop]; omega) fun x3 x3b => ?_
        refine Rp rfl rfl rfl rfl ?_
        refine rw_nil ?_
        (repeat refine cw_seq ?_); refine cw_region ?_
        refine rw_q rfl rfl rfl (q_add rfl rfl (fun _ => rfl) rfl (fun _ => rfl) (fun _ => by omega)) ?_
        refine Rp rfl rfl rfl rfl ?_
        refine rw_nil ?_
        refine ⟨⟨(up1 ++ ((orangeryref_chain t1 (gt roots1 n1)).drop 1)), x3, x3b, (n1 + 1)⟩, ⟨hlt0, (by simp only [List.length_append, List.length_drop]; omega), (by rw [← hf1, drop_gt hlt0]; simp only [orangeryref_Seen_L0, cond_true, cond_false] : (orangeryref_Seen t1 roots1) = (orangeryref_Seen_L0 t1 roots1 (roots1.drop (n1 + 1)) (up1 ++ ((orangeryref_chain t1 (gt roots1 n1)).drop 1)))).symm⟩, (by simp only []; omega), Le4⟩
      · skip
        have hge0 : roots1.length ≤ n1 := by have := of_decide_eq_false hc3; omega
        (repeat refine cw_seq ?_); refine cw_exit ?_
        (repeat refine cw_seq ?_); refine cw_region ?_
        refine Rp rfl rfl rfl rfl ?_
        refine rw_q rfl rfl rfl (q_ld1 rfl rfl (fun _ => rfl) rfl Mm rfl) ?_
        refine Rp rfl rfl rfl rfl ?_
        refine Rp rfl rfl rfl rfl ?_
        refine rw_nil ?_
        (repeat refine cw_seq ?_); refine cw_block ?_
        (repeat refine cw_seq ?_); refine cw_loopS [1, 2, 4, 5, 8, 9, 46, 47] [false, true, true] (fun (i_ : Nat × List Place × SlV × Option Nat × List Place × SlV × Option Nat) => match i_ with | ⟨n2, known1, x4, x4b, way1, x5, x5b⟩ => [(48, .v (.int .i64 (n2 : Int)))]) (fun (i_ : Nat × List Place × SlV × Option Nat × List Place × SlV × Option Nat) => match i_ with | ⟨n2, known1, x4, x4b, way1, x5, x5b⟩ => [⟨g3, 51, [y2.val roots1.length, x4.val known1.length, x5.val way1.length]⟩]) (fun (i_ : Nat × List Place × SlV × Option Nat × List Place × SlV × Option Nat) => match i_ with | ⟨n2, known1, x4, x4b, way1, x5, x5b⟩ => [ownL EInt 3 x1 x1b up1, ownL EPlace 35 x4 x4b known1, ownL EPlace 35 x5 x5b way1]) (fun (i_ : Nat × List Place × SlV × Option Nat × List Place × SlV × Option Nat) => match i_ with | ⟨n2, known1, x4, x4b, way1, x5, x5b⟩ => []) (fun (i_ : Nat × List Place × SlV × Option Nat × List Place × SlV × Option Nat) => match i_ with | ⟨n2, known1, x4, x4b, way1, x5, x5b⟩ => (n2 ≤ t1.length) ∧ (known1.length ≤ n2) ∧ (way1.length ≤ n2) ∧ (orangeryref_Seen_L1 t1 roots1 up1 (t1.drop n2) known1 way1) = (orangeryref_Seen t1 roots1)) (fun (i_ : Nat × List Place × SlV × Option Nat × List Place × SlV × Option Nat) => match i_ with | ⟨n2, known1, x4, x4b, way1, x5, x5b⟩ => t1.length - n2) ⟨0, [], ⟨none, 0⟩, none, [], ⟨none, 0⟩, none⟩ (.cons rfl (.cons rfl (.cons rfl (.cons rfl (.cons rfl (.cons rfl (.cons rfl (.cons rfl (.nil _))))))))) (.drop (.keep (.keep (.nil)))) ⟨Nat.zero_le _, (by first | exact Nat.le_refl _ | exact Nat.zero_le _ | omega), (by first | exact Nat.le_refl _ | exact Nat.zero_le _ | omega), (by rw [← hf1, List.drop_of_length_le hge0]; simp only [orangeryref_Seen_L0, cond_true, cond_false] : (orangeryref_Seen t1 roots1) = (orangeryref_Seen_L1 t1 roots1 up1 t1 [] [])).symm⟩ (Le.trans (le_nilL EPlace 35) (Le.trans (le_nilL EPlace 35) Le4)) ?_
        rintro ⟨n2, known1, x4, x4b, way1, x5, x5b⟩ ⟨hkn2, hknown1, hway1, hf2⟩
        simp only [List.cons_append, List.nil_append]
        (repeat refine cw_seq ?_); refine cw_region ?_
        refine Rp rfl rfl rfl rfl ?_
        refine rw_nil ?_
        (repeat refine cw_seq ?_); refine cw_cond (b := decide ((n2 : Int) < (t1.length : Int))) rfl rfl (fun hc4 => ?_) (fun hc4 => ?_)
        · skip
          have hlt1 : n2 < t1.length := Int.ofNat_lt.1 (of_decide_eq_true hc4)
          (repeat refine cw_seq ?_); refine cw_skip ?_
          (repeat refine cw_seq ?_); refine cw_block ?_
          (repeat refine cw_seq ?_); refine cw_region ?_
          refine rw_q rfl rfl rfl (q_idx EPlace n2 rfl rfl (fun _ => rfl) rfl (fun _ => rfl) rfl rfl rfl Mm rfl (fun _ => rfl) (fun _ => by first | assumption | omega)) ?_
          refine rw_q rfl rfl rfl (q_leA EPlace rfl rfl (fun _ => rfl) rfl rfl Mm (fun _ => by first | assumption | omega)) ?_
          refine rw_alloc .sq (guard_none rfl) rfl rfl rfl rfl fun g4 => ?_
          refine rw_stA .sq (.inl ⟨_, rfl⟩) (guard_none rfl) rfl rfl rfl rfl rfl rfl rfl rfl rfl Ub rfl ?_
          refine rw_nil ?_
          (repeat refine cw_seq ?_); refine cw_region ?_
          refine Rp rfl rfl rfl rfl ?_
          refine rw_nil ?_
          (repeat refine cw_seq ?_); refine cw_region ?_
          refine Rp rfl rfl rfl rfl ?_
          refine rw_q rfl rfl rfl (q_ld1 rfl rfl (fun _ => rfl) rfl Mm rfl) ?_
          refine Rp rfl rfl rfl rfl ?_
          refine rw_q rfl rfl rfl (q_ld1 rfl rfl (fun _ => rfl) rfl Mm rfl) ?_
          refine rw_call (orangeryref_chain_spec y1 t1 ((gt t1 n2).node) (CheckTree_par hct)) .sq (guard_none rfl) rfl rfl rfl Kr rfl rfl Sm ?_
          intro x6
          refine rw_pure (φ := (orangeryref_chain t1 ((gt t1 n2).node)).length * 8 ≤ 140737488355328) [RdL EInt x6 (orangeryref_chain t1 ((gt t1 n2).node))] Sm (fun M w h => (allF1 h).len) fun hlen4 => ?_
          refine Rp rfl rfl rfl rfl ?_
          refine Rp rfl rfl rfl rfl ?_
          refine rw_nil ?_
          (repeat refine cw_seq ?_)
          refine cw_joinB [1, 2, 4, 5, 8, 9, 13, 46, 47, 48, 49, 50, 51, 52, 53, 54, 55, 56, 57] [true, true, true, true] (fun (known2 : Bool) => [(14, .v (.bool known2))]) (fun (known2 : Bool) => []) (fun (known2 : Bool) => [ownL EInt 3 x1 x1b up1, ownL EPlace 35 x4 x4b known1, ownL EPlace 35 x5 x5b way1]) (fun (known2 : Bool) => []) (fun (known2 : Bool) => known2 = (orangeryref_Seen_L2 roots1 (orangeryref_chain t1 ((gt t1 n2).node)) false)) (.cons rfl (.cons rfl (.cons rfl (.cons rfl (.cons rfl (.cons rfl (.cons rfl (.cons rfl (.cons rfl (.cons rfl (.cons rfl (.cons rfl (.cons rfl (.cons rfl (.cons rfl (.cons rfl (.cons rfl (.cons rfl (.cons rfl (.nil _)))))))))))))))))))) (.keep (.keep (.keep (.keep (.nil))))) ?_ ?_
          · skip
            (repeat refine cw_seq ?_); refine cw_block ?_
            (repeat refine cw_seq ?_); refine cw_loopS [1, 2, 4, 5, 8, 9, 13, 46, 47, 48, 49, 50, 51, 52, 53, 54, 55, 56, 57] [true, true, true, true] (fun (i_ : Bool × Nat) => match i_ with | ⟨known3, n3⟩ => [(14, .v (.bool known3)), (58, .v (.int .i64 (n3 : Int)))]) (fun (i_ : Bool × Nat) => match i_ with | ⟨known3, n3⟩ => []) (fun (i_ : Bool × Nat) => match i_ with | ⟨known3, n3⟩ => [ownL EInt 3 x1 x1b up1, ownL EPlace 35 x4 x4b known1, ownL EPlace 35 x5 x5b way1]) (fun (i_ : Bool × Nat) => match i_ with | ⟨known3, n3⟩ => []) (fun (i_ : Bool × Nat) => match i_ with | ⟨known3, n3⟩ => (n3 ≤ (orangeryref_chain t1 ((gt t1 n2).node)).length) ∧ (orangeryref_Seen_L2 roots1 ((orangeryref_chain t1 ((gt t1 n2).node)).drop n3) known3) = (orangeryref_Seen_L2 roots1 (orangeryref_chain t1 ((gt t1 n2).node)) false)) (fun (i_ : Bool × Nat) => match i_ with | ⟨known3, n3⟩ => (orangeryref_chain t1 ((gt t1 n2).node)).length - n3) ⟨false, 0⟩ (.cons rfl (.cons rfl (.cons rfl (.cons rfl (.cons rfl (.cons rfl (.cons rfl (.cons rfl (.cons rfl (.cons rfl (.cons rfl (.cons rfl (.cons rfl (.cons rfl (.cons rfl (.cons rfl (.cons rfl (.cons rfl (.cons rfl (.nil _)))))))))))))))))))) (.keep (.keep (.keep (.keep (.nil))))) ⟨Nat.zero_le _, (rfl : (orangeryref_Seen_L2 roots1 (orangeryref_chain t1 ((gt t1 n2).node)) false) = (orangeryref_Seen_L2 roots1 (orangeryref_chain t1 ((gt t1 n2).node)) false)).symm⟩ Le4 ?_
            rintro ⟨known3, n3⟩ ⟨hkn3, hf3⟩
            simp only [List.cons_append, List.nil_append]
            (repeat refine cw_seq ?_); refine cw_region ?_
            refine Rp rfl rfl rfl rfl ?_
            refine rw_nil ?_
            (repeat refine cw_seq ?_); refine cw_cond (b := decide ((n3 : Int) < ((orangeryref_chain t1 ((gt t1 n2).node)).length : Int))) rfl rfl (fun hc5 => ?_) (fun hc5 => ?_)
            · skip
              have hlt2 : n3 < (orangeryref_chain t1 ((gt t1 n2).node)).length := Int.ofNat_lt.1 (of_decide_eq_true hc5)
              (repeat refine cw_seq ?_); refine cw_skip ?_
              (repeat refine cw_seq ?_); refine cw_block ?_
              (repeat refine cw_seq ?_); refine cw_region ?_
              refine rw_q rfl rfl rfl (q_idx EInt n3 rfl rfl (fun _ => rfl) rfl (fun _ => rfl) rfl rfl rfl Mm rfl (fun _ => rfl) (fun _ => by first | assumption | omega)) ?_
              refine rw_q rfl rfl rfl (q_le1 EInt rfl rfl (fun _ => rfl) rfl rfl Mm (fun _ => by first | assumption | omega) rfl) ?_
              refine Rp rfl rfl rfl rfl ?_
              refine rw_nil ?_
              (repeat refine cw_seq ?_); refine cw_region ?_
              refine Rp rfl rfl rfl rfl ?_
              refine Rp rfl rfl rfl rfl ?_
              refine rw_qg (guard_vf rfl rfl rfl) rfl rfl (q_pev rfl Bt) ?_
              refine rw_qg (guard_vf rfl rfl rfl) rfl rfl (q_pev rfl Bt) ?_
              refine rw_callg (fun hG_ => slices_Contains_int_spec' y2 roots1 (gt (orangeryref_chain t1 ((gt t1 n2).node)) n3)) (fun _ => rfl) .sq (guard_vf rfl rfl rfl) rfl rfl rfl Kr rfl Bt Sm ?_
              refine rw_q rfl rfl rfl (q_pev rfl Bt) ?_
              refine Rp rfl rfl rfl rfl ?_
              refine rw_nil ?_
              (repeat refine cw_seq ?_); refine cw_region ?_
              refine rw_q rfl rfl rfl (q_add rfl rfl (fun _ => rfl) rfl (fun _ => rfl) (fun _ => by omega)) ?_
              refine Rp rfl rfl rfl rfl ?_
              refine rw_nil ?_
              refine ⟨⟨(known3 || (decide ((gt (orangeryref_chain t1 ((gt t1 n2).node)) n3) ∈ roots1))), (n3 + 1)⟩, ⟨hlt2, (by rw [← hf3, drop_gt hlt2]; simp only [orangeryref_Seen_L2, cond_true, cond_false] : (orangeryref_Seen_L2 roots1 (orangeryref_chain t1 ((gt t1 n2).node)) false) = (orangeryref_Seen_L2 roots1 ((orangeryref_chain t1 ((gt t1 n2).node)).drop (n3 + 1)) (known3 || (decide ((gt (orangeryref_chain t1 ((gt t1 n2).node)) n3) ∈ roots1))))).symm⟩, (by simp only []; omega), Le4⟩
            · skip
              have hge2 : (orangeryref_chain t1 ((gt t1 n2).node)).length ≤ n3 := by have := of_decide_eq_false hc5; omega
              (repeat refine cw_seq ?_); refine cw_exit ?_
              have hv1 : (orangeryref_Seen_L2 roots1 (orangeryref_chain t1 ((gt t1 n2).node)) false) = known3 := by rw [← hf3, List.drop_of_length_le hge2]; simp only [orangeryref_Seen_L2, cond_true, cond_false]
              refine ⟨known3, hv1.symm, Le4⟩
          · skip
            rintro known2 rfl
            simp only [List.cons_append, List.nil_append]
            (repeat refine cw_seq ?_); refine cw_block ?_
            (repeat refine cw_seq ?_); refine cw_region ?_
            refine Rp rfl rfl rfl rfl ?_
            refine Rp rfl rfl rfl rfl ?_
            refine rw_nil ?_
            (repeat refine cw_seq ?_); refine cw_cond (b := ((orangeryref_Seen_L2 roots1 (orangeryref_chain t1 ((gt t1 n2).node)) false))) rfl rfl (fun hc6 => ?_) (fun hc6 => ?_)
            · skip
              (repeat refine cw_seq ?_); refine cw_region ?_
              refine Rp rfl rfl rfl rfl ?_
              refine rw_q rfl rfl rfl (q_ld1 rfl rfl (fun _ => rfl) rfl Mm rfl) ?_
              refine rw_q rfl rfl rfl (q_ldA rfl rfl (fun _ => rfl) rfl Mm rfl) ?_
              refine rw_bsliceL EPlace [(gt t1 n2)] .sq (guard_none rfl) rfl rfl rfl rfl rfl rfl rfl rfl rfl rfl rfl rfl rfl rfl rfl fun x7 x7b => ?_
              refine rw_appendL EPlace known1 [(gt t1 n2)] (b := x4b) .sq (fun _ _ => .inl ⟨_, rfl⟩) (guard_none rfl) rfl rfl rfl rfl rfl rfl rfl (fun _ _ => Uo) rfl rfl rfl rfl rfl rfl rfl (reads_ownL (e := 35) (b := x7b) Mm) (by show (known1.length + 1) * 24 ≤ 140737488355328; (try simp only [List.length_append, List.length_cons, List.length_nil]); omega) fun x8 x8b => ?_
              refine Rp rfl rfl rfl rfl ?_
              refine rw_st1 .sq (.inl ⟨_, rfl⟩) (guard_none rfl) rfl rfl rfl rfl rfl rfl rfl rfl rfl Ub rfl ?_
              refine rw_nil ?_
              (repeat refine cw_seq ?_); refine cw_region ?_
              refine rw_q rfl rfl rfl (q_add rfl rfl (fun _ => rfl) rfl (fun _ => rfl) (fun _ => by omega)) ?_
              refine Rp rfl rfl rfl rfl ?_
              refine rw_nil ?_
              refine ⟨⟨(n2 + 1), (known1 ++ [(gt t1 n2)]), x8, x8b, way1, x5, x5b⟩, ⟨hlt1, (by simp only [List.length_append, List.length_cons, List.length_nil]; omega), (by simp only [List.length_append, List.length_cons, List.length_nil]; omega), (by rw [← hf2, drop_gt hlt1]; simp only [orangeryref_Seen_L1, hc6, cond_true, cond_false] : (orangeryref_Seen t1 roots1) = (orangeryref_Seen_L1 t1 roots1 up1 (t1.drop (n2 + 1)) (known1 ++ [(gt t1 n2)]) way1)).symm⟩, (by simp only []; omega), Le4⟩
            · skip
              (repeat refine cw_seq ?_); refine cw_region ?_
              refine Rp rfl rfl rfl rfl ?_
              refine Rp rfl rfl rfl rfl ?_
              refine rw_q rfl rfl rfl (q_ld1 rfl rfl (fun _ => rfl) rfl Mm rfl) ?_
              refine rw_callR (slices_Contains_int_spec' x1 up1 ((gt t1 n2).node)) .sq (guard_none rfl) rfl rfl rfl Kr rfl rfl (.own Mm (.nil _ _)) ?_
              intro _
              refine Rp rfl rfl rfl rfl ?_
              refine rw_nil ?_
              (repeat refine cw_seq ?_); refine cw_cond (b := (decide (((gt t1 n2).node) ∈ up1))) rfl rfl (fun hc7 => ?_) (fun hc7 => ?_)
              · skip
                (repeat refine cw_seq ?_); refine cw_region ?_
                refine Rp rfl rfl rfl rfl ?_
                refine rw_q rfl rfl rfl (q_ld1 rfl rfl (fun _ => rfl) rfl Mm rfl) ?_
                refine rw_q rfl rfl rfl (q_ldA rfl rfl (fun _ => rfl) rfl Mm rfl) ?_
                refine rw_bsliceL EPlace [(gt t1 n2)] .sq (guard_none rfl) rfl rfl rfl rfl rfl rfl rfl rfl rfl rfl rfl rfl rfl rfl rfl fun x9 x9b => ?_
                refine rw_appendL EPlace way1 [(gt t1 n2)] (b := x5b) .sq (fun _ _ => .inl ⟨_, rfl⟩) (guard_none rfl) rfl rfl rfl rfl rfl rfl rfl (fun _ _ => Uo) rfl rfl rfl rfl rfl rfl rfl (reads_ownL (e := 35) (b := x9b) Mm) (by show (way1.length + 1) * 24 ≤ 140737488355328; (try simp only [List.length_append, List.length_cons, List.length_nil]); omega) fun x10 x10b => ?_
                refine Rp rfl rfl rfl rfl ?_
                refine rw_st1 .sq (.inl ⟨_, rfl⟩) (guard_none rfl) rfl rfl rfl rfl rfl rfl rfl rfl rfl Ub rfl ?_
                refine rw_nil ?_
                (repeat refine cw_seq ?_); refine cw_region ?_
                refine rw_q rfl rfl rfl (q_add rfl rfl (fun _ => rfl) rfl (fun _ => rfl) (fun _ => by omega)) ?_
                refine Rp rfl rfl rfl rfl ?_
                refine rw_nil ?_
                refine ⟨⟨(n2 + 1), known1, x4, x4b, (way1 ++ [(gt t1 n2)]), x10, x10b⟩, ⟨hlt1, (by simp only [List.length_append, List.length_cons, List.length_nil]; omega), (by simp only [List.length_append, List.length_cons, List.length_nil]; omega), (by rw [← hf2, drop_gt hlt1]; simp only [orangeryref_Seen_L1, hc6, hc7, cond_true, cond_false] : (orangeryref_Seen t1 roots1) = (orangeryref_Seen_L1 t1 roots1 up1 (t1.drop (n2 + 1)) known1 (way1 ++ [(gt t1 n2)]))).symm⟩, (by simp only []; omega), Le4⟩
              · skip
                (repeat refine cw_seq ?_); refine cw_skip ?_
                (repeat refine cw_seq ?_); refine cw_region ?_
                refine rw_q rfl rfl rfl (q_add rfl rfl (fun _ => rfl) rfl (fun _ => rfl) (fun _ => by omega)) ?_
                refine Rp rfl rfl rfl rfl ?_
                refine rw_nil ?_
                refine ⟨⟨(n2 + 1), known1, x4, x4b, way1, x5, x5b⟩, ⟨hlt1, (by simp only [List.length_append, List.length_cons, List.length_nil]; omega), (by simp only [List.length_append, List.length_cons, List.length_nil]; omega), (by rw [← hf2, drop_gt hlt1]; simp only [orangeryref_Seen_L1, hc6, hc7, cond_true, cond_false] : (orangeryref_Seen t1 roots1) = (orangeryref_Seen_L1 t1 roots1 up1 (t1.drop (n2 + 1)) known1 way1)).symm⟩, (by simp only []; omega), Le4⟩
        · skip
          have hge1 : t1.length ≤ n2 := by have := of_decide_eq_false hc4; omega
          (repeat refine cw_seq ?_); refine cw_exit ?_
          (repeat refine cw_seq ?_); refine cw_region ?_
          refine rw_q rfl rfl rfl (q_ldA rfl rfl (fun _ => rfl) rfl Mm rfl) ?_
          refine rw_stA .sq (.inl ⟨_, rfl⟩) (guard_none rfl) rfl rfl rfl rfl rfl rfl rfl rfl rfl Ub rfl ?_
          refine Rp rfl rfl rfl rfl ?_
          refine rw_nil ?_
          (repeat refine cw_seq ?_)
          refine cw_le (le_freezeL EPlace 35 x4 x4b known1 Uo) ?_
          refine cw_le (le_freezeL EPlace 35 x5 x5b way1 Uo) ?_
          have hr3 : (orangeryref_Seen t1 roots1) = ((⟨roots1, known1, way1⟩ : View), 0) := by rw [← hf2, List.drop_of_length_le hge1]; simp only [orangeryref_Seen_L1, cond_true, cond_false]
          refine cw_ret ?_
          rw [hr3]
          exact ⟨⟨y2, x4, x5⟩, _, (.cons (.agg rfl rfl Mm rfl) (.cons (.tmp rfl) .nil)), rfl, Sm, .nil _, .nil _⟩
end Go.Proofs.Ytchdacbjiomplaa
