/- Part of this claim. No condition. -/
import Derived.Test.YtchdacbjiomplaaLTab
import Derived.Test.YtchdacbjiomplaaLV
import Derived.Test.YtchdacbjiomplaaWR
set_option linter.unusedVariables false
set_option linter.unusedSimpArgs false
namespace Go.Proofs.Ytchdacbjiomplaa
open Go Go.Proofs.Ytchdacbjiomplaa.Fw Go.Proofs
/-! ### Roots, as the document says -/
theorem CheckRoots_L0_eq (l : List Int) : ∀ (r : List Int) (k : Nat) (last : Int), r = l.drop k → last = (if k = 0 then -1 else gt l (k - 1)) → orangeryref_CheckRoots_L0 r last = view_Roots_L0 l r k
  | [], _, _, _, _ => rfl
  | n :: r, k, last, hr, hl => by
    have hk : k < l.length := by have := congrArg List.length hr; simp at this; omega
    rw [drop_gt hk] at hr
    obtain ⟨hn, hr'⟩ := List.cons.inj hr
    rw [orangeryref_CheckRoots_L0, view_Roots_L0]
    have h1 : (!(orangeryref_in n 0 16)) = (decide (n < 0) || decide (n > 16)) := by
      unfold orangeryref_in
      rw [Bool.eq_iff_iff]
      simp only [Bool.or_eq_true, Bool.not_eq_true', Bool.and_eq_false_iff, decide_eq_false_iff_not, decide_eq_true_eq]
      omega
    rw [h1]
    cases h2 : (decide (n < 0) || decide (n > 16)) with
    | true => rfl
    | false =>
      simp at h2
      have h3 : decide (n ≤ last) = (decide ((k : Int) > 0) && decide (gt l (k - 1) ≥ n)) := by
        rw [Bool.eq_iff_iff]
        simp only [Bool.and_eq_true, decide_eq_true_eq]
        rw [hl]
        by_cases hz : k = 0
        · subst hz; simp; omega
        · simp [hz]; omega
      rw [h3, cond_false, cond_false, CheckRoots_L0_eq l r (k + 1) n hr' (by simp [hn])]
theorem CheckRoots_eq (l : List Int) : orangeryref_CheckRoots l = view_Roots l := by
  unfold orangeryref_CheckRoots view_Roots
  rw [CheckRoots_L0_eq l l 0 (-1) rfl rfl]
/-! ### What is seen -/
theorem chain_L0_nd {l : List Place} (hpar : ∀ p ∈ l, 0 ≤ p.parent ∧ p.parent ≤ 16) : ∀ (f : Nat) (node : Int) (out : List Int), f + out.length = 19 → out.Nodup → (∀ x ∈ out.tail, 0 ≤ x ∧ x ≤ 16) →
    (orangeryref_chain_L0 l f node out).Nodup ∧ ∃ s, orangeryref_chain_L0 l f node out = out ++ s
  | 0, node, out, hf, hn, ht => by have := chain_len hn ht; omega
  | f + 1, node, out, hf, hn, ht => by
    rw [orangeryref_chain_L0]
    cases hb : (((tree_Find l node).node == 0) || decide ((tree_Find l node).parent ∈ out)) with
    | true => exact ⟨hn, [], by simp⟩
    | false =>
      obtain ⟨h2, h3⟩ := Bool.or_eq_false_iff.1 hb
      obtain ⟨h4, s, h5⟩ := chain_L0_nd hpar f (tree_Find l node).parent (out ++ [(tree_Find l node).parent]) (by simp; omega) (nodup_snoc hn (by simpa using h3)) (tail_snoc ht (hpar _ (find_mem' (by simpa using h2))))
      exact ⟨h4, [(tree_Find l node).parent] ++ s, by simp only [cond_false]; rw [h5]; simp⟩
theorem chain_cons {l : List Place} (hpar : ∀ p ∈ l, 0 ≤ p.parent ∧ p.parent ≤ 16) (a : Int) : ∃ s, orangeryref_chain l a = a :: s ∧ a ∉ s := by
  obtain ⟨h1, s, h2⟩ := chain_L0_nd hpar 18 a [a] rfl (by simp) (by simp)
  have h2 : orangeryref_chain l a = a :: s := h2
  have h1 : (orangeryref_chain l a).Nodup := h1
  rw [h2] at h1
  exact ⟨s, h2, (List.nodup_cons.1 h1).1⟩
theorem mem_drop_chain {l : List Place} (hpar : ∀ p ∈ l, 0 ≤ p.parent ∧ p.parent ≤ 16) (a b : Int) : b ∈ (orangeryref_chain l a).drop 1 ↔ a ≠ b ∧ Up l a b := by
  obtain ⟨s, h1, h2⟩ := chain_cons hpar a
  rw [← mem_chain hpar, h1]
  simp only [List.drop_succ_cons, List.drop_zero, List.mem_cons]
  constructor
  · intro h; exact ⟨fun e => h2 (e ▸ h), .inr h⟩
  · rintro ⟨h3, h | h⟩
    · exact absurd h.symm h3
    · exact h
theorem Seen_L2_eq (roots : List Int) : ∀ (l : List Int) (b : Bool), orangeryref_Seen_L2 roots l b = (b || l.any (fun n => decide (n ∈ roots)))
  | [], b => by simp [orangeryref_Seen_L2]
  | n :: r, b => by rw [orangeryref_Seen_L2, Seen_L2_eq roots r, List.any_cons, Bool.or_assoc]
theorem below_eq {t : List Place} (hpar : ∀ p ∈ t, 0 ≤ p.parent ∧ p.parent ≤ 16) (n : Int) (roots : List Int) : (orangeryref_chain t n).any (fun n => decide (n ∈ roots)) = view_below t n roots := by
  rw [Bool.eq_iff_iff, List.any_eq_true]
  unfold view_below view_below_1
  rw [List.any_eq_true]
  constructor
  · rintro ⟨x, h1, h2⟩
    exact ⟨x, by simpa using h2, by rw [tree_Stands_eq, stands_iff]; exact (mem_chain hpar _ _).1 h1⟩
  · rintro ⟨x, h1, h2⟩
    rw [tree_Stands_eq, stands_iff] at h2
    exact ⟨x, (mem_chain hpar _ _).2 h2, by simpa using h1⟩
def ups (t : List Place) (roots : List Int) : List Int := roots.flatMap fun r => (orangeryref_chain t r).drop 1
theorem above_eq {t : List Place} (hpar : ∀ p ∈ t, 0 ≤ p.parent ∧ p.parent ≤ 16) (n : Int) (roots : List Int) : decide (n ∈ ups t roots) = view_above t n roots := by
  rw [Bool.eq_iff_iff, decide_eq_true_eq]
  unfold ups view_above view_above_1
  rw [List.any_eq_true, List.mem_flatMap]
  constructor
  · rintro ⟨r, h1, h2⟩
    obtain ⟨h3, h4⟩ := (mem_drop_chain hpar r n).1 h2
    exact ⟨r, h1, by rw [Bool.and_eq_true, tree_Stands_eq, stands_iff]; exact ⟨by simpa using h3, h4⟩⟩
  · rintro ⟨r, h1, h2⟩
    rw [Bool.and_eq_true, tree_Stands_eq, stands_iff] at h2
    exact ⟨r, h1, (mem_drop_chain hpar r n).2 ⟨by simpa using h2.1, h2.2⟩⟩
theorem Seen_L1_eq {t : List Place} (hpar : ∀ p ∈ t, 0 ≤ p.parent ∧ p.parent ≤ 16) (roots : List Int) : ∀ (l known way : List Place), orangeryref_Seen_L1 t roots (ups t roots) l known way = view_Of_L0 t roots l known way
  | [], known, way => rfl
  | p :: r, known, way => by
    rw [orangeryref_Seen_L1, view_Of_L0, Seen_L2_eq, Bool.false_or, below_eq hpar, above_eq hpar, Seen_L1_eq hpar roots r, Seen_L1_eq hpar roots r, Seen_L1_eq hpar roots r]
theorem Seen_L0_eq (t : List Place) (roots : List Int) : ∀ (l : List Int) (up : List Int), orangeryref_Seen_L0 t roots l up = orangeryref_Seen_L1 t roots (up ++ ups t l) t [] []
  | [], up => by rw [orangeryref_Seen_L0]; simp [ups]
  | r :: l, up => by
    rw [orangeryref_Seen_L0, Seen_L0_eq t roots l]
    simp [ups, List.append_assoc]
theorem Seen_eq (t : List Place) (roots : List Int) : orangeryref_Seen t roots = view_Of t roots := by
  unfold orangeryref_Seen view_Of
  rw [CheckTree_eq, tree_Check_eq, CheckRoots_eq]
  cases h1 : (checkT t != 0) with
  | true => rfl
  | false =>
    have hT := (checkT_iff t).1 (eq_of_bne_false h1)
    have hpar : ∀ p ∈ t, 0 ≤ p.parent ∧ p.parent ≤ 16 := fun p hp => by have := plc_ok (hT.ok p hp); omega
    cases h2 : (view_Roots roots != 0) with
    | true => rfl
    | false =>
      simp only [cond_false]
      rw [Seen_L0_eq, List.nil_append, Seen_L1_eq hpar]
/-! ### Views -/
theorem AllOf_eq {v : View} (hk : Rising v.known) (hw : Rising v.way) : orangeryref_AllOf v = view_All v := by
  unfold orangeryref_AllOf
  rw [All_eq]
  simp only [List.flatten_cons, List.flatten_nil, List.append_nil]
  rw [table_app]
  have h := TabOf.puts v.way (TabOf.table hk) fun p hp => ⟨hw.rng p hp, hw.par p hp⟩
  exact h.places (Rising.puts _ hk hw.rng)
theorem SameView_eq (a b : View) : orangeryref_SameView a b = view_Same a b := rfl
theorem CheckView_eq (v : View) : orangeryref_CheckView v = view_Check v := by
  rw [view_Check_eq]
  unfold orangeryref_CheckView
  rw [CheckRoots_eq, CheckTree_eq, CheckTree_eq]
  cases h0 : (view_Roots v.roots != 0) with
  | true => rfl
  | false =>
    cases h1 : (checkT v.known != 0) with
    | true => rfl
    | false =>
      cases h2 : (checkT v.way != 0) with
      | true => rfl
      | false =>
        simp only [cond_false]
        rw [AllOf_eq ((checkT_iff _).1 (eq_of_bne_false h1)).rising ((checkT_iff _).1 (eq_of_bne_false h2)).rising, Seen_eq, SameView_eq, Same_comm]
end Go.Proofs.Ytchdacbjiomplaa
