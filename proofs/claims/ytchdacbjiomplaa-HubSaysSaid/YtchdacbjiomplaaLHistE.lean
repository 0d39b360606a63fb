/- Part of this claim. No condition. -/
import Derived.Test.YtchdacbjiomplaaW30
import Derived.Test.YtchdacbjiomplaaLH
set_option linter.unusedVariables false
set_option linter.unusedSimpArgs false
namespace Go.Proofs.Ytchdacbjiomplaa
open Go Go.Proofs.Ytchdacbjiomplaa.Fw Go.Proofs
/-! ### Folded, as the document says -/
def rk (o : Op) : Int := orangeryref_rank (⟨o.time, o.who⟩ : Stamp)
theorem rk_eq (o : Op) : rk o = o.time * 3 + o.who := rfl
theorem rk_lt {a b : Op} (ha : chkO a = 0) (hb : chkO b = 0) : rk a < rk b ↔ before a b = true := by
  have h1 := chkO_ok ha
  have h2 := chkO_ok hb
  rw [before_iff, rk_eq, rk_eq]; omega
theorem rk_inj {a b : Op} (ha : chkO a = 0) (hb : chkO b = 0) (h : rk a = rk b) : stamp a = stamp b := by
  have h1 := chkO_ok ha
  have h2 := chkO_ok hb
  rw [rk_eq, rk_eq] at h
  unfold stamp
  congr 1 <;> omega
theorem Folded_L2_spec (l : List Op) (last : Int) : ∀ (r : List Op) (n : Nat) (best : Int), r = l.drop n → (best = -1 ∧ (∀ i, i < n → i < l.length → rk (gt l i) ≤ last) ∨ (0 ≤ best ∧ best < l.length ∧ rk (gt l best.toNat) > last ∧ ∀ i, i < n → i < l.length → rk (gt l i) > last → rk (gt l best.toNat) ≤ rk (gt l i))) →
    let b := orangeryref_Folded_L2 l last r n best
    (b = -1 ∧ (∀ i, i < l.length → rk (gt l i) ≤ last) ∨ (0 ≤ b ∧ b < l.length ∧ rk (gt l b.toNat) > last ∧ ∀ i, i < l.length → rk (gt l i) > last → rk (gt l b.toNat) ≤ rk (gt l i)))
  | [], n, best, hd, h => by
    have hn : l.length ≤ n := by have := congrArg List.length hd; simp at this; omega
    simp only [orangeryref_Folded_L2]
    rcases h with ⟨h1, h2⟩ | ⟨h1, h2, h3, h4⟩
    · exact .inl ⟨h1, fun i hi => h2 i (by omega) hi⟩
    · exact .inr ⟨h1, h2, h3, fun i hi => h4 i (by omega) hi⟩
  | p :: r, n, best, hd, h => by
    have hn : n < l.length := by
      rcases Nat.lt_or_ge n l.length with h | h
      · exact h
      · rw [List.drop_of_length_le h] at hd; cases hd
    rw [drop_gt hn] at hd
    obtain ⟨rfl, hd'⟩ := List.cons.inj hd
    simp only [orangeryref_Folded_L2]
    simp only [show ∀ o : Op, orangeryref_rank (⟨o.time, o.who⟩ : Stamp) = rk o from fun _ => rfl]
    cases hc : (decide (rk (gt l n) > last) && (decide (best < 0) || decide (rk (gt l n) < rk (gt l best.toNat)))) with
    | true =>
      simp only [Bool.and_eq_true, Bool.or_eq_true, decide_eq_true_eq] at hc
      simp only [cond_true]
      refine Folded_L2_spec l last r (n + 1) (n : Int) hd' (.inr ⟨by omega, by omega, by simpa using hc.1, fun i hi hil hgt => ?_⟩)
      rw [show ((n : Int)).toNat = n by simp]
      by_cases hin : i = n
      · rw [hin]; exact Int.le_refl _
      · rcases h with ⟨h1, h2⟩ | ⟨h1, h2, h3, h4⟩
        · have := h2 i (by omega) hil; omega
        · have := h4 i (by omega) hil hgt
          rcases hc.2 with hc2 | hc2 <;> omega
    | false =>
      simp only [Bool.and_eq_false_iff, Bool.or_eq_false_iff, decide_eq_false_iff_not] at hc
      simp only [cond_false]
      refine Folded_L2_spec l last r (n + 1) best hd' ?_
      rcases h with ⟨h1, h2⟩ | ⟨h1, h2, h3, h4⟩
      · refine .inl ⟨h1, fun i hi hil => ?_⟩
        by_cases hin : i = n
        · rw [hin]; omega
        · exact h2 i (by omega) hil
      · refine .inr ⟨h1, h2, h3, fun i hi hil hgt => ?_⟩
        by_cases hin : i = n
        · rw [hin] at hgt ⊢; omega
        · exact h4 i (by omega) hil hgt
theorem perm_of_sub : ∀ {A B : List Op}, A.Nodup → (∀ x ∈ A, x ∈ B) → B.length ≤ A.length → A.Perm B
  | [], B, _, _, hl => by
    have : B = [] := List.length_eq_zero_iff.1 (by simpa using hl)
    rw [this]
  | a :: A, B, hn, hs, hl => by
    obtain ⟨hna, hn'⟩ := List.nodup_cons.1 hn
    have ha := hs a (.head _)
    have h1 : ∀ x ∈ A, x ∈ B.erase a := fun x hx => (List.mem_erase_of_ne (fun e : x = a => hna (by rw [← e]; exact hx))).2 (hs x (.tail _ hx))
    have h2 : (B.erase a).length = B.length - 1 := List.length_erase_of_mem ha
    simp only [List.length_cons] at hl
    exact ((perm_of_sub hn' h1 (by omega)).cons a).trans (List.perm_cons_erase ha).symm
theorem Rise.nodup {l : List Op} (h : Rise l) : l.Nodup := h.imp fun {a b} hab e => by rw [e, before_irr] at hab; cases hab
theorem Folded_L1_spec (l : List Op) (hc : ∀ o ∈ l, chkO o = 0) : ∀ (f : Nat) (last : Int) (P : List Op), l.length - P.length < f → P.length ≤ l.length → Rise P → (∀ p ∈ P, p ∈ l) → (∀ p ∈ P, rk p ≤ last) → (∀ o ∈ l, rk o ≤ last → ∃ p ∈ P, stamp p = stamp o) →
    (orangeryref_Folded_L1 l f last (run e0 P).l (run e0 P).t = (e0, 6) ∧ ¬ Dist l) ∨ ∃ S, Rise S ∧ S.Perm l ∧ orangeryref_Folded_L1 l f last (run e0 P).l (run e0 P).t = (run e0 S, 0)
  | 0, _, _, h, _, _, _, _, _ => by omega
  | f + 1, last, P, hf, hl, hr, hs, hle, hall => by
    have hlen : (run e0 P).l.length = P.length := by rw [run_len]; simp [e0]
    have hcP : ∀ p ∈ P, chkO p = 0 := fun p hp => hc p (hs p hp)
    rw [orangeryref_Folded_L1]
    cases h1 : decide (((run e0 P).l.length : Int) < (l.length : Int)) with
    | false =>
      have h1 := of_decide_eq_false h1
      exact .inr ⟨P, hr, perm_of_sub hr.nodup hs (by omega), rfl⟩
    | true =>
      have h1 := of_decide_eq_true h1
      simp only [cond_true]
      have hb := Folded_L2_spec l last l 0 (-1) rfl (.inl ⟨rfl, fun i hi => by omega⟩)
      simp only at hb
      generalize orangeryref_Folded_L2 l last l 0 (-1) = b at hb ⊢
      rcases hb with ⟨hb1, hb2⟩ | ⟨hb1, hb2, hb3, hb4⟩
      · left
        have : decide (b < 0) = true := decide_eq_true (by omega)
        rw [this]
        refine ⟨rfl, fun hd => ?_⟩
        -- all stamps of l are there already
        have hsub : ∀ s ∈ l.map stamp, s ∈ P.map stamp := fun s hs' => by
          obtain ⟨o, ho, rfl⟩ := List.mem_map.1 hs'
          obtain ⟨i, hi, rfl⟩ := List.getElem_of_mem ho
          obtain ⟨p, hp, he⟩ := hall _ (List.getElem_mem hi) (by have := hb2 i hi; rwa [gt_eq hi] at this)
          exact List.mem_map.2 ⟨p, hp, he⟩
        have hle2 : (l.map stamp).length ≤ (P.map stamp).length := by
          have : ∀ (A B : List Stamp), A.Nodup → (∀ x ∈ A, x ∈ B) → A.length ≤ B.length := by
            intro A
            induction A with
            | nil => intro B _ _; simp
            | cons a A ih =>
              intro B hn hs
              obtain ⟨hna, hn'⟩ := List.nodup_cons.1 hn
              have ha := hs a (.head _)
              have h3 := ih (B.erase a) hn' fun x hx => (List.mem_erase_of_ne (fun e : x = a => hna (by rw [← e]; exact hx))).2 (hs x (.tail _ hx))
              rw [List.length_erase_of_mem ha] at h3
              have : 0 < B.length := List.length_pos_of_mem ha
              simp only [List.length_cons]; omega
          exact this _ _ hd hsub
        simp only [List.length_map] at hle2
        omega
      · have : decide (b < 0) = false := decide_eq_false (by omega)
        rw [this]
        simp only [cond_false]
        have hbm : gt l b.toNat ∈ l := gt_mem (by omega)
        have hbc := hc _ hbm
        have hT : IsTree (run e0 P).t := (checkT_iff _).1 (run_tree P e0 rfl hcP)
        rw [done_move hT (by rw [CheckOp_eq]; exact hbc)]
        have hP' : run e0 (P ++ [gt l b.toNat]) = ⟨(run e0 P).l ++ [(moveDo (run e0 P).t (gt l b.toNat)).2.1], (moveDo (run e0 P).t (gt l b.toNat)).1⟩ := run_snoc P _
        have ih := Folded_L1_spec l hc f (rk (gt l b.toNat)) (P ++ [gt l b.toNat]) (by simp; omega) (by simp; omega) (List.pairwise_append.2 ⟨hr, by simp, fun p hp q hq => by
          rw [List.mem_singleton] at hq
          rw [hq]
          exact (rk_lt (hcP p hp) hbc).1 (by have := hle p hp; omega)⟩) (fun p hp => by
          rcases List.mem_append.1 hp with hp | hp
          · exact hs p hp
          · rw [List.mem_singleton] at hp; rw [hp]; exact hbm) (fun p hp => by
          rcases List.mem_append.1 hp with hp | hp
          · have := hle p hp; omega
          · rw [List.mem_singleton] at hp; rw [hp]; exact Int.le_refl _) (fun o ho hro => by
          by_cases hlast : rk o ≤ last
          · obtain ⟨p, hp, he⟩ := hall o ho hlast
            exact ⟨p, List.mem_append_left _ hp, he⟩
          · obtain ⟨i, hi, rfl⟩ := List.getElem_of_mem ho
            have h5 := hb4 i hi (by rw [gt_eq hi]; omega)
            rw [gt_eq hi] at h5
            exact ⟨gt l b.toNat, by simp, rk_inj hbc (hc _ ho) (by omega)⟩)
        rw [hP'] at ih
        exact ih
theorem Folded_L0_ok (l : List Op) : ∀ r : List Op, (∀ o ∈ r, chkO o = 0) → orangeryref_Folded_L0 l r = orangeryref_Folded_L1 l (l.length + 1) (-1) [] []
  | [], _ => rfl
  | o :: r, h => by
    rw [orangeryref_Folded_L0, CheckOp_eq, h o (.head _)]
    exact Folded_L0_ok l r fun q hq => h q (.tail _ hq)
theorem Folded_L0_bad (l : List Op) : ∀ r : List Op, (∃ o ∈ r, chkO o ≠ 0) → orangeryref_Folded_L0 l r = (e0, 3)
  | [], h => by obtain ⟨o, h, _⟩ := h; cases h
  | o :: r, h => by
    rw [orangeryref_Folded_L0, CheckOp_eq]
    rcases chkO_or o with h0 | h0
    · rw [h0]
      refine Folded_L0_bad l r ?_
      obtain ⟨q, hq, hne⟩ := h
      rcases List.mem_cons.1 hq with rfl | hq
      · exact absurd h0 hne
      · exact ⟨q, hq, hne⟩
    · rw [h0]; rfl
theorem Folded_eq (l : List Op) : orangeryref_Folded l = history_Fold l := by
  rcases Nat.lt_or_ge 30 l.length with h1 | h1
  · rw [Fold_many h1]
    unfold orangeryref_Folded
    have : decide ((l.length : Int) > 30) = true := by simp; omega
    rw [this]; rfl
  have h30 : decide ((l.length : Int) > 30) = false := by simp; omega
  unfold orangeryref_Folded
  rw [h30, cond_false]
  by_cases hc : ∃ o ∈ l, chkO o ≠ 0
  · rw [Fold_bad h1 hc, Folded_L0_bad l l hc]
  have hc : ∀ o ∈ l, chkO o = 0 := fun o ho => Classical.byContradiction fun hn => hc ⟨o, ho, hn⟩
  rw [Folded_L0_ok l l hc]
  have hrk : ∀ o ∈ l, ¬ rk o ≤ -1 := fun o ho => by have := chkO_ok (hc o ho); rw [rk_eq]; omega
  rcases Folded_L1_spec l hc (l.length + 1) (-1) [] (by simp) (by simp) (by simp [Rise]) (by simp) (by simp) (fun o ho h => absurd h (hrk o ho)) with ⟨h2, h3⟩ | ⟨S, h2, h3, h4⟩
  · rw [Fold_twice h1 hc h3]; exact h2
  · rw [Fold_ok h1 hc ((Dist.perm h3).1 h2.dist), sortOps_uniq h1 h2 h3]; exact h4
theorem OpsOf_eq (h : History) : orangeryref_OpsOf h = history_Ops h := by
  have key : ∀ (l : List Step) (acc : List Op), orangeryref_OpsOf_L0 l acc = history_Ops_L0 l acc := by
    intro l
    induction l with
    | nil => intro acc; rfl
    | cons p r ih => intro acc; rw [orangeryref_OpsOf_L0, history_Ops_L0, ih]
  exact key _ _
theorem SameHistory_eq (a b : History) : orangeryref_SameHistory a b = history_Same a b := rfl
theorem CheckHistory_eq (h : History) : orangeryref_CheckHistory h = history_Check h := by
  unfold orangeryref_CheckHistory history_Check
  rw [OpsOf_eq, Folded_eq]; rfl
theorem Inserted_eq (h : History) (o : Op) : orangeryref_Inserted h o = history_Insert h o := by
  unfold orangeryref_Inserted
  rw [CheckHistory_eq, CheckOp_eq]
  by_cases hc : history_Check h = 0
  · have hh := (Check_iff h).1 hc
    rw [hc, Insert_eq hh]
    cases h1 : chkO o != 0 with
    | true => rfl
    | false =>
      have ho := eq_of_bne_false h1
      simp only [bne_self_eq_false, cond_false]
      have key : ∀ r : List Step, orangeryref_Inserted_L0 h o r = bif (r.map (·.o)).any (fun q => decide (stamp q = stamp o)) then (e0, 6) else ((orangeryref_Folded ((orangeryref_OpsOf h) ++ [o])).1, (orangeryref_Folded ((orangeryref_OpsOf h) ++ [o])).2) := by
        intro r
        induction r with
        | nil => rfl
        | cons s r ih =>
          rw [orangeryref_Inserted_L0, List.map_cons, List.any_cons, ih]
          show (bif decide (stamp s.o = stamp o) then _ else _) = _
          cases decide (stamp s.o = stamp o) <;> rfl
      rw [key]
      cases h2 : (h.l.map (·.o)).any (fun q => decide (stamp q = stamp o)) with
      | true => rfl
      | false =>
        simp only [cond_false]
        have hne := not_any h2
        have hck : ∀ q ∈ h.l.map (·.o) ++ [o], chkO q = 0 := fun q hq => by
          rcases List.mem_append.1 hq with hq | hq
          · exact hh.ok q hq
          · rw [List.mem_singleton] at hq; rw [hq]; exact ho
        rw [OpsOf_eq, history_Ops_eq, Folded_eq]
        have hl := hh.len
        cases h3 : (h.l.map (·.o)).length == 30 with
        | true =>
          have h3 : (h.l.map (·.o)).length = 30 := by simpa using h3
          rw [Fold_many (by simp only [List.length_append, List.length_cons, List.length_nil]; omega)]; rfl
        | false =>
          have h3 : (h.l.map (·.o)).length ≠ 30 := by simpa using h3
          rw [Fold_ok (by simp only [List.length_append, List.length_cons, List.length_nil]; omega) hck (dist_snoc hh.rise.dist hne)]
          rfl
  · rw [Insert_bad hc]
    have : (history_Check h != 0) = true := by simpa using hc
    rw [this]; rfl
theorem HistorySays_true (l : List Op) (h : History) (o : Op) (g : History) : orangerylaw_HistorySays l h o g = true := by
  unfold orangerylaw_HistorySays
  rw [folded_true, CheckHistory_eq, SameHistory_eq, SameHistory_eq, SameHistory_eq, Folded_eq, Inserted_eq]
  have h1 : ∀ x : History, history_Same x x = true := fun x => (hSame_iff x x).2 rfl
  simp [h1]
end Go.Proofs.Ytchdacbjiomplaa
