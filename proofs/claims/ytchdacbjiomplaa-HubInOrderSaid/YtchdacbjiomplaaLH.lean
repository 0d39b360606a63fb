/- Part of this claim. No condition. -/
import Derived.Test.YtchdacbjiomplaaWH
import Derived.Test.YtchdacbjiomplaaLM
set_option linter.unusedVariables false
set_option linter.unusedSimpArgs false
namespace Go.Proofs.Ytchdacbjiomplaa
open Go Go.Proofs.Ytchdacbjiomplaa.Fw Go.Proofs
/-! ### Histories, in plain words -/
def stamp (o : Op) : Stamp := ⟨o.time, o.who⟩
def before (a b : Op) : Bool := move_Before (stamp a) (stamp b)
theorem before_iff (a b : Op) : before a b = true ↔ a.time < b.time ∨ (a.time = b.time ∧ a.who < b.who) := by
  unfold before move_Before stamp
  simp
theorem before_iffF (a b : Op) : before a b = false ↔ ¬ (a.time < b.time ∨ (a.time = b.time ∧ a.who < b.who)) := by
  rw [← before_iff]; simp
theorem before_tr (a b c : Op) (h1 : before c b = false) (h2 : before b a = false) : before c a = false := by
  rw [before_iffF] at *; omega
theorem before_as (a b : Op) (h : before a b = true) : before b a = false := by
  rw [before_iff] at h; rw [before_iffF]; omega
theorem before_trans {a b c : Op} (h1 : before a b = true) (h2 : before b c = true) : before a c = true := by
  rw [before_iff] at *; omega
theorem before_eq {a b : Op} (h1 : before a b = false) (h2 : before b a = false) : stamp a = stamp b := by
  rw [before_iffF] at *
  unfold stamp
  congr 1 <;> omega
theorem before_irr (a : Op) : before a a = false := by rw [before_iffF]; omega
theorem before_ne {a b : Op} (h : before a b = true) : stamp a ≠ stamp b := fun e => by
  rw [before_iff] at h
  unfold stamp at e
  injection e with e1 e2
  omega
theorem fold1_lt (a b : Op) : decide (history_Fold_1 a b < 0) = before a b := by
  unfold history_Fold_1
  show decide ((bif before a b then (-1 : Int) else bif before b a then 1 else 0) < 0) = before a b
  cases before a b <;> cases before b a <;> rfl
def sortOps (l : List Op) : List Op := slices_SortStableFunc_Op l history_Fold_1
theorem sortOps_perm {l : List Op} (h : l.length ≤ 30) : (sortOps l).Perm l := (ST_Op history_Fold_1 before fold1_lt before_tr before_as l h).1
theorem sortOps_sorted {l : List Op} (h : l.length ≤ 30) : Sorted before (sortOps l) := (ST_Op history_Fold_1 before fold1_lt before_tr before_as l h).2
/-- each stamp but once -/
def Dist (l : List Op) : Prop := (l.map stamp).Nodup
def Rise (l : List Op) : Prop := l.Pairwise (fun a b => before a b = true)
theorem Rise.dist {l : List Op} (h : Rise l) : Dist l := by
  unfold Dist
  rw [List.Nodup, List.pairwise_map]
  exact h.imp fun h => before_ne h
theorem rise_of {l : List Op} (h1 : Sorted before l) (h2 : Dist l) : Rise l := by
  unfold Dist at h2
  rw [List.Nodup, List.pairwise_map] at h2
  have := List.Pairwise.and h1 h2
  exact this.imp fun {a b} ⟨h, hne⟩ => by
    cases hh : before a b with
    | true => rfl
    | false => exact absurd (before_eq hh h) hne
theorem Rise.uniq : ∀ {l l' : List Op}, Rise l → Rise l' → l.Perm l' → l = l'
  | [], l', _, _, hp => (List.Perm.nil_eq hp)
  | a :: l, [], _, _, hp => absurd hp.length_eq (by simp)
  | a :: l, b :: l', h, h', hp => by
    have hab : a = b := by
      have h1 : a ∈ b :: l' := hp.mem_iff.1 (.head _)
      have h2 : b ∈ a :: l := hp.mem_iff.2 (.head _)
      rcases List.mem_cons.1 h1 with h1 | h1
      · exact h1
      · rcases List.mem_cons.1 h2 with h2 | h2
        · exact h2.symm
        · have e1 := (List.pairwise_cons.1 h).1 b h2
          have e2 := (List.pairwise_cons.1 h').1 a h1
          rw [before_as _ _ e1] at e2; cases e2
    subst hab
    rw [Rise.uniq (List.pairwise_cons.1 h).2 (List.pairwise_cons.1 h').2 ((List.perm_cons _).1 hp)]
theorem Dist.perm {l l' : List Op} (h : l.Perm l') : Dist l ↔ Dist l' := (h.map stamp).nodup_iff

/-- operations done one by one -/
def run : History → List Op → History
  | h, [] => h
  | h, o :: r => run ⟨h.l ++ [(moveDo h.t o).2.1], (moveDo h.t o).1⟩ r
def e0 : History := ⟨[], []⟩
def okH (h : History) : Prop := checkT h.t = 0
theorem moveDo_err0 {t : List Place} {o : Op} (h1 : checkT t = 0) (h2 : chkO o = 0) : (moveDo t o).2.2 = 0 := by
  rw [moveDo_err, h1, h2]; rfl
theorem run_app : ∀ (a b : List Op) (h : History), run h (a ++ b) = run (run h a) b
  | [], _, _ => rfl
  | o :: a, b, h => by rw [List.cons_append, run, run, run_app a b]
theorem run_tree : ∀ (l : List Op) (h : History), checkT h.t = 0 → (∀ o ∈ l, chkO o = 0) → checkT (run h l).t = 0
  | [], _, h, _ => h
  | o :: r, h, hc, hl => by
    rw [run]
    exact run_tree r _ (moved_of (moveDo_err0 hc (hl o (.head _)))).tree fun q hq => hl q (.tail _ hq)
theorem moveDo_op (t : List Place) (o : Op) (h1 : checkT t = 0) (h2 : chkO o = 0) : (moveDo t o).2.1.o = o := (moved_of (moveDo_err0 h1 h2)).op
theorem run_ops : ∀ (l : List Op) (h : History), checkT h.t = 0 → (∀ o ∈ l, chkO o = 0) → (run h l).l.map (·.o) = h.l.map (·.o) ++ l
  | [], h, _, _ => by simp [run]
  | o :: r, h, hc, hl => by
    have h0 := hl o (.head _)
    rw [run, run_ops r _ (moved_of (moveDo_err0 hc h0)).tree fun q hq => hl q (.tail _ hq)]
    simp [moveDo_op h.t o hc h0]
theorem run_len (l : List Op) (h : History) : (run h l).l.length = h.l.length + l.length := by
  induction l generalizing h with
  | nil => rfl
  | cons o r ih => rw [run, ih]; simp; omega
theorem check0 : checkT e0.t = 0 := rfl

/-! ### Fold -/
theorem Fold_L0_ok (l : List Op) : ∀ r : List Op, (∀ o ∈ r, chkO o = 0) → history_Fold_L0 l r = history_Fold_L1 l (sortOps l) 0 [] []
  | [], _ => rfl
  | o :: r, h => by
    rw [history_Fold_L0, move_Check_eq, h o (.head _)]
    exact Fold_L0_ok l r fun q hq => h q (.tail _ hq)
theorem chkO_or (o : Op) : chkO o = 0 ∨ chkO o = 3 := by
  unfold chkO
  generalize (decide (o.time < 1) || decide (o.time > 10000) || decide (o.who < 0) || decide (o.who ≥ 3) || decide (o.node < 1) || decide (o.node ≥ 16) || decide (o.parent < 0) || decide (o.parent > 16) || decide (o.name < 0) || decide (o.name > 99) || decide (o.life < 1) || decide (o.life > 50) || decide (o.seq < 1) || decide (o.seq > 30)) = b
  cases b <;> simp
theorem Fold_L0_bad (l : List Op) : ∀ r : List Op, (∃ o ∈ r, chkO o ≠ 0) → history_Fold_L0 l r = (e0, 3)
  | [], h => by obtain ⟨o, h, _⟩ := h; cases h
  | o :: r, h => by
    rw [history_Fold_L0, move_Check_eq]
    rcases chkO_or o with h0 | h0
    · rw [h0]
      refine Fold_L0_bad l r ?_
      obtain ⟨q, hq, hne⟩ := h
      rcases List.mem_cons.1 hq with rfl | hq
      · exact absurd h0 hne
      · exact ⟨q, hq, hne⟩
    · rw [h0]; rfl
theorem Fold_L1_ok (l S : List Op) (hS : sortOps l = S) (hr : Rise S) (hc : ∀ o ∈ S, chkO o = 0) : ∀ (r : List Op) (n : Nat) (L : List Step) (T : List Place), r = S.drop n → checkT T = 0 → history_Fold_L1 l r n L T = (run ⟨L, T⟩ r, 0)
  | [], n, L, T, _, _ => rfl
  | o :: r, n, L, T, hd, hT => by
    have hn : n < S.length := by
      rcases Nat.lt_or_ge n S.length with h | h
      · exact h
      · rw [List.drop_of_length_le h] at hd; cases hd
    rw [drop_gt hn] at hd
    obtain ⟨rfl, hd'⟩ := List.cons.inj hd
    have ho := hc _ (gt_mem hn)
    rw [history_Fold_L1, show slices_SortStableFunc_Op l history_Fold_1 = S from hS, move_Do_eq, moveDo_err0 hT ho]
    have hne : (decide ((n : Int) > 0) && decide ((⟨(gt S (n - 1)).time, (gt S (n - 1)).who⟩ : Stamp) = (⟨(gt S n).time, (gt S n).who⟩ : Stamp))) = false := by
      cases n with
      | zero => rfl
      | succ n =>
        have hb : before (gt S n) (gt S (n + 1)) = true := by
          rw [gt_eq (by omega), gt_eq hn]
          exact List.pairwise_iff_getElem.1 hr n (n + 1) (by omega) hn (by omega)
        have := before_ne hb
        unfold stamp at this
        simp [this]
    rw [hne]
    simp only [cond_false, bne_self_eq_false]
    rw [Fold_L1_ok l S hS hr hc r (n + 1) _ _ hd' (moved_of (moveDo_err0 hT ho)).tree]
    rfl
theorem Fold_L1_bad (l S : List Op) (hS : sortOps l = S) (hc : ∀ o ∈ S, chkO o = 0) : ∀ (r : List Op) (n : Nat) (L : List Step) (T : List Place), r = S.drop n → checkT T = 0 → (∃ i, n ≤ i ∧ 0 < i ∧ i < S.length ∧ stamp (gt S (i - 1)) = stamp (gt S i)) → history_Fold_L1 l r n L T = (e0, 6)
  | [], n, L, T, hd, _, h => by
    obtain ⟨i, h1, _, h3, _⟩ := h
    have := congrArg List.length hd
    simp at this; omega
  | o :: r, n, L, T, hd, hT, h => by
    have hn : n < S.length := by
      rcases Nat.lt_or_ge n S.length with h | h
      · exact h
      · rw [List.drop_of_length_le h] at hd; cases hd
    rw [drop_gt hn] at hd
    obtain ⟨rfl, hd'⟩ := List.cons.inj hd
    have ho := hc _ (gt_mem hn)
    rw [history_Fold_L1, show slices_SortStableFunc_Op l history_Fold_1 = S from hS, move_Do_eq, moveDo_err0 hT ho]
    cases he : (decide ((n : Int) > 0) && decide ((⟨(gt S (n - 1)).time, (gt S (n - 1)).who⟩ : Stamp) = (⟨(gt S n).time, (gt S n).who⟩ : Stamp))) with
    | true => rfl
    | false =>
      simp only [cond_false, bne_self_eq_false]
      refine Fold_L1_bad l S hS hc r (n + 1) _ _ hd' (moved_of (moveDo_err0 hT ho)).tree ?_
      obtain ⟨i, h1, h2, h3, h4⟩ := h
      rcases Nat.eq_or_lt_of_le h1 with rfl | h1
      · unfold stamp at h4
        rw [h4] at he
        simp at he; omega
      · exact ⟨i, h1, h2, h3, h4⟩
/-- of what is sorted and not rising two neighbours are alike -/
theorem neighbours : ∀ {S : List Op}, Sorted before S → ¬ Rise S → ∃ i, 0 < i ∧ i < S.length ∧ stamp (gt S (i - 1)) = stamp (gt S i)
  | [], _, h => absurd List.Pairwise.nil h
  | [a], _, h => absurd (by simp [Rise]) h
  | a :: b :: S, hs, h => by
    have h1 := (List.pairwise_cons.1 hs).1 b (.head _)
    cases hb : before a b with
    | false => exact ⟨1, by omega, by simp, before_eq (by simpa [gt] using hb) (by simpa [gt] using h1)⟩
    | true =>
      have hn : ¬ Rise (b :: S) := fun hr => h (List.pairwise_cons.2 ⟨fun c hc => by
        rcases List.mem_cons.1 hc with rfl | hc
        · exact hb
        · exact before_trans hb ((List.pairwise_cons.1 hr).1 c hc), hr⟩)
      obtain ⟨i, h2, h3, h4⟩ := neighbours (List.pairwise_cons.1 hs).2 hn
      refine ⟨i + 1, by omega, by simp at h3 ⊢; omega, ?_⟩
      obtain ⟨j, rfl⟩ : ∃ j, i = j + 1 := ⟨i - 1, by omega⟩
      simpa [gt] using h4
theorem Fold_many {l : List Op} (h : 30 < l.length) : history_Fold l = (e0, 2) := by
  unfold history_Fold
  have : decide ((l.length : Int) > 30) = true := by simp; omega
  rw [this]; rfl
theorem Fold_bad {l : List Op} (h : l.length ≤ 30) (hb : ∃ o ∈ l, chkO o ≠ 0) : history_Fold l = (e0, 3) := by
  unfold history_Fold
  have : decide ((l.length : Int) > 30) = false := by simp; omega
  rw [this]; exact Fold_L0_bad l l hb
theorem sortOps_ok {l : List Op} (h : l.length ≤ 30) (hc : ∀ o ∈ l, chkO o = 0) : ∀ o ∈ sortOps l, chkO o = 0 := fun o ho => hc o ((sortOps_perm h).mem_iff.1 ho)
theorem Fold_ok {l : List Op} (h : l.length ≤ 30) (hc : ∀ o ∈ l, chkO o = 0) (hd : Dist l) : history_Fold l = (run e0 (sortOps l), 0) := by
  unfold history_Fold
  have : decide ((l.length : Int) > 30) = false := by simp; omega
  rw [this, cond_false, Fold_L0_ok l l hc]
  exact Fold_L1_ok l _ rfl (rise_of (sortOps_sorted h) ((Dist.perm (sortOps_perm h)).2 hd)) (sortOps_ok h hc) _ 0 [] [] rfl rfl
theorem Fold_twice {l : List Op} (h : l.length ≤ 30) (hc : ∀ o ∈ l, chkO o = 0) (hd : ¬ Dist l) : history_Fold l = (e0, 6) := by
  unfold history_Fold
  have : decide ((l.length : Int) > 30) = false := by simp; omega
  rw [this, cond_false, Fold_L0_ok l l hc]
  have hn : ¬ Rise (sortOps l) := fun hr => hd ((Dist.perm (sortOps_perm h)).1 hr.dist)
  obtain ⟨i, h1, h2, h3⟩ := neighbours (sortOps_sorted h) hn
  exact Fold_L1_bad l _ rfl (sortOps_ok h hc) _ 0 [] [] rfl rfl ⟨i, by omega, h1, h2, h3⟩
theorem Fold_inv {l : List Op} (h : (history_Fold l).2 = 0) : l.length ≤ 30 ∧ (∀ o ∈ l, chkO o = 0) ∧ Dist l ∧ history_Fold l = (run e0 (sortOps l), 0) := by
  rcases Nat.lt_or_ge 30 l.length with h1 | h1
  · rw [Fold_many h1] at h; cases h
  by_cases hc : ∃ o ∈ l, chkO o ≠ 0
  · rw [Fold_bad h1 hc] at h; cases h
  have hc : ∀ o ∈ l, chkO o = 0 := fun o ho => Classical.byContradiction fun hn => hc ⟨o, ho, hn⟩
  by_cases hd : Dist l
  · exact ⟨h1, hc, hd, Fold_ok h1 hc hd⟩
  · rw [Fold_twice h1 hc hd] at h; cases h
/-- of a rising list -/
theorem sortOps_rise {S : List Op} (h : S.length ≤ 30) (hr : Rise S) : sortOps S = S :=
  Rise.uniq (rise_of (sortOps_sorted h) ((Dist.perm (sortOps_perm h)).2 hr.dist)) hr (sortOps_perm h)
theorem sortOps_uniq {l S : List Op} (h : l.length ≤ 30) (hr : Rise S) (hp : S.Perm l) : sortOps l = S :=
  Rise.uniq (rise_of (sortOps_sorted h) ((Dist.perm (sortOps_perm h)).2 ((Dist.perm hp).1 hr.dist))) hr ((sortOps_perm h).trans hp.symm)

/-! ### Histories that are right -/
structure IsHist (h : History) (S : List Op) : Prop where
  len : S.length ≤ 30
  ok : ∀ o ∈ S, chkO o = 0
  rise : Rise S
  eq : h = run e0 S
theorem hSame_iff (a b : History) : history_Same a b = true ↔ a = b := by
  unfold history_Same
  obtain ⟨l, t⟩ := a
  obtain ⟨l', t'⟩ := b
  simp
theorem IsHist.ops {h : History} {S : List Op} (hh : IsHist h S) : h.l.map (·.o) = S := by
  rw [hh.eq, run_ops S e0 rfl hh.ok]; rfl
theorem Check_iff (h : History) : history_Check h = 0 ↔ IsHist h (h.l.map (·.o)) := by
  constructor
  · intro hc
    obtain ⟨h1, h2⟩ := history_Check_fold hc
    obtain ⟨g1, g2, g3, g4⟩ := Fold_inv h1
    rw [hSame_iff, g4] at h2
    rw [history_Ops_eq] at *
    have e : h.l.map (·.o) = sortOps (h.l.map (·.o)) := by
      conv => lhs; rw [← h2]
      rw [run_ops _ e0 rfl (sortOps_ok g1 g2)]; rfl
    refine ⟨g1, g2, ?_, by rw [e]; exact h2.symm⟩
    rw [e]
    exact rise_of (sortOps_sorted g1) ((Dist.perm (sortOps_perm g1)).2 g3)
  · intro hh
    unfold history_Check
    rw [history_Ops_eq, Fold_ok hh.len hh.ok hh.rise.dist, sortOps_rise hh.len hh.rise]
    have : history_Same (run e0 (h.l.map (·.o))) h = true := by rw [hSame_iff]; exact hh.eq.symm
    rw [this]; rfl

/-! ### An operation put in its place -/
theorem Put_L1_eq : ∀ (r : List Op) (L : List Step) (T : List Place), checkT T = 0 → (∀ o ∈ r, chkO o = 0) → history_Put_L1 r L T = (run ⟨L, T⟩ r, 0)
  | [], _, _, _, _ => rfl
  | o :: r, L, T, hT, hc => by
    have ho := hc o (.head _)
    rw [history_Put_L1, move_Do_eq, moveDo_err0 hT ho]
    simp only [bne_self_eq_false, cond_false]
    rw [Put_L1_eq r _ _ (moved_of (moveDo_err0 hT ho)).tree fun q hq => hc q (.tail _ hq)]
    rfl
theorem run_snoc (A : List Op) (b : Op) : run e0 (A ++ [b]) = ⟨(run e0 A).l ++ [(moveDo (run e0 A).t b).2.1], (moveDo (run e0 A).t b).1⟩ := by
  rw [run_app]; rfl
theorem Put_L0_eq (o : Op) (ho : chkO o = 0) : ∀ (n : Nat) (A R : List Op) (f : Nat), A.length = n → n < f → (∀ q ∈ A, chkO q = 0) → (∀ q ∈ R, chkO q = 0) → Rise A →
    ∃ A1 A2, A = A1 ++ A2 ∧ (∀ q ∈ A1, before o q = false) ∧ (∀ q ∈ A2, before o q = true) ∧ history_Put_L0 o f (o :: R) (n : Int) (run e0 A).l (run e0 A).t = (run e0 (A1 ++ o :: (A2 ++ R.reverse)), 0) := by
  intro n
  induction n with
  | zero =>
    intro A R f hA hf hcA hcR hr
    obtain ⟨f, rfl⟩ : ∃ g, f = g + 1 := ⟨f - 1, by omega⟩
    have : A = [] := List.length_eq_zero_iff.1 hA
    subst this
    refine ⟨[], [], rfl, by simp, by simp, ?_⟩
    rw [history_Put_L0]
    have : decide (((0 : Nat) : Int) > 0) = false := rfl
    rw [this, Bool.false_and, cond_false, RK_Op _ _ (by simp), Put_L1_eq _ _ _ rfl (fun q hq => by
      simp only [List.take_succ_cons, List.take_zero, List.drop_succ_cons, List.drop_zero, List.cons_append, List.nil_append, List.mem_cons, List.mem_reverse] at hq
      rcases hq with rfl | hq
      · exact ho
      · exact hcR q hq)]
    rfl
  | succ n ih =>
    intro A R f hA hf hcA hcR hr
    obtain ⟨f, rfl⟩ : ∃ g, f = g + 1 := ⟨f - 1, by omega⟩
    obtain ⟨B, b, rfl⟩ : ∃ B b, A = B ++ [b] := ⟨A.dropLast, A.getLast (by intro e; rw [e] at hA; cases hA), (List.dropLast_concat_getLast _).symm⟩
    simp only [List.length_append, List.length_cons, List.length_nil] at hA
    have hcB : ∀ q ∈ B, chkO q = 0 := fun q hq => hcA q (List.mem_append_left _ hq)
    have hcb : chkO b = 0 := hcA b (by simp)
    have hTB : checkT (run e0 B).t = 0 := run_tree B e0 rfl hcB
    have hm := moved_of (moveDo_err0 hTB hcb)
    have hlB : (run e0 B).l.length = n := by rw [run_len]; simp [e0]; omega
    have hg : gt (run e0 (B ++ [b])).l (((n + 1 : Nat) : Int) - 1).toNat = (moveDo (run e0 B).t b).2.1 := by
      rw [run_snoc]
      exact gt_mid _ _ [] _ (by omega)
    have ht : (run e0 (B ++ [b])).l.take (((n + 1 : Nat) : Int) - 1).toNat = (run e0 B).l := by
      rw [run_snoc]
      simp only
      rw [show (((n + 1 : Nat) : Int) - 1).toNat = (run e0 B).l.length by omega, List.take_left]
    rw [history_Put_L0, hg]
    have hop := hm.op
    have h0 : decide (((n + 1 : Nat) : Int) > 0) = true := decide_eq_true (by omega)
    rw [h0, Bool.true_and, hop]
    show ∃ A1 A2, _ ∧ _ ∧ _ ∧ (bif before o b then _ else _) = _
    cases hb : before o b with
    | false =>
      refine ⟨B ++ [b], [], by simp, fun q hq => ?_, by simp, ?_⟩
      · rcases List.mem_append.1 hq with hq | hq
        · have h1 := (List.pairwise_append.1 hr).2.2 q hq b (by simp)
          cases hh : before o q with
          | false => rfl
          | true => rw [before_trans hh h1] at hb; cases hb
        · rw [List.mem_singleton] at hq; rw [hq]; exact hb
      · rw [cond_false, RK_Op _ _ (by simp), Put_L1_eq _ _ _ (run_tree _ e0 rfl hcA) (fun q hq => by
          simp only [List.take_succ_cons, List.take_zero, List.drop_succ_cons, List.drop_zero, List.cons_append, List.nil_append, List.mem_cons, List.mem_reverse] at hq
          rcases hq with rfl | hq
          · exact ho
          · exact hcR q hq)]
        show (run (run e0 (B ++ [b])) _, (0 : Int)) = _
        rw [← run_app]
        simp
    | true =>
      have hu : move_Undo (run e0 (B ++ [b])).t (moveDo (run e0 B).t b).2.1 = ((run e0 B).t, 0) := by
        rw [move_Undo_eq, run_snoc]; exact hm.undo
      rw [cond_true, hu]
      simp only [bne_self_eq_false, cond_false]
      rw [ht, show ((n + 1 : Nat) : Int) - 1 = (n : Int) by omega]
      obtain ⟨A1, A2, h1, h2, h3, h4⟩ := ih B (R ++ [b]) f (by omega) (by omega) hcB (fun q hq => by
        rcases List.mem_append.1 hq with hq | hq
        · exact hcR q hq
        · rw [List.mem_singleton] at hq; rw [hq]; exact hcb) (List.pairwise_append.1 hr).1
      refine ⟨A1, A2 ++ [b], by rw [h1]; simp, h2, fun q hq => ?_, ?_⟩
      · rcases List.mem_append.1 hq with hq | hq
        · exact h3 q hq
        · rw [List.mem_singleton] at hq; rw [hq]; exact hb
      · rw [List.cons_append, h4]; simp
theorem any_stamp (L : List Step) (o : Op) : L.any (fun a0_ => history_Put_1 a0_ o) = true ↔ ∃ q ∈ L.map (·.o), stamp q = stamp o := by
  rw [List.any_eq_true]
  constructor
  · rintro ⟨s, hs, h⟩; exact ⟨s.o, List.mem_map.2 ⟨s, hs, rfl⟩, of_decide_eq_true h⟩
  · rintro ⟨q, hq, h⟩
    obtain ⟨s, hs, rfl⟩ := List.mem_map.1 hq
    exact ⟨s, hs, decide_eq_true h⟩
/-- What Put answers of a right history. -/
theorem Put_eq {h : History} {S : List Op} (hh : IsHist h S) (o : Op) : history_Put h o =
    bif chkO o != 0 then (e0, chkO o) else bif S.any (fun q => decide (stamp q = stamp o)) then (e0, 6) else bif S.length == 30 then (e0, 2) else (run e0 (sortOps (S ++ [o])), 0) := by
  unfold history_Put
  rw [move_Check_eq]
  cases h1 : chkO o != 0 with
  | true => rfl
  | false =>
    have ho := eq_of_bne_false h1
    simp only [cond_false]
    have ha : h.l.any (fun a0_ => history_Put_1 a0_ o) = S.any (fun q => decide (stamp q = stamp o)) := by
      rw [Bool.eq_iff_iff, any_stamp, hh.ops, List.any_eq_true]
      simp
    have hl : h.l.length = S.length := by rw [← hh.ops, List.length_map]
    rw [ha]
    cases h2 : S.any (fun q => decide (stamp q = stamp o)) with
    | true => rfl
    | false =>
      simp only [cond_false]
      have h30 : ((h.l.length : Int) == 30) = (S.length == 30) := by rw [hl, Bool.eq_iff_iff]; simp; omega
      rw [h30]
      cases h3 : S.length == 30 with
      | true => rfl
      | false =>
        have h3 : S.length ≠ 30 := by simpa using h3
        have hlen := hh.len
        simp only [cond_false]
        obtain ⟨A1, A2, e1, e2, e3, e4⟩ := Put_L0_eq o ho S.length S [] (h.l.length + 1) rfl (by omega) hh.ok (by simp) hh.rise
        have hne : ∀ q ∈ S, stamp q ≠ stamp o := fun q hq he => by
          have : S.any (fun q => decide (stamp q = stamp o)) = true := List.any_eq_true.2 ⟨q, hq, decide_eq_true he⟩
          rw [h2] at this; cases this
        have hrise : Rise (A1 ++ o :: A2) := by
          have hr := hh.rise
          rw [e1] at hr
          obtain ⟨r1, r2, r3⟩ := List.pairwise_append.1 hr
          have hA1 : ∀ q ∈ A1, before q o = true := fun q hq => by
            cases hb : before q o with
            | true => rfl
            | false => exact absurd (before_eq hb (e2 q hq)) (hne q (by rw [e1]; exact List.mem_append_left _ hq))
          refine List.pairwise_append.2 ⟨r1, List.pairwise_cons.2 ⟨e3, r2⟩, fun q hq w hw => ?_⟩
          rcases List.mem_cons.1 hw with rfl | hw
          · exact hA1 q hq
          · exact r3 q hq w hw
        have hs : sortOps (S ++ [o]) = A1 ++ o :: A2 := sortOps_uniq (by simp; omega) hrise (by
          rw [e1]
          refine List.perm_middle.trans ?_
          exact (List.perm_append_comm (l₁ := [o]) (l₂ := A1 ++ A2)))
        rw [hs]
        have := e4
        rw [List.reverse_nil, List.append_nil] at this
        rw [← this, hl, hh.eq]
end Go.Proofs.Ytchdacbjiomplaa

namespace Go.Proofs.Ytchdacbjiomplaa
open Go Go.Proofs.Ytchdacbjiomplaa.Fw Go.Proofs
theorem Insert_eq {h : History} {S : List Op} (hh : IsHist h S) (o : Op) : history_Insert h o =
    bif chkO o != 0 then (e0, chkO o) else bif S.any (fun q => decide (stamp q = stamp o)) then (e0, 6) else bif S.length == 30 then (e0, 2) else (run e0 (sortOps (S ++ [o])), 0) := by
  have hS : S = h.l.map (·.o) := hh.ops.symm
  have hc : history_Check h = 0 := (Check_iff h).2 (hS ▸ hh)
  unfold history_Insert
  rw [hc, Put_eq hh]; rfl
theorem Insert_bad {h : History} (hc : history_Check h ≠ 0) (o : Op) : history_Insert h o = (e0, history_Check h) := by
  unfold history_Insert
  have : (history_Check h != 0) = true := by simpa using hc
  rw [this]; rfl
theorem IsHist.run {S : List Op} (h1 : S.length ≤ 30) (h2 : ∀ o ∈ S, chkO o = 0) (h3 : Rise S) : IsHist (run e0 S) S := ⟨h1, h2, h3, rfl⟩
theorem not_any {S : List Op} {o : Op} (h : S.any (fun q => decide (stamp q = stamp o)) = false) : ∀ q ∈ S, stamp q ≠ stamp o := fun q hq he => by
  have : S.any (fun q => decide (stamp q = stamp o)) = true := List.any_eq_true.2 ⟨q, hq, decide_eq_true he⟩
  rw [h] at this; cases this
theorem dist_snoc {S : List Op} {o : Op} (h : Dist S) (hne : ∀ q ∈ S, stamp q ≠ stamp o) : Dist (S ++ [o]) := by
  unfold Dist at *
  rw [List.map_append, List.nodup_append]
  refine ⟨h, by simp, fun a ha b hb => ?_⟩
  obtain ⟨q, hq, rfl⟩ := List.mem_map.1 ha
  simp only [List.map_cons, List.map_nil, List.mem_singleton] at hb
  rw [hb]; exact hne q hq
theorem sort_rise {l : List Op} (h : l.length ≤ 30) (hd : Dist l) : Rise (sortOps l) := rise_of (sortOps_sorted h) ((Dist.perm (sortOps_perm h)).2 hd)
theorem Insert_inv {h : History} {o : Op} (hi : (history_Insert h o).2 = 0) : ∃ S, IsHist h S ∧ chkO o = 0 ∧ (∀ q ∈ S, stamp q ≠ stamp o) ∧ S.length < 30 ∧ history_Insert h o = (run e0 (sortOps (S ++ [o])), 0) ∧ IsHist (history_Insert h o).1 (sortOps (S ++ [o])) := by
  by_cases hc : history_Check h = 0
  · have hh := (Check_iff h).1 hc
    refine ⟨_, hh, ?_⟩
    rw [Insert_eq hh] at hi ⊢
    cases h1 : chkO o != 0 with
    | true => rw [h1, cond_true] at hi; simp only at hi; rw [hi] at h1; simp at h1
    | false =>
      have ho := eq_of_bne_false h1
      rw [h1, cond_false] at hi
      cases h2 : (h.l.map (·.o)).any (fun q => decide (stamp q = stamp o)) with
      | true => rw [h2, cond_true] at hi; cases hi
      | false =>
        rw [h2, cond_false] at hi
        cases h3 : (h.l.map (·.o)).length == 30 with
        | true => rw [h3, cond_true] at hi; cases hi
        | false =>
          have h3 : (h.l.map (·.o)).length ≠ 30 := by simpa using h3
          have hl := hh.len
          have hne := not_any h2
          have hl2 : (h.l.map (·.o) ++ [o]).length ≤ 30 := by simp only [List.length_append, List.length_cons, List.length_nil]; omega
          refine ⟨ho, hne, by omega, rfl, ?_⟩
          simp only [cond_false]
          refine IsHist.run (by rw [(sortOps_perm hl2).length_eq]; exact hl2) (sortOps_ok hl2 fun q hq => ?_) (sort_rise hl2 (dist_snoc hh.rise.dist hne))
          rcases List.mem_append.1 hq with hq | hq
          · exact hh.ok q hq
          · rw [List.mem_singleton] at hq; rw [hq]; exact ho
  · rw [Insert_bad hc] at hi; exact absurd hi hc
theorem IsHist.llen {h : History} {S : List Op} (hh : IsHist h S) : h.l.length = S.length := by rw [← hh.ops, List.length_map]
theorem Insert_len {h : History} {o : Op} (hi : (history_Insert h o).2 = 0) : (history_Insert h o).1.l.length = h.l.length + 1 := by
  obtain ⟨S, h1, _, _, h4, _, h6⟩ := Insert_inv hi
  have hl2 : (S ++ [o]).length ≤ 30 := by simp only [List.length_append, List.length_cons, List.length_nil]; omega
  rw [h6.llen, (sortOps_perm hl2).length_eq, h1.llen]; simp
theorem Fold_hist {l : List Op} (h : (history_Fold l).2 = 0) : IsHist (history_Fold l).1 (sortOps l) := by
  obtain ⟨g1, g2, g3, g4⟩ := Fold_inv h
  rw [g4]
  exact IsHist.run (by rw [(sortOps_perm g1).length_eq]; exact g1) (sortOps_ok g1 g2) (sort_rise g1 g3)
theorem IsHist.at_ {h : History} {S : List Op} (hh : IsHist h S) {i : Nat} (hi : i < h.l.length) : (gt h.l i).o = gt S i := by
  have := hh.llen
  rw [gt_eq hi, gt_eq (by omega)]
  have e := hh.ops
  subst e
  simp
theorem Fold_time {l : List Op} (h : (history_Fold l).2 = 0) {i : Nat} (hi : i < (history_Fold l).1.l.length) : 1 ≤ (gt (history_Fold l).1.l i).o.time ∧ (gt (history_Fold l).1.l i).o.time ≤ 10000 := by
  have hh := Fold_hist h
  rw [hh.at_ hi]
  have := hh.llen
  have := chkO_ok (hh.ok _ (gt_mem (by omega : i < (sortOps l).length)))
  omega
/-! ### Who stands where -/
theorem find_moveDo {t : List Place} {o : Op} (h1 : checkT t = 0) (h2 : chkO o = 0) (n : Int) : find (moveDo t o).1 n = bif (o.node == n && (moveDo t o).2.1.did) then opPlace o else find t n := by
  have hm := moved_of (moveDo_err0 h1 h2)
  by_cases hn : o.node = n
  · subst hn
    cases hd : (moveDo t o).2.1.did with
    | true => simp [hm.node hd]
    | false =>
      have h3 := hm.did
      rw [hd] at h3
      rw [moveDo_eq h1 h2]
      have : stands t o.parent o.node = true := by simpa using h3.symm
      rw [this]; simp
  · have hb : (o.node == n) = false := by simpa using hn
    rw [hb, hm.else_ n (Ne.symm hn)]; rfl
theorem folded_true : orangerylaw_folded = true := by decide +kernel
end Go.Proofs.Ytchdacbjiomplaa
