/- Part of this claim. No condition. -/
import Derived.Test.YtchdacbjiomplaaLM
import Derived.Test.YtchdacbjiomplaaWB
set_option linter.unusedVariables false
set_option linter.unusedSimpArgs false
namespace Go.Proofs.Ytchdacbjiomplaa
open Go Go.Proofs.Ytchdacbjiomplaa.Fw Go.Proofs
/-! ### The document's checks are the program's -/
theorem bif3_ne (b : Bool) : ((bif b then (3 : Int) else 0) != 0) = b := by cases b <;> rfl
theorem CheckPlace_eq (p : Place) : orangeryref_CheckPlace p = place p := by
  unfold orangeryref_CheckPlace place orangeryref_in
  congr 1
  rw [Bool.eq_iff_iff]
  simp only [Bool.or_eq_true, Bool.not_eq_true', Bool.and_eq_false_iff, decide_eq_false_iff_not, decide_eq_true_eq]
  omega
theorem CheckOp_eq (o : Op) : orangeryref_CheckOp o = chkO o := by
  unfold orangeryref_CheckOp orangeryref_CheckPlace chkO orangeryref_in
  rw [bif3_ne]
  congr 1
  rw [Bool.eq_iff_iff]
  simp only [Bool.or_eq_true, Bool.not_eq_true', Bool.and_eq_false_iff, decide_eq_false_iff_not, decide_eq_true_eq]
  omega
/-! ### The chain of a node -/
theorem chain_L0_spec {l : List Place} (hpar : ∀ p ∈ l, 0 ≤ p.parent ∧ p.parent ≤ 16) : ∀ (f : Nat) (node : Int) (out : List Int), f + out.length = 19 → out.Nodup → (∀ x ∈ out.tail, 0 ≤ x ∧ x ≤ 16) → node ∈ out →
    (∀ x ∈ out, x ≠ node → (find l x).node = 0 ∨ (find l x).parent ∈ out) →
    (∀ x ∈ out, x ∈ orangeryref_chain_L0 l f node out) ∧ (∀ x ∈ orangeryref_chain_L0 l f node out, (find l x).node = 0 ∨ (find l x).parent ∈ orangeryref_chain_L0 l f node out) ∧
    (∀ x ∈ orangeryref_chain_L0 l f node out, x ∈ out ∨ Up l node x)
  | 0, node, out, hf, hn, ht, _, _ => by have := chain_len hn ht; omega
  | f + 1, node, out, hf, hn, ht, hm, hc => by
    rw [orangeryref_chain_L0]
    simp only [tree_Find_eq]
    cases hb : ((find l node).node == 0 || decide ((find l node).parent ∈ out)) with
    | true =>
      simp only [cond_true]
      refine ⟨fun x hx => hx, fun x hx => ?_, fun x hx => .inl hx⟩
      by_cases he : x = node
      · subst he; simpa using hb
      · exact hc x hx he
    | false =>
      simp only [cond_false]
      obtain ⟨h1, h2⟩ := Bool.or_eq_false_iff.1 hb
      have h1 : (find l node).node ≠ 0 := by simpa using h1
      have h2 : (find l node).parent ∉ out := by simpa using h2
      have hp := hpar _ (find_node h1).2
      obtain ⟨a, b, c⟩ := chain_L0_spec hpar f (find l node).parent (out ++ [(find l node).parent]) (by simp; omega) (nodup_snoc hn h2) (tail_snoc ht hp) (by simp) (fun x hx hne => by
        rcases List.mem_append.1 hx with hx | hx
        · by_cases he : x = node
          · subst he; exact .inr (by simp)
          · rcases hc x hx he with h | h
            · exact .inl h
            · exact .inr (List.mem_append_left _ h)
        · exact absurd (by simpa using hx) hne)
      refine ⟨fun x hx => a x (List.mem_append_left _ hx), b, fun x hx => ?_⟩
      rcases c x hx with h | h
      · rcases List.mem_append.1 h with h | h
        · exact .inl h
        · refine .inr ?_
          rw [List.mem_singleton] at h
          subst h
          exact ⟨1, .up trivial h1 (.here _)⟩
      · obtain ⟨k, h⟩ := h
        exact .inr ⟨k + 1, .up trivial h1 h⟩
theorem mem_chain {l : List Place} (hpar : ∀ p ∈ l, 0 ≤ p.parent ∧ p.parent ≤ 16) (a b : Int) : b ∈ orangeryref_chain l a ↔ Up l a b := by
  obtain ⟨h1, h2, h3⟩ := chain_L0_spec hpar 18 a [a] rfl (by simp) (by simp) (by simp) (fun x hx hne => absurd (by simpa using hx) hne)
  have e : orangeryref_chain l a = orangeryref_chain_L0 l 18 a [a] := rfl
  rw [e]
  constructor
  · intro h
    rcases h3 b h with h | h
    · rw [List.mem_singleton] at h; subst h; exact Up.refl l _
    · exact h
  · rintro ⟨k, h⟩
    have key : ∀ (x y : Int) (k : Nat), Way l (fun _ => True) x y k → x ∈ orangeryref_chain_L0 l 18 a [a] → y ∈ orangeryref_chain_L0 l 18 a [a] := by
      intro x y k hw
      induction hw with
      | here => exact fun h => h
      | up _ hn _ ih =>
        intro hx
        rcases h2 _ hx with h | h
        · exact absurd h hn
        · exact ih h
    exact key a b k h (h1 a (by simp))
theorem IsUnder_eq {l : List Place} (hpar : ∀ p ∈ l, 0 ≤ p.parent ∧ p.parent ≤ 16) (a b : Int) : orangeryref_IsUnder l a b = stands l a b := by
  unfold orangeryref_IsUnder
  rw [Bool.eq_iff_iff, decide_eq_true_eq, mem_chain hpar, stands_iff]
/-! ### The document's check of a tree -/
theorem CheckTree_L1_eq {t : List Place} (hpar : ∀ p ∈ t, 0 ≤ p.parent ∧ p.parent ≤ 16) : ∀ l : List Place, orangeryref_CheckTree_L1 t l = chk2 t l
  | [] => rfl
  | p :: r => by
    rw [orangeryref_CheckTree_L1, chk2, CheckTree_L1_eq hpar r]
    have := IsUnder_eq hpar p.parent p.node
    unfold orangeryref_IsUnder at this
    rw [this]
theorem CheckTree_eq (t : List Place) : orangeryref_CheckTree t = checkT t := by
  have key : ∀ (r : List Place) (k : Nat) (last : Int), r = t.drop k → (∀ i, i < k → i < t.length → place (gt t i) = 0) → last = (if k = 0 then 0 else (gt t (k - 1)).node) → orangeryref_CheckTree_L0 t r last = bif chk1 t (t.length - k) k != 0 then chk1 t (t.length - k) k else chk2 t t := by
    intro r
    induction r with
    | nil =>
      intro k last hr hok _
      have hk : t.length ≤ k := by have := congrArg List.length hr; simp at this; omega
      have : t.length - k = 0 := by omega
      rw [orangeryref_CheckTree_L0, this, chk1, CheckTree_L1_eq]
      · rfl
      · intro p hp
        obtain ⟨i, hi, rfl⟩ := List.getElem_of_mem hp
        have := plc_ok (hok i (by omega) hi)
        rw [gt_eq hi] at this
        omega
    | cons p r ih =>
      intro k last hr hok hlast
      have hk : k < t.length := by have := congrArg List.length hr; simp at this; omega
      rw [drop_gt hk] at hr
      obtain ⟨rfl, hr'⟩ := List.cons.inj hr
      rw [orangeryref_CheckTree_L0, show t.length - k = (t.length - (k + 1)) + 1 by omega, chk1, CheckPlace_eq]
      cases h1 : place (gt t k) != 0 with
      | true => simp only [cond_true, h1]
      | false =>
        have h0 : place (gt t k) = 0 := eq_of_bne_false h1
        have hp := plc_ok h0
        have hcond : decide ((gt t k).node ≤ last) = (decide ((k : Int) > 0) && decide ((gt t (k - 1)).node ≥ (gt t k).node)) := by
          rw [Bool.eq_iff_iff]
          simp only [Bool.and_eq_true, decide_eq_true_eq]
          rw [hlast]
          by_cases hz : k = 0
          · subst hz; simp; omega
          · simp [hz]; omega
        rw [hcond]
        simp only [cond_false]
        cases h2 : (decide ((k : Int) > 0) && decide ((gt t (k - 1)).node ≥ (gt t k).node)) with
        | true => rfl
        | false =>
          simp only [cond_false]
          exact ih (k + 1) _ hr' (fun i hi hl => by
            by_cases he : i = k
            · rw [he]; exact h0
            · exact hok i (by omega) hl) (by simp)
  unfold orangeryref_CheckTree checkT
  exact key t 0 0 rfl (fun i hi => by omega) rfl
/-! ### Tables of places -/
def pl (tb : List Place) : Nat → Nat → List Place
  | 0, _ => []
  | f + 1, k => bif (decide ((k : Int) > 0) && decide ((gt tb k).parent ≥ 0)) then gt tb k :: pl tb f (k + 1) else pl tb f (k + 1)
theorem places_L0_eq (tb : List Place) : ∀ (f k : Nat) (acc : List Place), orangeryref_places_L0 tb f k acc = acc ++ pl tb f k
  | 0, k, acc => by simp [orangeryref_places_L0, pl]
  | f + 1, k, acc => by
    rw [orangeryref_places_L0, pl]
    cases (decide ((k : Int) > 0) && decide ((gt tb k).parent ≥ 0)) with
    | true => simp only [cond_true]; rw [places_L0_eq tb f]; simp
    | false => simp only [cond_false]; exact places_L0_eq tb f (k + 1) acc
theorem places_eq (tb : List Place) : orangeryref_places tb = pl tb 16 0 := (places_L0_eq tb 16 0 []).trans (List.nil_append _)
/-- A table: what stands at a place is of that node. -/
def Tbl (tb : List Place) : Prop := ∀ n : Nat, 1 ≤ n → n < 16 → (gt tb n).parent ≥ 0 → (gt tb n).node = n
theorem pl_ge {tb : List Place} (ht : Tbl tb) : ∀ (f k : Nat), k + f = 16 → ∀ p ∈ pl tb f k, (k : Int) ≤ p.node ∧ 1 ≤ p.node
  | 0, k, _ => by simp [pl]
  | f + 1, k, h => by
    intro p hp
    rw [pl] at hp
    cases hb : (decide ((k : Int) > 0) && decide ((gt tb k).parent ≥ 0)) with
    | true =>
      rw [hb, cond_true] at hp
      simp only [Bool.and_eq_true, decide_eq_true_eq] at hb
      have hn := ht k (by omega) (by omega) hb.2
      cases hp with
      | head => omega
      | tail _ hp => have := pl_ge ht f (k + 1) (by omega) p hp; omega
    | false =>
      rw [hb, cond_false] at hp
      have := pl_ge ht f (k + 1) (by omega) p hp; omega
theorem pl_up {tb : List Place} (ht : Tbl tb) : ∀ (f k : Nat), k + f = 16 → (pl tb f k).Pairwise (fun a b => a.node < b.node)
  | 0, k, _ => by simp [pl]
  | f + 1, k, h => by
    rw [pl]
    cases hb : (decide ((k : Int) > 0) && decide ((gt tb k).parent ≥ 0)) with
    | true =>
      rw [cond_true]
      simp only [Bool.and_eq_true, decide_eq_true_eq] at hb
      have hn := ht k (by omega) (by omega) hb.2
      exact List.pairwise_cons.2 ⟨fun p hp => by have := pl_ge ht f (k + 1) (by omega) p hp; omega, pl_up ht f (k + 1) (by omega)⟩
    | false => exact pl_up ht f (k + 1) (by omega)
theorem find_pl {tb : List Place} (ht : Tbl tb) (n : Nat) (hn : 1 ≤ n) : ∀ (f k : Nat), k + f = 16 → find (pl tb f k) n = if k ≤ n ∧ n < 16 ∧ (gt tb n).parent ≥ 0 then gt tb n else ⟨0, 0, 0⟩
  | 0, k, h => by rw [pl, if_neg (by omega)]; rfl
  | f + 1, k, h => by
    rw [pl]
    have ih := find_pl ht n hn f (k + 1) (by omega)
    cases hb : (decide ((k : Int) > 0) && decide ((gt tb k).parent ≥ 0)) with
    | true =>
      simp only [Bool.and_eq_true, decide_eq_true_eq] at hb
      have hk := ht k (by omega) (by omega) hb.2
      rw [cond_true, find]
      by_cases he : k = n
      · subst he
        have : ((gt tb k).node == (k : Int)) = true := by simpa using hk
        rw [this, cond_true, if_pos ⟨Nat.le_refl _, by omega, hb.2⟩]
      · have : ((gt tb k).node == (n : Int)) = false := by rw [hk]; simp; omega
        rw [this, cond_false, ih]
        by_cases h2 : k + 1 ≤ n ∧ n < 16 ∧ (gt tb n).parent ≥ 0
        · rw [if_pos h2, if_pos ⟨by omega, h2.2⟩]
        · rw [if_neg h2, if_neg (fun h3 => h2 ⟨by omega, h3.2⟩)]
    | false =>
      rw [cond_false, ih]
      by_cases he : k = n
      · subst he
        rw [if_neg (by omega), if_neg]
        intro h3
        have h4 : (k : Int) > 0 := by omega
        rw [decide_eq_true h4, decide_eq_true h3.2.2] at hb
        cases hb
      · by_cases h2 : k + 1 ≤ n ∧ n < 16 ∧ (gt tb n).parent ≥ 0
        · rw [if_pos h2, if_pos ⟨by omega, h2.2⟩]
        · rw [if_neg h2, if_neg (fun h3 => h2 ⟨by omega, h3.2⟩)]
theorem gt_set (tb : List Place) (i n : Nat) (p : Place) (hi : i < tb.length) : gt (tb.set i p) n = if i = n then p else gt tb n := by
  simp only [gt, List.getD, List.getElem?_set]
  by_cases h : i = n
  · subst h; simp [hi]
  · simp [h]
/-- The table of places that rise. -/
theorem gt_table_L1 : ∀ (l tb : List Place), tb.length = 16 → l.Pairwise (fun a b => a.node < b.node) → (∀ p ∈ l, 1 ≤ p.node ∧ p.node < 16) → ∀ n : Nat, 1 ≤ n → n < 16 →
    gt (orangeryref_table_L1 l tb) n = if (find l n).node = 0 then gt tb n else find l n
  | [], tb, _, _, _, n, _, _ => by rw [orangeryref_table_L1]; rfl
  | p :: r, tb, ht, hu, hr, n, h1, h2 => by
    have hp := hr p (.head _)
    obtain ⟨hlt, hur⟩ := List.pairwise_cons.1 hu
    rw [orangeryref_table_L1, gt_table_L1 r _ (by simp [ht]) hur (fun q hq => hr q (.tail _ hq)) n h1 h2, gt_set _ _ _ _ (by omega), find]
    by_cases he : p.node = n
    · have hb : (p.node == (n : Int)) = true := by simpa using he
      have hz : find r n = ⟨0, 0, 0⟩ := find_lt fun q hq => by have := hlt q hq; omega
      rw [hb, cond_true, hz, if_pos rfl, if_pos (by omega), if_neg (by omega)]
    · have hb : (p.node == (n : Int)) = false := by simpa using he
      rw [hb, cond_false, if_neg (by omega : ¬ p.node.toNat = n)]
theorem gt_table_L0 (l : List Place) : ∀ (f k : Nat) (tb : List Place), k + f = 16 → tb.length = 16 → ∃ tb', orangeryref_table_L0 l f k tb = orangeryref_table_L1 l tb' ∧ tb'.length = 16 ∧
    (∀ n, n < 16 → k ≤ n → (gt tb' n).parent = -1) ∧ (∀ n, n < k → gt tb' n = gt tb n)
  | 0, k, tb, hf, ht => ⟨tb, rfl, ht, fun n h1 h2 => by omega, fun n _ => rfl⟩
  | f + 1, k, tb, hf, ht => by
    rw [orangeryref_table_L0]
    obtain ⟨tb', e, hl, ha, hb⟩ := gt_table_L0 l f (k + 1) (tb.set k ⟨(gt tb k).node, -1, (gt tb k).name⟩) (by omega) (by simp [ht])
    refine ⟨tb', e, hl, fun n h1 h2 => ?_, fun n h => ?_⟩
    · by_cases he : n = k
      · rw [he, hb k (by omega), gt_set _ _ _ _ (by omega), if_pos rfl]
      · exact ha n h1 (by omega)
    · rw [hb n (by omega), gt_set _ _ _ _ (by omega), if_neg (by omega)]
theorem gt_table {l : List Place} (hu : l.Pairwise (fun a b => a.node < b.node)) (hr : ∀ p ∈ l, 1 ≤ p.node ∧ p.node < 16) (n : Nat) (h1 : 1 ≤ n) (h2 : n < 16) :
    ((find l n).node = 0 → (gt (orangeryref_table l) n).parent = -1) ∧ ((find l n).node ≠ 0 → gt (orangeryref_table l) n = find l n) := by
  obtain ⟨tb', e, hl, ha, _⟩ := gt_table_L0 l 16 0 (List.replicate 16 ⟨0, 0, 0⟩) rfl (by simp)
  have e2 : orangeryref_table l = orangeryref_table_L1 l tb' := e
  rw [e2, gt_table_L1 l tb' hl hu hr n h1 h2]
  constructor
  · intro h; rw [if_pos h]; exact ha n h2 (by omega)
  · intro h; rw [if_neg h]
/-- A place put into a table. -/
theorem places_put {l : List Place} (hT : IsTree l) {p : Place} (hp : place p = 0) : orangeryref_places ((orangeryref_table l).set p.node.toNat p) = putT l p := by
  have hr : ∀ q ∈ l, 1 ≤ q.node ∧ q.node < 16 := fun q hq => by have := plc_ok (hT.ok q hq); omega
  have hpo := plc_ok hp
  have hpn : ¬ p.parent < 0 := by omega
  have hlen : (orangeryref_table l).length = 16 := table_len l
  have hg : ∀ n : Nat, 1 ≤ n → n < 16 → ((gt ((orangeryref_table l).set p.node.toNat p) n) = if p.node = n then p else gt (orangeryref_table l) n) := fun n h1 h2 => by
    rw [gt_set _ _ _ _ (by omega)]
    by_cases he : p.node = n
    · rw [if_pos (by omega), if_pos he]
    · rw [if_neg (by omega), if_neg he]
  have ht : Tbl ((orangeryref_table l).set p.node.toNat p) := fun n h1 h2 hpar => by
    rw [hg n h1 h2] at hpar ⊢
    by_cases he : p.node = n
    · rw [if_pos he]; exact he
    · rw [if_neg he] at hpar ⊢
      obtain ⟨ha, hb⟩ := gt_table hT.up hr n h1 h2
      by_cases hz : (find l n).node = 0
      · rw [ha hz] at hpar; omega
      · rw [hb hz]; exact (find_node hz).1
  rw [places_eq]
  have hf : putT l p = put p false l := putT_f (by omega)
  refine ext_find (pl_up ht 16 0 rfl) (by rw [hf]; exact put_f_up p hT.up) (fun q hq => (pl_ge ht 16 0 rfl q hq).2) (fun q hq => ?_) fun n hn => ?_
  · rw [hf] at hq
    rcases mem_put_f p q l hq with rfl | h
    · omega
    · exact (hr q h.1).1
  · obtain ⟨m, rfl⟩ := Int.eq_ofNat_of_zero_le (by omega : 0 ≤ n)
    rw [find_pl ht m (by omega) 16 0 rfl, find_putT, decide_eq_false hpn, cond_false]
    by_cases hm : m < 16
    · rw [hg m (by omega) hm]
      by_cases he : p.node = m
      · have : ((m : Int) == p.node) = true := by simpa using he.symm
        rw [this, cond_true, if_pos he, if_pos ⟨by omega, hm, by omega⟩]
      · have : ((m : Int) == p.node) = false := by simpa using fun h => he h.symm
        rw [this, cond_false, if_neg he]
        obtain ⟨ha, hb⟩ := gt_table hT.up hr m (by omega) hm
        by_cases hz : (find l m).node = 0
        · rw [ha hz, if_neg (by omega)]
          by_cases hz2 : find l m = ⟨0, 0, 0⟩
          · exact hz2.symm
          · exact absurd hz (by
              intro _
              apply hz2
              refine find_none fun q hq hqn => ?_
              have h3 := find_mem hT.up q hq
              rw [hqn] at h3
              rw [h3] at hz
              have := hr q hq
              omega)
        · rw [hb hz]
          have h5 := plc_ok (hT.ok _ (find_node hz).2)
          rw [if_pos ⟨by omega, hm, by omega⟩]
    · have h1 : ((m : Int) == p.node) = false := by simp; omega
      rw [if_neg (by omega), h1, cond_false]
      exact (find_none fun q hq hqn => by have := hr q hq; omega).symm
/-! ### Done and undone -/
theorem step0 : ((⟨(⟨0, 0, 0, 0, 0, 0, 0⟩ : Op), false, (⟨0, 0, 0⟩ : Place)⟩ : Step)) = default := rfl
theorem done_eq {l : List Place} (hT : IsTree l) {o : Op} (ho : chkO o = 0) : orangeryref_done l o = bif stands l o.parent o.node then (l, ⟨o, false, find l o.node⟩) else (putT l (opPlace o), ⟨o, true, find l o.node⟩) := by
  have hpar : ∀ p ∈ l, 0 ≤ p.parent ∧ p.parent ≤ 16 := fun p hp => by have := plc_ok (hT.ok p hp); omega
  unfold orangeryref_done
  rw [IsUnder_eq hpar, tree_Find_eq]
  have := places_put hT (opPlace_ok ho)
  have e : (opPlace o).node = o.node := rfl
  rw [e] at this
  have e2 : (⟨o.node, o.parent, o.name⟩ : Place) = opPlace o := rfl
  rw [e2, this]
theorem Done_eq (l : List Place) (o : Op) : orangeryref_Done l o = moveDo l o := by
  unfold orangeryref_Done
  rw [CheckTree_eq, CheckOp_eq, step0]
  cases h1 : checkT l != 0 with
  | true => unfold moveDo; rw [h1]; rfl
  | false =>
    cases h2 : chkO o != 0 with
    | true => unfold moveDo; rw [h1, h2]; rfl
    | false =>
      have h1 := eq_of_bne_false h1
      have h2 := eq_of_bne_false h2
      rw [cond_false, cond_false, moveDo_eq h1 h2, done_eq ((checkT_iff l).1 h1) h2]
      cases stands l o.parent o.node <;> rfl
end Go.Proofs.Ytchdacbjiomplaa
