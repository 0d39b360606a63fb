/- Part of this claim. No condition. -/
import Derived.Test.YtchdacbjiomplaaW19
set_option linter.unusedVariables false
set_option linter.unusedSimpArgs false
namespace Go.Proofs.Ytchdacbjiomplaa
open Go Go.Proofs.Ytchdacbjiomplaa.Fw Go.Proofs

/-! ### Lists that rise, told by what is in them -/
theorem ext_mem {α : Type} (f : α → Int) : ∀ {l l' : List α}, l.Pairwise (fun a b => f a < f b) → l'.Pairwise (fun a b => f a < f b) → (∀ x, x ∈ l ↔ x ∈ l') → l = l'
  | [], [], _, _, _ => rfl
  | [], b :: s, _, _, h => absurd ((h b).2 (.head _)) (by simp)
  | a :: r, [], _, _, h => absurd ((h a).1 (.head _)) (by simp)
  | a :: r, b :: s, h1, h2, h => by
    obtain ⟨p1, p2⟩ := List.pairwise_cons.1 h1
    obtain ⟨q1, q2⟩ := List.pairwise_cons.1 h2
    have hab : a = b := by
      rcases List.mem_cons.1 ((h a).1 (.head _)) with e | e
      · exact e
      · rcases List.mem_cons.1 ((h b).2 (.head _)) with e' | e'
        · exact e'.symm
        · have := q1 a e; have := p1 b e'; omega
    subst hab
    rw [ext_mem f p2 q2 fun x => ?_]
    constructor
    · intro hx
      rcases List.mem_cons.1 ((h x).1 (.tail _ hx)) with e | e
      · subst e; have := p1 _ hx; omega
      · exact e
    · intro hx
      rcases List.mem_cons.1 ((h x).2 (.tail _ hx)) with e | e
      · subst e; have := q1 _ hx; omega
      · exact e

/-! ### Tables, wholly told -/
theorem table_L0_get (l : List Place) : ∀ (f k : Nat) (tb : List Place), k + f = 16 → tb.length = 16 → (∀ n, n < 16 → (gt tb n).node = 0 ∧ (gt tb n).name = 0) → ∃ tb', orangeryref_table_L0 l f k tb = orangeryref_table_L1 l tb' ∧ tb'.length = 16 ∧
    (∀ n, n < 16 → k ≤ n → gt tb' n = ⟨0, -1, 0⟩) ∧ (∀ n, n < k → gt tb' n = gt tb n)
  | 0, k, tb, hf, ht, _ => ⟨tb, rfl, ht, fun n h1 h2 => by omega, fun n _ => rfl⟩
  | f + 1, k, tb, hf, ht, h0 => by
    rw [orangeryref_table_L0]
    obtain ⟨tb', e, hl, ha, hb⟩ := table_L0_get l f (k + 1) (tb.set k ⟨(gt tb k).node, -1, (gt tb k).name⟩) (by omega) (by simp [ht]) (fun n hn => by
      rw [gt_set _ _ _ _ (by omega)]
      by_cases he : k = n
      · rw [if_pos he]; exact h0 k (by omega)
      · rw [if_neg he]; exact h0 n hn)
    refine ⟨tb', e, hl, fun n h1 h2 => ?_, fun n h => ?_⟩
    · by_cases he : n = k
      · rw [he, hb k (by omega), gt_set _ _ _ _ (by omega), if_pos rfl, (h0 k (by omega)).1, (h0 k (by omega)).2]
      · exact ha n h1 (by omega)
    · rw [hb n (by omega), gt_set _ _ _ _ (by omega), if_neg (by omega)]
theorem table_none {l : List Place} (h : Rising l) {n : Nat} (h1 : 1 ≤ n) (h2 : n < 16) (hz : (find l n).node = 0) : gt (orangeryref_table l) n = ⟨0, -1, 0⟩ := by
  obtain ⟨tb', e, hl, ha, _⟩ := table_L0_get l 16 0 (List.replicate 16 ⟨0, 0, 0⟩) rfl (by simp) (fun n hn => by
    rw [gt_eq (by simpa using hn), List.getElem_replicate]; exact ⟨rfl, rfl⟩)
  have e2 : orangeryref_table l = orangeryref_table_L1 l tb' := e
  rw [e2, gt_table_L1 l tb' hl h.up h.rng n h1 h2, if_pos hz]
  exact ha n h2 (by omega)

/-! ### What changes, as the document says -/
def bG (x y : List Place) : Nat → Nat → List Int
  | 0, _ => []
  | f + 1, n => bif decide (gt x n = gt y n) then bG x y f (n + 1) else bif decide ((gt y n).parent < 0) then (n : Int) :: bG x y f (n + 1) else bG x y f (n + 1)
def bH (x y : List Place) : Nat → Nat → List Place
  | 0, _ => []
  | f + 1, n => bif decide (gt x n = gt y n) then bH x y f (n + 1) else bif decide ((gt y n).parent < 0) then bH x y f (n + 1) else gt y n :: bH x y f (n + 1)
theorem between_L0_eq (a b : List Place) : ∀ (f n : Nat) (g : List Int) (h : List Place), orangeryref_between_L0 a b f n g h = (g ++ bG (orangeryref_table a) (orangeryref_table b) f n, h ++ bH (orangeryref_table a) (orangeryref_table b) f n)
  | 0, n, g, h => by simp [orangeryref_between_L0, bG, bH]
  | f + 1, n, g, h => by
    rw [orangeryref_between_L0, bG, bH]
    cases decide (gt (orangeryref_table a) n = gt (orangeryref_table b) n) with
    | true => simp only [cond_true]; exact between_L0_eq a b f (n + 1) g h
    | false =>
      cases decide ((gt (orangeryref_table b) n).parent < 0) with
      | true => simp only [cond_true, cond_false]; rw [between_L0_eq a b f (n + 1)]; simp
      | false => simp only [cond_false]; rw [between_L0_eq a b f (n + 1)]; simp
theorem mem_bG (x y : List Place) (m : Int) : ∀ (f n : Nat), n + f = 16 → (m ∈ bG x y f n ↔ ∃ i : Nat, m = i ∧ n ≤ i ∧ i < 16 ∧ gt x i ≠ gt y i ∧ (gt y i).parent < 0)
  | 0, n, hf => by
    rw [bG]
    exact ⟨fun h => absurd h (by simp), fun ⟨i, _, h1, h2, _⟩ => by omega⟩
  | f + 1, n, hf => by
    rw [bG]
    have ih := mem_bG x y m f (n + 1) (by omega)
    by_cases h1 : gt x n = gt y n
    · rw [decide_eq_true h1, cond_true, ih]
      exact ⟨fun ⟨i, a, b, c⟩ => ⟨i, a, by omega, c⟩, fun ⟨i, a, b, c, d, e⟩ => ⟨i, a, by
        by_cases he : i = n
        · subst he; exact absurd h1 d
        · omega, c, d, e⟩⟩
    · rw [decide_eq_false h1, cond_false]
      by_cases h2 : (gt y n).parent < 0
      · rw [decide_eq_true h2, cond_true, List.mem_cons, ih]
        constructor
        · rintro (h | ⟨i, a, b, c⟩)
          · exact ⟨n, h, Nat.le_refl _, by omega, h1, h2⟩
          · exact ⟨i, a, by omega, c⟩
        · rintro ⟨i, a, b, c⟩
          by_cases he : i = n
          · subst he; exact .inl a
          · exact .inr ⟨i, a, by omega, c⟩
      · rw [decide_eq_false h2, cond_false, ih]
        exact ⟨fun ⟨i, a, b, c⟩ => ⟨i, a, by omega, c⟩, fun ⟨i, a, b, c, d, e⟩ => ⟨i, a, by
          by_cases he : i = n
          · subst he; exact absurd e h2
          · omega, c, d, e⟩⟩
theorem bG_up (x y : List Place) : ∀ (f n : Nat), n + f = 16 → (bG x y f n).Pairwise (fun a b => a < b)
  | 0, n, _ => by simp [bG]
  | f + 1, n, hf => by
    rw [bG]
    have ih := bG_up x y f (n + 1) (by omega)
    cases decide (gt x n = gt y n) with
    | true => exact ih
    | false =>
      cases decide ((gt y n).parent < 0) with
      | true => exact List.pairwise_cons.2 ⟨fun m hm => by obtain ⟨i, a, b, _⟩ := (mem_bG x y m f (n + 1) (by omega)).1 hm; omega, ih⟩
      | false => exact ih
theorem mem_bH (x y : List Place) (p : Place) : ∀ (f n : Nat), n + f = 16 → (p ∈ bH x y f n ↔ ∃ i : Nat, p = gt y i ∧ n ≤ i ∧ i < 16 ∧ gt x i ≠ gt y i ∧ ¬ (gt y i).parent < 0)
  | 0, n, hf => by
    rw [bH]
    exact ⟨fun h => absurd h (by simp), fun ⟨i, _, h1, h2, _⟩ => by omega⟩
  | f + 1, n, hf => by
    rw [bH]
    have ih := mem_bH x y p f (n + 1) (by omega)
    by_cases h1 : gt x n = gt y n
    · rw [decide_eq_true h1, cond_true, ih]
      exact ⟨fun ⟨i, a, b, c⟩ => ⟨i, a, by omega, c⟩, fun ⟨i, a, b, c, d, e⟩ => ⟨i, a, by
        by_cases he : i = n
        · subst he; exact absurd h1 d
        · omega, c, d, e⟩⟩
    · rw [decide_eq_false h1, cond_false]
      by_cases h2 : (gt y n).parent < 0
      · rw [decide_eq_true h2, cond_true, ih]
        exact ⟨fun ⟨i, a, b, c⟩ => ⟨i, a, by omega, c⟩, fun ⟨i, a, b, c, d, e⟩ => ⟨i, a, by
          by_cases he : i = n
          · subst he; exact absurd h2 e
          · omega, c, d, e⟩⟩
      · rw [decide_eq_false h2, cond_false, List.mem_cons, ih]
        constructor
        · rintro (h | ⟨i, a, b, c⟩)
          · exact ⟨n, h, Nat.le_refl _, by omega, h1, h2⟩
          · exact ⟨i, a, by omega, c⟩
        · rintro ⟨i, a, b, c⟩
          by_cases he : i = n
          · subst he; exact .inl a
          · exact .inr ⟨i, a, by omega, c⟩
theorem bH_up (x y : List Place) (hy : Tbl y) : ∀ (f n : Nat), n + f = 16 → 1 ≤ n → (bH x y f n).Pairwise (fun a b => a.node < b.node)
  | 0, n, _, _ => by simp [bH]
  | f + 1, n, hf, h1 => by
    rw [bH]
    have ih := bH_up x y hy f (n + 1) (by omega) (by omega)
    cases decide (gt x n = gt y n) with
    | true => exact ih
    | false =>
      cases hb : decide ((gt y n).parent < 0) with
      | true => exact ih
      | false =>
        refine List.pairwise_cons.2 ⟨fun p hp => ?_, ih⟩
        obtain ⟨i, rfl, b, c, d, e⟩ := (mem_bH x y p f (n + 1) (by omega)).1 hp
        simp at hb
        have e1 := hy n h1 (by omega) (by omega)
        have e2 := hy i (by omega) c (by omega)
        omega
theorem TabOf.tbl {tb l : List Place} (ht : TabOf tb l) : Tbl tb := fun n h1 h2 hpar => by
  by_cases hz : (find l n).node = 0
  · have := ht.no n h1 h2 hz; omega
  · rw [ht.yes n h1 h2 hz]; exact (find_node hz).1
theorem table_cases {l : List Place} (h : Rising l) {n : Nat} (h1 : 1 ≤ n) (h2 : n < 16) :
    ((find l n).node = 0 ∧ find l n = ⟨0, 0, 0⟩ ∧ gt (orangeryref_table l) n = ⟨0, -1, 0⟩) ∨ ((find l n).node = n ∧ find l n ∈ l ∧ 0 ≤ (find l n).parent ∧ gt (orangeryref_table l) n = find l n) := by
  by_cases hz : (find l n).node = 0
  · exact .inl ⟨hz, h.none hz, table_none h h1 h2 hz⟩
  · exact .inr ⟨(find_node hz).1, (find_node hz).2, h.par _ (find_node hz).2, (TabOf.table h).yes n h1 h2 hz⟩
theorem between_eq {a b : List Place} (ha : Rising a) (hb : Rising b) : orangeryref_between a b = (goneOf a b, hereOf a b) := by
  unfold orangeryref_between
  rw [between_L0_eq, List.nil_append, List.nil_append]
  have e1 : bG (orangeryref_table a) (orangeryref_table b) (16 - 1) 1 = goneOf a b := by
    refine ext_mem id (bG_up _ _ _ _ (by omega)) ?_ fun m => ?_
    · unfold goneOf; exact List.pairwise_map.2 (ha.up.filter _)
    · rw [mem_bG _ _ _ _ _ (by omega), mem_gone ha]
      constructor
      · rintro ⟨i, rfl, h1, h2, h3, h4⟩
        rcases table_cases hb h1 h2 with ⟨b1, b2, b3⟩ | ⟨b1, b2, b3, b4⟩
        · rcases table_cases ha h1 h2 with ⟨a1, a2, a3⟩ | ⟨a1, a2, a3, a4⟩
          · exact absurd (a3.trans b3.symm) h3
          · exact ⟨by omega, b1⟩
        · rw [b4] at h4; omega
      · rintro ⟨h1, h2⟩
        obtain ⟨h3, h4⟩ := find_node h1
        have h5 := ha.rng _ h4
        rw [h3] at h5
        obtain ⟨i, rfl⟩ := Int.eq_ofNat_of_zero_le (by omega : 0 ≤ m)
        refine ⟨i, rfl, by omega, by omega, ?_, ?_⟩
        · rcases table_cases ha (by omega : 1 ≤ i) (by omega) with ⟨a1, a2, a3⟩ | ⟨a1, a2, a3, a4⟩
          · exact absurd a1 h1
          · rw [a4, table_none hb (by omega) (by omega) h2]
            intro e; rw [e] at a1; simp at a1; omega
        · rw [table_none hb (by omega) (by omega) h2]; decide
  have e2 : bH (orangeryref_table a) (orangeryref_table b) (16 - 1) 1 = hereOf a b := by
    refine ext_mem Place.node (bH_up _ _ (TabOf.table hb).tbl _ _ (by omega) (by omega)) (hb.up.filter _) fun p => ?_
    rw [mem_bH _ _ _ _ _ (by omega)]
    unfold hereOf
    rw [List.mem_filter]
    constructor
    · rintro ⟨i, rfl, h1, h2, h3, h4⟩
      rcases table_cases hb h1 h2 with ⟨b1, b2, b3⟩ | ⟨b1, b2, b3, b4⟩
      · rw [b3] at h4; exact absurd (by decide) h4
      · rw [b4] at h3 ⊢
        refine ⟨b2, ?_⟩
        rw [b1]
        rcases table_cases ha h1 h2 with ⟨a1, a2, a3⟩ | ⟨a1, a2, a3, a4⟩
        · have : find a (i : Int) ≠ find b (i : Int) := fun e => by rw [e] at a1; omega
          simpa using this
        · rw [a4] at h3
          simpa using h3
    · rintro ⟨h1, h2⟩
      have hp := hb.rng p h1
      obtain ⟨i, hi⟩ := Int.eq_ofNat_of_zero_le (by omega : 0 ≤ p.node)
      have hf := find_mem hb.up p h1
      rw [hi] at hf h2
      have hpar := hb.par p h1
      rcases table_cases hb (by omega : 1 ≤ i) (by omega) with ⟨b1, b2, b3⟩ | ⟨b1, b2, b3, b4⟩
      · rw [hf] at b1; omega
      · rw [hf] at b4
        refine ⟨i, b4.symm, by omega, by omega, ?_, by rw [b4]; omega⟩
        rw [b4]
        rcases table_cases ha (by omega : 1 ≤ i) (by omega) with ⟨a1, a2, a3⟩ | ⟨a1, a2, a3, a4⟩
        · rw [a3]; intro e; rw [← e] at hpar; exact absurd hpar (by decide)
        · rw [a4]; simpa using h2
  rw [e1, e2]

/-! ### Applied, as the document says -/
theorem Applied_L1_eq : ∀ (m tb : List Place), orangeryref_Applied_1_L1 m tb = orangeryref_places (orangeryref_table_L1 m tb)
  | [], _ => rfl
  | p :: r, tb => by rw [orangeryref_Applied_1_L1, orangeryref_table_L1, Applied_L1_eq r]
theorem Applied_L0_eq {here : List Place} (hh : ∀ p ∈ here, (1 ≤ p.node ∧ p.node < 16) ∧ 0 ≤ p.parent) : ∀ (g : List Int) {tb l : List Place}, TabOf tb l → Rising l → (∀ n ∈ g, 1 ≤ n ∧ n < 16) → orangeryref_Applied_1_L0 here g tb = here.foldl putT (g.foldl dropN l)
  | [], tb, l, ht, hl, _ => by
    rw [orangeryref_Applied_1_L0, Applied_L1_eq]
    exact (ht.puts here hh).places (Rising.puts _ hl fun p hp => (hh p hp).1)
  | n :: r, tb, l, ht, hl, hg => by
    rw [orangeryref_Applied_1_L0, List.foldl_cons]
    exact Applied_L0_eq hh r (ht.drop (p := ⟨n, -1, 0⟩) (hg n (.head _)) (by show (-1 : Int) < 0; decide) (by show (-1 : Int) < 0; decide) rfl) (hl.put (p := ⟨n, -1, 0⟩) (hg n (.head _))) fun m hm => hg m (.tail _ hm)
theorem Applied_1_eq {l : List Place} {g : List Int} {h : List Place} (hl : Rising l) (hh : Half g h) : orangeryref_Applied_1 l g h = delta_turn l g h := by
  unfold orangeryref_Applied_1
  rw [turn_eq]
  exact Applied_L0_eq (fun p hp => by have := plc_ok (hh.ok p hp); omega) g (TabOf.table hl) hl hh.rng

/-! ### DeltaSays -/
theorem DeltaOf_eq (v w : View) : orangeryref_DeltaOf v w = delta_Of v w := by
  rw [delta_Of_eq]
  unfold orangeryref_DeltaOf
  rw [CheckView_eq, CheckView_eq]
  cases h1 : (view_Check v != 0) with
  | true => rfl
  | false =>
    cases h2 : (view_Check w != 0) with
    | true => rfl
    | false =>
      have hv := (view_Check_iff v).1 (eq_of_bne_false h1)
      have hw := (view_Check_iff w).1 (eq_of_bne_false h2)
      rw [between_eq hv.known.rising hw.known.rising, between_eq hv.way.rising hw.way.rising]
      rfl
theorem Applied_eq (v : View) (d : Delta) : orangeryref_Applied v d = delta_Apply v d := by
  unfold orangeryref_Applied delta_Apply
  rw [CheckView_eq, CheckDelta_eq]
  cases h1 : (view_Check v != 0) with
  | true => rfl
  | false =>
    cases h2 : (delta_Check d != 0) with
    | true => rfl
    | false =>
      have hv := (view_Check_iff v).1 (eq_of_bne_false h1)
      obtain ⟨d1, d2⟩ := (delta_Check_iff d).1 (eq_of_bne_false h2)
      rw [Applied_1_eq hv.known.rising d1, Applied_1_eq hv.way.rising d2, CheckView_eq]
theorem SameDelta_eq (a b : Delta) : orangeryref_SameDelta a b = delta_Same a b := rfl
theorem dSame_refl (d : Delta) : delta_Same d d = true := by simp [delta_Same]
theorem DeltaSays_true (v w : View) (d c : Delta) : orangerylaw_DeltaSays v w d c = true := by
  unfold orangerylaw_DeltaSays
  rw [differs_true, CheckDelta_eq, DeltaOf_eq, Applied_eq, SameDelta_eq, SameDelta_eq, SameView_eq, Same_refl, dSame_refl]
  simp
end Go.Proofs.Ytchdacbjiomplaa
