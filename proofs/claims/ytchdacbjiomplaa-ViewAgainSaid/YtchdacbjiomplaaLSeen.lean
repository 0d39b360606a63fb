/- Part of this claim. No condition. -/
import Derived.Test.YtchdacbjiomplaaLDelta
set_option linter.unusedVariables false
set_option linter.unusedSimpArgs false
namespace Go.Proofs.Ytchdacbjiomplaa
open Go Go.Proofs.Ytchdacbjiomplaa.Fw Go.Proofs
/-! ### Some of a tree's places -/
theorem find_filter (q : Place → Bool) (n : Int) : ∀ {l : List Place}, Rising l → find (l.filter q) n = bif ((find l n).node != 0 && q (find l n)) then find l n else ⟨0, 0, 0⟩
  | [], _ => rfl
  | p :: r, h => by
    obtain ⟨h1, h2⟩ := List.pairwise_cons.1 h.up
    have hp := h.rng p (.head _)
    have hr : Rising r := ⟨h2, fun x hx => h.rng x (.tail _ hx), fun x hx => h.par x (.tail _ hx)⟩
    have ih := find_filter q n hr
    rw [List.filter_cons, find]
    cases hn : (p.node == n) with
    | true =>
      have hn' : p.node = n := by simpa using hn
      have h0 : (p.node != 0) = true := by simp; omega
      rw [cond_true, h0, Bool.true_and]
      cases hq : q p with
      | true => simp [find, hn]
      | false =>
        simp only [Bool.false_eq_true, if_false, cond_false]
        exact find_lt fun x hx => by have := h1 x (List.mem_filter.1 hx).1; omega
    | false =>
      rw [cond_false]
      cases hq : q p with
      | true => simp only [if_true]; rw [find, hn, cond_false]; exact ih
      | false => simpa using ih
theorem Rising.filter {l : List Place} (h : Rising l) (q : Place → Bool) : Rising (l.filter q) :=
  ⟨h.up.filter _, fun p hp => h.rng p (List.mem_filter.1 hp).1, fun p hp => h.par p (List.mem_filter.1 hp).1⟩
theorem Up.of_filter {l : List Place} (h : Rising l) {q : Place → Bool} {a b : Int} (hu : Up (l.filter q) a b) : Up l a b := by
  obtain ⟨k, hw⟩ := hu
  refine ⟨k, ?_⟩
  induction hw with
  | here x => exact .here x
  | @up x b k hok hn _ ih =>
    rw [find_filter q x h] at hn ih
    cases hc : ((find l x).node != 0 && q (find l x)) with
    | true => rw [hc, cond_true] at hn ih; exact .up trivial hn ih
    | false => rw [hc] at hn; exact absurd rfl hn
theorem IsTree.filter {l : List Place} (h : IsTree l) (q : Place → Bool) : IsTree (l.filter q) :=
  ⟨fun p hp => h.ok p (List.mem_filter.1 hp).1, h.up.filter _, fun p hp hu => h.no p (List.mem_filter.1 hp).1 (hu.of_filter h.rising)⟩
/-! ### Many put -/
theorem find_puts {n : Int} (hn : 1 ≤ n) : ∀ {m : List Place}, Rising m → ∀ l : List Place, find (m.foldl putT l) n = bif (find m n).node != 0 then find m n else find l n
  | [], _, l => rfl
  | p :: r, h, l => by
    obtain ⟨h1, h2⟩ := List.pairwise_cons.1 h.up
    have hp := h.rng p (.head _)
    have hpp := h.par p (.head _)
    have hr : Rising r := ⟨h2, fun x hx => h.rng x (.tail _ hx), fun x hx => h.par x (.tail _ hx)⟩
    rw [List.foldl_cons, find_puts hn hr, find_putT, find]
    have hd : decide (p.parent < 0) = false := decide_eq_false (by omega)
    rw [hd, cond_false]
    cases hc : (p.node == n) with
    | true =>
      have hc' : p.node = n := by simpa using hc
      have hz : find r n = ⟨0, 0, 0⟩ := find_lt fun x hx => by have := h1 x hx; omega
      have h3 : (n == p.node) = true := by simpa using hc'.symm
      have h4 : (p.node != 0) = true := by simp; omega
      rw [hz, cond_true, h3, cond_true, h4]; rfl
    | false =>
      have hc' : p.node ≠ n := by simpa using hc
      have h3 : (n == p.node) = false := by simpa using fun e : n = p.node => hc' e.symm
      rw [cond_false, h3, cond_false]
/-! ### A view of a view -/
theorem below_iff (t : List Place) (n : Int) (roots : List Int) : view_below t n roots = true ↔ ∃ r ∈ roots, Up t n r := by
  unfold view_below view_below_1
  rw [List.any_eq_true]
  simp only [tree_Stands_eq, stands_iff]
theorem above_iff (t : List Place) (n : Int) (roots : List Int) : view_above t n roots = true ↔ ∃ r ∈ roots, r ≠ n ∧ Up t r n := by
  unfold view_above view_above_1
  rw [List.any_eq_true]
  simp only [Bool.and_eq_true, tree_Stands_eq, stands_iff, bne_iff_ne]
def kept (t : List Place) (roots : List Int) : List Place := t.filter (fun p => view_below t p.node roots || view_above t p.node roots)
theorem All_seen {t : List Place} (h : Rising t) (roots : List Int) : view_All (seenAll t roots) = kept t roots := by
  rw [All_eq]
  unfold seenAll kept
  simp only
  have hk := h.filter (fun p => view_below t p.node roots)
  have hw := h.filter (fun p => !view_below t p.node roots && view_above t p.node roots)
  refine Rising.ext (Rising.puts _ hk hw.rng) (h.filter _) fun n h1 h2 => ?_
  rw [find_puts h1 hw, find_filter _ n h, find_filter _ n h, find_filter _ n h]
  cases hz : ((find t n).node != 0) with
  | false => rfl
  | true =>
    cases hb : view_below t (find t n).node roots with
    | true => simp [hb]
    | false =>
      cases ha : view_above t (find t n).node roots with
      | true => simp [hb, ha]; rw [hz]; rfl
      | false => simp [hb, ha]
theorem find_kept {t : List Place} (h : Rising t) {roots : List Int} {n : Int} (hn : view_below t n roots = true ∨ view_above t n roots = true) : find (kept t roots) n = find t n := by
  unfold kept
  rw [find_filter _ n h]
  cases hz : ((find t n).node != 0) with
  | false => rw [Bool.false_and, cond_false]; exact (h.none (eq_of_bne_false hz)).symm
  | true =>
    have hn' := (find_node (by simpa using hz)).1
    have : (view_below t (find t n).node roots || view_above t (find t n).node roots) = true := by rw [hn', Bool.or_eq_true]; exact hn
    rw [this]; rfl
theorem Up.kept_root {t : List Place} (h : Rising t) {roots : List Int} {a r : Int} (hr : r ∈ roots) (hu : Up t a r) : Up (kept t roots) a r := by
  obtain ⟨k, hw⟩ := hu
  revert hr
  induction hw with
  | here x => exact fun _ => Up.refl _ _
  | @up x b k hok hn hw ih =>
    intro hr
    have hf : find (kept t roots) x = find t x := find_kept h (.inl ((below_iff _ _ _).2 ⟨b, hr, k + 1, .up hok hn hw⟩))
    obtain ⟨j, hj⟩ := ih hr
    exact ⟨j + 1, .up trivial (by rw [hf]; exact hn) (by rw [hf]; exact hj)⟩
theorem Up.kept_way {t : List Place} (h : Rising t) {roots : List Int} {r : Int} (hr : r ∈ roots) {x n : Int} (h1 : Up t r x) (hu : Up t x n) : Up (kept t roots) x n := by
  obtain ⟨k, hw⟩ := hu
  revert h1
  induction hw with
  | here x => exact fun _ => Up.refl _ _
  | @up x b k hok hn hw ih =>
    intro h1
    have hf : find (kept t roots) x = find t x := find_kept h (by
      by_cases he : r = x
      · exact .inl ((below_iff _ _ _).2 ⟨r, hr, he ▸ Up.refl _ _⟩)
      · exact .inr ((above_iff _ _ _).2 ⟨r, hr, he, h1⟩))
    obtain ⟨j, hj⟩ := ih (h1.trans ⟨1, .up trivial hn (.here _)⟩)
    exact ⟨j + 1, .up trivial (by rw [hf]; exact hn) (by rw [hf]; exact hj)⟩
theorem below_kept {t : List Place} (h : Rising t) (roots : List Int) (n : Int) : view_below (kept t roots) n roots = view_below t n roots := by
  rw [Bool.eq_iff_iff, below_iff, below_iff]
  exact ⟨fun ⟨r, h1, h2⟩ => ⟨r, h1, Up.of_filter h h2⟩, fun ⟨r, h1, h2⟩ => ⟨r, h1, Up.kept_root h h1 h2⟩⟩
theorem above_kept {t : List Place} (h : Rising t) (roots : List Int) (n : Int) : view_above (kept t roots) n roots = view_above t n roots := by
  rw [Bool.eq_iff_iff, above_iff, above_iff]
  exact ⟨fun ⟨r, h1, h2, h3⟩ => ⟨r, h1, h2, Up.of_filter h h3⟩, fun ⟨r, h1, h2, h3⟩ => ⟨r, h1, h2, Up.kept_way h h1 (Up.refl _ _) h3⟩⟩
theorem seen_kept {t : List Place} (h : Rising t) (roots : List Int) : seenAll (kept t roots) roots = seenAll t roots := by
  unfold seenAll
  simp only [below_kept h, above_kept h]
  unfold kept
  simp only [List.filter_filter]
  congr 1
  · exact List.filter_congr fun p _ => by cases view_below t p.node roots <;> simp
  · exact List.filter_congr fun p _ => by cases view_below t p.node roots <;> cases view_above t p.node roots <;> rfl
/-- What is seen of a tree is a view. -/
theorem seen_view {t : List Place} (h : IsTree t) {roots : List Int} (hr : IsRoots roots) : IsView (seenAll t roots) := by
  refine ⟨hr, h.filter _, h.filter _, ?_, ?_⟩
  · rw [All_seen h.rising]; exact (checkT_iff _).2 (h.filter _)
  · rw [All_seen h.rising]; exact seen_kept h.rising roots
end Go.Proofs.Ytchdacbjiomplaa
