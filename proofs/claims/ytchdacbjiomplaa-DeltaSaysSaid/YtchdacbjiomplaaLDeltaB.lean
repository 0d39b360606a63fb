/- Part of this claim. No condition. -/
import Derived.Test.YtchdacbjiomplaaLSeen
import Derived.Test.YtchdacbjiomplaaW17
set_option linter.unusedVariables false
set_option linter.unusedSimpArgs false
namespace Go.Proofs.Ytchdacbjiomplaa
open Go Go.Proofs.Ytchdacbjiomplaa.Fw Go.Proofs

/-! ### What changes -/
theorem change_L1_eq (a : List Place) (gone : List Int) : ∀ (l here : List Place), delta_change_L1 a gone l here = (gone, here ++ l.filter (fun p => !decide (tree_Find a p.node = p)))
  | [], here => by simp [delta_change_L1]
  | p :: r, here => by
    rw [delta_change_L1, change_L1_eq a gone r, change_L1_eq a gone r, List.filter_cons]
    cases h : (!decide (tree_Find a p.node = p)) <;> simp
theorem change_L0_eq (a b : List Place) : ∀ (l : List Place) (gone : List Int), delta_change_L0 a b l gone = (gone ++ (l.filter (fun p => (tree_Find b p.node).node == 0)).map Place.node, b.filter (fun p => !decide (tree_Find a p.node = p)))
  | [], gone => by rw [delta_change_L0, change_L1_eq]; simp
  | p :: r, gone => by
    rw [delta_change_L0, change_L0_eq a b r, change_L0_eq a b r, List.filter_cons]
    cases h : ((tree_Find b p.node).node == 0) <;> simp
def goneOf (a b : List Place) : List Int := (a.filter (fun p => (find b p.node).node == 0)).map Place.node
def hereOf (a b : List Place) : List Place := b.filter (fun p => !decide (find a p.node = p))
theorem change_eq (a b : List Place) : delta_change a b = (goneOf a b, hereOf a b) := by
  unfold delta_change goneOf hereOf
  rw [change_L0_eq]
  simp only [tree_Find_eq, List.nil_append]
theorem mem_gone {a b : List Place} (ha : Rising a) {n : Int} : n ∈ goneOf a b ↔ (find a n).node ≠ 0 ∧ (find b n).node = 0 := by
  unfold goneOf
  rw [List.mem_map]
  constructor
  · rintro ⟨p, h1, rfl⟩
    obtain ⟨h2, h3⟩ := List.mem_filter.1 h1
    rw [find_mem ha.up p h2]
    have := ha.rng p h2
    exact ⟨by omega, by simpa using h3⟩
  · rintro ⟨h1, h2⟩
    obtain ⟨h3, h4⟩ := find_node h1
    exact ⟨_, List.mem_filter.2 ⟨h4, by rw [h3]; simpa using h2⟩, h3⟩
theorem find_here {a b : List Place} (ha : Rising a) (hb : Rising b) (n : Int) : find (hereOf a b) n = bif ((find b n).node != 0 && !decide (find a n = find b n)) then find b n else ⟨0, 0, 0⟩ := by
  unfold hereOf
  rw [find_filter _ n hb]
  cases h : ((find b n).node != 0) with
  | false => rfl
  | true =>
    have := (find_node (by simpa using h)).1
    rw [this]
theorem half_of {a b : List Place} (ha : IsTree a) (hb : IsTree b) : Half (goneOf a b) (hereOf a b) := by
  have hla := checkT_len ((checkT_iff _).2 ha)
  have hlb := checkT_len ((checkT_iff _).2 hb)
  refine ⟨?_, ?_, fun n hn => ?_, ?_, fun p hp => hb.ok p (List.mem_filter.1 hp).1, fun p hp hg => ?_, hb.up.filter _⟩
  · unfold goneOf
    rw [List.length_map]
    have := List.length_filter_le (fun p : Place => (find b p.node).node == 0) a
    omega
  · unfold hereOf
    have := List.length_filter_le (fun p : Place => !decide (find a p.node = p)) b
    omega
  · unfold goneOf at hn
    obtain ⟨p, hp, rfl⟩ := List.mem_map.1 hn
    exact ha.rising.rng p (List.mem_filter.1 hp).1
  · unfold goneOf
    exact List.pairwise_map.2 (ha.up.filter _)
  · have h1 := (mem_gone ha.rising).1 hg
    have h2 := find_mem hb.up p (List.mem_filter.1 hp).1
    have h3 := hb.rising.rng p (List.mem_filter.1 hp).1
    rw [h2] at h1
    omega

/-! ### Turned -/
def dropN (t : List Place) (n : Int) : List Place := putT t ⟨n, -1, 0⟩
theorem turn_L1_eq : ∀ (m l : List Place), delta_turn_L1 m l = m.foldl putT l
  | [], _ => rfl
  | p :: r, l => by rw [delta_turn_L1, tree_Put_eq, turn_L1_eq r]; rfl
theorem turn_L0_eq (here : List Place) : ∀ (g : List Int) (l : List Place), delta_turn_L0 here g l = here.foldl putT (g.foldl dropN l)
  | [], l => turn_L1_eq _ _
  | n :: r, l => by rw [delta_turn_L0, tree_Put_eq, turn_L0_eq here r]; rfl
theorem turn_eq (l : List Place) (g : List Int) (h : List Place) : delta_turn l g h = h.foldl putT (g.foldl dropN l) := turn_L0_eq h g l
theorem Rising.drops : ∀ (g : List Int) {l : List Place}, Rising l → (∀ n ∈ g, 1 ≤ n ∧ n < 16) → Rising (g.foldl dropN l)
  | [], _, h, _ => h
  | n :: r, _, h, hg => Rising.drops r (h.put (p := ⟨n, -1, 0⟩) (hg n (.head _))) fun m hm => hg m (.tail _ hm)
theorem find_drops (m : Int) : ∀ (g : List Int) (l : List Place), find (g.foldl dropN l) m = bif decide (m ∈ g) then ⟨0, 0, 0⟩ else find l m
  | [], l => by simp
  | n :: r, l => by
    rw [List.foldl_cons, find_drops m r]
    unfold dropN
    rw [find_putT]
    by_cases h1 : m = n
    · subst h1; simp
    · have : (m == n) = false := by simpa using h1
      simp [h1, this]
theorem turn_change {a b : List Place} (ha : IsTree a) (hb : IsTree b) : delta_turn a (goneOf a b) (hereOf a b) = b := by
  have hh := half_of ha hb
  have hr : Rising (hereOf a b) := hb.rising.filter _
  rw [turn_eq]
  refine Rising.ext (Rising.puts _ (Rising.drops _ ha.rising hh.rng) hr.rng) hb.rising fun n h1 h2 => ?_
  rw [find_puts h1 hr, find_drops, find_here ha.rising hb.rising]
  cases hz : ((find b n).node != 0) with
  | false =>
    have hz' : (find b n).node = 0 := eq_of_bne_false hz
    have hn := hb.rising.none hz'
    simp only [Bool.false_and, cond_false]
    rw [hn]
    by_cases hg : n ∈ goneOf a b
    · simp [hg]
    · simp only [hg, decide_false, cond_false]
      have : ¬ (find a n).node ≠ 0 := fun h => hg ((mem_gone ha.rising).2 ⟨h, hz'⟩)
      have := ha.rising.none (by simpa using this)
      rw [this]; rfl
  | true =>
    have hz' : (find b n).node ≠ 0 := by simpa using hz
    by_cases he : find a n = find b n
    · have hg : n ∉ goneOf a b := fun h => hz' ((mem_gone ha.rising).1 h).2
      simp [he, hg]
    · simp only [he, decide_false, Bool.not_false, Bool.and_self, cond_true, hz]
theorem change_same (b : List Place) (hb : IsTree b) : goneOf b b = [] ∧ hereOf b b = [] := by
  constructor
  · refine List.eq_nil_iff_forall_not_mem.2 fun n hn => ?_
    have := (mem_gone hb.rising).1 hn
    exact this.1 this.2
  · refine List.eq_nil_iff_forall_not_mem.2 fun p hp => ?_
    obtain ⟨h1, h2⟩ := List.mem_filter.1 hp
    have := find_mem hb.up p h1
    simp [this] at h2

/-! ### DeltaMakes -/
def deltaOf (v w : View) : Delta := ⟨goneOf v.known w.known, hereOf v.known w.known, goneOf v.way w.way, hereOf v.way w.way⟩
theorem delta_Of_eq (v w : View) : delta_Of v w = bif view_Check v != 0 then (⟨[], [], [], []⟩, view_Check v) else bif view_Check w != 0 then (⟨[], [], [], []⟩, view_Check w) else bif !(decide (v.roots = w.roots)) then (⟨[], [], [], []⟩, 4) else (deltaOf v w, 0) := by
  unfold delta_Of delta_Of_U0_0 delta_Of_U0_1 delta_Of_U0_2 deltaOf
  rw [change_eq, change_eq]
theorem delta_Of_ok {v w : View} (hv : IsView v) (hw : IsView w) (hr : v.roots = w.roots) : delta_Of v w = (deltaOf v w, 0) := by
  rw [delta_Of_eq, (view_Check_iff v).2 hv, (view_Check_iff w).2 hw]
  simp [hr]
theorem delta_check_of {v w : View} (hv : IsView v) (hw : IsView w) : delta_Check (deltaOf v w) = 0 :=
  (delta_Check_iff _).2 ⟨half_of hv.known hw.known, half_of hv.way hw.way⟩
theorem delta_Apply_ok {v w : View} (hv : IsView v) (hw : IsView w) (hr : v.roots = w.roots) : delta_Apply v (deltaOf v w) = (w, 0) := by
  have h1 : (⟨v.roots, delta_turn v.known (deltaOf v w).gone (deltaOf v w).here, delta_turn v.way (deltaOf v w).wayGone (deltaOf v w).wayHere⟩ : View) = w := by
    simp only [deltaOf]
    rw [turn_change hv.known hw.known, turn_change hv.way hw.way, hr]
  unfold delta_Apply
  rw [h1, (view_Check_iff v).2 hv, (view_Check_iff w).2 hw, delta_check_of hv hw]
  rfl
theorem differs_true : orangerylaw_differs = true := by decide +kernel
theorem DeltaMakes_true (a b c : List Place) (roots : List Int) : orangerylaw_DeltaMakes a b c roots = true := by
  unfold orangerylaw_DeltaMakes
  rw [differs_true]
  cases ha : ((view_Of a roots).2 != 0) with
  | true => simp
  | false =>
    cases hb : ((view_Of b roots).2 != 0) with
    | true => simp
    | false =>
      cases hc : ((view_Of c roots).2 != 0) with
      | true => simp
      | false =>
        obtain ⟨a1, a2, a3⟩ := Of_ok (eq_of_bne_false ha)
        obtain ⟨b1, b2, b3⟩ := Of_ok (eq_of_bne_false hb)
        obtain ⟨c1, c2, c3⟩ := Of_ok (eq_of_bne_false hc)
        have hr := (Roots_iff _).1 a2
        have va := seen_view ((checkT_iff _).1 a1) hr
        have vb := seen_view ((checkT_iff _).1 b1) hr
        have vc := seen_view ((checkT_iff _).1 c1) hr
        have e1 := delta_Of_ok va vb rfl
        have e2 := delta_Apply_ok va vb rfl
        have e3 := delta_Of_ok vb vc rfl
        have e4 := delta_Apply_ok vb vc rfl
        have e5 := delta_Of_ok vc vc rfl
        have e6 := delta_check_of va vb
        have k1 := change_same _ vc.known
        have k2 := change_same _ vc.way
        have e7 : deltaOf (seenAll c roots) (seenAll c roots) = ⟨[], [], [], []⟩ := by
          unfold deltaOf
          rw [k1.1, k1.2, k2.1, k2.2]
        rw [a3, b3, c3]
        simp only [e1, e2, e3, e4, e5, e6, e7, Same_refl]
        rfl
end Go.Proofs.Ytchdacbjiomplaa
