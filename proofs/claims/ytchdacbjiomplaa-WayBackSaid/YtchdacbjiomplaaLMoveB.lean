/- Part of this claim. No condition. -/
import Derived.Test.YtchdacbjiomplaaLMove
set_option linter.unusedVariables false
set_option linter.unusedSimpArgs false
namespace Go.Proofs.Ytchdacbjiomplaa
open Go Go.Proofs.Ytchdacbjiomplaa.Fw

theorem Way.first {l : List Place} {ok : Int → Prop} (a : Int) {x b : Int} {k : Nat} (h : Way l ok x b k) :
    (∃ k', Way l (fun z => ok z ∧ z ≠ a) x b k') ∨ (∃ k', Way l (fun z => ok z ∧ z ≠ a) x a k') := by
  induction h with
  | here x => exact .inl ⟨0, .here _⟩
  | @up x b k hok hn h ih =>
    by_cases hx : x = a
    · subst hx; exact .inr ⟨0, .here _⟩
    · rcases ih with ⟨k', hw⟩ | ⟨k', hw⟩
      · exact .inl ⟨k' + 1, .up ⟨hok, hx⟩ hn hw⟩
      · exact .inr ⟨k' + 1, .up ⟨hok, hx⟩ hn hw⟩

theorem Way.turn {l l' : List Place} {ok : Int → Prop} (hf : ∀ z, ok z → find l' z = find l z) {a b : Int} {k : Nat} (h : Way l ok a b k) : Way l' ok a b k := by
  induction h with
  | here x => exact .here x
  | up hok hn _ ih => exact .up hok (by rw [hf _ hok]; exact hn) (by rw [hf _ hok]; exact ih)

theorem find_mem : ∀ {l : List Place}, l.Pairwise (fun a b => a.node < b.node) → ∀ p ∈ l, find l p.node = p
  | q :: r, h, p, hp => by
    rw [find]
    rcases List.mem_cons.1 hp with rfl | hp
    · simp
    · have := List.rel_of_pairwise_cons h hp
      have hb : (q.node == p.node) = false := by simp; omega
      rw [hb, cond_false]
      exact find_mem (List.Pairwise.of_cons h) p hp

theorem putT_f {l : List Place} {p : Place} (h : 0 ≤ p.parent) : putT l p = put p false l := by
  unfold putT
  have : decide (p.parent < 0) = false := by simp; omega
  rw [this]
theorem putT_t {l : List Place} {p : Place} (h : p.parent < 0) : putT l p = put p true l := by
  unfold putT
  have : decide (p.parent < 0) = true := by simp; omega
  rw [this]
theorem find_putT (l : List Place) (p : Place) (n : Int) : find (putT l p) n = bif n == p.node then (bif decide (p.parent < 0) then ⟨0, 0, 0⟩ else p) else find l n := by
  unfold putT
  cases decide (p.parent < 0) with
  | true => rw [find_put_t]; rfl
  | false => rw [find_put_f]; rfl

theorem IsTree.node {l : List Place} (h : IsTree l) : ∀ p ∈ l, 1 ≤ p.node := fun p hp => (plc_ok (h.ok p hp)).1

theorem IsTree.put {l : List Place} (h : IsTree l) {p : Place} (hp : place p = 0) (hs : ¬ Up l p.parent p.node) : IsTree (putT l p) := by
  have hpp := plc_ok hp
  have hfind : ∀ n, n ≠ p.node → find (putT l p) n = find l n := fun n hn => by
    rw [find_putT]
    have : (n == p.node) = false := by simpa using hn
    rw [this]; rfl
  have hmem : ∀ x, x ∈ putT l p → x = p ∨ (x ∈ l ∧ x.node ≠ p.node) := fun x hx => by
    rw [putT_f hpp.2.2.1] at hx
    exact mem_put_f p x l hx
  refine ⟨fun x hx => ?_, by rw [putT_f hpp.2.2.1]; exact put_f_up p h.up, fun x hx hu => ?_⟩
  · rcases hmem x hx with rfl | ⟨hx, _⟩
    · exact hp
    · exact h.ok x hx
  · obtain ⟨k, hw⟩ := hu
    have back : ∀ {a b : Int} {k : Nat}, Way (putT l p) (fun z => True ∧ z ≠ p.node) a b k → Up l a b := fun hw => ⟨_, (hw.turn (l' := l) fun z hz => (hfind z hz.2).symm).mono fun _ _ => trivial⟩
    rcases hw.last p.node with ⟨k', h1⟩ | ⟨_, _, k', h1⟩
    · rcases hmem x hx with rfl | ⟨hx, _⟩
      · exact hs (back h1)
      · exact h.no x hx (back h1)
    · have e : (find (putT l p) p.node).parent = p.parent := by
        rw [find_putT]
        have : decide (p.parent < 0) = false := by simp; omega
        simp [this]
      rw [e] at h1
      have hu := back h1
      rcases hmem x hx with rfl | ⟨hxl, hxn⟩
      · exact hs hu
      · rcases hw.first p.node with ⟨k2, h2⟩ | ⟨k2, h2⟩
        · exact h.no x hxl (back h2)
        · have hup : Up l x.node p.node := by
            obtain ⟨k3, h3⟩ := back h2
            have := find_mem h.up x hxl
            exact ⟨k3 + 1, .up trivial (by rw [this]; have := h.node x hxl; omega) (by rw [this]; exact h3)⟩
          exact hs (hu.trans hup)

theorem chkO_ok {o : Op} (h : chkO o = 0) : 1 ≤ o.time ∧ o.time ≤ 10000 ∧ 0 ≤ o.who ∧ o.who < 3 ∧ 1 ≤ o.node ∧ o.node < 16 ∧ 0 ≤ o.parent ∧ o.parent ≤ 16 ∧ 0 ≤ o.name ∧ o.name ≤ 99 ∧ 1 ≤ o.life ∧ o.life ≤ 50 ∧ 1 ≤ o.seq ∧ o.seq ≤ 30 := by
  unfold chkO at h
  generalize hb : (decide (o.time < 1) || decide (o.time > 10000) || decide (o.who < 0) || decide (o.who ≥ 3) || decide (o.node < 1) || decide (o.node ≥ 16) || decide (o.parent < 0) || decide (o.parent > 16) || decide (o.name < 0) || decide (o.name > 99) || decide (o.life < 1) || decide (o.life > 50) || decide (o.seq < 1) || decide (o.seq > 30)) = b at h
  cases b with
  | true => simp at h
  | false => simp only [Bool.or_eq_false_iff, decide_eq_false_iff_not] at hb; omega

def opPlace (o : Op) : Place := ⟨o.node, o.parent, o.name⟩
theorem opPlace_ok {o : Op} (h : chkO o = 0) : place (opPlace o) = 0 := by
  have := chkO_ok h
  have hb : (decide ((opPlace o).node < 1) || decide ((opPlace o).node ≥ 16) || decide ((opPlace o).parent < 0) || decide ((opPlace o).parent > 16) || decide ((opPlace o).name < 0) || decide ((opPlace o).name > 99)) = false := by
    have e1 : (opPlace o).node = o.node := rfl
    have e2 : (opPlace o).parent = o.parent := rfl
    have e3 : (opPlace o).name = o.name := rfl
    simp only [e1, e2, e3, Bool.or_eq_false_iff, decide_eq_false_iff_not]; omega
  unfold place
  rw [hb]; rfl

theorem moveDo_err (l : List Place) (o : Op) : (moveDo l o).2.2 = bif checkT l != 0 then checkT l else chkO o := by
  unfold moveDo
  cases h1 : checkT l != 0 with
  | true => rfl
  | false =>
    cases h2 : chkO o != 0 with
    | true => rfl
    | false =>
      have h2 : chkO o = 0 := by simpa using h2
      cases stands l o.parent o.node <;> simp [h2]

theorem moveDo_ok {l : List Place} {o : Op} (h : (moveDo l o).2.2 = 0) : checkT l = 0 ∧ chkO o = 0 := by
  rw [moveDo_err] at h
  cases h1 : checkT l != 0 with
  | true => rw [h1, cond_true] at h; simp [h] at h1
  | false => rw [h1, cond_false] at h; exact ⟨by simpa using h1, h⟩

theorem moveDo_eq {l : List Place} {o : Op} (h1 : checkT l = 0) (h2 : chkO o = 0) : moveDo l o = bif stands l o.parent o.node then (l, ⟨o, false, find l o.node⟩, 0) else (putT l (opPlace o), ⟨o, true, find l o.node⟩, 0) := by
  unfold moveDo
  rw [h1, h2]; rfl

theorem find_none {n : Int} : ∀ {l : List Place}, (∀ p ∈ l, p.node ≠ n) → find l n = ⟨0, 0, 0⟩
  | [], _ => rfl
  | p :: r, h => by
    rw [find]
    have : (p.node == n) = false := by simpa using h p (.head _)
    rw [this, cond_false]
    exact find_none fun q hq => h q (.tail _ hq)

structure Moved (l : List Place) (o : Op) : Prop where
  tree : checkT (moveDo l o).1 = 0
  did : (moveDo l o).2.1.did = !stands l o.parent o.node
  op : (moveDo l o).2.1.o = o
  under : under l o.parent o.node = (stands l o.parent o.node, 0)
  else_ : ∀ n, n ≠ o.node → find (moveDo l o).1 n = find l n
  node : (moveDo l o).2.1.did = true → find (moveDo l o).1 o.node = opPlace o
  undo : moveUndo (moveDo l o).1 (moveDo l o).2.1 = (l, 0)

theorem moved_of {l : List Place} {o : Op} (h : (moveDo l o).2.2 = 0) : Moved l o := by
  obtain ⟨h1, h2⟩ := moveDo_ok h
  have ho := chkO_ok h2
  have hunder : under l o.parent o.node = (stands l o.parent o.node, 0) := by
    unfold under
    have hb : (decide (o.parent < 0) || decide (o.parent > 16) || decide (o.node < 0) || decide (o.node > 16)) = false := by simp only [Bool.or_eq_false_iff, decide_eq_false_iff_not]; omega
    rw [h1, hb]; rfl
  cases hs : stands l o.parent o.node with
  | true =>
    have e : moveDo l o = (l, ⟨o, false, find l o.node⟩, 0) := by rw [moveDo_eq h1 h2, hs]; rfl
    refine ⟨by rw [e]; exact h1, by rw [e, hs]; rfl, by rw [e], by rw [hunder, hs], fun n _ => by rw [e], fun hd => (by rw [e] at hd; cases hd), ?_⟩
    rw [e]
    unfold moveUndo
    simp [h1, h2]
  | false =>
    have e : moveDo l o = (putT l (opPlace o), ⟨o, true, find l o.node⟩, 0) := by rw [moveDo_eq h1 h2, hs]; rfl
    have hT := (checkT_iff l).1 h1
    have hT' : IsTree (putT l (opPlace o)) := hT.put (opPlace_ok h2) fun hu => by rw [← stands_iff] at hu; rw [show (opPlace o).parent = o.parent from rfl, show (opPlace o).node = o.node from rfl, hs] at hu; cases hu
    have hc' := (checkT_iff _).2 hT'
    have hnp : decide ((opPlace o).parent < 0) = false := decide_eq_false (show ¬ o.parent < 0 by omega)
    have hfn : find (putT l (opPlace o)) o.node = opPlace o := by
      rw [find_putT, hnp]
      simp [opPlace]
    have hfe : ∀ n, n ≠ o.node → find (putT l (opPlace o)) n = find l n := fun n hn => by
      rw [find_putT]
      have : (n == (opPlace o).node) = false := by simpa [opPlace] using hn
      rw [this]; rfl
    refine ⟨by rw [e]; exact hc', by rw [e, hs]; rfl, by rw [e], by rw [hunder, hs], fun n hn => by rw [e]; exact hfe n hn, fun _ => by rw [e]; exact hfn, ?_⟩
    rw [e]
    have hwas : (wasOf ⟨o, true, find l o.node⟩).node = o.node := by
      unfold wasOf
      cases hz : (find l o.node).node == 0 with
      | true => rfl
      | false => exact (find_node (by simpa using hz)).1
    have hback : putT (putT l (opPlace o)) (wasOf ⟨o, true, find l o.node⟩) = l := by
      unfold wasOf
      cases hz : (find l o.node).node == 0 with
      | true =>
        simp only [cond_true]
        have hz : (find l o.node).node = 0 := by simpa using hz
        have hz2 : find l o.node = ⟨0, 0, 0⟩ := by
          by_cases hm : ∃ p ∈ l, p.node = o.node
          · obtain ⟨p, hp, hpn⟩ := hm
            rw [← hpn, find_mem hT.up p hp] at hz
            have := hT.node p hp
            omega
          · exact find_none fun p hp hpn => hm ⟨p, hp, hpn⟩
        have hneg : (⟨o.node, -1, 0⟩ : Place).parent < 0 := by simp
        have hsub : ∀ p ∈ putT (putT l (opPlace o)) ⟨o.node, -1, 0⟩, p ∈ putT l (opPlace o) := fun p hp => by rw [putT_t hneg] at hp; exact (mem_put_t _ _ _ hp).1
        refine ext_find (by rw [putT_t hneg]; exact put_t_up _ hT'.up) hT.up (fun p hp => hT'.node p (hsub p hp)) hT.node fun n _ => ?_
        rw [find_putT]
        by_cases hn : n = o.node
        · subst hn; simp [hz2]
        · have : (n == (⟨o.node, -1, 0⟩ : Place).node) = false := by simpa using hn
          rw [this, cond_false, hfe n hn]
      | false =>
        simp only [cond_false]
        have hz : (find l o.node).node ≠ 0 := by simpa using hz
        obtain ⟨hn0, hm0⟩ := find_node hz
        have hok := plc_ok (hT.ok _ hm0)
        have hnp2 : decide ((find l o.node).parent < 0) = false := decide_eq_false (by omega)
        refine ext_find (by rw [putT_f (by omega)]; exact put_f_up _ hT'.up) hT.up (fun p hp => ?_) hT.node fun n _ => ?_
        · rw [putT_f (by omega)] at hp
          rcases mem_put_f _ _ _ hp with rfl | ⟨hp, _⟩
          · omega
          · exact hT'.node p hp
        · rw [find_putT, hnp2]
          by_cases hn : n = o.node
          · subst hn; simp [hn0]
          · have : (n == (find l o.node).node) = false := by rw [hn0]; simpa using hn
            rw [this, cond_false, hfe n hn]
    unfold moveUndo
    have hx : ((wasOf ⟨o, true, find l o.node⟩).node != o.node || find (putT l (opPlace o)) o.node != ⟨o.node, o.parent, o.name⟩) = false := by
      rw [hwas, hfn]; simp [opPlace]
    simp only [hc', h2, hback, h1, hx, bne_self_eq_false, cond_false, Bool.not_true]
theorem moveDo_ok0 {t : List Place} {o : Op} (h1 : checkT t = 0) (h2 : chkO o = 0) : (moveDo t o).2.2 = 0 := by
  rw [moveDo_err, h1, h2]; rfl
end Go.Proofs.Ytchdacbjiomplaa
