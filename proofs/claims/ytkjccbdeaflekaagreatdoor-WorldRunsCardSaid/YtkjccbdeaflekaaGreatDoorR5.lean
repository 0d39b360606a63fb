/- Part of this claim. No condition. -/
import Derived.Test.YtkjccbdeaflekaaGreatDoorR4
import Derived.Test.YtkjccbdeaflekaaGreatDoorR3
set_option linter.unusedVariables false
set_option linter.unusedSimpArgs false
set_option maxHeartbeats 2000000
namespace Go.Proofs.YtkjccbdeaflekaaGreatDoor
open Go Go.Proofs.YtkjccbdeaflekaaGreatDoor.Fw Go.Proofs
structure iw (l : List Place) : Prop where
 ok : ∀ p ∈ l, place p = 0
 up : l.Pairwise (fun a b => a.node < b.node)
 no : ∀ p ∈ l, ¬ Up l p.parent p.node
theorem wz (p : Place) (r : List Place) (i : Nat) : gt (p :: r) (i + 1) = gt r i := by simp [gt]
theorem s7 : ∀ (l : List Place), (∀ i, i + 1 < l.length → (gt l i).node < (gt l (i + 1)).node) → l.Pairwise (fun a b => a.node < b.node)
 | [], _ => .nil
 | [p], _ => by simp
 | p :: q :: r, h => by
  have h1 := s7 (q :: r) (fun i hi => by have := h (i + 1) (by simp at hi ⊢; omega); simpa [wz] using this);have h0 : p.node < q.node := by have := h 0 (by simp); simpa [gt] using this
  refine .cons (fun a ha => ?_) h1;rcases List.mem_cons.1 ha with rfl | ha
  ·exact h0
  ·exact Int.lt_trans h0 (List.rel_of_pairwise_cons h1 ha)
theorem xy : ∀ {l : List Place}, l.Pairwise (fun a b => a.node < b.node) → ∀ i, i + 1 < l.length → (gt l i).node < (gt l (i + 1)).node := by
 intro l h i hi;rw [gt_eq (by omega), gt_eq hi];exact List.pairwise_iff_getElem.1 h i (i + 1) (by omega) hi (by omega)
theorem A0 (l : List Place) (ha : ∀ i, i < l.length → place (gt l i) = 0) (hb : ∀ i, i + 1 < l.length → (gt l i).node < (gt l (i + 1)).node) : ∀ (f k : Nat), k + f = l.length → chk1 l f k = 0
 | 0, _, _ => rfl
 | f + 1, k, h => by
  rw [chk1, ha k (by omega)];have h2 : (decide ((k : Int) > 0) && decide ((gt l (k - 1)).node ≥ (gt l k).node)) = false := by
   cases k with
   | zero => simp
   | succ k => have := hb k (by omega); simp; omega
  rw [h2];exact A0 l ha hb f (k + 1) (by omega)
theorem vE (t : List Place) : ∀ (l : List Place), chk2 t l = 0 ↔ ∀ p ∈ l, ¬ Up t p.parent p.node
 | [] => by simp [chk2]
 | p :: r => by
  rw [chk2];cases h : stands t p.parent p.node with
  | true => simp only [cond_true, List.forall_mem_cons, (iP t _ _).1 h, not_true, false_and, iff_false]; decide
  | false =>
   have hn : ¬ Up t p.parent p.node := fun hu => by rw [(iP t _ _).2 hu] at h; cases h
   simp only [cond_false, List.forall_mem_cons, hn, not_false_eq_true, true_and, vE t r]
theorem es (l : List Place) : ed l = 0 ↔ iw l := by
 constructor
 ·intro h;have h1 := yJ h;obtain ⟨ha, hb⟩ := xF l l.length 0 (by omega) h1;have h2 : chk2 l l = 0 := by
   unfold ed at h;rw [h1] at h;exact h
  refine ⟨fun p hp => ?_, s7 l fun i hi => by have := hb (i + 1) (by omega) hi (by omega); simpa using this, (vE l l).1 h2⟩;obtain ⟨i, hi, rfl⟩ := List.getElem_of_mem hp;have := ha i (by omega) hi
  rwa [gt_eq hi] at this
 ·intro h;have h1 : chk1 l l.length 0 = 0 := A0 l (fun i hi => by rw [gt_eq hi]; exact h.ok _ (List.getElem_mem hi)) (xy h.up) _ _ (by omega);unfold ed;rw [h1];exact (vE l l).2 h.no
theorem rv (p : Place) (n : Int) : ∀ l : List Place, find (put p true l) n = bif n == p.node then ⟨0, 0, 0⟩ else find l n
 | [] => by simp [put, find]
 | q :: r => by
  have ih := rv p n r;rw [put];simp only [Bool.not_true, Bool.false_and, cond_false];by_cases hq : q.node = p.node
  ·have : (q.node != p.node) = false := by simpa using hq
   rw [this, cond_false, ih, find];by_cases hn : n = p.node
   ·simp [hn]
   ·have h1 : (n == p.node) = false := by simpa using hn
    have h2 : (q.node == n) = false := by rw [hq]; simpa using Ne.symm hn
    rw [h1, h2]; rfl
  ·have : (q.node != p.node) = true := by simpa using hq
   rw [this, cond_true, find, find, ih];by_cases hn : n = p.node
   ·have h2 : (q.node == n) = false := by rw [hn]; simpa using hq
    rw [h2, hn]; simp
   ·have h1 : (n == p.node) = false := by simpa using hn
    rw [h1]; rfl
theorem uI (p : Place) (n : Int) : ∀ l : List Place, find (put p false l) n = bif n == p.node then p else find l n
 | [] => by
  by_cases hn : n = p.node
  ·simp [put, find, hn]
  ·have h1 : (n == p.node) = false := by simpa using hn
   have h2 : (p.node == n) = false := by simpa using Ne.symm hn
   simp [put, find, h1, h2]
 | q :: r => by
  rw [put];by_cases hge : q.node ≥ p.node
  ·have h0 : (!false && decide (q.node ≥ p.node)) = true := by simpa using hge
   rw [h0, cond_true];have e : (bif q.node != p.node then q :: put p true r else put p true r) = put p true (q :: r) := by rw [put]; rfl
   rw [e, find, rv];by_cases hn : n = p.node
   ·subst hn; simp
   ·have h1 : (n == p.node) = false := by simpa using hn
    have h2 : (p.node == n) = false := by simpa using Ne.symm hn
    rw [h1, h2]; rfl
  ·have h0 : (!false && decide (q.node ≥ p.node)) = false := by simpa using hge
   have hne : (q.node != p.node) = true := by simp; omega
   rw [h0, cond_false, hne, cond_true, find, find, uI p n r];by_cases hn : n = p.node
   ·have h2 : (q.node == n) = false := by simp; omega
    rw [h2, hn]; simp
   ·have h1 : (n == p.node) = false := by simpa using hn
    rw [h1]; rfl
theorem jC (p x : Place) : ∀ l : List Place, x ∈ put p true l → x ∈ l ∧ x.node ≠ p.node
 | [], h => by cases h
 | q :: r, h => by
  rw [put] at h;simp only [Bool.not_true, Bool.false_and, cond_false] at h;cases hq : q.node != p.node with
  | true =>
   rw [hq, cond_true] at h;rcases List.mem_cons.1 h with rfl | h
   ·exact ⟨.head _, by simpa using hq⟩
   ·exact ⟨.tail _ (jC p x r h).1, (jC p x r h).2⟩
  | false => rw [hq, cond_false] at h; exact ⟨.tail _ (jC p x r h).1, (jC p x r h).2⟩
theorem lG (p x : Place) : ∀ l : List Place, x ∈ put p false l → x = p ∨ (x ∈ l ∧ x.node ≠ p.node)
 | [], h => by simp [put] at h; exact .inl h
 | q :: r, h => by
  rw [put] at h;by_cases hge : q.node ≥ p.node
  ·have h0 : (!false && decide (q.node ≥ p.node)) = true := by simpa using hge
   have e : (bif q.node != p.node then q :: put p true r else put p true r) = put p true (q :: r) := by rw [put]; rfl
   rw [h0, cond_true, e] at h;rcases List.mem_cons.1 h with rfl | h
   ·exact .inl rfl
   ·exact .inr (jC p x _ h)
  ·have h0 : (!false && decide (q.node ≥ p.node)) = false := by simpa using hge
   have hne : (q.node != p.node) = true := by simp; omega
   rw [h0, cond_false, hne, cond_true] at h;rcases List.mem_cons.1 h with rfl | h
   ·exact .inr ⟨.head _, by simpa using hne⟩
   ·rcases lG p x r h with h | ⟨h1, h2⟩
    ·exact .inl h
    ·exact .inr ⟨.tail _ h1, h2⟩
theorem qC (p : Place) : ∀ {l : List Place}, l.Pairwise (fun a b => a.node < b.node) → (put p true l).Pairwise (fun a b => a.node < b.node)
 | [], _ => .nil
 | q :: r, h => by
  have hr := List.Pairwise.of_cons h;rw [put];simp only [Bool.not_true, Bool.false_and, cond_false];cases q.node != p.node with
  | true => exact .cons (fun a ha => List.rel_of_pairwise_cons h (jC p a r ha).1) (qC p hr)
  | false => exact qC p hr
theorem qD (p : Place) : ∀ {l : List Place}, l.Pairwise (fun a b => a.node < b.node) → (put p false l).Pairwise (fun a b => a.node < b.node)
 | [], _ => by simp [put]
 | q :: r, h => by
  have hr := List.Pairwise.of_cons h;rw [put];by_cases hge : q.node ≥ p.node
  ·have h0 : (!false && decide (q.node ≥ p.node)) = true := by simpa using hge
   have e : (bif q.node != p.node then q :: put p true r else put p true r) = put p true (q :: r) := by rw [put]; rfl
   rw [h0, cond_true, e];refine .cons (fun a ha => ?_) (qC p h);obtain ⟨hm, hn⟩ := jC p a _ ha;have : q.node ≤ a.node := by
    rcases List.mem_cons.1 hm with rfl | hm
    ·exact Int.le_refl _
    ·exact Int.le_of_lt (List.rel_of_pairwise_cons h hm)
   omega
  ·have h0 : (!false && decide (q.node ≥ p.node)) = false := by simpa using hge
   have hne : (q.node != p.node) = true := by simp; omega
   rw [h0, cond_false, hne, cond_true];refine .cons (fun a ha => ?_) (qD p hr);rcases lG p a r ha with rfl | ⟨hm, _⟩
   ·omega
   ·exact List.rel_of_pairwise_cons h hm
variable {l : List Place} {n : Int}
theorem qa (h : ∀ p ∈ l, n < p.node) : find l n = ⟨0, 0, 0⟩ := by
 induction l with
 | nil => rfl
 | cons p r ih =>
  rw [find];have := h p (.head _);have h1 : (p.node == n) = false := by simp; omega
  rw [h1, cond_false];exact ih fun q hq => h q (.tail _ hq)
theorem py : ∀ {l l' : List Place}, l.Pairwise (fun a b => a.node < b.node) → l'.Pairwise (fun a b => a.node < b.node) → (∀ p ∈ l, 1 ≤ p.node) → (∀ p ∈ l', 1 ≤ p.node) → (∀ n, 1 ≤ n → find l n = find l' n) → l = l'
 | [], [], _, _, _, _, _ => rfl
 | [], q :: r, _, _, _, h4, h5 => by
  have h1 := h4 q (.head _);have := h5 q.node h1;simp [find] at this;rw [← this] at h1; simp at h1
 | p :: r, [], _, _, h3, _, h5 => by
  have h1 := h3 p (.head _);have := h5 p.node h1;simp [find] at this;rw [this] at h1; simp at h1
 | p :: r, q :: s, h1, h2, h3, h4, h5 => by
  have hp := h3 p (.head _);have hq := h4 q (.head _);have e1 := h5 p.node hp;have e2 := h5 q.node hq;have hpq : p.node = q.node := by
   rcases Int.lt_trichotomy p.node q.node with h | h | h
   ·have : find (q :: s) p.node = ⟨0, 0, 0⟩ := qa fun x hx => by
     rcases List.mem_cons.1 hx with rfl | hx
     ·exact h
     ·exact Int.lt_trans h (List.rel_of_pairwise_cons h2 hx)
    rw [this] at e1;simp [find] at e1;rw [e1] at hp; simp at hp
   ·exact h
   ·have : find (p :: r) q.node = ⟨0, 0, 0⟩ := qa fun x hx => by
     rcases List.mem_cons.1 hx with rfl | hx
     ·exact h
     ·exact Int.lt_trans h (List.rel_of_pairwise_cons h1 hx)
    rw [this] at e2;simp [find] at e2;rw [← e2] at hq; simp at hq
  have e : p = q := by simpa [find, hpq] using e1
  subst e;refine congrArg _ (py (List.Pairwise.of_cons h1) (List.Pairwise.of_cons h2) (fun x hx => h3 x (.tail _ hx)) (fun x hx => h4 x (.tail _ hx)) fun n hn => ?_);by_cases hn' : n = p.node
  ·subst hn';rw [qa fun x hx => List.rel_of_pairwise_cons h1 hx, qa fun x hx => List.rel_of_pairwise_cons h2 hx]
  ·have := h5 n hn;rw [find, find] at this;have hb : (p.node == n) = false := by simpa using Ne.symm hn'
   rwa [hb, cond_false, cond_false] at this
variable {b : Int} {k : Nat} {ok : Int → Prop}
theorem Way.first (a : Int) {x : Int} (h : Way l ok x b k) :
  (∃ k', Way l (fun z => ok z ∧ z ≠ a) x b k') ∨ (∃ k', Way l (fun z => ok z ∧ z ≠ a) x a k') := by
 induction h with
 | here x => exact .inl ⟨0, .here _⟩
 | @up x b k hok hn h ih =>
  by_cases hx : x = a
  ·subst hx; exact .inr ⟨0, .here _⟩
  ·rcases ih with ⟨k', hw⟩ | ⟨k', hw⟩
   ·exact .inl ⟨k' + 1, .up ⟨hok, hx⟩ hn hw⟩
   ·exact .inr ⟨k' + 1, .up ⟨hok, hx⟩ hn hw⟩
theorem Way.turn {l' : List Place} (hf : ∀ z, ok z → find l' z = find l z) {a : Int} (h : Way l ok a b k) : Way l' ok a b k := by
 induction h with
 | here x => exact .here x
 | up hok hn _ ih => exact .up hok (by rw [hf _ hok]; exact hn) (by rw [hf _ hok]; exact ih)
theorem l9 : ∀ {l : List Place}, l.Pairwise (fun a b => a.node < b.node) → ∀ p ∈ l, find l p.node = p
 | q :: r, h, p, hp => by
  rw [find];rcases List.mem_cons.1 hp with rfl | hp
  ·simp
  ·have := List.rel_of_pairwise_cons h hp;have hb : (q.node == p.node) = false := by simp; omega
   rw [hb, cond_false];exact l9 (List.Pairwise.of_cons h) p hp
variable {p : Place}
theorem uu (h : 0 ≤ p.parent) : putT l p = put p false l := by
 unfold putT;have : decide (p.parent < 0) = false := by simp; omega
 rw [this]
theorem z9 (h : p.parent < 0) : putT l p = put p true l := by
 unfold putT;have : decide (p.parent < 0) = true := by simp; omega
 rw [this]
theorem iJ (l : List Place) (p : Place) (n : Int) : find (putT l p) n = bif n == p.node then (bif decide (p.parent < 0) then ⟨0, 0, 0⟩ else p) else find l n := by
 unfold putT;cases decide (p.parent < 0) with
 | true => rw [rv]; rfl
 | false => rw [uI]; rfl
theorem iw.node (h : iw l) : ∀ p ∈ l, 1 ≤ p.node := fun p hp => (jT (h.ok p hp)).1
theorem iw.put (h : iw l) (hp : place p = 0) (hs : ¬ Up l p.parent p.node) : iw (putT l p) := by
 have hpp := jT hp;have hfind : ∀ n, n ≠ p.node → find (putT l p) n = find l n := fun n hn => by
  rw [iJ];have : (n == p.node) = false := by simpa using hn
  rw [this]; rfl
 have hmem : ∀ x, x ∈ putT l p → x = p ∨ (x ∈ l ∧ x.node ≠ p.node) := fun x hx => by
  rw [uu hpp.2.2.1] at hx;exact lG p x l hx
 refine ⟨fun x hx => ?_, by rw [uu hpp.2.2.1]; exact qD p h.up, fun x hx hu => ?_⟩
 ·rcases hmem x hx with rfl | ⟨hx, _⟩
  ·exact hp
  ·exact h.ok x hx
 ·obtain ⟨k, hw⟩ := hu;have back : ∀ {a b : Int} {k : Nat}, Way (putT l p) (fun z => True ∧ z ≠ p.node) a b k → Up l a b := fun hw => ⟨_, (hw.turn (l' := l) fun z hz => (hfind z hz.2).symm).mono fun _ _ => trivial⟩;rcases hw.last p.node with ⟨k', h1⟩ | ⟨_, _, k', h1⟩
  ·rcases hmem x hx with rfl | ⟨hx, _⟩
   ·exact hs (back h1)
   ·exact h.no x hx (back h1)
  ·have e : (find (putT l p) p.node).parent = p.parent := by
    rw [iJ];have : decide (p.parent < 0) = false := by simp; omega
    simp [this]
   rw [e] at h1;have hu := back h1;rcases hmem x hx with rfl | ⟨hxl, hxn⟩
   ·exact hs hu
   ·rcases hw.first p.node with ⟨k2, h2⟩ | ⟨k2, h2⟩
    ·exact h.no x hxl (back h2)
    ·have hup : Up l x.node p.node := by
      obtain ⟨k3, h3⟩ := back h2;have := l9 h.up x hxl;exact ⟨k3 + 1, .up trivial (by rw [this]; have := h.node x hxl; omega) (by rw [this]; exact h3)⟩
     exact hs (hu.trans hup)
variable {o : Op}
theorem lL (h : chkO o = 0) : 1 ≤ o.time ∧ o.time ≤ 10000 ∧ 0 ≤ o.who ∧ o.who < 3 ∧ 1 ≤ o.node ∧ o.node < 16 ∧ 0 ≤ o.parent ∧ o.parent ≤ 16 ∧ 0 ≤ o.name ∧ o.name ≤ 99 ∧ 1 ≤ o.life ∧ o.life ≤ 50 ∧ 1 ≤ o.seq ∧ o.seq ≤ 30 := by
 unfold chkO at h;generalize hb : (decide (o.time < 1) || decide (o.time > 10000) || decide (o.who < 0) || decide (o.who ≥ 3) || decide (o.node < 1) || decide (o.node ≥ 16) || decide (o.parent < 0) || decide (o.parent > 16) || decide (o.name < 0) || decide (o.name > 99) || decide (o.life < 1) || decide (o.life > 50) || decide (o.seq < 1) || decide (o.seq > 30)) = b at h;cases b with
 | true => simp at h
 | false => simp only [Bo] at hb; omega
def fi (o : Op) : Place := ⟨o.node, o.parent, o.name⟩
theorem ux (h : chkO o = 0) : place (fi o) = 0 := by
 have := lL h;have hb : (decide ((fi o).node < 1) || decide ((fi o).node ≥ 16) || decide ((fi o).parent < 0) || decide ((fi o).parent > 16) || decide ((fi o).name < 0) || decide ((fi o).name > 99)) = false := by
  have e1 : (fi o).node = o.node := rfl;have e2 : (fi o).parent = o.parent := rfl;have e3 : (fi o).name = o.name := rfl;simp only [e1, e2, e3, Bo]; omega
 unfold place;rw [hb]; rfl
theorem ro (l : List Place) (o : Op) : (gz l o).2.2 = bif ed l != 0 then ed l else chkO o := by
 unfold gz;cases h1 : ed l != 0 with
 | true => rfl
 | false =>
  cases h2 : chkO o != 0 with
  | true => rfl
  | false =>
   have h2 : chkO o = 0 := by simpa using h2
   cases stands l o.parent o.node <;> simp [h2]
theorem Az (h : (gz l o).2.2 = 0) : ed l = 0 ∧ chkO o = 0 := by
 rw [ro] at h;cases h1 : ed l != 0 with
 | true => rw [h1, cond_true] at h; simp [h] at h1
 | false => rw [h1, cond_false] at h; exact ⟨by simpa using h1, h⟩
theorem tf (h1 : ed l = 0) (h2 : chkO o = 0) : gz l o = bif stands l o.parent o.node then (l, ⟨o, false, find l o.node⟩, 0) else (putT l (fi o), ⟨o, true, find l o.node⟩, 0) := by
 unfold gz;rw [h1, h2]; rfl
theorem kN {n : Int} : ∀ {l : List Place}, (∀ p ∈ l, p.node ≠ n) → find l n = ⟨0, 0, 0⟩
 | [], _ => rfl
 | p :: r, h => by
  rw [find];have : (p.node == n) = false := by simpa using h p (.head _)
  rw [this, cond_false];exact kN fun q hq => h q (.tail _ hq)
structure Moved (l : List Place) (o : Op) : Prop where
 tree : ed (gz l o).1 = 0
 did : (gz l o).2.1.did = !stands l o.parent o.node
 op : (gz l o).2.1.o = o
 under : under l o.parent o.node = (stands l o.parent o.node, 0)
 else_ : ∀ n, n ≠ o.node → find (gz l o).1 n = find l n
 node : (gz l o).2.1.did = true → find (gz l o).1 o.node = fi o
 undo : qF (gz l o).1 (gz l o).2.1 = (l, 0)
theorem l4 (h : (gz l o).2.2 = 0) : Moved l o := by
 obtain ⟨h1, h2⟩ := Az h;have ho := lL h2;have hunder : under l o.parent o.node = (stands l o.parent o.node, 0) := by
  unfold under;have hb : (decide (o.parent < 0) || decide (o.parent > 16) || decide (o.node < 0) || decide (o.node > 16)) = false := by simp only [Bo]; omega
  rw [h1, hb]; rfl
 cases hs : stands l o.parent o.node with
 | true =>
  have e : gz l o = (l, ⟨o, false, find l o.node⟩, 0) := by rw [tf h1 h2, hs]; rfl
  refine ⟨by rw [e]; exact h1, by rw [e, hs]; rfl, by rw [e], by rw [hunder, hs], fun n _ => by rw [e], fun hd => (by rw [e] at hd; cases hd), ?_⟩;rw [e];unfold qF;simp [h1, h2]
 | false =>
  have e : gz l o = (putT l (fi o), ⟨o, true, find l o.node⟩, 0) := by rw [tf h1 h2, hs]; rfl
  have hT := (es l).1 h1;have hT' : iw (putT l (fi o)) := hT.put (ux h2) fun hu => by rw [← iP] at hu; rw [show (fi o).parent = o.parent from rfl, show (fi o).node = o.node from rfl, hs] at hu; cases hu
  have hc' := (es _).2 hT';have hnp : decide ((fi o).parent < 0) = false := decide_eq_false (show ¬ o.parent < 0 by omega);have hfn : find (putT l (fi o)) o.node = fi o := by
   rw [iJ, hnp];simp [fi]
  have hfe : ∀ n, n ≠ o.node → find (putT l (fi o)) n = find l n := fun n hn => by
   rw [iJ];have : (n == (fi o).node) = false := by simpa [fi] using hn
   rw [this]; rfl
  refine ⟨by rw [e]; exact hc', by rw [e, hs]; rfl, by rw [e], by rw [hunder, hs], fun n hn => by rw [e]; exact hfe n hn, fun _ => by rw [e]; exact hfn, ?_⟩;rw [e];have hwas : (wasOf ⟨o, true, find l o.node⟩).node = o.node := by
   unfold wasOf;cases hz : (find l o.node).node == 0 with
   | true => rfl
   | false => exact (gA (by simpa using hz)).1
  have hback : putT (putT l (fi o)) (wasOf ⟨o, true, find l o.node⟩) = l := by
   unfold wasOf;cases hz : (find l o.node).node == 0 with
   | true =>
    simp only [cond_true];have hz : (find l o.node).node = 0 := by simpa using hz
    have hz2 : find l o.node = ⟨0, 0, 0⟩ := by
     by_cases hm : ∃ p ∈ l, p.node = o.node
     ·obtain ⟨p, hp, hpn⟩ := hm;rw [← hpn, l9 hT.up p hp] at hz;have := hT.node p hp;omega
     ·exact kN fun p hp hpn => hm ⟨p, hp, hpn⟩
    have hneg : (⟨o.node, -1, 0⟩ : Place).parent < 0 := by simp
    have hsub : ∀ p ∈ putT (putT l (fi o)) ⟨o.node, -1, 0⟩, p ∈ putT l (fi o) := fun p hp => by rw [z9 hneg] at hp; exact (jC _ _ _ hp).1
    refine py (by rw [z9 hneg]; exact qC _ hT'.up) hT.up (fun p hp => hT'.node p (hsub p hp)) hT.node fun n _ => ?_;rw [iJ];by_cases hn : n = o.node
    ·subst hn; simp [hz2]
    ·have : (n == (⟨o.node, -1, 0⟩ : Place).node) = false := by simpa using hn
     rw [this, cond_false, hfe n hn]
   | false =>
    simp only [cond_false];have hz : (find l o.node).node ≠ 0 := by simpa using hz
    obtain ⟨hn0, hm0⟩ := gA hz;have hok := jT (hT.ok _ hm0);have hnp2 : decide ((find l o.node).parent < 0) = false := decide_eq_false (by omega);refine py (by rw [uu (by omega)]; exact qD _ hT'.up) hT.up (fun p hp => ?_) hT.node fun n _ => ?_
    ·rw [uu (by omega)] at hp;rcases lG _ _ _ hp with rfl | ⟨hp, _⟩
     ·omega
     ·exact hT'.node p hp
    ·rw [iJ, hnp2];by_cases hn : n = o.node
     ·subst hn; simp [hn0]
     ·have : (n == (find l o.node).node) = false := by rw [hn0]; simpa using hn
      rw [this, cond_false, hfe n hn]
  unfold qF;have hx : ((wasOf ⟨o, true, find l o.node⟩).node != o.node || find (putT l (fi o)) o.node != ⟨o.node, o.parent, o.name⟩) = false := by
   rw [hwas, hfn]; simp [fi]
  simp only [hc', h2, hback, h1, hx, bne_self_eq_false, cond_false, Bool.not_true]
variable {t : List Place}
theorem zk (h1 : ed t = 0) (h2 : chkO o = 0) : (gz t o).2.2 = 0 := by
 rw [ro, h1, h2]; rfl
theorem vb (p : Place) : iM p = place p := rfl
theorem i3 : ∀ (l : List Place) (n : Int), bq l n = find l n
 | [], _ => rfl
 | p :: r, n => by
  have ih := i3 r n;unfold bq at ih ⊢;rw [gQ, find, ih]
theorem gh (l : List Place) (nd top : Int) : iy l nd top = stands l nd top := by
 have key : ∀ (f : Nat) (nd : Int), ia l top f nd = p4 l top f nd := by
  intro f;induction f with
  | zero => intro nd; rfl
  | succ f ih => intro nd; rw [ia, p4, i3, ih]
 unfold iy stands;exact key _ nd
theorem nP (t : List Place) : ∀ l : List Place, f9 t l = chk2 t l
 | [] => rfl
 | p :: r => by rw [f9, chk2, gh, nP t r]
theorem iz (t : List Place) : dy t = ed t := by
 have key : ∀ (r : List Place) (k : Nat), r = t.drop k → fR t r k = bif chk1 t (t.length - k) k != 0 then chk1 t (t.length - k) k else chk2 t t := by
  intro r;induction r with
  | nil =>
   intro k hr;have : t.length - k = 0 := by have := congrArg List.length hr; simp at this; omega
   rw [fR, this, chk1, nP]; rfl
  | cons p r ih =>
   intro k hr;have hk : k < t.length := by have := congrArg List.length hr; simp at this; omega
   rw [aK hk] at hr;obtain ⟨rfl, hr'⟩ := List.cons.inj hr;rw [fR, show t.length - k = (t.length - (k + 1)) + 1 by omega, chk1, vb, ih (k + 1) hr'];cases h1 : place (gt t k) != 0 with
   | true => simp only [cond_true, h1]
   | false =>
    simp only [cond_false];cases h2 : (decide ((k : Int) > 0) && decide ((gt t (k - 1)).node ≥ (gt t k).node)) <;> rfl
 unfold dy ed;exact key t 0 rfl
theorem lr (l : List Place) (p : Place) : eR l p = putT l p := by
 have key : ∀ (r : List Place) (d : Bool) (acc : List Place), fx p r d acc = acc ++ put p d r := by
  intro r;induction r with
  | nil => intro d acc; rw [fx, put]; cases d <;> simp
  | cons q r ih =>
   intro d acc;rw [fx, put];cases h1 : (!d && decide (q.node ≥ p.node)) <;> cases h2 : q.node != p.node <;> simp only [cond_true, cond_false, ih, List.append_assoc, List.cons_append, List.nil_append]
 unfold eR putT;exact (key l _ []).trans (List.nil_append _)
theorem rG (l : List Place) : lu l = l := rfl
theorem fA (o : Op) : dv o = chkO o := rfl
theorem rn (l : List Place) (o : Op) : f5 l o = gz l o := by
 unfold f5 gz;rw [iz, gh, fA, rG, lr, i3];rfl
theorem wm (l : List Place) (s : Step) : ee l s = qF l s := by
 unfold ee qF wasOf;simp only [iz, fA, rG, lr, i3];cases s.was.node == 0 <;> rfl
theorem wZ : ∀ (m l : List Place), jI m l = m.foldl putT l
 | [], _ => rfl
 | p :: r, l => by rw [jI, lr, wZ r]; rfl
theorem C5 (v : View) : eP v = v.way.foldl putT v.known := wZ _ _
theorem Bf (a b : View) : go a b = go b a := by
 unfold go;simp only [eq_comm]
theorem qp (v : View) : cn v = bif cm v.roots != 0 then cm v.roots else bif ed v.known != 0 then ed v.known else bif ed v.way != 0 then ed v.way else
  bif ((eG (eP v) v.roots).2 == 0 && !(go (eG (eP v) v.roots).1 v)) then 4 else (eG (eP v) v.roots).2 := by
 unfold cn iZ iY iX;rw [iz, iz]
theorem Be (v : View) : go v v = true := by simp [go]
theorem vH (v w : View) : go v w = true ↔ v = w := by
 obtain ⟨a, b, c⟩ := v; obtain ⟨d, e, f⟩ := w;simp [go, and_assoc]
theorem nn {α : Type} [Inhabited α] (f : α → Int) : ∀ (l : List α), (∀ i, i + 1 < l.length → f (gt l i) < f (gt l (i + 1))) → l.Pairwise (fun a b => f a < f b)
 | [], _ => .nil
 | [a], _ => by simp
 | a :: b :: r, h => by
  have ih := nn f (b :: r) (fun i hi => by have := h (i + 1) (by simpa using hi); simpa [gt] using this);have h0 : f a < f b := by simpa [gt] using h 0 (by simp)
  refine List.pairwise_cons.2 ⟨fun c hc => ?_, ih⟩;rcases List.mem_cons.1 hc with rfl | hc
  ·exact h0
  ·have := (List.pairwise_cons.1 ih).1 c hc; omega
theorem nr {α : Type} [Inhabited α] (f : α → Int) : ∀ {l : List α}, l.Pairwise (fun a b => f a < f b) → ∀ i, i + 1 < l.length → f (gt l i) < f (gt l (i + 1))
 | [], _, i, hi => by simp at hi
 | a :: r, h, i, hi => by
  obtain ⟨h1, h2⟩ := List.pairwise_cons.1 h;cases i with
  | zero =>
   have h3 : 0 < r.length := by simpa using hi
   have := h1 (gt r 0) (gJ h3);simpa [gt] using this
  | succ i =>
   have := nr f h2 i (by simpa using hi);simpa [gt] using this
structure rD (l : List Int) : Prop where
 len : l.length ≤ 4
 rng : ∀ n ∈ l, 0 ≤ n ∧ n ≤ 16
 up : l.Pairwise (fun a b => a < b)
theorem sd (l : List Int) : ∀ (r : List Int) (k : Nat), r = l.drop k → (fc l r k = 0 ↔ (∀ n ∈ r, 0 ≤ n ∧ n ≤ 16) ∧ ∀ i, k ≤ i → i < l.length → 0 < i → gt l (i - 1) < gt l i)
 | [], k, hr => by
  have hk : l.length ≤ k := by have := congrArg List.length hr; simp at this; omega
  rw [fc];exact ⟨fun _ => ⟨by simp, fun i h1 h2 => by omega⟩, fun _ => rfl⟩
 | n :: r, k, hr => by
  have hk : k < l.length := by have := congrArg List.length hr; simp at this; omega
  rw [aK hk] at hr;obtain ⟨hn, hr'⟩ := List.cons.inj hr;have ih := sd l r (k + 1) hr';rw [fc];cases h1 : (decide (n < 0) || decide (n > 16)) with
  | true =>
   simp only [cond_true];refine ⟨fun h => by omega, fun h => ?_⟩;have := h.1 n (.head _);simp at h1; omega
  | false =>
   simp at h1;cases h2 : (decide ((k : Int) > 0) && decide (gt l (k - 1) ≥ n)) with
   | true =>
    simp only [cond_true, cond_false];simp only [Ba] at h2;refine ⟨fun h => by omega, fun h => ?_⟩;have := h.2 k Nr hk (by omega);rw [← hn] at this;omega
   | false =>
    simp only [cond_false];rw [ih];constructor
    ·rintro ⟨a, b⟩;refine ⟨fun m hm => ?_, fun i hi hl hp => ?_⟩
     ·cases hm with
      | head => omega
      | tail _ hm => exact a m hm
     ·by_cases he : i = k
      ·subst he;simp at h2;have := h2 (by omega);rw [← hn]; omega
      ·exact b i (by omega) hl hp
    ·rintro ⟨a, b⟩;exact ⟨fun m hm => a m (.tail _ hm), fun i hi hl hp => b i (by omega) hl hp⟩
theorem qY (l : List Int) : cm l = 0 ↔ rD l := by
 unfold cm;cases h : decide ((l.length : Int) > 4) with
 | true =>
  simp at h;simp only [cond_true];exact ⟨fun h => by omega, fun h' => by have := h'.len; omega⟩
 | false =>
  simp at h;rw [cond_false, sd l l 0 rfl];constructor
  ·rintro ⟨a, b⟩;exact ⟨by omega, a, nn id l fun i hi => by have := b (i + 1) (by omega) hi (by omega); simpa using this⟩
  ·intro h';refine ⟨h'.rng, fun i _ hl hp => ?_⟩;have := nr id h'.up (i - 1) (by omega);rw [show i - 1 + 1 = i by omega] at this;exact this
theorem rD.take {l : List Int} (h : rD l) (k : Nat) : rD (l.take k) :=
 ⟨by have := h.len; simp; omega, fun n hn => h.rng n (List.mem_of_mem_take hn), h.up.sublist (List.take_sublist k l)⟩
def j6 (t : List Place) (roots : List Int) : View := ⟨roots, t.filter (fun p => d4 t p.node roots), t.filter (fun p => !d4 t p.node roots && eU t p.node roots)⟩
theorem sF (t : List Place) (roots : List Int) : ∀ (l known way : List Place), gN t roots l known way = (⟨roots, known ++ l.filter (fun p => d4 t p.node roots), way ++ l.filter (fun p => !d4 t p.node roots && eU t p.node roots)⟩, 0)
 | [], known, way => by simp [gN]
 | p :: r, known, way => by
  rw [gN];cases hb : d4 t p.node roots with
  | true =>
   rw [cond_true, sF t roots r, List.filter_cons, List.filter_cons, hb];simp
  | false =>
   rw [cond_false];cases ha : eU t p.node roots with
   | true => rw [cond_true, sF t roots r, List.filter_cons, List.filter_cons, hb, ha]; simp
   | false => rw [cond_false, sF t roots r, List.filter_cons, List.filter_cons, hb, ha]; simp
theorem Of_eq (t : List Place) (roots : List Int) : eG t roots = bif ed t != 0 then (⟨[], [], []⟩, ed t) else bif cm roots != 0 then (⟨[], [], []⟩, cm roots) else (j6 t roots, 0) := by
 unfold eG;rw [iz, sF];rfl
variable {roots : List Int}
theorem Of_ok (h : (eG t roots).2 = 0) : ed t = 0 ∧ cm roots = 0 ∧ eG t roots = (j6 t roots, 0) := by
 rw [Of_eq] at h ⊢;cases h1 : ed t != 0 with
 | true => rw [h1, cond_true] at h; simp only at h; rw [h] at h1; simp at h1
 | false =>
  rw [h1, cond_false] at h;cases h2 : cm roots != 0 with
  | true => rw [h2, cond_true] at h; simp only at h; rw [h] at h2; simp at h2
  | false => exact ⟨ag h1, ag h2, rfl⟩
theorem Of_of (h1 : ed t = 0) (h2 : cm roots = 0) : eG t roots = (j6 t roots, 0) := by
 rw [Of_eq, h1, h2]; rfl
structure Rising (l : List Place) : Prop where
 up : l.Pairwise (fun a b => a.node < b.node)
 rng : ∀ p ∈ l, 1 ≤ p.node ∧ p.node < 16
 par : ∀ p ∈ l, 0 ≤ p.parent
theorem iw.rising (h : iw l) : Rising l := ⟨h.up, fun q hq => by have := jT (h.ok q hq); omega, fun q hq => by have := jT (h.ok q hq); omega⟩
theorem Rising.nil : Rising [] := ⟨.nil, by simp, by simp⟩
theorem Rising.none (h : Rising l) (hz : (find l n).node = 0) : find l n = ⟨0, 0, 0⟩ := by
 refine kN fun q hq hqn => ?_;have h3 := l9 h.up q hq;rw [hqn] at h3;rw [h3] at hz;have := h.rng q hq;omega
theorem Rising.put (h : Rising l) (h1 : 1 ≤ p.node ∧ p.node < 16) : Rising (putT l p) := by
 by_cases hp : p.parent < 0
 ·rw [z9 hp];exact ⟨qC p h.up, fun q hq => h.rng q (jC p q l hq).1, fun q hq => h.par q (jC p q l hq).1⟩
 ·rw [uu (by omega)];refine ⟨qD p h.up, fun q hq => ?_, fun q hq => ?_⟩
  ·rcases lG p q l hq with rfl | hq
   ·exact h1
   ·exact h.rng q hq.1
  ·rcases lG p q l hq with rfl | hq
   ·omega
   ·exact h.par q hq.1
theorem Rising.ext {m : List Place} (h : Rising l) (h' : Rising m) (hf : ∀ n, 1 ≤ n → n < 16 → find l n = find m n) : l = m := by
 refine py h.up h'.up (fun p hp => (h.rng p hp).1) (fun p hp => (h'.rng p hp).1) fun n hn => ?_;by_cases h2 : n < 16
 ·exact hf n hn h2
 ·rw [kN fun q hq e => by have := h.rng q hq; omega, kN fun q hq e => by have := h'.rng q hq; omega]
theorem Rising.puts : ∀ (m : List Place) {l : List Place}, Rising l → (∀ p ∈ m, 1 ≤ p.node ∧ p.node < 16) → Rising (m.foldl putT l)
 | [], _, h, _ => h
 | p :: r, _, h, hm => Rising.puts r (h.put (hm p (.head _))) fun q hq => hm q (.tail _ hq)
def plcB (p : Place) : Bool := (((((decide (p.node < 1) || decide (p.node ≥ 16)) || decide (p.parent < 0)) || decide (p.parent > 16)) || decide (p.name < 0)) || decide (p.name > 99))
theorem uw (p : Place) : place p = bif plcB p then 3 else 0 := rfl
theorem vn (p : Place) : plcB p = false ↔ place p = 0 := by rw [uw]; cases plcB p <;> simp
def gl (l : List Int) (e : Int) : List Int → Nat → Int
 | [], _ => e
 | n :: r, k => bif (decide (n < 1) || decide (n ≥ 16)) then 5 else bif (decide ((k : Int) > 0) && decide (gt l (k - 1) ≥ n)) then 6 else gl l e r (k + 1)
def hl (gone : List Int) (l : List Place) (e : Int) : List Place → Nat → Int
 | [], _ => e
 | p :: r, k => bif plcB p then 3 else bif ((decide ((k : Int) > 0) && decide ((gt l (k - 1)).node ≥ p.node)) || decide (p.node ∈ gone)) then 6 else hl gone l e r (k + 1)
def half (gone : List Int) (here : List Place) (e : Int) : Int := bif (decide ((gone.length : Int) > 16) || decide ((here.length : Int) > 16)) then 2 else gl gone (hl gone here e here 0) gone 0
theorem C2 (d : Delta) : ∀ (r : List Place) (k : Nat), fY d r k = hl d.gone d.here (f6 d) r k
 | [], _ => rfl
 | p :: r, k => by rw [fY, hl, C2 d r]; rfl
theorem C4 (d : Delta) : ∀ (r : List Int) (k : Nat), gD d r k = gl d.gone (fY d d.here 0) r k
 | [], _ => rfl
 | p :: r, k => by rw [gD, gl, C4 d r]
theorem C1 (d : Delta) : ∀ (r : List Place) (k : Nat), fX d r k = hl d.wayGone d.wayHere 0 r k
 | [], _ => rfl
 | p :: r, k => by rw [fX, hl, C1 d r]; rfl
theorem C3 (d : Delta) : ∀ (r : List Int) (k : Nat), gC d r k = gl d.wayGone (fX d d.wayHere 0) r k
 | [], _ => rfl
 | p :: r, k => by rw [gC, gl, C3 d r]
theorem pW (d : Delta) : dk d = half d.gone d.here (half d.wayGone d.wayHere 0) := by
 have e1 : f6 d = half d.wayGone d.wayHere 0 := by unfold f6 half; rw [C3, C1]
 unfold dk iK;rw [C4, C2, e1]; rfl
theorem CK (l : List Int) (e : Int) : ∀ (r : List Int) (k : Nat), r = l.drop k → (gl l e r k = 0 ↔ (∀ n ∈ r, 1 ≤ n ∧ n < 16) ∧ (∀ i, k ≤ i → i < l.length → 0 < i → gt l (i - 1) < gt l i) ∧ e = 0)
 | [], k, hr => by
  have hk : l.length ≤ k := by have := congrArg List.length hr; simp at this; omega
  rw [gl];exact ⟨fun h => ⟨by simp, fun i h1 h2 => by omega, h⟩, fun h => h.2.2⟩
 | n :: r, k, hr => by
  have hk : k < l.length := by have := congrArg List.length hr; simp at this; omega
  rw [aK hk] at hr;obtain ⟨hn, hr'⟩ := List.cons.inj hr;have ih := CK l e r (k + 1) hr';rw [gl];cases h1 : (decide (n < 1) || decide (n ≥ 16)) with
  | true =>
   simp only [cond_true];refine ⟨fun h => by omega, fun h => ?_⟩;have := h.1 n (.head _);simp at h1; omega
  | false =>
   simp at h1;cases h2 : (decide ((k : Int) > 0) && decide (gt l (k - 1) ≥ n)) with
   | true =>
    simp only [cond_true, cond_false];simp only [Ba] at h2;refine ⟨fun h => by omega, fun h => ?_⟩;have := h.2.1 k Nr hk (by omega);rw [← hn] at this;omega
   | false =>
    simp only [cond_false];rw [ih];constructor
    ·rintro ⟨a, b, c⟩;refine ⟨fun m hm => ?_, fun i hi hl hp => ?_, c⟩
     ·cases hm with
      | head => omega
      | tail _ hm => exact a m hm
     ·by_cases he : i = k
      ·subst he;simp at h2;have := h2 (by omega);rw [← hn]; omega
      ·exact b i (by omega) hl hp
    ·rintro ⟨a, b, c⟩;exact ⟨fun m hm => a m (.tail _ hm), fun i hi hl hp => b i (by omega) hl hp, c⟩
theorem CI (gone : List Int) (l : List Place) (e : Int) : ∀ (r : List Place) (k : Nat), r = l.drop k → (hl gone l e r k = 0 ↔ (∀ p ∈ r, place p = 0 ∧ p.node ∉ gone) ∧ (∀ i, k ≤ i → i < l.length → 0 < i → (gt l (i - 1)).node < (gt l i).node) ∧ e = 0)
 | [], k, hr => by
  have hk : l.length ≤ k := by have := congrArg List.length hr; simp at this; omega
  rw [hl];exact ⟨fun h => ⟨by simp, fun i h1 h2 => by omega, h⟩, fun h => h.2.2⟩
 | p :: r, k, hr => by
  have hk : k < l.length := by have := congrArg List.length hr; simp at this; omega
  rw [aK hk] at hr;obtain ⟨hn, hr'⟩ := List.cons.inj hr;have ih := CI gone l e r (k + 1) hr';rw [hl];cases h1 : plcB p with
  | true =>
   simp only [cond_true];refine ⟨fun h => by omega, fun h => ?_⟩;have := (vn p).2 (h.1 p (.head _)).1;rw [this] at h1; cases h1
  | false =>
   have hp := (vn p).1 h1;cases h2 : ((decide ((k : Int) > 0) && decide ((gt l (k - 1)).node ≥ p.node)) || decide (p.node ∈ gone)) with
   | true =>
    simp only [cond_true, cond_false];simp only [Bool.or_eq_true, Ba] at h2;refine ⟨fun h => by omega, fun h => ?_⟩;rcases h2 with h2 | h2
    ·have := h.2.1 k Nr hk (by omega);rw [← hn] at this;omega
    ·exact absurd h2 (h.1 p (.head _)).2
   | false =>
    simp only [cond_false];rw [ih];simp only [Bool.or_eq_false_iff, Bool.and_eq_false_iff, decide_eq_false_iff_not] at h2;constructor
    ·rintro ⟨a, b, c⟩;refine ⟨fun m hm => ?_, fun i hi hl hp => ?_, c⟩
     ·cases hm with
      | head => exact ⟨hp, h2.2⟩
      | tail _ hm => exact a m hm
     ·by_cases he : i = k
      ·subst he;rw [← hn]; omega
      ·exact b i (by omega) hl hp
    ·rintro ⟨a, b, c⟩;exact ⟨fun m hm => a m (.tail _ hm), fun i hi hl hp => b i (by omega) hl hp, c⟩
structure Half (gone : List Int) (here : List Place) : Prop where
 len1 : gone.length ≤ 16
 len2 : here.length ≤ 16
 rng : ∀ n ∈ gone, 1 ≤ n ∧ n < 16
 gup : gone.Pairwise (fun a b => a < b)
 ok : ∀ p ∈ here, place p = 0
 apart : ∀ p ∈ here, p.node ∉ gone
 hup : here.Pairwise (fun a b => a.node < b.node)
theorem yw (gone : List Int) (here : List Place) (e : Int) : half gone here e = 0 ↔ Half gone here ∧ e = 0 := by
 unfold half;cases h : (decide ((gone.length : Int) > 16) || decide ((here.length : Int) > 16)) with
 | true =>
  simp at h;simp only [cond_true];exact ⟨fun h => by omega, fun h' => by have := h'.1.len1; have := h'.1.len2; omega⟩
 | false =>
  simp at h;rw [cond_false, CK gone _ gone 0 rfl, CI gone here e here 0 rfl];constructor
  ·rintro ⟨a, b, c, d, e⟩;exact ⟨⟨by omega, by omega, a, nn id gone fun i hi => by have := b (i + 1) (by omega) hi (by omega); simpa using this, fun p hp => (c p hp).1, fun p hp => (c p hp).2,
    nn Place.node here fun i hi => by have := d (i + 1) (by omega) hi (by omega); simpa using this⟩, e⟩
  ·rintro ⟨h', he⟩;refine ⟨h'.rng, fun i _ hl hp => ?_, fun p hp => ⟨h'.ok p hp, h'.apart p hp⟩, fun i _ hl hp => ?_, he⟩
   ·have := nr id h'.gup (i - 1) (by omega);rw [show i - 1 + 1 = i by omega] at this;exact this
   ·have := nr Place.node h'.hup (i - 1) (by omega);rw [show i - 1 + 1 = i by omega] at this;exact this
theorem kj (d : Delta) : dk d = 0 ↔ Half d.gone d.here ∧ Half d.wayGone d.wayHere := by
 rw [pW, yw, yw];simp
structure pb (v : View) : Prop where
 roots : rD v.roots
 known : iw v.known
 way : iw v.way
 all : ed (eP v) = 0
 is : j6 (eP v) v.roots = v
theorem ef (v : View) : cn v = 0 ↔ pb v := by
 rw [qp];cases h0 : (cm v.roots != 0) with
 | true => exact ⟨fun h => by rw [cond_true] at h; rw [h] at h0; simp at h0, fun h => by have := (qY _).2 h.roots; rw [this] at h0; simp at h0⟩
 | false =>
  have g0 := (qY _).1 (ag h0);cases h1 : (ed v.known != 0) with
  | true => exact ⟨fun h => by simp only [cond_true, cond_false] at h; rw [h] at h1; simp at h1, fun h => by have := (es _).2 h.known; rw [this] at h1; simp at h1⟩
  | false =>
   have g1 := (es _).1 (ag h1);cases h2 : (ed v.way != 0) with
   | true => exact ⟨fun h => by simp only [cond_true, cond_false] at h; rw [h] at h2; simp at h2, fun h => by have := (es _).2 h.way; rw [this] at h2; simp at h2⟩
   | false =>
    have g2 := (es _).1 (ag h2);simp only [cond_false];constructor
    ·intro h;cases h3 : ((eG (eP v) v.roots).2 == 0 && !(go (eG (eP v) v.roots).1 v)) with
     | true => rw [h3] at h; simp at h
     | false =>
      rw [h3, cond_false] at h;obtain ⟨h4, h5, h6⟩ := Of_ok h;rw [h6] at h3;simp only [BEq.rfl, Bool.true_and, Bool.not_eq_false'] at h3;exact ⟨g0, g1, g2, h4, (vH _ _).1 h3⟩
    ·intro h;have := Of_of h.all ((qY _).2 h.roots);rw [this, h.is, Be];rfl
theorem BA {v : View} (h : cn v = 0) : v.known.length ≤ 15 ∧ v.way.length ≤ 15 := by
 have h := (ef v).1 h;exact ⟨pC ((es _).2 h.known), pC ((es _).2 h.way)⟩
theorem AR {d : Delta} (h : dk d = 0) : d.gone.length ≤ 16 ∧ d.here.length ≤ 16 ∧ d.wayGone.length ≤ 16 ∧ d.wayHere.length ≤ 16 := by
 obtain ⟨h1, h2⟩ := (kj d).1 h;exact ⟨h1.len1, h1.len2, h2.len1, h2.len2⟩
attribute [local irreducible] CW RW RdL RdN VarP
def iE  : List Place → (List Place) → (List Place)
 | [], p2 => p2
 | pn2 :: rn2, p2 => (iE rn2 (eR p2 pn2))
def iG (here1 : List Place) : List Int → (List Place) → (List Place)
 | [], p1 => (iE here1 p1)
 | pn1 :: rn1, p1 => (iG here1 rn1 (eR p1 (⟨pn1, (-1), 0⟩ : Place)))
def eh (l1 : List Place) (gone1 : List Int) (here1 : List Place) : List Place :=
 (iG here1 gone1 l1)
theorem gB (y1 : SlV) (l1 : List Place) (y2 : SlV) (gone1 : List Int) (y3 : SlV) (here1 : List Place) (hlt : l1.length ≤ 1000 ∧ gone1.length ≤ 1000 ∧ here1.length ≤ 1000) : Dw 203 [y1.val l1.length, y2.val gone1.length, y3.val here1.length] [RdL EPlace y1 l1, RdL EInt y2 gone1, RdL EPlace y3 here1] (fun (X : SlV) => X.val (eh l1 gone1 here1).length) (fun X => [RdL EPlace X (eh l1 gone1 here1)]) := by
 refine Dp Tryz.func203 fun C => ?_;refine Qc y1 24 fun hlen1 => ?_;refine Qc y2 8 fun hlen2 => ?_;refine Qc y3 24 fun hlen3 => ?_;refine Cm (d8 y1 l1) fun x1 => ?_;refine Rp rfl rfl rfl rfl ?_;refine AlT fun g1 => ?_;refine Lq (Nat × List Place × SlV) [2,6,7,15,16] [false] (fun ⟨n1, p1, x2⟩ => ⟨[(17, .v (.int .i64 (n1 : Int)))], [⟨g1, 25, [x2.val p1.length]⟩], [], [RdL EPlace x2 p1], (n1 ≤ gone1.length) ∧ (p1.length ≤ l1.length + n1) ∧ (iG here1 (gone1.drop n1) p1) = (eh l1 gone1 here1), gone1.length - n1⟩) ⟨0, l1, x1.1⟩ ⟨N0, (by simp), (by simp only [eh, Cf, D0])⟩ ?_ (hs := Le.trans (pt EPlace 99 x1.1 x1.2 l1 Uo) Le4);rintro ⟨n1, p1, x2⟩ ⟨hkn1, hpb, hf1⟩;simp only [Lc];refine Cu (fun hlt0 => ?_) fun hge0 => ?_
 ·refine Sy Tz (Xi n1) ?_;refine Sq X1 ?_;refine Ck (jh x2 p1 (⟨(gt gone1 n1), (-1), 0⟩ : Place) (by omega)) fun x3 => ?_;refine Pr EPlace x3 (eR p1 (⟨(gt gone1 n1), (-1), 0⟩ : Place)) 24 fun hlen4 => ?_;refine Tt ?_;refine ⟨⟨(n1 + 1), (eR p1 (⟨(gt gone1 n1), (-1), 0⟩ : Place)), x3⟩, ⟨hlt0, (by have := vl p1 (⟨(gt gone1 n1), (-1), 0⟩ : Place); simp only []; omega), (by rw [← hf1, aK hlt0]; simp only [iG, Cf, D0])⟩, Oo, Le4⟩
 ·refine Lq (Nat × List Place × SlV) [6,7,26,27] [false] (fun ⟨n2, p2, x4⟩ => ⟨[(28, .v (.int .i64 (n2 : Int)))], [⟨g1, 25, [x4.val p2.length]⟩], [], [RdL EPlace x4 p2], (n2 ≤ here1.length) ∧ (p2.length ≤ l1.length + gone1.length + n2) ∧ (iE (here1.drop n2) p2) = (eh l1 gone1 here1), here1.length - n2⟩) ⟨0, p1, x2⟩ ⟨N0, (by omega), (by rw [← hf1, Dl hge0]; simp only [iG, Cf, D0])⟩ ?_;rintro ⟨n2, p2, x4⟩ ⟨hkn2, hpc, hf2⟩;simp only [Lc];refine Cu (fun hlt1 => ?_) fun hge1 => ?_
  ·refine Sy Tz (Xi n2) ?_;refine Sq Xa ?_;refine AlT fun g2 => ?_;refine Ck (jh x4 p2 (gt here1 n2) (by omega)) fun x5 => ?_;refine Pr EPlace x5 (eR p2 (gt here1 n2)) 24 fun hlen5 => ?_;refine Tt ?_;refine ⟨⟨(n2 + 1), (eR p2 (gt here1 n2)), x5⟩, ⟨hlt1, (by have := vl p2 (gt here1 n2); simp only []; omega), (by rw [← hf2, aK hlt1]; simp only [iE, Cf, D0])⟩, Oo, Le4⟩
  ·have hf := Ri hf2.symm;rw [Dl hge1, iE] at hf;refine Rx ?_; exact Rr x4
def ec (v1 : View) (d1 : Delta) : View × Int :=
 (bif ((cn v1) != 0) then ((⟨[], [], []⟩ : View), (cn v1)) else (bif ((dk d1) != 0) then ((⟨[], [], []⟩ : View), (dk d1)) else (bif ((cn (⟨v1.roots, (eh v1.known d1.gone d1.here), (eh v1.way d1.wayGone d1.wayHere)⟩ : View)) != 0) then ((⟨[], [], []⟩ : View), (cn (⟨v1.roots, (eh v1.known d1.gone d1.here), (eh v1.way d1.wayGone d1.wayHere)⟩ : View))) else ((⟨v1.roots, (eh v1.known d1.gone d1.here), (eh v1.way d1.wayGone d1.wayHere)⟩ : View), 0))))
theorem sx (y1 : SlV) (y2 : SlV) (y3 : SlV) (v1 : View) (y4 : SlV) (y5 : SlV) (y6 : SlV) (y7 : SlV) (d1 : Delta) : Dw 173 [.agg ⟨cV y1 y2 y3 v1⟩, .agg ⟨cD y4 y5 y6 y7 d1⟩] [RdL EInt y1 v1.roots, RdL EPlace y2 v1.known, RdL EPlace y3 v1.way, RdL EInt y4 d1.gone, RdL EPlace y5 d1.here, RdL EInt y6 d1.wayGone, RdL EPlace y7 d1.wayHere] (fun (X : SlV × SlV × SlV) => .tuple #[.agg ⟨cV X.1 X.2.1 X.2.2 (ec v1 d1).1⟩, .int .i64 (ec v1 d1).2]) (fun X => [RdL EInt X.1 (ec v1 d1).1.roots, RdL EPlace X.2.1 (ec v1 d1).1.known, RdL EPlace X.2.2 (ec v1 d1).1.way]) := by
 refine Dp Tryz.func173 fun C => ?_;refine Qc y1 8 fun hlen1 => ?_;refine Qc y2 24 fun hlen2 => ?_;refine Qc y3 24 fun hlen3 => ?_;refine Qc y4 8 fun hlen4 => ?_;refine Qc y5 24 fun hlen5 => ?_;refine Qc y6 8 fun hlen6 => ?_;refine Qc y7 24 fun hlen7 => ?_;refine BxT fun g1 => ?_;refine BxT fun g2 => ?_;refine AlT fun g3 => ?_;refine Ck (il y1 y2 y3 v1) fun _ => ?_;have hf := Ri (ec.eq_1 v1 d1);refine Cn hf (fun hc1 hc1p hf => ?_) fun hc1 hc1p hf => ?_
 ·refine Tx ?_;refine Fc EInt ?_;refine Fc EPlace ?_;refine Rx ?_; exact Rr ⟨Z0, Z0, Z0⟩
 ·have hvl := BA (ag hc1);refine Ck (kW y4 y5 y6 y7 d1) fun _ => ?_;refine Cn hf (fun hc2 hc2p hf => ?_) fun hc2 hc2p hf => ?_
  ·refine Tx ?_;refine Fc EInt ?_;refine Fc EPlace ?_;refine Rx ?_; exact Rr ⟨Z0, Z0, Z0⟩
  ·have hdl := AR (ag hc2);refine Tx ?_;refine Jn (Nat × SlV × Option Nat × SlV × SlV) [4, 5] [true, true, true] (fun ⟨g4, x1, b1, x2, x3⟩ => ⟨[(8, .v (.pointer (some ⟨g4, 0, none⟩)))], [⟨g4, 61, [x1.val v1.roots.length, x2.val (eh v1.known d1.gone d1.here).length, x3.val (eh v1.way d1.wayGone d1.wayHere).length]⟩], [ownL EInt 3 x1 b1 v1.roots], [RdL EPlace x2 (eh v1.known d1.gone d1.here), RdL EPlace x3 (eh v1.way d1.wayGone d1.wayHere)], True, 0⟩) ?_ ?_
   ·refine Rg [(19,none)] ?_;refine Dx [0,1,3,4,5,6,7,8,10,11,12,13,14,15] ?_;refine Rw 2 18 ?_ ?_
    ·refine Cm (dC y1 v1.roots) fun x4 => ?_;refine Rw 9 18 ?_ ?_
     ·refine Ck (gB y2 v1.known y4 d1.gone y5 d1.here ⟨by omega, by omega, by omega⟩) fun x5 => ?_;refine Qr x5 24 fun hlen8 => ?_;refine Rw 16 18 ?_ ?_
      ·refine Ck (gB y3 v1.way y6 d1.wayGone y7 d1.wayHere ⟨by omega, by omega, by omega⟩) fun x6 => ?_;refine Qr x6 24 fun hlen9 => ?_;refine Ra 17 rfl Qp ?_;refine Rn 18 ?_;refine AlT fun g5 => ?_;refine Rn 19 ?_;refine Wa ?_;refine Re0 ?_;refine ⟨⟨g5, x4.1, x4.2, x5, x6⟩, trivial, Le4⟩
      ·refine AlT fun g6 => ?_;refine Rn 16 ?_;refine Ck (gB y3 v1.way y6 d1.wayGone y7 d1.wayHere ⟨by omega, by omega, by omega⟩) fun x7 => ?_;refine Qr x7 24 fun hlen10 => ?_;refine Ra 17 rfl Qp ?_;refine Rn 19 ?_;refine Wa ?_;refine Re0 ?_;refine ⟨⟨g6, x4.1, x4.2, x5, x7⟩, trivial, Le4⟩
     ·refine AlT fun g7 => ?_;refine Rn 9 ?_;refine Ck (gB y2 v1.known y4 d1.gone y5 d1.here ⟨by omega, by omega, by omega⟩) fun x8 => ?_;refine Qr x8 24 fun hlen11 => ?_;refine Rn 16 ?_;refine Ck (gB y3 v1.way y6 d1.wayGone y7 d1.wayHere ⟨by omega, by omega, by omega⟩) fun x9 => ?_;refine Qr x9 24 fun hlen12 => ?_;refine Ra 17 rfl Qp ?_;refine Rn 19 ?_;refine Wa ?_;refine Re0 ?_;refine ⟨⟨g7, x4.1, x4.2, x8, x9⟩, trivial, Le4⟩
    ·refine AlT fun g8 => ?_;refine Rn 2 ?_;refine Cm (dC y1 v1.roots) fun x10 => ?_;refine Rn 9 ?_;refine Ck (gB y2 v1.known y4 d1.gone y5 d1.here ⟨by omega, by omega, by omega⟩) fun x11 => ?_;refine Qr x11 24 fun hlen13 => ?_;refine Rn 16 ?_;refine Ck (gB y3 v1.way y6 d1.wayGone y7 d1.wayHere ⟨by omega, by omega, by omega⟩) fun x12 => ?_;refine Qr x12 24 fun hlen14 => ?_;refine Ra 17 rfl Qp ?_;refine Rn 19 ?_;refine Wa ?_;refine Re0 ?_;refine ⟨⟨g8, x10.1, x10.2, x11, x12⟩, trivial, Le4⟩
   ·rintro ⟨g4, x1, b1, x2, x3⟩ -;simp only [Lc];refine Tx ?_;refine nj (il x1 x2 x3 (⟨v1.roots, (eh v1.known d1.gone d1.here), (eh v1.way d1.wayGone d1.wayHere)⟩ : View)) .sq (au rfl) rfl rfl rfl Kr rfl rfl (.own Mm (.fact Mm (.fact Mm (.nil _ _)))) ?_;intro _;refine Cn hf (fun hc3 hc3p hf => ?_) fun hc3 hc3p hf => ?_
    ·refine Tx ?_;refine Fc EInt ?_;refine Fc EPlace ?_;refine Rx ?_; exact Rr ⟨Z0, Z0, Z0⟩
    ·refine Tx ?_;refine Fz x1 ?_;refine Rx ?_; exact Rr ⟨x1, x2, x3⟩
def ou (v1 : View) : View :=
 v1
theorem jx (y1 : SlV) (y2 : SlV) (y3 : SlV) (v1 : View) : Dv 131 [.agg ⟨cV y1 y2 y3 v1⟩] [RdL EInt y1 v1.roots, RdL EPlace y2 v1.known, RdL EPlace y3 v1.way] ⟨[], []⟩ (fun (X : SlV × Option Nat × SlV × Option Nat × SlV × Option Nat) => .agg ⟨cV X.1 X.2.2.1 X.2.2.2.2.1 (ou v1)⟩) (fun X => []) (fun X => ⟨[], [ownL EInt 3 X.1 X.2.1 (ou v1).roots, ownL EPlace 99 X.2.2.1 X.2.2.2.1 (ou v1).known, ownL EPlace 99 X.2.2.2.2.1 X.2.2.2.2.2 (ou v1).way]⟩) := by
 refine Dq Tryz.func131 fun C => ?_;refine Qc y1 8 fun hlen1 => ?_;refine Qc y2 24 fun hlen2 => ?_;refine Qc y3 24 fun hlen3 => ?_;refine BxT fun g1 => ?_;refine AlT fun g2 => ?_;refine eF ?_;refine Rg [(10,some [g2])] ?_;refine Dx [0,1,3,4,6,7] ?_;refine Rn 2 ?_;refine Cm (dC y1 v1.roots) fun x1 => ?_;refine Rn 5 ?_;refine Cm (d8 y2 v1.known) fun x2 => ?_;refine Rn 8 ?_;refine Cm (d8 y3 v1.way) fun x3 => ?_;refine Ra 9 rfl Qp ?_;refine Rn 10 ?_;refine Wa ?_;refine Re0 ?_;(repeat refine er ?_);have hf := Ri (ou.eq_1 v1);refine Rx ?_; exact Rr ⟨x1.1, x1.2, x2.1, x2.2, x3.1, x3.2⟩
def lm (d1 : Delta) : Delta :=
 d1
theorem oZ (y1 : SlV) (y2 : SlV) (y3 : SlV) (y4 : SlV) (d1 : Delta) : Dv 132 [.agg ⟨cD y1 y2 y3 y4 d1⟩] [RdL EInt y1 d1.gone, RdL EPlace y2 d1.here, RdL EInt y3 d1.wayGone, RdL EPlace y4 d1.wayHere] ⟨[], []⟩ (fun (X : SlV × Option Nat × SlV × Option Nat × SlV × Option Nat × SlV × Option Nat) => .agg ⟨cD X.1 X.2.2.1 X.2.2.2.2.1 X.2.2.2.2.2.2.1 (lm d1)⟩) (fun X => []) (fun X => ⟨[], [ownL EInt 3 X.1 X.2.1 (lm d1).gone, ownL EPlace 99 X.2.2.1 X.2.2.2.1 (lm d1).here, ownL EInt 3 X.2.2.2.2.1 X.2.2.2.2.2.1 (lm d1).wayGone, ownL EPlace 99 X.2.2.2.2.2.2.1 X.2.2.2.2.2.2.2 (lm d1).wayHere]⟩) := by
 refine Dq Tryz.func132 fun C => ?_;refine Qc y1 8 fun hlen1 => ?_;refine Qc y2 24 fun hlen2 => ?_;refine Qc y3 8 fun hlen3 => ?_;refine Qc y4 24 fun hlen4 => ?_;refine BxT fun g1 => ?_;refine AlT fun g2 => ?_;refine eF ?_;refine Rg [(13,some [g2])] ?_;refine Dx [0,1,3,4,6,7,9,10] ?_;refine Rn 2 ?_;refine Cm (dC y1 d1.gone) fun x1 => ?_;refine Rn 5 ?_;refine Cm (d8 y2 d1.here) fun x2 => ?_;refine Rn 8 ?_;refine Cm (dC y3 d1.wayGone) fun x3 => ?_;refine Rn 11 ?_;refine Cm (d8 y4 d1.wayHere) fun x4 => ?_;refine Ra 12 rfl Qp ?_;refine Rn 13 ?_;refine Wa ?_;refine Re0 ?_;(repeat refine er ?_);have hf := Ri (lm.eq_1 d1);refine Rx ?_; exact Rr ⟨x1.1, x1.2, x2.1, x2.2, x3.1, x3.2, x4.1, x4.2⟩
def gE (a1 : Mail) (b1 : Mail) : Bool :=
 ((((((((((a1.kind == b1.kind) && (a1.who == b1.who)) && (a1.life == b1.life)) && (a1.seq == b1.seq)) && (a1.time == b1.time)) && (a1.version == b1.version)) && (a1.frm == b1.frm)) && decide (a1.o = b1.o)) && (go a1.v b1.v)) && (m0 a1.d b1.d))
theorem k5 (y1 : SlV) (y2 : SlV) (y3 : SlV) (y4 : SlV) (y5 : SlV) (y6 : SlV) (y7 : SlV) (a1 : Mail) (y8 : SlV) (y9 : SlV) (y10 : SlV) (y11 : SlV) (y12 : SlV) (y13 : SlV) (y14 : SlV) (b1 : Mail) : Du 114 [.agg ⟨cM y1 y2 y3 y4 y5 y6 y7 a1⟩, .agg ⟨cM y8 y9 y10 y11 y12 y13 y14 b1⟩] [RdL EInt y1 a1.v.roots, RdL EPlace y2 a1.v.known, RdL EPlace y3 a1.v.way, RdL EInt y4 a1.d.gone, RdL EPlace y5 a1.d.here, RdL EInt y6 a1.d.wayGone, RdL EPlace y7 a1.d.wayHere, RdL EInt y8 b1.v.roots, RdL EPlace y9 b1.v.known, RdL EPlace y10 b1.v.way, RdL EInt y11 b1.d.gone, RdL EPlace y12 b1.d.here, RdL EInt y13 b1.d.wayGone, RdL EPlace y14 b1.d.wayHere] (.bool (gE a1 b1)) := by
 refine Dp Tryz.func114 fun C => ?_;refine Qc y1 8 fun hlen1 => ?_;refine Qc y2 24 fun hlen2 => ?_;refine Qc y3 24 fun hlen3 => ?_;refine Qc y4 8 fun hlen4 => ?_;refine Qc y5 24 fun hlen5 => ?_;refine Qc y6 8 fun hlen6 => ?_;refine Qc y7 24 fun hlen7 => ?_;refine Qc y8 8 fun hlen8 => ?_;refine Qc y9 24 fun hlen9 => ?_;refine Qc y10 24 fun hlen10 => ?_;refine Qc y11 8 fun hlen11 => ?_;refine Qc y12 24 fun hlen12 => ?_;refine Qc y13 8 fun hlen13 => ?_;refine Qc y14 24 fun hlen14 => ?_;refine BxT fun g1 => ?_;refine BxT fun g2 => ?_;refine Tx ?_;refine Sg Gz (q_eqE tC (lI a1.o b1.o) rfl rfl Bt rfl Bt rfl rfl) ?_;refine Cy (fun hG_ => pN y1 y2 y3 a1.v y8 y9 y10 b1.v) ?_;refine Cy (fun hG_ => tD y4 y5 y6 y7 a1.d y11 y12 y13 y14 b1.d) ?_;have hf := Ri (gE.eq_1 a1 b1);exact Ru
def cr (m1 : Mail) : Int :=
 (bif (decide (m1.kind < 1) || decide (m1.kind > 3)) then 4 else (bif (decide (m1.who < 0) || decide (m1.who ≥ 3)) then 5 else (bif (m1.kind == 1) then (bif (!(gE m1 (⟨m1.kind, m1.who, 0, 0, 0, 0, 0, m1.o, (⟨[], [], []⟩ : View), (⟨[], [], [], []⟩ : Delta)⟩ : Mail))) then 4 else (bif (m1.o.who != m1.who) then 4 else (dv m1.o))) else (bif (m1.kind == 2) then (bif (!(gE m1 (⟨m1.kind, m1.who, m1.life, m1.seq, m1.time, m1.version, 0, (⟨0, 0, 0, 0, 0, 0, 0⟩ : Op), m1.v, (⟨[], [], [], []⟩ : Delta)⟩ : Mail))) then 4 else (bif (((((((((decide (m1.life < 1) || decide (m1.life > 50)) || decide (m1.seq < 0)) || decide (m1.seq > 30)) || decide (m1.time < 0)) || decide (m1.time > 10000)) || decide (m1.version < 1)) || decide (m1.version > 60)) || decide (m1.frm < 0)) || decide (m1.frm ≥ m1.version)) then 3 else (cn m1.v))) else (bif (m1.kind == 3) then (bif (!(gE m1 (⟨m1.kind, m1.who, m1.life, m1.seq, m1.time, m1.version, m1.frm, (⟨0, 0, 0, 0, 0, 0, 0⟩ : Op), (⟨[], [], []⟩ : View), m1.d⟩ : Mail))) then 4 else (bif (((((((((decide (m1.life < 1) || decide (m1.life > 50)) || decide (m1.seq < 0)) || decide (m1.seq > 30)) || decide (m1.time < 0)) || decide (m1.time > 10000)) || decide (m1.version < 1)) || decide (m1.version > 60)) || decide (m1.frm < 0)) || decide (m1.frm ≥ m1.version)) then 3 else (dk m1.d))) else (bif (!(gE m1 (⟨m1.kind, m1.who, 0, 0, 0, 0, 0, (⟨0, 0, 0, 0, 0, 0, 0⟩ : Op), (⟨[], [], []⟩ : View), (⟨[], [], [], []⟩ : Delta)⟩ : Mail))) then 4 else (bif (((((((((decide (m1.life < 1) || decide (m1.life > 50)) || decide (m1.seq < 0)) || decide (m1.seq > 30)) || decide (m1.time < 0)) || decide (m1.time > 10000)) || decide (m1.version < 1)) || decide (m1.version > 60)) || decide (m1.frm < 0)) || decide (m1.frm ≥ m1.version)) then 3 else (dk m1.d))))))))
theorem ua (y1 : SlV) (y2 : SlV) (y3 : SlV) (y4 : SlV) (y5 : SlV) (y6 : SlV) (y7 : SlV) (m1 : Mail) : Du 106 [.agg ⟨cM y1 y2 y3 y4 y5 y6 y7 m1⟩] [RdL EInt y1 m1.v.roots, RdL EPlace y2 m1.v.known, RdL EPlace y3 m1.v.way, RdL EInt y4 m1.d.gone, RdL EPlace y5 m1.d.here, RdL EInt y6 m1.d.wayGone, RdL EPlace y7 m1.d.wayHere] (.int .i64 (cr m1)) := by
 refine Dp Tryz.func106 fun C => ?_;refine Qc y1 8 fun hlen1 => ?_;refine Qc y2 24 fun hlen2 => ?_;refine Qc y3 24 fun hlen3 => ?_;refine Qc y4 8 fun hlen4 => ?_;refine Qc y5 24 fun hlen5 => ?_;refine Qc y6 8 fun hlen6 => ?_;refine Qc y7 24 fun hlen7 => ?_;refine BxT fun g1 => ?_;have hf := Ri (cr.eq_1 m1);refine Kh hf fun hc1 hf => ?_;refine Kh hf fun hc2 hf => ?_;refine AlT fun g2 => ?_;refine Ce hf (fun hc3 hc3p hf => ?_) fun hc3 hc3p hf => ?_
 ·refine Tx ?_;refine Wp ?_;refine Tx ?_;refine Fr EInt ?_;refine Fr EPlace ?_;refine Ck (k5 y1 y2 y3 y4 y5 y6 y7 m1 Z0 Z0 Z0 Z0 Z0 Z0 Z0 (⟨m1.kind, m1.who, 0, 0, 0, 0, 0, m1.o, (⟨[], [], []⟩ : View), (⟨[], [], [], []⟩ : Delta)⟩ : Mail)) fun _ => ?_;refine Kh hf fun hc4 hf => ?_;refine Cd' (fun hc5 => ?_) fun hc5 => ?_
  ·refine Kn hf fun hc6 hc6p hf => ?_;refine Ck (fW m1.o) fun _ => ?_;exact Ru
  ·exact Bool.noConfusion (hc5.symm.trans hc3)
 ·refine Ce hf (fun hc7 hc7p hf => ?_) fun hc7 hc7p hf => ?_
  ·refine Rg [(11,some [g2]),(13,some [g2]),(15,some [g2]),(17,some [g2]),(19,some [g2])] ?_;refine Dx [0,1] ?_;refine Rq (Fa 2 [4,5,6,7,8,9,10,11]) (.drop Sa) Xv ?_;refine Rq (Fa 3 [4,5,6,7,8,9,10,11]) (.drop Sa) (q_ld1 rfl rfl Zf rfl Mm rfl) ?_;refine Rq (Fa 4 [6,7,8,9,10,11,12,13]) (.drop Sa) Xv ?_;refine Rq (Fa 5 [6,7,8,9,10,11,12,13]) (.drop Sa) (q_ld1 rfl rfl Zf rfl Mm rfl) ?_;refine Rq (Fa 6 [8,9,10,11,12,13,14,15]) (.drop Sa) Xv ?_;refine Rq (Fa 7 [8,9,10,11,12,13,14,15]) (.drop Sa) (q_ld1 rfl rfl Zf rfl Mm rfl) ?_;refine Rq (Fa 8 [10,11,12,13,14,15,16,17]) (.drop Sa) Xv ?_;refine Rq (Fa 9 [10,11,12,13,14,15,16,17]) (.drop Sa) (q_ldP rfl rfl Zf rfl Mm rfl) ?_;refine Ra 10 rfl Qp ?_;refine Rn 11 ?_;refine W1 ?_;refine Ra 12 rfl Qp ?_;refine Rn 13 ?_;refine W1 ?_;refine Ra 14 rfl Qp ?_;refine Rn 15 ?_;refine W1 ?_;refine Ra 16 rfl Qp ?_;refine Rn 17 ?_;refine W1 ?_;refine Ra 18 rfl Qp ?_;refine Rn 19 ?_;refine Wp ?_;refine Re0 ?_;refine Tx ?_;refine Fr EInt ?_;refine Fr EPlace ?_
   refine Ck (k5 y1 y2 y3 y4 y5 y6 y7 m1 y1 y2 y3 Z0 Z0 Z0 Z0 (⟨m1.kind, m1.who, m1.life, m1.seq, m1.time, m1.version, 0, (⟨0, 0, 0, 0, 0, 0, 0⟩ : Op), m1.v, (⟨[], [], [], []⟩ : Delta)⟩ : Mail)) fun _ => ?_;refine Kh hf fun hc8 hf => ?_;refine Cd' (fun hc9 => ?_) fun hc9 => ?_
   ·exact Bool.noConfusion (hc9.symm.trans hc3)
   ·refine Kh hf fun hc10 hf => ?_;refine Cd' (fun hc11 => ?_) fun hc11 => ?_
    ·refine Ck (il y1 y2 y3 m1.v) fun _ => ?_;exact Ru
    ·exact Bool.noConfusion (hc11.symm.trans hc7)
  ·refine Ce hf (fun hc12 hc12p hf => ?_) fun hc12 hc12p hf => ?_
   ·refine Rg [(13,some [g2]),(15,some [g2]),(17,some [g2]),(19,some [g2]),(21,some [g2]),(23,some [g2])] ?_;refine Dx [0,1] ?_;refine Rq (Fa 2 [4,5,6,7,8,9,10,11,12,13]) (.drop Sa) Xv ?_;refine Rq (Fa 3 [4,5,6,7,8,9,10,11,12,13]) (.drop Sa) (q_ld1 rfl rfl Zf rfl Mm rfl) ?_;refine Rq (Fa 4 [6,7,8,9,10,11,12,13,14,15]) (.drop Sa) Xv ?_;refine Rq (Fa 5 [6,7,8,9,10,11,12,13,14,15]) (.drop Sa) (q_ld1 rfl rfl Zf rfl Mm rfl) ?_;refine Rq (Fa 6 [8,9,10,11,12,13,14,15,16,17]) (.drop Sa) Xv ?_;refine Rq (Fa 7 [8,9,10,11,12,13,14,15,16,17]) (.drop Sa) (q_ld1 rfl rfl Zf rfl Mm rfl) ?_;refine Rq (Fa 8 [10,11,12,13,14,15,16,17,18,19]) (.drop Sa) Xv ?_;refine Rq (Fa 9 [10,11,12,13,14,15,16,17,18,19]) (.drop Sa) (q_ld1 rfl rfl Zf rfl Mm rfl) ?_;refine Rq (Fa 10 [12,13,14,15,16,17,18,19,20,21]) (.drop Sa) Xv ?_;refine Rq (Fa 11 [12,13,14,15,16,17,18,19,20,21]) (.drop Sa) (q_ldP rfl rfl Zf rfl Mm rfl) ?_;refine Ra 12 rfl Qp ?_;refine Rn 13 ?_;refine W1 ?_;refine Ra 14 rfl Qp ?_;refine Rn 15 ?_;refine W1 ?_;refine Ra 16 rfl Qp ?_;refine Rn 17 ?_;refine W1 ?_;refine Ra 18 rfl Qp ?_;refine Rn 19 ?_;refine W1 ?_;refine Ra 20 rfl Qp ?_;refine Rn 21 ?_;refine W1 ?_;refine Ra 22 rfl Qp ?_;refine Rn 23 ?_
    refine Wp ?_;refine Re0 ?_;refine Tx ?_;refine Fr EInt ?_;refine Fr EPlace ?_;refine Ck (k5 y1 y2 y3 y4 y5 y6 y7 m1 Z0 Z0 Z0 y4 y5 y6 y7 (⟨m1.kind, m1.who, m1.life, m1.seq, m1.time, m1.version, m1.frm, (⟨0, 0, 0, 0, 0, 0, 0⟩ : Op), (⟨[], [], []⟩ : View), m1.d⟩ : Mail)) fun _ => ?_;refine Kh hf fun hc13 hf => ?_;refine Cd' (fun hc14 => ?_) fun hc14 => ?_
    ·exact Bool.noConfusion (hc14.symm.trans hc3)
    ·refine Kh hf fun hc15 hf => ?_;refine Cd' (fun hc16 => ?_) fun hc16 => ?_
     ·exact Bool.noConfusion (hc16.symm.trans hc7)
     ·refine Ck (kW y4 y5 y6 y7 m1.d) fun _ => ?_;exact Ru
   ·refine Tx ?_;refine Fr EInt ?_;refine Fr EPlace ?_;refine Ck (k5 y1 y2 y3 y4 y5 y6 y7 m1 Z0 Z0 Z0 Z0 Z0 Z0 Z0 (⟨m1.kind, m1.who, 0, 0, 0, 0, 0, (⟨0, 0, 0, 0, 0, 0, 0⟩ : Op), (⟨[], [], []⟩ : View), (⟨[], [], [], []⟩ : Delta)⟩ : Mail)) fun _ => ?_;refine Kh hf fun hc17 hf => ?_;refine Cd' (fun hc18 => ?_) fun hc18 => ?_
    ·exact Bool.noConfusion (hc18.symm.trans hc3)
    ·refine Kh hf fun hc19 hf => ?_;refine Cd' (fun hc20 => ?_) fun hc20 => ?_
     ·exact Bool.noConfusion (hc20.symm.trans hc7)
     ·refine Ck (kW y4 y5 y6 y7 m1.d) fun _ => ?_;exact Ru
def gg  : List Mail → Int
 | [] => 0
 | pn1 :: rn1 => (bif ((cr pn1) != 0) then (cr pn1) else (gg rn1))
def cx (l1 : List Mail) : Int :=
 (bif decide ((l1.length : Int) > 30) then 2 else (gg l1))
theorem jw (y1 : SlV) (l1 : List Mail) : Du 62 [y1.val l1.length] [RdN NMail y1 l1] (.int .i64 (cx l1)) := by
 refine Dp Tryz.func62 fun C => ?_;refine Qn y1 280 fun hlen1 => ?_;have hf := Ri (cx.eq_1 l1);refine Kp hf fun hc1 hc1p hf => ?_;refine Lq Nat [2,9,10] [] (fun n1 => ⟨[(11, .v (.int .i64 (n1 : Int)))], [], [], [], (n1 ≤ l1.length) ∧ (gg (l1.drop n1)) = (cx l1), l1.length - n1⟩) 0 ⟨N0, hf.symm⟩ ?_;rintro n1 ⟨hkn1, hf1⟩;simp only [Lc];refine Cu (fun hlt0 => ?_) fun hge0 => ?_
 ·refine Tx ?_;refine Ex NMail y1 fun (γ1 : Nat → SlV × SlV × SlV × SlV × SlV × SlV × SlV) => ?_;refine Sq (Xn n1) ?_;refine Sq (Xe (cM (γ1 n1).1 (γ1 n1).2.1 (γ1 n1).2.2.1 (γ1 n1).2.2.2.1 (γ1 n1).2.2.2.2.1 (γ1 n1).2.2.2.2.2.1 (γ1 n1).2.2.2.2.2.2 (gt l1 n1))) ?_;refine Gg NMail γ1 n1 0 ?_;refine Gg NMail γ1 n1 1 ?_;refine Gg NMail γ1 n1 2 ?_;refine Gg NMail γ1 n1 3 ?_;refine Gg NMail γ1 n1 4 ?_;refine Gg NMail γ1 n1 5 ?_;refine Gg NMail γ1 n1 6 ?_;refine AlT fun g1 => ?_;refine Ck (ua (γ1 n1).1 (γ1 n1).2.1 (γ1 n1).2.2.1 (γ1 n1).2.2.2.1 (γ1 n1).2.2.2.2.1 (γ1 n1).2.2.2.2.2.1 (γ1 n1).2.2.2.2.2.2 (gt l1 n1)) fun _ => ?_;have hf := Ri hf1.symm;rw [aK hlt0, gg] at hf;refine Kn hf fun hc3 hc3p hf => ?_;refine Tt ?_;refine ⟨(n1 + 1), ⟨hlt0, hf.symm⟩, Oo, Le4⟩
 ·have hf := Ri hf1.symm;rw [Dl hge0, gg] at hf;exact Ru
theorem nh (x : SlV) (l : List (NMail.G × Mail)) : Dv 130 [x.val l.length] [RdL NMail.E x l] ⟨[], []⟩ (fun (X : SlV × Option Nat) => X.1.val l.length) (fun _ => []) (fun X => ⟨[], [ownL NMail.E 108 X.1 X.2 l]⟩) := by
 refine Dq Tryz.func130 fun C => ?_;refine e8 (φ := l.length * NMail.E.by_ ≤ 140737488355328) [RdL NMail.E x l] Sm (fun M w h => (allF1 h).len) fun hlen => ?_;refine Sy Tz (nl rfl rfl Zf rfl) ?_;refine eF ?_;(repeat refine er ?_); refine kX rfl rfl (fun hc0 => ?_) (fun hc0 => ?_)
 ·refine e8 [RdL NMail.E x l] Sm (fun M w h => (allF1 h).nil_of hc0) fun hnil => ?_;subst hnil;refine cw_le (eI NMail.E 108) ?_;refine Tx ?_;refine Tr ?_; exact Rr (⟨none, 0⟩, none)
 ·refine Bl NMail.E [] fun x1 x1b => ?_;refine Rp rfl rfl rfl rfl ?_;refine kq NMail.E [] l (b := x1b) .sq (fun _ _ => .inl ⟨_, rfl⟩) (au rfl) rfl rfl rfl rfl rfl rfl rfl (fun _ _ => Uo) rfl rfl rfl rfl rfl rfl rfl (oH Mm) (by simpa using hlen) fun x2 x2b => ?_;refine Tx ?_;refine Tr ?_; exact Rr (x2, x2b)
theorem ol (x : SlV) (γ : Nat → NMail.G) (l : List Mail) : Dv 130 [x.val l.length] [RdG NMail x γ l] ⟨[], []⟩ (fun (X : SlV × Option Nat) => X.1.val l.length) (fun _ => []) (fun X => ⟨[], [ownL NMail.E 108 X.1 X.2 (zipG γ 0 l)]⟩) := by
 have := nh x (zipG γ 0 l);rw [dL] at this;exact this
def hZ  : List Mail → Nat → (List Mail) → (List Mail)
 | [], n1, l2 => l2
 | pn1 :: rn1, n1, l2 => (hZ rn1 (n1 + 1) (l2.set n1 (gt l2 n1)))
def j3 (l1 : List Mail) : List Mail :=
 (hZ l1 0 l1)
theorem u7 (y1 : SlV) (l1 : List Mail) : Dv 82 [y1.val l1.length] [RdN NMail y1 l1] ⟨[], []⟩ (fun (X : SlV × Option Nat × (Nat → SlV × SlV × SlV × SlV × SlV × SlV × SlV)) => X.1.val (j3 l1).length) (fun X => [FactsG NMail X.2.2 (j3 l1)]) (fun X => ⟨[], [ownL NMail.E 108 X.1 X.2.1 (zipG X.2.2 0 (j3 l1))]⟩) := by
 refine Dq Tryz.func82 fun C => ?_;refine Qn y1 280 fun hlen1 => ?_;refine Tx ?_;refine Ex NMail y1 fun (γ1 : Nat → SlV × SlV × SlV × SlV × SlV × SlV × SlV) => ?_;refine Cm (ol y1 γ1 l1) fun x1 => ?_;refine Lq (List Mail × (Nat → SlV × SlV × SlV × SlV × SlV × SlV × SlV) × Nat) [2,8] [] (fun ⟨l2, γ2, n1⟩ => ⟨[(0, .v (x1.1.val l2.length)), (7, .v (x1.1.val l2.length)), (9, .v (.int .i64 (n1 : Int)))], [], [ownL NMail.E 108 x1.1 x1.2 (zipG γ2 0 l2)], [FactsG NMail γ2 l2], (n1 ≤ l1.length) ∧ (l2.length = l1.length) ∧ (hZ (l1.drop n1) n1 l2) = (j3 l1), l1.length - n1⟩) ⟨l1, γ1, 0⟩ ⟨N0, rfl, (by simp only [j3, Cf, D0])⟩ ?_;rintro ⟨l2, γ2, n1⟩ ⟨hkn1, hll, hf1⟩;simp only [Lc];refine Cu (fun hlt0 => ?_) fun hge0 => ?_
 ·refine Tx ?_;refine Oq NMail.E x1.1 (zipG γ2 0 l2) .sq (nR NMail γ2 n1 rfl rfl Zf rfl Zf rfl rfl rfl (.head _) rfl Zf Za) ?_;refine Oq NMail.E x1.1 (zipG γ2 0 l2) .sq (Xe (cM (γ2 n1).1 (γ2 n1).2.1 (γ2 n1).2.2.1 (γ2 n1).2.2.2.1 (γ2 n1).2.2.2.2.1 (γ2 n1).2.2.2.2.2.1 (γ2 n1).2.2.2.2.2.2 (gt l2 n1))) ?_;refine Gg NMail γ2 n1 0 ?_;refine Gg NMail γ2 n1 1 ?_;refine Gg NMail γ2 n1 2 ?_;refine Gg NMail γ2 n1 3 ?_;refine Gg NMail γ2 n1 4 ?_;refine Gg NMail γ2 n1 5 ?_;refine Gg NMail γ2 n1 6 ?_;refine AlT fun g1 => ?_;refine Rg [(12,some x1.2.toList),(15,some x1.2.toList)] ?_;refine Dx [0,1] ?_;refine Rq (Fa 2 [3,4,5,6,7,8,9,10,11,12]) Sa Xv ?_;refine Rq (Fa 3 [4,5,6,7,8,9,10,11,12]) Sa Xv ?_;refine Dx [4,5,7,8] ?_;refine Rn 6 ?_;refine Cm (jx (γ2 n1).1 (γ2 n1).2.1 (γ2 n1).2.2.1 (gt l2 n1).v) fun x4 => ?_;refine Rn 9 ?_;refine Cm (oZ (γ2 n1).2.2.2.1 (γ2 n1).2.2.2.2.1 (γ2 n1).2.2.2.2.2.1 (γ2 n1).2.2.2.2.2.2 (gt l2 n1).d) fun x5 => ?_;refine Oq NMail.E x1.1 (zipG γ2 0 l2) (Fb 10 []) (nR NMail γ2 n1 rfl rfl Zf rfl Zf rfl rfl rfl (.head _) rfl Zf Za) ?_;refine Ra 11 rfl Xf ?_;refine Rn 12 ?_;refine Fx x4.1 ?_;refine Fx x4.2.2.1 ?_;refine Fx x4.2.2.2.2.1 ?_
  refine Wn NMail γ2 l2 n1 14 (x4.1, x4.2.2.1, x4.2.2.2.2.1, (γ2 n1).2.2.2.1, (γ2 n1).2.2.2.2.1, (γ2 n1).2.2.2.2.2.1, (γ2 n1).2.2.2.2.2.2) (gt l2 n1) x1.2 ?_;refine Gg NMail γ2 n1 3 ?_;refine Gg NMail γ2 n1 4 ?_;refine Gg NMail γ2 n1 5 ?_;refine Gg NMail γ2 n1 6 ?_;refine Fu NMail γ2 l2 n1 (x4.1, x4.2.2.1, x4.2.2.2.2.1, (γ2 n1).2.2.2.1, (γ2 n1).2.2.2.2.1, (γ2 n1).2.2.2.2.2.1, (γ2 n1).2.2.2.2.2.2) (gt l2 n1) ?_;have hv1 : x1.1.val l2.length = x1.1.val (l2.set n1 (gt l2 n1)).length := congrArg (SlV.val x1.1) List.length_set.symm;try rw [hv1]
  refine Oq NMail.E x1.1 (zipG (updG γ2 n1 (x4.1, x4.2.2.1, x4.2.2.2.2.1, (γ2 n1).2.2.2.1, (γ2 n1).2.2.2.2.1, (γ2 n1).2.2.2.2.2.1, (γ2 n1).2.2.2.2.2.2)) 0 (l2.set n1 (gt l2 n1))) (Fb 13 []) (nR NMail (updG γ2 n1 (x4.1, x4.2.2.1, x4.2.2.2.2.1, (γ2 n1).2.2.2.1, (γ2 n1).2.2.2.2.1, (γ2 n1).2.2.2.2.2.1, (γ2 n1).2.2.2.2.2.2)) n1 rfl rfl Zf rfl Zf rfl rfl rfl (.head _) rfl Zf Za) ?_;refine Ra 14 rfl Xf ?_;refine Rn 15 ?_;refine Fx x5.1 ?_;refine Fx x5.2.2.1 ?_;refine Fx x5.2.2.2.2.1 ?_;refine Fx x5.2.2.2.2.2.2.1 ?_;refine yc NMail γ2 l2 n1 17 (x4.1, x4.2.2.1, x4.2.2.2.2.1, (γ2 n1).2.2.2.1, (γ2 n1).2.2.2.2.1, (γ2 n1).2.2.2.2.2.1, (γ2 n1).2.2.2.2.2.2) (gt l2 n1) (x4.1, x4.2.2.1, x4.2.2.2.2.1, x5.1, x5.2.2.1, x5.2.2.2.2.1, x5.2.2.2.2.2.2.1) (gt l2 n1) (e := 108) (X := x1.1) (b := x1.2) (.an rfl rfl) (.inr (fun g h => by simp [h])) (au rfl) rfl rfl rfl rfl rfl rfl rfl rfl rfl rfl rfl Zb rfl Uo ?_;refine Fu NMail γ2 l2 n1 (x4.1, x4.2.2.1, x4.2.2.2.2.1, x5.1, x5.2.2.1, x5.2.2.2.2.1, x5.2.2.2.2.2.2.1) (gt l2 n1) ?_;refine Re0 ?_;refine Tt ?_
  refine ⟨⟨(l2.set n1 (gt l2 n1)), (updG γ2 n1 (x4.1, x4.2.2.1, x4.2.2.2.2.1, x5.1, x5.2.2.1, x5.2.2.2.2.1, x5.2.2.2.2.2.2.1)), (n1 + 1)⟩, ⟨hlt0, (by (try simp only [List.length_set]); omega), (by rw [← hf1, aK hlt0]; simp only [hZ, Cf, D0])⟩, Oo, Le4⟩
 ·have hf := Ri hf1.symm;rw [Dl hge0, hZ] at hf;refine Rx ?_; exact Rr ⟨x1.1, x1.2, γ2⟩
theorem pM : ∀ (r : List Mail) (n : Nat) (l : List Mail), hZ r n l = l
 | [], _, _ => rfl
 | _ :: r, n, l => by
  have : l.set n (gt l n) = l := by
   by_cases h : n < l.length
   ·rw [gt_eq h]; exact List.set_getElem_self h
   ·exact List.set_eq_of_length_le (Nat.le_of_not_lt h)
  rw [hZ, this]; exact pM r (n + 1) l
theorem sN (l : List Mail) : j3 l = l := pM l 0 l
theorem kw (y1 : SlV) (l1 : List Mail) : Dv 82 [y1.val l1.length] [RdN NMail y1 l1] ⟨[], []⟩ (fun (X : SlV × Option Nat × (Nat → SlV × SlV × SlV × SlV × SlV × SlV × SlV)) => X.1.val l1.length) (fun X => [FactsG NMail X.2.2 l1]) (fun X => ⟨[], [ownL NMail.E 108 X.1 X.2.1 (zipG X.2.2 0 l1)]⟩) := by
 have := u7 y1 l1;rw [sN] at this;exact this
def jY (l1 : List Mail) (m1 : Mail) : (List Mail) × Int :=
 (bif decide ((l1.length : Int) < 30) then ((l1 ++ [m1]), 0) else (l1, 0))
def jZ (l1 : List Mail) (m1 : Mail) : (List Mail) × Int :=
 (bif ((cx [m1]) != 0) then (([] : List Mail), (cx [m1])) else (jY l1 m1))
def j0 (l1 : List Mail) (m1 : Mail) : (List Mail) × Int :=
 (bif ((cx l1) != 0) then (([] : List Mail), (cx l1)) else (jZ l1 m1))
def jD (l1 : List Mail) (m1 : Mail) : (List Mail) × Int :=
 (j0 l1 m1)
theorem u5 (y1 : SlV) (l1 : List Mail) (y2 : SlV) (y3 : SlV) (y4 : SlV) (y5 : SlV) (y6 : SlV) (y7 : SlV) (y8 : SlV) (m1 : Mail) : Dw 179 [y1.val l1.length, .agg ⟨cM y2 y3 y4 y5 y6 y7 y8 m1⟩] [RdN NMail y1 l1, RdL EInt y2 m1.v.roots, RdL EPlace y3 m1.v.known, RdL EPlace y4 m1.v.way, RdL EInt y5 m1.d.gone, RdL EPlace y6 m1.d.here, RdL EInt y7 m1.d.wayGone, RdL EPlace y8 m1.d.wayHere] (fun (X : SlV) => .tuple #[X.val (jD l1 m1).1.length, .int .i64 (jD l1 m1).2]) (fun X => [RdN NMail X (jD l1 m1).1]) := by
 refine Dp Tryz.func179 fun C => ?_;refine Qn y1 280 fun hlen1 => ?_;refine Qc y2 8 fun hlen2 => ?_;refine Qc y3 24 fun hlen3 => ?_;refine Qc y4 24 fun hlen4 => ?_;refine Qc y5 8 fun hlen5 => ?_;refine Qc y6 24 fun hlen6 => ?_;refine Qc y7 8 fun hlen7 => ?_;refine Qc y8 24 fun hlen8 => ?_;refine BxT fun g1 => ?_;refine Bl NMail.E [((y2, y3, y4, y5, y6, y7, y8), m1)] (hfill := kO rfl rfl) fun x1 x1b => ?_;refine Sq (po rfl rfl Zf rfl rfl rfl rfl) ?_;refine Tx ?_;refine Fz x1 ?_;refine o0 (F := RdN NMail x1 [m1]) [RdL NMail.E x1 [((y2, y3, y4, y5, y6, y7, y8), m1)], RdL EInt y2 m1.v.roots, RdL EPlace y3 m1.v.known, RdL EPlace y4 m1.v.way, RdL EInt y5 m1.d.gone, RdL EPlace y6 m1.d.here, RdL EInt y7 m1.d.wayGone, RdL EPlace y8 m1.d.wayHere] Sm (fun M w h => RdN.of NMail (hs := [((y2, y3, y4, y5, y6, y7, y8), m1)]) rfl (h _ (.head _)) (bn (pD Sm h) (fun p hp => by cases hp))) ?_;refine Lq Nat [0,3,4,5,12] [true] (fun n1 => ⟨[(13, .v (.int .i64 (n1 : Int)))], [], [], [], (n1 ≤ 2) ∧ (match n1 with | 0 => (j0 l1 m1) | 1 => (jZ l1 m1) | _ => (jY l1 m1)) = (jD l1 m1), 2 - n1⟩) 0 ⟨N0, (by simp only [jD, Cf, D0])⟩ ?_;rintro n1 ⟨hkn1, hf1⟩;simp only [Lc]
 have hkn13 : n1 = 0 ∨ n1 = 1 ∨ n1 = 2 := by omega
 rcases hkn13 with rfl | rfl | rfl
 ·have hf1 : (j0 l1 m1) = (jD l1 m1) := hf1;refine Cd' (fun hc1 => ?_) fun hc1 => ?_
  ·refine Sy Tz (q_ixL 0 rfl rfl Zf rfl Zf rfl rfl rfl rfl rfl) ?_;refine Ck (jw y1 l1) fun _ => ?_;have hf := Ri hf1.symm;rw [j0] at hf;refine Cn hf (fun hc2 hc2p hf => ?_) fun hc2 hc2p hf => ?_
   ·refine Tx ?_;refine Ft NMail ?_;refine Rx ?_; exact Re Z0 (Vt (Vt Vn))
   ·refine Tt ?_;refine ⟨1, ⟨by omega, hf.symm⟩, (show 2 - 1 < 2 - 0 by decide), Le4⟩
  ·exact Bool.noConfusion (hc1.symm.trans (decide_eq_true (by decide)))
 ·have hf1 : (jZ l1 m1) = (jD l1 m1) := hf1;refine Cd' (fun hc3 => ?_) fun hc3 => ?_
  ·refine Sy Tz (q_ixL 1 rfl rfl Zf rfl Zf rfl rfl rfl rfl rfl) ?_;refine Ck (jw x1 [m1]) fun _ => ?_;have hf := Ri hf1.symm;rw [jZ] at hf;refine Cn hf (fun hc4 hc4p hf => ?_) fun hc4 hc4p hf => ?_
   ·refine Tx ?_;refine Ft NMail ?_;refine Rx ?_; exact Re Z0 (Vt (Vt Vn))
   ·refine Tt ?_;refine ⟨2, ⟨by omega, hf.symm⟩, (show 2 - 2 < 2 - 1 by decide), Le4⟩
  ·exact Bool.noConfusion (hc3.symm.trans (decide_eq_true (by decide)))
 ·have hf1 : (jY l1 m1) = (jD l1 m1) := hf1;refine Cd' (fun hc5 => ?_) fun hc5 => ?_
  ·exact Bool.noConfusion (hc5.symm.trans (decide_eq_false (by decide)))
  ·refine Cm (kw y1 l1) fun x2 => ?_;have hf := Ri hf1.symm;rw [jY] at hf;refine Cp hf (fun hc6 hc6p hf => ?_) fun hc6 hc6p hf => ?_
   ·refine Bl NMail.E [((y2, y3, y4, y5, y6, y7, y8), m1)] (hfill := kO rfl rfl) fun x3 x3b => ?_;refine Fx x3 ?_;refine Ns NMail x3 [m1] ?_;refine Cm (kw x3 [m1]) fun x4 => ?_;refine jS NMail x2.2.2 x4.2.2 l1 [m1] (b := x2.2.1) .sq (fun _ _ => .inl ⟨_, rfl⟩) (au rfl) rfl rfl rfl rfl rfl rfl rfl (fun _ _ => Uo) rfl rfl rfl rfl rfl rfl rfl (uq (e := 108) (b := x4.2.1) Mm) (by have h30 : l1.length < 30 := (by omega); exact Nat.le_trans (Nat.mul_le_mul_right 280 (Nat.succ_le_succ (Nat.le_of_lt h30))) (by decide)) fun x5 x5b => ?_;refine Fp' NMail x2.2.2 x4.2.2 ?_;refine Tx ?_;refine Fz x5 ?_;refine Fj NMail x5 (appG x2.2.2 l1.length x4.2.2) (l1 ++ [m1]) ?_;refine Rx ?_; exact Rr x5
   ·refine Tx ?_;refine Fz x2.1 ?_;refine Fj NMail x2.1 x2.2.2 l1 ?_;refine Rx ?_; exact Rr x2.1
def cg (s2 : List Mail) (eq1 : Mail → Mail → Bool) : List Mail → Nat → Bool
 | [], n1 => true
 | pn1 :: rn1, n1 => (bif (!(eq1 pn1 (gt s2 n1))) then false else (cg s2 eq1 rn1 (n1 + 1)))
def dZ (s1 : List Mail) (s2 : List Mail) (eq1 : Mail → Mail → Bool) : Bool :=
 (bif ((s1.length : Int) != (s2.length : Int)) then false else (cg s2 eq1 s1 0))
theorem lS (y1 : SlV) (s1 : List Mail) (y2 : SlV) (s2 : List Mail) (f1 : Nat) (caps1 : List Value) (pre1 : List Pred) [StabL pre1] (eq1 : Mail → Mail → Bool) (hfb1 : tab.fnb f1 = true) (hfn1 : ∀ (z0a_ : SlV) (z0b_ : SlV) (z0c_ : SlV) (z0d_ : SlV) (z0e_ : SlV) (z0f_ : SlV) (z0g_ : SlV) (a0_ : Mail) (z1a_ : SlV) (z1b_ : SlV) (z1c_ : SlV) (z1d_ : SlV) (z1e_ : SlV) (z1f_ : SlV) (z1g_ : SlV) (a1_ : Mail), Du f1 ([.agg ⟨cM z0a_ z0b_ z0c_ z0d_ z0e_ z0f_ z0g_ a0_⟩, .agg ⟨cM z1a_ z1b_ z1c_ z1d_ z1e_ z1f_ z1g_ a1_⟩] ++ caps1) (RdL EInt z0a_ a0_.v.roots :: RdL EPlace z0b_ a0_.v.known :: RdL EPlace z0c_ a0_.v.way :: RdL EInt z0d_ a0_.d.gone :: RdL EPlace z0e_ a0_.d.here :: RdL EInt z0f_ a0_.d.wayGone :: RdL EPlace z0g_ a0_.d.wayHere :: RdL EInt z1a_ a1_.v.roots :: RdL EPlace z1b_ a1_.v.known :: RdL EPlace z1c_ a1_.v.way :: RdL EInt z1d_ a1_.d.gone :: RdL EPlace z1e_ a1_.d.here :: RdL EInt z1f_ a1_.d.wayGone :: RdL EPlace z1g_ a1_.d.wayHere :: pre1) (.bool (eq1 a0_ a1_))) : Du 97 [y1.val s1.length, y2.val s2.length, .func (.func f1) #[] ⟨caps1⟩] (RdN NMail y1 s1 :: RdN NMail y2 s2 :: pre1) (.bool (dZ s1 s2 eq1)) := by
 refine Dp Tryz.func97 fun C => ?_;refine e8 (φ := s1.length * 280 ≤ 140737488355328) [RdN NMail y1 s1] Sf (fun M w h => (allF1 h).len) fun hlen1 => ?_;refine e8 (φ := s2.length * 280 ≤ 140737488355328) [RdN NMail y2 s2] Sf (fun M w h => (allF1 h).len) fun hlen2 => ?_;have hf := Ri (dZ.eq_1 s1 s2 eq1);refine Cn hf (fun hc1 hc1p hf => ?_) fun hc1 hc1p hf => ?_
 ·refine Tx ?_;refine f4 ?_;rw [hf.to];exact ⟨(), _, (.cons (.tmp rfl) .nil), rfl, Sf, .nil _, .nil _⟩
 ·refine Lq Nat [1,2,6,15,16] [] (fun n1 => ⟨[(17, .v (.int .i64 (n1 : Int)))], [], [], [], (n1 ≤ s1.length) ∧ (cg s2 eq1 (s1.drop n1) n1) = (dZ s1 s2 eq1), s1.length - n1⟩) 0 ⟨N0, hf.symm⟩ ?_;rintro n1 ⟨hkn1, hf1⟩;simp only [Lc];refine Cu (fun hlt0 => ?_) fun hge0 => ?_
  ·refine Tx ?_;refine Ex NMail y1 fun (γ1 : Nat → SlV × SlV × SlV × SlV × SlV × SlV × SlV) => ?_;refine Sq (Xn n1) ?_;refine Sq (Xe (cM (γ1 n1).1 (γ1 n1).2.1 (γ1 n1).2.2.1 (γ1 n1).2.2.2.1 (γ1 n1).2.2.2.2.1 (γ1 n1).2.2.2.2.2.1 (γ1 n1).2.2.2.2.2.2 (gt s1 n1))) ?_;refine Gg NMail γ1 n1 0 ?_;refine Gg NMail γ1 n1 1 ?_;refine Gg NMail γ1 n1 2 ?_;refine Gg NMail γ1 n1 3 ?_;refine Gg NMail γ1 n1 4 ?_;refine Gg NMail γ1 n1 5 ?_;refine Gg NMail γ1 n1 6 ?_;refine AlT fun g1 => ?_;refine Tx ?_;refine Ex NMail y2 fun (γ2 : Nat → SlV × SlV × SlV × SlV × SlV × SlV × SlV) => ?_;refine Sq (Xn n1) ?_;refine Sq (Xe (cM (γ2 n1).1 (γ2 n1).2.1 (γ2 n1).2.2.1 (γ2 n1).2.2.2.1 (γ2 n1).2.2.2.2.1 (γ2 n1).2.2.2.2.2.1 (γ2 n1).2.2.2.2.2.2 (gt s2 n1))) ?_;refine Gg NMail γ2 n1 0 ?_;refine Gg NMail γ2 n1 1 ?_;refine Gg NMail γ2 n1 2 ?_;refine Gg NMail γ2 n1 3 ?_;refine Gg NMail γ2 n1 4 ?_;refine Gg NMail γ2 n1 5 ?_;refine Gg NMail γ2 n1 6 ?_;refine AlT fun g2 => ?_
   refine Cv (hfn1 (γ1 n1).1 (γ1 n1).2.1 (γ1 n1).2.2.1 (γ1 n1).2.2.2.1 (γ1 n1).2.2.2.2.1 (γ1 n1).2.2.2.2.2.1 (γ1 n1).2.2.2.2.2.2 (gt s1 n1) (γ2 n1).1 (γ2 n1).2.1 (γ2 n1).2.2.1 (γ2 n1).2.2.2.1 (γ2 n1).2.2.2.2.1 (γ2 n1).2.2.2.2.2.1 (γ2 n1).2.2.2.2.2.2 (gt s2 n1)) (hf := by assumption) fun _ => ?_;have hf := Ri hf1.symm;rw [aK hlt0, cg] at hf;refine Ch hf (fun hc3 hf => ?_) fun hc3 hf => ?_
   ·refine Tx ?_;refine f4 ?_;rw [hf.to];exact ⟨(), _, (.cons (.tmp rfl) .nil), rfl, Sf, .nil _, .nil _⟩
   ·refine Tt ?_;refine ⟨(n1 + 1), ⟨hlt0, hf.symm⟩, Oo, Le5⟩
  ·refine Tx ?_;have hf := Ri hf1.symm;rw [Dl hge0, cg] at hf;refine f4 ?_;rw [hf.to];exact ⟨(), _, (.cons (.tmp rfl) .nil), rfl, Sf, .nil _, .nil _⟩
def qm (a1 : List Mail) (b1 : List Mail) : Bool :=
 (dZ a1 b1 gE)
theorem mE (X : SlV) (b : Option Nat) (l : List (NMail.G × Mail)) (i j : Nat) (hij : i ≤ j) (hj : j ≤ l.length) : Dv 136 [X.val l.length, .int .i64 (i : Int), .int .i64 (j : Int)] [] ⟨[], [ownL NMail.E 108 X b l]⟩ (fun (_ : Unit) => X.val (l.take i ++ l.drop j).length) (fun _ => []) (fun _ => ⟨[], [ownL NMail.E 108 X b (l.take i ++ l.drop j)]⟩) := by
 refine Dq Tryz.func136 fun C => ?_;refine DK NMail.E (e := 108) (X := X) (b := b) (l := l) Mm fun hcap => ?_;refine lK NMail.E (e := 108) (X := X) (b := b) (l := l) Mm fun hl63 hlby => ?_;have hlen : (l.take i ++ l.drop j).length = i + (l.length - j) := by simp; omega
 refine Sy Tz (q_sl3 (k0 := i) (h := j) (m := l.length) rfl rfl Zf rfl Zf rfl Zf rfl Zf rfl rfl Zf Zf Zf (fun _ => hij) (fun _ => hj) (fun _ => hcap.1)) ?_;refine Cd' (fun hc1 => ?_) fun hc1 => ?_
 ·have hc1p := eq_of_beq hc1;have hl1 : l.take i ++ l.drop j = l := by rw [show j = i by omega]; exact List.take_append_drop i l
  refine Tx ?_;refine f4 ?_;rw [hl1];exact ⟨(), _, (.cons (.tmp rfl) .nil), rfl, .nil _, .nil _, Sp⟩
 ·refine Tx ?_;(repeat refine er ?_); refine uL (fun k => match k with | 6 => some b.toList | _ => some []) ?_;refine Dx [0,1] ?_;refine Oq NMail.E X l (Fb 2 [3,4,5]) (z6 NMail.E (l := l) i rfl rfl Zf rfl Zf rfl rfl (.head _) Zf Zo) ?_;refine Dx [3,4] ?_;refine Rb 5 rfl (rS NMail.E (l := l) (X := X) j rfl rfl Zf rfl Zf rfl rfl Zf (fun _ => hj)) ?_;refine Rn 6 ?_;refine v5 NMail.E l i j (e := 108) (X := X) (b := b) (.an rfl rfl) (.inr (fun g h => by simp [h])) (au rfl) rfl rfl rfl rfl rfl rfl rfl rfl rfl hij hj Uo ?_;refine Ra 7 rfl Qp ?_;refine Re0 ?_;refine Sy Tz (CH (k0 := (l.take i ++ l.drop j).length) (h := l.length) rfl rfl Zf rfl Zf rfl Zf rfl rfl Zf Zf Zo (fun _ => hcap.1)) ?_;refine zT NMail.E (l.take i ++ l.drop j) l.length (e := 108) (X := X) (b := b) .sq (.inl ⟨_, rfl⟩) (au rfl) rfl rfl rfl rfl rfl rfl rfl rfl rfl rfl (by omega) hcap.1 Mm ?_;refine Tx ?_;refine f4 ?_;exact ⟨(), _, (.cons (.tmp rfl) .nil), rfl, .nil _, .nil _, Sp⟩
theorem ne (X : SlV) (b : Option Nat) (γ : Nat → NMail.G) (l : List Mail) (i j : Nat) (hij : i ≤ j) (hj : j ≤ l.length) : Dv 136 [X.val l.length, .int .i64 (i : Int), .int .i64 (j : Int)] [] ⟨[], [ownL NMail.E 108 X b (zipG γ 0 l)]⟩ (fun (_ : Unit) => X.val (l.take i ++ l.drop j).length) (fun _ => []) (fun _ => ⟨[], [ownL NMail.E 108 X b (zipG (appG γ i (dropG γ j)) 0 (l.take i ++ l.drop j))]⟩) := by
 have := mE X b (zipG γ 0 l) i j hij (by rw [dL]; exact hj);rw [Bu γ l i j (by omega), dL, dL] at this;exact this
theorem n9 (X : SlV) (b : Option Nat) (γ : Nat → NMail.G) (l : List Mail) (i j : Int) (h0 : 0 ≤ i) (hij : i ≤ j) (hj : j ≤ (l.length : Int)) : Dv 136 [X.val l.length, .int .i64 i, .int .i64 j] [] ⟨[], [ownL NMail.E 108 X b (zipG γ 0 l)]⟩ (fun (_ : Unit) => X.val (l.take i.toNat ++ l.drop j.toNat).length) (fun (_ : Unit) => []) (fun (_ : Unit) => ⟨[], [ownL NMail.E 108 X b (zipG (appG γ i.toNat (dropG γ j.toNat)) 0 (l.take i.toNat ++ l.drop j.toNat))]⟩) := by
 have := ne X b γ l i.toNat j.toNat (by omega) (by omega);rw [Int.toNat_of_nonneg h0, Int.toNat_of_nonneg (Int.le_trans h0 hij)] at this;exact this
theorem om (X : SlV) (b : Option Nat) (l : List (NMail.G × Mail)) (k h : Nat) (hk : k < h) (hh : h ≤ l.length) : Dv 130 [.slice (slA X.a X.c k NMail.E.esz) (h - k) (X.c - k)] [] ⟨[], [ownL NMail.E 108 X b l]⟩ (fun (Y : SlV × Option Nat) => Y.1.val ((l.drop k).take (h - k)).length) (fun (_ : SlV × Option Nat) => []) (fun (Y : SlV × Option Nat) => ⟨[], [ownL NMail.E 108 Y.1 Y.2 ((l.drop k).take (h - k)), ownL NMail.E 108 X b l]⟩) := by
 refine Dq Tryz.func130 fun C => ?_;have hl1 : ((l.drop k).take (h - k)).length = h - k := by simp; omega
 refine lK NMail.E (e := 108) (X := X) (b := b) (l := l) Mm fun hl63 hlby => ?_;refine BZ NMail.E (e := 108) (X := X) (b := b) (l := l) Mm (by omega) fun hsome => ?_;have hs2 : (slA X.a X.c k NMail.E.esz).isNone = false := BD hsome;refine Sy Tz (nl rfl rfl Zf rfl) ?_;refine eF ?_;(repeat refine er ?_); refine kX rfl rfl (fun hc0 => ?_) (fun hc0 => ?_)
 ·exact Bool.noConfusion (hs2.symm.trans hc0)
 ·refine Bl NMail.E [] fun x1 x1b => ?_;refine Rp rfl rfl rfl rfl ?_;refine kq NMail.E [] ((l.drop k).take (h - k)) (b := x1b) .sq (fun _ _ => .inl ⟨_, rfl⟩) (au rfl) rfl rfl rfl rfl rfl rfl rfl (fun _ _ => Uo) rfl rfl rfl rfl rfl rfl rfl (by rw [hl1]; exact za (e := 108) (X := X) (b := b) (by omega) hh Mm) (by rw [hl1]; exact Nat.le_trans (Nat.mul_le_mul_right _ (by simp; omega)) hlby) fun x2 x2b => ?_;refine Tx ?_;refine Tr ?_; exact Rr (x2, x2b)
theorem oG (X : SlV) (b : Option Nat) (γ : Nat → NMail.G) (l : List Mail) (k h : Nat) (hk : k < h) (hh : h ≤ l.length) : Dv 130 [.slice (slA X.a X.c k NMail.E.esz) (h - k) (X.c - k)] [] ⟨[], [ownL NMail.E 108 X b (zipG γ 0 l)]⟩ (fun (Y : SlV × Option Nat) => Y.1.val ((l.drop k).take (h - k)).length) (fun (_ : SlV × Option Nat) => []) (fun (Y : SlV × Option Nat) => ⟨[], [ownL NMail.E 108 Y.1 Y.2 (zipG (dropG γ k) 0 ((l.drop k).take (h - k))), ownL NMail.E 108 X b (zipG γ 0 l)]⟩) := by
 have := om X b (zipG γ 0 l) k h hk (by rw [dL]; exact hh);rw [Bv γ l k (h - k), dL] at this;exact this
theorem u9 (X0 : SlV) (b0 : Option Nat) (γ0 : Nat → SlV × SlV × SlV × SlV × SlV × SlV × SlV) (l0 : List Mail) (k0 h0 : Nat) (hk0 : k0 < h0) (hh0 : h0 ≤ l0.length) (l1 : List Mail) (hl1 : l1 = (l0.drop k0).take (h0 - k0)) : Dv 82 [.slice (slA X0.a X0.c k0 NMail.E.esz) (h0 - k0) (X0.c - k0)] [FactsG NMail γ0 l0] ⟨[], [ownL NMail.E 108 X0 b0 (zipG γ0 0 l0)]⟩ (fun (X : SlV × Option Nat × (Nat → SlV × SlV × SlV × SlV × SlV × SlV × SlV)) => X.1.val (j3 l1).length) (fun (X : SlV × Option Nat × (Nat → SlV × SlV × SlV × SlV × SlV × SlV × SlV)) => [FactsG NMail X.2.2 (j3 l1)]) (fun (X : SlV × Option Nat × (Nat → SlV × SlV × SlV × SlV × SlV × SlV × SlV)) => ⟨[], [ownL NMail.E 108 X.1 X.2.1 (zipG X.2.2 0 (j3 l1)), ownL NMail.E 108 X0 b0 (zipG γ0 0 l0)]⟩) := by
 refine Dq Tryz.func82 fun C => ?_;have hlen0 : l1.length = h0 - k0 := by rw [hl1]; simp; omega
 refine lK NMail.E (e := 108) (X := X0) (b := b0) (l := zipG γ0 0 l0) Mm fun hl63 hlby => ?_;have hl63 : l0.length ≤ 9223372036854775807 := Nat.le_trans (Nat.le_of_eq (dL γ0 0 l0).symm) hl63;have hlby : l0.length * 280 ≤ 140737488355328 := Nat.le_trans (Nat.le_of_eq (congrArg (· * 280) (dL γ0 0 l0).symm)) hlby;have hlen1 : l1.length * 280 ≤ 140737488355328 := Nat.le_trans (Nat.mul_le_mul_right 280 (by omega)) hlby;refine Tx ?_;refine vh (oG X0 b0 γ0 l0 k0 h0 hk0 hh0) .sq (.inl ⟨_, rfl⟩) (au rfl) rfl rfl rfl Kr rfl rfl Sm (.nil _) (.cons (.here _ _) (.nil _)) ?_;intro x1;simp only [← hl1, List.cons_append, List.nil_append];refine iq (F := FactsG NMail (dropG γ0 k0) l1) [FactsG NMail γ0 l0] Sm (fun M w h => by rw [hl1]; exact FactsG.take NMail _ (FactsG.drop NMail k0 (allF1 h))) ?_
 refine Lq (List Mail × (Nat → SlV × SlV × SlV × SlV × SlV × SlV × SlV) × Nat) [2,8] [] (fun ⟨l2, γ2, n1⟩ => ⟨[(0, .v (x1.1.val l2.length)), (7, .v (x1.1.val l2.length)), (9, .v (.int .i64 (n1 : Int)))], [], [ownL NMail.E 108 x1.1 x1.2 (zipG γ2 0 l2), ownL NMail.E 108 X0 b0 (zipG γ0 0 l0)], [FactsG NMail γ2 l2], (n1 ≤ l1.length) ∧ (l2.length = l1.length) ∧ (hZ (l1.drop n1) n1 l2) = (j3 l1), l1.length - n1⟩) ⟨l1, (dropG γ0 k0), 0⟩ ⟨N0, rfl, (by simp only [j3, Cf, D0])⟩ ?_;rintro ⟨l2, γ2, n1⟩ ⟨hkn1, hll, hf1⟩;simp only [Lc];refine Cu (fun hlt0 => ?_) fun hge0 => ?_
 ·refine Tx ?_;refine Oq NMail.E x1.1 (zipG γ2 0 l2) .sq (nR NMail γ2 n1 rfl rfl Zf rfl Zf rfl rfl rfl (.head _) rfl Zf Za) ?_;refine Oq NMail.E x1.1 (zipG γ2 0 l2) .sq (Xe (cM (γ2 n1).1 (γ2 n1).2.1 (γ2 n1).2.2.1 (γ2 n1).2.2.2.1 (γ2 n1).2.2.2.2.1 (γ2 n1).2.2.2.2.2.1 (γ2 n1).2.2.2.2.2.2 (gt l2 n1))) ?_;refine Gg NMail γ2 n1 0 ?_;refine Gg NMail γ2 n1 1 ?_;refine Gg NMail γ2 n1 2 ?_;refine Gg NMail γ2 n1 3 ?_;refine Gg NMail γ2 n1 4 ?_;refine Gg NMail γ2 n1 5 ?_;refine Gg NMail γ2 n1 6 ?_;refine AlT fun g1 => ?_;refine Rg [(12,some x1.2.toList),(15,some x1.2.toList)] ?_;refine Dx [0,1] ?_;refine Rq (Fa 2 [3,4,5,6,7,8,9,10,11,12]) Sa Xv ?_;refine Rq (Fa 3 [4,5,6,7,8,9,10,11,12]) Sa Xv ?_;refine Dx [4,5,7,8] ?_;refine Rn 6 ?_;refine Cm (jx (γ2 n1).1 (γ2 n1).2.1 (γ2 n1).2.2.1 (gt l2 n1).v) fun x4 => ?_;refine Rn 9 ?_;refine Cm (oZ (γ2 n1).2.2.2.1 (γ2 n1).2.2.2.2.1 (γ2 n1).2.2.2.2.2.1 (γ2 n1).2.2.2.2.2.2 (gt l2 n1).d) fun x5 => ?_;refine Oq NMail.E x1.1 (zipG γ2 0 l2) (Fb 10 []) (nR NMail γ2 n1 rfl rfl Zf rfl Zf rfl rfl rfl (.head _) rfl Zf Za) ?_;refine Ra 11 rfl Xf ?_;refine Rn 12 ?_;refine Fx x4.1 ?_;refine Fx x4.2.2.1 ?_;refine Fx x4.2.2.2.2.1 ?_
  refine Wn NMail γ2 l2 n1 14 (x4.1, x4.2.2.1, x4.2.2.2.2.1, (γ2 n1).2.2.2.1, (γ2 n1).2.2.2.2.1, (γ2 n1).2.2.2.2.2.1, (γ2 n1).2.2.2.2.2.2) (gt l2 n1) x1.2 ?_;refine Gg NMail γ2 n1 3 ?_;refine Gg NMail γ2 n1 4 ?_;refine Gg NMail γ2 n1 5 ?_;refine Gg NMail γ2 n1 6 ?_;refine Fu NMail γ2 l2 n1 (x4.1, x4.2.2.1, x4.2.2.2.2.1, (γ2 n1).2.2.2.1, (γ2 n1).2.2.2.2.1, (γ2 n1).2.2.2.2.2.1, (γ2 n1).2.2.2.2.2.2) (gt l2 n1) ?_;have hv1 : x1.1.val l2.length = x1.1.val (l2.set n1 (gt l2 n1)).length := congrArg (SlV.val x1.1) List.length_set.symm;try rw [hv1]
  refine Oq NMail.E x1.1 (zipG (updG γ2 n1 (x4.1, x4.2.2.1, x4.2.2.2.2.1, (γ2 n1).2.2.2.1, (γ2 n1).2.2.2.2.1, (γ2 n1).2.2.2.2.2.1, (γ2 n1).2.2.2.2.2.2)) 0 (l2.set n1 (gt l2 n1))) (Fb 13 []) (nR NMail (updG γ2 n1 (x4.1, x4.2.2.1, x4.2.2.2.2.1, (γ2 n1).2.2.2.1, (γ2 n1).2.2.2.2.1, (γ2 n1).2.2.2.2.2.1, (γ2 n1).2.2.2.2.2.2)) n1 rfl rfl Zf rfl Zf rfl rfl rfl (.head _) rfl Zf Za) ?_;refine Ra 14 rfl Xf ?_;refine Rn 15 ?_;refine Fx x5.1 ?_;refine Fx x5.2.2.1 ?_;refine Fx x5.2.2.2.2.1 ?_;refine Fx x5.2.2.2.2.2.2.1 ?_;refine yc NMail γ2 l2 n1 17 (x4.1, x4.2.2.1, x4.2.2.2.2.1, (γ2 n1).2.2.2.1, (γ2 n1).2.2.2.2.1, (γ2 n1).2.2.2.2.2.1, (γ2 n1).2.2.2.2.2.2) (gt l2 n1) (x4.1, x4.2.2.1, x4.2.2.2.2.1, x5.1, x5.2.2.1, x5.2.2.2.2.1, x5.2.2.2.2.2.2.1) (gt l2 n1) (e := 108) (X := x1.1) (b := x1.2) (.an rfl rfl) (.inr (fun g h => by simp [h])) (au rfl) rfl rfl rfl rfl rfl rfl rfl rfl rfl rfl rfl Zb rfl Uo ?_;refine Fu NMail γ2 l2 n1 (x4.1, x4.2.2.1, x4.2.2.2.2.1, x5.1, x5.2.2.1, x5.2.2.2.2.1, x5.2.2.2.2.2.2.1) (gt l2 n1) ?_;refine Re0 ?_;refine Tt ?_
  refine ⟨⟨(l2.set n1 (gt l2 n1)), (updG γ2 n1 (x4.1, x4.2.2.1, x4.2.2.2.2.1, x5.1, x5.2.2.1, x5.2.2.2.2.1, x5.2.2.2.2.2.2.1)), (n1 + 1)⟩, ⟨hlt0, (by (try simp only [List.length_set]); omega), (by rw [← hf1, aK hlt0]; simp only [hZ, Cf, D0])⟩, Oo, Le4⟩
 ·have hf := Ri hf1.symm;rw [Dl hge0, hZ] at hf;refine Rx ?_; exact Rr ⟨x1.1, x1.2, γ2⟩
theorem vU (X0 : SlV) (b0 : Option Nat) (γ0 : Nat → SlV × SlV × SlV × SlV × SlV × SlV × SlV) (l0 : List Mail) (k0 h0 : Nat) (hk0 : k0 < h0) (hh0 : h0 ≤ l0.length) : Dv 82 [.slice (slA X0.a X0.c k0 NMail.E.esz) (h0 - k0) (X0.c - k0)] [FactsG NMail γ0 l0] ⟨[], [ownL NMail.E 108 X0 b0 (zipG γ0 0 l0)]⟩ (fun (X : SlV × Option Nat × (Nat → SlV × SlV × SlV × SlV × SlV × SlV × SlV)) => X.1.val ((l0.drop k0).take (h0 - k0)).length) (fun (X : SlV × Option Nat × (Nat → SlV × SlV × SlV × SlV × SlV × SlV × SlV)) => [FactsG NMail X.2.2 ((l0.drop k0).take (h0 - k0))]) (fun (X : SlV × Option Nat × (Nat → SlV × SlV × SlV × SlV × SlV × SlV × SlV)) => ⟨[], [ownL NMail.E 108 X.1 X.2.1 (zipG X.2.2 0 ((l0.drop k0).take (h0 - k0))), ownL NMail.E 108 X0 b0 (zipG γ0 0 l0)]⟩) := by
 have := u9 X0 b0 γ0 l0 k0 h0 hk0 hh0 _ rfl;rw [sN] at this;exact this
def aL (l1 : List Mail) (k1 : Int) (twice1 : Bool) : (List Mail) × Mail × Int :=
 (bif ((cx l1) != 0) then (([] : List Mail), (⟨0, 0, 0, 0, 0, 0, 0, (⟨0, 0, 0, 0, 0, 0, 0⟩ : Op), (⟨[], [], []⟩ : View), (⟨[], [], [], []⟩ : Delta)⟩ : Mail), (cx l1)) else (bif (decide (k1 < 0) || decide (k1 ≥ (l1.length : Int))) then (([] : List Mail), (⟨0, 0, 0, 0, 0, 0, 0, (⟨0, 0, 0, 0, 0, 0, 0⟩ : Op), (⟨[], [], []⟩ : View), (⟨[], [], [], []⟩ : Delta)⟩ : Mail), 5) else (bif (!twice1) then ((l1.take k1.toNat ++ l1.drop (k1 + 1).toNat), (gt ((l1.drop k1.toNat).take ((k1 + 1).toNat - k1.toNat)) 0), 0) else (l1, (gt ((l1.drop k1.toNat).take ((k1 + 1).toNat - k1.toNat)) 0), 0))))
theorem k6 (y1 : SlV) (l1 : List Mail) (k1 : Int) (twice1 : Bool) : Dw 86 [y1.val l1.length, .int .i64 k1, .bool twice1] [RdN NMail y1 l1] (fun (X : SlV × SlV × SlV × SlV × SlV × SlV × SlV × SlV) => .tuple #[X.1.val (aL l1 k1 twice1).1.length, .agg ⟨cM X.2.1 X.2.2.1 X.2.2.2.1 X.2.2.2.2.1 X.2.2.2.2.2.1 X.2.2.2.2.2.2.1 X.2.2.2.2.2.2.2 (aL l1 k1 twice1).2.1⟩, .int .i64 (aL l1 k1 twice1).2.2]) (fun X => [RdN NMail X.1 (aL l1 k1 twice1).1, RdL EInt X.2.1 (aL l1 k1 twice1).2.1.v.roots, RdL EPlace X.2.2.1 (aL l1 k1 twice1).2.1.v.known, RdL EPlace X.2.2.2.1 (aL l1 k1 twice1).2.1.v.way, RdL EInt X.2.2.2.2.1 (aL l1 k1 twice1).2.1.d.gone, RdL EPlace X.2.2.2.2.2.1 (aL l1 k1 twice1).2.1.d.here, RdL EInt X.2.2.2.2.2.2.1 (aL l1 k1 twice1).2.1.d.wayGone, RdL EPlace X.2.2.2.2.2.2.2 (aL l1 k1 twice1).2.1.d.wayHere]) := by
 refine Dp Tryz.func86 fun C => ?_;refine Qn y1 280 fun hlen1 => ?_;refine AlT fun g1 => ?_;refine Ck (jw y1 l1) fun _ => ?_;have hf := Ri (aL.eq_1 l1 k1 twice1);refine Cn hf (fun hc1 hc1p hf => ?_) fun hc1 hc1p hf => ?_
 ·refine Tx ?_;refine Ft NMail ?_;refine Fc EInt ?_;refine Fc EPlace ?_;refine Rx ?_; exact Rr ⟨Z0, Z0, Z0, Z0, Z0, Z0, Z0, Z0⟩
 ·refine Ch hf (fun hc2 hf => ?_) fun hc2 hf => ?_
  ·refine Tx ?_;refine Ft NMail ?_;refine Fc EInt ?_;refine Fc EPlace ?_;refine Rx ?_; exact Rr ⟨Z0, Z0, Z0, Z0, Z0, Z0, Z0, Z0⟩
  ·have hkb := hc2;simp only [Bo] at hkb;refine Cm (kw y1 l1) fun x1 => ?_;refine Tx ?_;refine Sq Xp ?_;refine Df NMail.E (e := 108) (X := x1.1) (b := x1.2.1) (l := (zipG x1.2.2 0 l1)) Mm fun hcap1 => ?_;have hcap1 : l1.length ≤ x1.1.c ∧ x1.1.c ≤ 9223372036854775807 := ⟨Nat.le_trans (Nat.le_of_eq (dL x1.2.2 0 l1).symm) hcap1.1, hcap1.2⟩;refine Sq (CH (k0 := k1.toNat) (h := (k1 + 1).toNat) rfl rfl Zf rfl Zf rfl Zf rfl rfl Zo Zo Zo Zo) ?_;refine Cm (vU x1.1 x1.2.1 x1.2.2 l1 k1.toNat (k1 + 1).toNat (by omega) (by omega)) fun x2 => ?_;have hln1 : ((l1.drop k1.toNat).take ((k1 + 1).toNat - k1.toNat)).length = (k1 + 1).toNat - k1.toNat := by simp only [List.length_take, List.length_drop]; omega
   refine Oq NMail.E x2.1 (zipG x2.2.2 0 ((l1.drop k1.toNat).take ((k1 + 1).toNat - k1.toNat))) .sq (nR NMail x2.2.2 0 rfl rfl Zf rfl Zf rfl rfl rfl (.head _) rfl Zf Za) ?_;refine Oq NMail.E x2.1 (zipG x2.2.2 0 ((l1.drop k1.toNat).take ((k1 + 1).toNat - k1.toNat))) .sq (Xe (cM (x2.2.2 0).1 (x2.2.2 0).2.1 (x2.2.2 0).2.2.1 (x2.2.2 0).2.2.2.1 (x2.2.2 0).2.2.2.2.1 (x2.2.2 0).2.2.2.2.2.1 (x2.2.2 0).2.2.2.2.2.2 (gt ((l1.drop k1.toNat).take ((k1 + 1).toNat - k1.toNat)) 0))) ?_;refine Gg NMail x2.2.2 0 0 ?_;refine Gg NMail x2.2.2 0 1 ?_;refine Gg NMail x2.2.2 0 2 ?_;refine Gg NMail x2.2.2 0 3 ?_;refine Gg NMail x2.2.2 0 4 ?_;refine Gg NMail x2.2.2 0 5 ?_;refine Gg NMail x2.2.2 0 6 ?_;refine AlT fun g2 => ?_;refine Ch hf (fun hc3 hf => ?_) fun hc3 hf => ?_
   ·refine Cm (n9 x1.1 x1.2.1 x1.2.2 l1 k1 (k1 + 1) (by omega) (by omega) (by omega)) fun _ => ?_;refine iq (F := FactsG NMail (appG x1.2.2 k1.toNat (dropG x1.2.2 (k1 + 1).toNat)) (l1.take k1.toNat ++ l1.drop (k1 + 1).toNat)) [FactsG NMail x1.2.2 l1] Sm (fun M w h => FactsG.del NMail _ _ (by omega) (allF1 h)) ?_;refine Rg [(3,some [g1])] ?_;refine Dx [0,1,2] ?_;refine Rn 3 ?_;refine Wa ?_;refine Ra 4 rfl Qp ?_;refine Re0 ?_;(repeat refine er ?_);refine Fz x1.1 ?_;refine Fj NMail x1.1 (appG x1.2.2 k1.toNat (dropG x1.2.2 (k1 + 1).toNat)) (l1.take k1.toNat ++ l1.drop (k1 + 1).toNat) ?_;refine Rx ?_; exact Rr ⟨x1.1, (x2.2.2 0).1, (x2.2.2 0).2.1, (x2.2.2 0).2.2.1, (x2.2.2 0).2.2.2.1, (x2.2.2 0).2.2.2.2.1, (x2.2.2 0).2.2.2.2.2.1, (x2.2.2 0).2.2.2.2.2.2⟩
   ·refine Rg [(3,some [g1])] ?_;refine Dx [0,1,2] ?_;refine Rn 3 ?_;refine Wa ?_;refine Ra 4 rfl Qp ?_;refine Re0 ?_;(repeat refine er ?_);refine Fz x1.1 ?_;refine Fj NMail x1.1 x1.2.2 l1 ?_;refine Rx ?_; exact Rr ⟨x1.1, (x2.2.2 0).1, (x2.2.2 0).2.1, (x2.2.2 0).2.2.1, (x2.2.2 0).2.2.2.1, (x2.2.2 0).2.2.2.2.1, (x2.2.2 0).2.2.2.2.2.1, (x2.2.2 0).2.2.2.2.2.2⟩
theorem xa {l : List Mail} {k : Int} {t : Bool} (h : (aL l k t).2.2 = 0) : cx l = 0 ∧ 0 ≤ k ∧ k < (l.length : Int) := by
 unfold aL at h;cases h1 : (cx l != 0) with
 | true => rw [h1, cond_true] at h; simp only at h; rw [h] at h1; cases h1
 | false =>
  rw [h1, cond_false] at h;cases h2 : (decide (k < 0) || decide (k ≥ (l.length : Int))) with
  | true => rw [h2, cond_true] at h; cases h
  | false =>
   simp only [Bo] at h2;exact ⟨ag h1, by omega, by omega⟩
def insR {α : Type} (lt : α → α → Bool) (x : α) : List α → List α → List α
 | [], s => x :: s
 | y :: r, s => bif lt x y then insR lt x r (y :: s) else (y :: r).reverse ++ x :: s
theorem tn {α : Type} (lt : α → α → Bool) (x : α) : ∀ (r s : List α), insR lt x r s = (r.dropWhile (lt x)).reverse ++ x :: ((r.takeWhile (lt x)).reverse ++ s)
 | [], s => rfl
 | y :: r, s => by
  rw [insR];cases h : lt x y with
  | true => rw [cond_true, tn lt x r]; simp [List.dropWhile_cons, List.takeWhile_cons, h]
  | false => simp [List.dropWhile_cons, List.takeWhile_cons, h]
def isort {α : Type} (lt : α → α → Bool) : List α → List α → List α
 | acc, [] => acc
 | acc, x :: r => isort lt (insR lt x acc.reverse []) r
variable {α : Type}
theorem BT (lt : α → α → Bool) (x : α) (r s : List α) : (insR lt x r s).length = r.length + s.length + 1 := by
 rw [tn];have := congrArg List.length (List.takeWhile_append_dropWhile (p := lt x) (l := r));simp only [List.length_append] at this;simp; omega
theorem AI (lt : α → α → Bool) (x : α) (r s : List α) : (insR lt x r s).Perm (x :: (r.reverse ++ s)) := by
 rw [tn];refine List.perm_middle.trans (.cons _ ?_);rw [← List.append_assoc, ← List.reverse_append, List.takeWhile_append_dropWhile]
theorem rp {α : Type} (lt : α → α → Bool) : ∀ (r acc : List α), (isort lt acc r).Perm (acc ++ r)
 | [], acc => by simp [isort]
 | x :: r, acc => by
  rw [isort];refine (rp lt r _).trans ?_;refine ((AI lt x acc.reverse []).append_right r).trans ?_;simp only [List.reverse_reverse, List.append_nil, List.cons_append];exact List.perm_middle.symm
theorem BU (lt : α → α → Bool) (x : α) (r s : List α) : insR lt x r s = insR lt x r [] ++ s := by simp [tn]
theorem mX [Inhabited α] (A : List α) (b : α) (C : List α) (i : Nat) (h : i = A.length) : gt (A ++ b :: C) i = b := by subst h; simp [gt]
theorem ly (A : List α) (b c : α) (C : List α) (i : Nat) (h : i = A.length) : (A ++ b :: C).set i c = A ++ c :: C := by subst h; simp
def Sorted {α : Type} (lt : α → α → Bool) (l : List α) : Prop := l.Pairwise (fun a b => lt b a = false)
theorem xt {lt : α → α → Bool} (htr : ∀ a b c, lt c b = false → lt b a = false → lt c a = false) (has : ∀ a b, lt a b = true → lt b a = false) (x : α) (l : List α) (h : Sorted lt l) : Sorted lt (insR lt x l.reverse []) := by
 rw [tn, List.append_nil];have hl : l = (l.reverse.dropWhile (lt x)).reverse ++ (l.reverse.takeWhile (lt x)).reverse := by
  rw [← List.reverse_append, List.takeWhile_append_dropWhile, List.reverse_reverse]
 have hs : Sorted lt ((l.reverse.dropWhile (lt x)).reverse ++ (l.reverse.takeWhile (lt x)).reverse) := by rw [← hl]; exact h
 obtain ⟨h1, h2, h3⟩ := List.pairwise_append.1 hs;have ht : ∀ b ∈ (l.reverse.takeWhile (lt x)).reverse, lt x b = true := fun b hb => by
  have := List.all_eq_true.1 (List.all_takeWhile (p := lt x) (l := l.reverse)) b (List.mem_reverse.1 hb);exact this
 refine List.pairwise_append.2 ⟨h1, List.pairwise_cons.2 ⟨fun b hb => has _ _ (ht b hb), h2⟩, fun a ha b hb => ?_⟩;have hd : ∀ a ∈ (l.reverse.dropWhile (lt x)).reverse, lt x a = false := by
  intro a ha;rw [List.mem_reverse] at ha;cases hD : l.reverse.dropWhile (lt x) with
  | nil => rw [hD] at ha; cases ha
  | cons y D =>
   have hy : lt x y = false := by
    have := List.head_dropWhile_not (p := lt x) (l := l.reverse) (by rw [hD]; simp);simp only [hD, List.head_cons] at this;exact this
   rw [hD] at ha h1;rcases List.mem_cons.1 ha with rfl | ha
   ·exact hy
   ·have : lt y a = false := by
     have h1 : Sorted lt (y :: D).reverse := h1;unfold Sorted at h1;rw [List.pairwise_reverse] at h1;exact (List.pairwise_cons.1 h1).1 a ha
    exact htr a y x hy this
 rcases List.mem_cons.1 hb with rfl | hb
 ·exact hd a ha
 ·exact h3 a ha b hb
theorem rZ {α : Type} {lt : α → α → Bool} (htr : ∀ a b c, lt c b = false → lt b a = false → lt c a = false) (has : ∀ a b, lt a b = true → lt b a = false) : ∀ (r acc : List α), Sorted lt acc → Sorted lt (isort lt acc r)
 | [], acc, h => h
 | x :: r, acc, h => rZ htr has r _ (xt htr has x acc h)
theorem oT (lt : α → α → Bool) (l : List α) : (isort lt [] l).length = l.length := by
 have := (rp lt l []).length_eq;simpa using this
def e9 (c1 : Client) (me1 : Int) : List Op → Nat → Int
 | [], n1 => 0
 | pn1 :: rn1, n1 => (bif ((dv pn1) != 0) then (dv pn1) else (bif (((((pn1.who != me1) || (pn1.life != c1.life)) || (pn1.seq != (((c1.seq - (c1.pending.length : Int)) + 1) + (n1 : Int)))) || decide (pn1.time > c1.time)) || (decide ((n1 : Int) > 0) && decide (pn1.time ≤ (gt c1.pending (n1 - 1)).time))) then 4 else (e9 c1 me1 rn1 (n1 + 1))))
def bK (c1 : Client) (me1 : Int) : Int :=
 (bif (decide (me1 < 0) || decide (me1 ≥ 3)) then 5 else (bif (((((((decide (c1.life < 0) || decide (c1.life > 50)) || decide (c1.time < 0)) || decide (c1.time > 10000)) || decide (c1.seq < 0)) || decide (c1.seq > 30)) || decide (c1.version < 0)) || decide (c1.version > 60)) then 3 else (bif decide ((c1.pending.length : Int) > 8) then 2 else (bif ((cn c1.v) != 0) then (cn c1.v) else (bif ((((c1.life == 0) && (((c1.time + c1.seq) + c1.version) != 0)) || ((c1.version == 0) && decide ((c1.v.roots.length : Int) > 0))) || decide ((c1.pending.length : Int) > c1.seq)) then 4 else (e9 c1 me1 c1.pending 0))))))
theorem jm (y1 : SlV) (y2 : SlV) (y3 : SlV) (y4 : SlV) (c1 : Client) (me1 : Int) : Du 66 [.agg ⟨cC y1 y2 y3 y4 c1⟩, .int .i64 me1] [RdL EOp y1 c1.pending, RdL EInt y2 c1.v.roots, RdL EPlace y3 c1.v.known, RdL EPlace y4 c1.v.way] (.int .i64 (bK c1 me1)) := by
 refine Dp Tryz.func66 fun C => ?_;refine Qc y1 56 fun hlen1 => ?_;refine Qc y2 8 fun hlen2 => ?_;refine Qc y3 24 fun hlen3 => ?_;refine Qc y4 24 fun hlen4 => ?_;refine BxT fun g1 => ?_;have hf := Ri (bK.eq_1 c1 me1);refine Kh hf fun hc1 hf => ?_;refine Kh hf fun hc2 hf => ?_;have hrg := hc2;simp only [Bo] at hrg;refine Kp hf fun hc3 hc3p hf => ?_;refine Ck (il y2 y3 y4 c1.v) fun _ => ?_;refine Kn hf fun hc4 hc4p hf => ?_;refine Kh hf fun hc5 hf => ?_;refine Lq Nat [1,2,4,98,99] [true] (fun n1 => ⟨[(100, .v (.int .i64 (n1 : Int)))], [], [], [], (n1 ≤ c1.pending.length) ∧ (e9 c1 me1 (c1.pending.drop n1) n1) = (bK c1 me1), c1.pending.length - n1⟩) 0 ⟨N0, hf.symm⟩ ?_;rintro n1 ⟨hkn1, hf1⟩;simp only [Lc];refine Cu (fun hlt0 => ?_) fun hge0 => ?_
 ·refine Sy Tz (Xi n1) ?_;refine Sq Xa ?_;refine AlT fun g2 => ?_;refine Ck (fW (gt c1.pending n1)) fun _ => ?_;have hf := Ri hf1.symm;rw [aK hlt0, e9] at hf;refine Kn hf fun hc7 hc7p hf => ?_;refine Rg [] ?_;refine Dx (.range 45) ?_;refine Gb 45 rfl Gz (Xi (n1 - 1)) ?_;refine Dx [46,47] ?_;refine Gb 48 rfl Gz X1 ?_;refine Dx [49,50,51] ?_;refine Re0 ?_;refine Kh hf fun hc8 hf => ?_;refine Tt ?_;refine ⟨(n1 + 1), ⟨hlt0, hf.symm⟩, Oo, Le4⟩
 ·have hf := Ri hf1.symm;rw [Dl hge0, e9] at hf;exact Ru
theorem kl {c : Client} {me : Int} (h : bK c me = 0) : (0 ≤ me ∧ me < 3) ∧ (0 ≤ c.life ∧ c.life ≤ 50 ∧ 0 ≤ c.time ∧ c.time ≤ 10000 ∧ 0 ≤ c.seq ∧ c.seq ≤ 30 ∧ 0 ≤ c.version ∧ c.version ≤ 60) ∧ c.pending.length ≤ 8 ∧ cn c.v = 0 ∧ ((c.life = 0 → c.time = 0 ∧ c.seq = 0 ∧ c.version = 0) ∧ (c.version = 0 → c.v.roots = []) ∧ (c.pending.length : Int) ≤ c.seq) ∧ e9 c me c.pending 0 = 0 := by
 unfold bK at h;cases h1 : (decide (me < 0) || decide (me ≥ 3)) with
 | true => rw [h1, cond_true] at h; cases h
 | false =>
 rw [h1, cond_false] at h;simp only [Bo] at h1;cases h2 : (((((((decide (c.life < 0) || decide (c.life > 50)) || decide (c.time < 0)) || decide (c.time > 10000)) || decide (c.seq < 0)) || decide (c.seq > 30)) || decide (c.version < 0)) || decide (c.version > 60)) with
 | true => rw [h2, cond_true] at h; cases h
 | false =>
 rw [h2, cond_false] at h;simp only [Bo] at h2;cases h3 : decide ((c.pending.length : Int) > 8) with
 | true => rw [h3, cond_true] at h; cases h
 | false =>
 rw [h3, cond_false] at h;have h3 := of_decide_eq_false h3;cases h4 : (cn c.v != 0) with
 | true => rw [h4, cond_true] at h; rw [h] at h4; cases h4
 | false =>
 rw [h4, cond_false] at h;cases h5 : ((((c.life == 0) && (((c.time + c.seq) + c.version) != 0)) || ((c.version == 0) && decide ((c.v.roots.length : Int) > 0))) || decide ((c.pending.length : Int) > c.seq)) with
 | true => rw [h5, cond_true] at h; cases h
 | false =>
 rw [h5, cond_false] at h;simp only [Bo, Bool.and_eq_false_iff, beq_eq_false_iff_ne, bne_eq_false_iff_eq] at h5;refine ⟨by omega, by omega, by omega, ag h4, ⟨fun hl => by omega, fun hv => ?_, by omega⟩, h⟩;rcases h5.1.2 with h6 | h6
 ·exact absurd hv h6
 ·exact List.length_eq_zero_iff.1 (by omega)
def kv (c1 : Client) : Client :=
 c1
theorem kY (y1 : SlV) (y2 : SlV) (y3 : SlV) (y4 : SlV) (c1 : Client) : Dv 84 [.agg ⟨cC y1 y2 y3 y4 c1⟩] [RdL EOp y1 c1.pending, RdL EInt y2 c1.v.roots, RdL EPlace y3 c1.v.known, RdL EPlace y4 c1.v.way] ⟨[], []⟩ (fun (X : SlV × Option Nat × SlV × SlV × SlV) => .agg ⟨cC X.1 X.2.2.1 X.2.2.2.1 X.2.2.2.2 (kv c1)⟩) (fun X => [RdL EInt X.2.2.1 (kv c1).v.roots, RdL EPlace X.2.2.2.1 (kv c1).v.known, RdL EPlace X.2.2.2.2 (kv c1).v.way]) (fun X => ⟨[], [ownL EOp 76 X.1 X.2.1 (kv c1).pending]⟩) := by
 refine Dq Tryz.func84 fun C => ?_;refine Qc y1 56 fun hlen1 => ?_;refine Qc y2 8 fun hlen2 => ?_;refine Qc y3 24 fun hlen3 => ?_;refine Qc y4 24 fun hlen4 => ?_;refine BxT fun g1 => ?_;refine AlT fun g2 => ?_;refine eF ?_;refine Rg [(7,some [g1]),(9,some [g1])] ?_;refine Dx [0,1,3,4] ?_;refine Rn 2 ?_;refine Cm (kZ y1 c1.pending) fun x1 => ?_;refine Ra 6 rfl Qp ?_;refine Rn 5 ?_;refine Cm (jx y2 y3 y4 c1.v) fun x2 => ?_;refine Rn 7 ?_;refine W1 ?_;refine Ra 8 rfl Qp ?_;refine Rn 9 ?_;refine Wp ?_;refine Re0 ?_;refine Tx ?_;refine Fz x2.1 ?_;refine Fz x2.2.2.1 ?_;refine Fz x2.2.2.2.2.1 ?_;have hf := Ri (kv.eq_1 c1);refine Rx ?_; exact Rr ⟨x1.1, x1.2, x2.1, x2.2.2.1, x2.2.2.2.2.1⟩
def db (life1 : Int) (time1 : Int) : Client × Int :=
 (bif (((decide (life1 < 1) || decide (life1 > 50)) || decide (time1 < 0)) || decide (time1 > 10000)) then ((⟨0, 0, 0, ([] : List Op), 0, (⟨[], [], []⟩ : View)⟩ : Client), 3) else ((⟨life1, time1, 0, ([] : List Op), 0, (⟨[], [], []⟩ : View)⟩ : Client), 0))
theorem rz (life1 : Int) (time1 : Int) : Dw 180 [.int .i64 life1, .int .i64 time1] [] (fun (X : SlV × SlV × SlV × SlV) => .tuple #[.agg ⟨cC X.1 X.2.1 X.2.2.1 X.2.2.2 (db life1 time1).1⟩, .int .i64 (db life1 time1).2]) (fun X => [RdL EOp X.1 (db life1 time1).1.pending, RdL EInt X.2.1 (db life1 time1).1.v.roots, RdL EPlace X.2.2.1 (db life1 time1).1.v.known, RdL EPlace X.2.2.2 (db life1 time1).1.v.way]) := by
 refine Dp Tryz.func180 fun C => ?_;refine AlT fun g1 => ?_;have hf := Ri (db.eq_1 life1 time1);refine Ch hf (fun hc1 hf => ?_) fun hc1 hf => ?_
 ·refine Tx ?_;refine Fc EOp ?_;refine Fc EInt ?_;refine Fc EPlace ?_;refine Rx ?_; exact Rr ⟨Z0, Z0, Z0, Z0⟩
 ·refine Tx ?_;refine Fc EOp ?_;refine Fc EInt ?_;refine Fc EPlace ?_;refine Rx ?_; exact Rr ⟨Z0, Z0, Z0, Z0⟩
def jN (a1 : Client) (b1 : Client) : Bool :=
 ((((((a1.life == b1.life) && (a1.time == b1.time)) && (a1.seq == b1.seq)) && (decide (a1.pending = b1.pending))) && (a1.version == b1.version)) && (go a1.v b1.v))
def c9 (c1 : Client) (me1 : Int) (node1 : Int) (parent1 : Int) (name1 : Int) : Client × Op × Int :=
 (bif ((bK c1 me1) != 0) then ((⟨0, 0, 0, ([] : List Op), 0, (⟨[], [], []⟩ : View)⟩ : Client), (⟨0, 0, 0, 0, 0, 0, 0⟩ : Op), (bK c1 me1)) else (bif (c1.life == 0) then ((⟨0, 0, 0, ([] : List Op), 0, (⟨[], [], []⟩ : View)⟩ : Client), (⟨0, 0, 0, 0, 0, 0, 0⟩ : Op), 7) else (bif ((((c1.pending.length : Int) == 8) || (c1.time == 10000)) || (c1.seq == 30)) then ((⟨0, 0, 0, ([] : List Op), 0, (⟨[], [], []⟩ : View)⟩ : Client), (⟨0, 0, 0, 0, 0, 0, 0⟩ : Op), 2) else (bif ((dv (⟨(c1.time + 1), me1, node1, parent1, name1, c1.life, (c1.seq + 1)⟩ : Op)) != 0) then ((⟨0, 0, 0, ([] : List Op), 0, (⟨[], [], []⟩ : View)⟩ : Client), (⟨0, 0, 0, 0, 0, 0, 0⟩ : Op), (dv (⟨(c1.time + 1), me1, node1, parent1, name1, c1.life, (c1.seq + 1)⟩ : Op))) else ((⟨c1.life, (c1.time + 1), (c1.seq + 1), (c1.pending ++ [(⟨(c1.time + 1), me1, node1, parent1, name1, c1.life, (c1.seq + 1)⟩ : Op)]), c1.version, c1.v⟩ : Client), (⟨(c1.time + 1), me1, node1, parent1, name1, c1.life, (c1.seq + 1)⟩ : Op), 0)))))
theorem sy (y1 : SlV) (y2 : SlV) (y3 : SlV) (y4 : SlV) (c1 : Client) (me1 : Int) (node1 : Int) (parent1 : Int) (name1 : Int) : Dw 137 [.agg ⟨cC y1 y2 y3 y4 c1⟩, .int .i64 me1, .int .i64 node1, .int .i64 parent1, .int .i64 name1] [RdL EOp y1 c1.pending, RdL EInt y2 c1.v.roots, RdL EPlace y3 c1.v.known, RdL EPlace y4 c1.v.way] (fun (X : SlV × SlV × SlV × SlV) => .tuple #[.agg ⟨cC X.1 X.2.1 X.2.2.1 X.2.2.2 (c9 c1 me1 node1 parent1 name1).1⟩, .agg ⟨cO (c9 c1 me1 node1 parent1 name1).2.1⟩, .int .i64 (c9 c1 me1 node1 parent1 name1).2.2]) (fun X => [RdL EOp X.1 (c9 c1 me1 node1 parent1 name1).1.pending, RdL EInt X.2.1 (c9 c1 me1 node1 parent1 name1).1.v.roots, RdL EPlace X.2.2.1 (c9 c1 me1 node1 parent1 name1).1.v.known, RdL EPlace X.2.2.2 (c9 c1 me1 node1 parent1 name1).1.v.way]) := by
 refine Dp Tryz.func137 fun C => ?_;refine Qc y1 56 fun hlen1 => ?_;refine Qc y2 8 fun hlen2 => ?_;refine Qc y3 24 fun hlen3 => ?_;refine Qc y4 24 fun hlen4 => ?_;refine BxT fun g1 => ?_;refine AlT fun g2 => ?_;refine AlT fun g3 => ?_;refine Ck (jm y1 y2 y3 y4 c1 me1) fun _ => ?_;have hf := Ri (c9.eq_1 c1 me1 node1 parent1 name1);refine Cn hf (fun hc1 hc1p hf => ?_) fun hc1 hc1p hf => ?_
 ·refine Tx ?_;refine Fc EOp ?_;refine Fc EInt ?_;refine Fc EPlace ?_;refine Rx ?_; exact Rr ⟨Z0, Z0, Z0, Z0⟩
 ·have hck := kl (ag hc1);refine Ce hf (fun hc2 hc2p hf => ?_) fun hc2 hc2p hf => ?_
  ·refine Tx ?_;refine Fc EOp ?_;refine Fc EInt ?_;refine Fc EPlace ?_;refine Rx ?_; exact Rr ⟨Z0, Z0, Z0, Z0⟩
  ·refine Ch hf (fun hc3 hf => ?_) fun hc3 hf => ?_
   ·refine Tx ?_;refine Fc EOp ?_;refine Fc EInt ?_;refine Fc EPlace ?_;refine Rx ?_; exact Rr ⟨Z0, Z0, Z0, Z0⟩
   ·refine AlT fun g4 => ?_;refine Ck (fW (⟨(c1.time + 1), me1, node1, parent1, name1, c1.life, (c1.seq + 1)⟩ : Op)) fun _ => ?_;refine Cn hf (fun hc4 hc4p hf => ?_) fun hc4 hc4p hf => ?_
    ·refine Tx ?_;refine Fc EOp ?_;refine Fc EInt ?_;refine Fc EPlace ?_;refine Rx ?_; exact Rr ⟨Z0, Z0, Z0, Z0⟩
    ·refine Cm (kY y1 y2 y3 y4 c1) fun x1 => ?_;refine Qr x1.2.2.1 8 fun hlen5 => ?_;refine Qr x1.2.2.2.1 24 fun hlen6 => ?_;refine Qr x1.2.2.2.2 24 fun hlen7 => ?_;refine Rg [(9,some x1.2.1.toList),(11,some [g1]),(13,some [g1]),(15,some [g1])] ?_;refine Rq (Fb 0 [3,4,5,6,7,8,9]) Sa Xv ?_;refine Rq (Fa 1 [3,4,5,6,7,8,9]) Sa Xv ?_;refine Rq (Fa 2 [3,4,5,6,7,8,9]) Sa (q_ld1 rfl rfl Zf rfl Mm rfl) ?_;refine Rq (Fa 3 [5,6,7,8,9,10,11]) (.keep (.keep (.keep (.drop Sa)))) Xv (hD := (by intro g hg; simp only [List.mem_append, List.mem_singleton, List.not_mem_nil, or_false, false_or, Option.mem_toList, Option.mem_def, List.append_nil] at hg; rcases hg with hg | hg <;> first | exact .inr ⟨ownL EOp 76 x1.1 x1.2.1 c1.pending, Mm, hg⟩ | (subst hg; simp; done))) ?_;refine Rq (Fa 4 [5,6,7,8,9,10,11]) (.keep (.keep (.keep (.drop Sa)))) (q_ld1 rfl rfl Zf rfl Mm rfl) (hD := (by intro g hg; simp only [List.mem_append, List.mem_singleton, List.not_mem_nil, or_false, false_or, Option.mem_toList, Option.mem_def, List.append_nil] at hg; rcases hg with hg | hg <;> first | exact .inr ⟨ownL EOp 76 x1.1 x1.2.1 c1.pending, Mm, hg⟩ | (subst hg; simp; done))) ?_;refine Dx [5,6,7] ?_
     refine Rq (Fa 10 [8,9]) Sa Xv ?_;refine Rn 8 ?_;refine Bl EOp [(⟨(c1.time + 1), me1, node1, parent1, name1, c1.life, (c1.seq + 1)⟩ : Op)] fun x2 x2b => ?_;refine Rn 9 ?_;refine Ap EOp 56 c1.pending [(⟨(c1.time + 1), me1, node1, parent1, name1, c1.life, (c1.seq + 1)⟩ : Op)] x1.2.1 fun x3 x3b => ?_;refine Rn 11 ?_;refine W1 ?_;refine Ra 12 rfl Qp ?_;refine Rn 13 ?_;refine W1 ?_;refine Ra 14 rfl Qp ?_;refine Rn 15 ?_;refine W1 ?_;refine Re0 ?_;refine Rg [(2,some [g2]),(3,some [g3])] ?_;refine Ra 0 rfl XA ?_;refine Rq (Fa 1 [2]) (.keep (.keep (.drop Sa))) XA ?_;refine Rn 2 ?_;refine Wa ?_;refine Rn 3 ?_;refine Wa ?_;refine Ra 4 rfl Qp ?_;refine Re0 ?_;(repeat refine er ?_);refine Fz x3 ?_;refine Rx ?_; exact Rr ⟨x3, x1.2.2.1, x1.2.2.2.1, x1.2.2.2.2⟩
def bS (f1 : Op → Bool) : List Op → Nat → Int
 | [], n1 => (-1)
 | pn1 :: rn1, n1 => (bif (f1 pn1) then (n1 : Int) else (bS f1 rn1 (n1 + 1)))
def cb (s1 : List Op) (f1 : Op → Bool) : Int :=
 (bS f1 s1 0)
theorem mC (y1 : SlV) (s1 : List Op) (f2 : Nat) (caps1 : List Value) (pre1 : List Pred) [StabL pre1] (f1 : Op → Bool) (hfb1 : tab.fnb f2 = true) (hfn1 : ∀ (a0_ : Op), Du f2 ([.agg ⟨cO a0_⟩] ++ caps1) pre1 (.bool (f1 a0_))) : Du 204 [y1.val s1.length, .func (.func f2) #[] ⟨caps1⟩] (RdL EOp y1 s1 :: pre1) (.int .i64 (cb s1 f1)) := by
 refine Dp Tryz.func204 fun C => ?_;refine e8 (φ := s1.length * 56 ≤ 140737488355328) [RdL EOp y1 s1] Sf (fun M w h => (allF1 h).len) fun hlen1 => ?_;refine Lq Nat [0,1,4,7] [] (fun n1 => ⟨[(8, .v (.int .i64 (n1 : Int)))], [], [], [], (n1 ≤ s1.length) ∧ (bS f1 (s1.drop n1) n1) = (cb s1 f1), s1.length - n1⟩) 0 ⟨N0, (by simp only [cb, Cf, D0])⟩ ?_;rintro n1 ⟨hkn1, hf1⟩;simp only [Lc];refine Cu (fun hlt0 => ?_) fun hge0 => ?_
 ·refine Sy Tz (Xi n1) ?_;refine Sq Xa ?_;refine Cv (hfn1 (gt s1 n1)) (hf := by assumption) fun _ => ?_;refine eF ?_;have hf := Ri hf1.symm;rw [aK hlt0, bS] at hf;refine Ch hf (fun hc2 hf => ?_) fun hc2 hf => ?_
  ·refine Tx ?_;refine f4 ?_;rw [hf.to];exact ⟨(), _, (.cons (.tmp rfl) .nil), rfl, Sf, .nil _, .nil _⟩
  ·refine Tt ?_;refine ⟨(n1 + 1), ⟨hlt0, hf.symm⟩, Oo, Le5⟩
 ·refine Tx ?_;have hf := Ri hf1.symm;rw [Dl hge0, bS] at hf;refine f4 ?_;rw [hf.to];exact ⟨(), _, (.cons (.tmp rfl) .nil), rfl, Sf, .nil _, .nil _⟩
theorem jy (f : Op → Bool) : ∀ (l : List Op) (k : Nat), bS f l k < (k : Int) + (l.length : Int) ∨ bS f l k = -1
 | [], k => .inr rfl
 | p :: r, k => by
  rw [bS];cases f p with
  | true => simp only [cond_true, List.length_cons]; omega
  | false => have := jy f r (k + 1); simp only [cond_false, List.length_cons]; omega
theorem nY (l : List Op) (f : Op → Bool) : cb l f < (l.length : Int) ∨ cb l f = -1 := by
 have := jy f l 0;unfold cb;omega
theorem IF_Op (f : Op → Bool) : ∀ (l : List Op) (k : Nat), (bS f l k = -1 ∧ ∀ p ∈ l, f p = false) ∨ ∃ A x R, l = A ++ x :: R ∧ (∀ p ∈ A, f p = false) ∧ f x = true ∧ bS f l k = ((k + A.length : Nat) : Int)
 | [], k => .inl ⟨rfl, by simp⟩
 | p :: r, k => by
  rw [bS];cases h : f p with
  | true => exact .inr ⟨[], p, r, rfl, by simp, h, by simp⟩
  | false =>
   rcases IF_Op f r (k + 1) with ⟨h1, h2⟩ | ⟨A, x, R, h1, h2, h3, h4⟩
   ·exact .inl ⟨h1, fun q hq => by rcases List.mem_cons.1 hq with rfl | hq; exact h; exact h2 q hq⟩
   ·refine .inr ⟨p :: A, x, R, by rw [h1]; rfl, fun q hq => by rcases List.mem_cons.1 hq with rfl | hq; exact h; exact h2 q hq, h3, ?_⟩;rw [cond_false, h4]; simp; omega
theorem nZ (l : List Op) (f : Op → Bool) : -1 ≤ cb l f := by
 have h : cb l f = bS f l 0 := rfl;rcases IF_Op f l 0 with ⟨h1, _⟩ | ⟨A, x, R, _, _, _, h4⟩ <;> rw [h] <;> omega
def cL (del1 : Op → Bool) : Nat → (List Op) → Int → Int → (List Op)
 | 0, s2, i1, j1 => default
 | f_k0 + 1, s2, i1, j1 => (bif decide (j1 < (s2.length : Int)) then (bif (!(del1 (gt s2 j1.toNat))) then (cL del1 f_k0 (s2.set i1.toNat (gt s2 j1.toNat)) (i1 + 1) (j1 + 1)) else (cL del1 f_k0 s2 i1 (j1 + 1))) else (s2.take i1.toNat))
def ej (s1 : List Op) (del1 : Op → Bool) : List Op :=
 (bif ((cb s1 del1) == (-1)) then s1 else (cL del1 ((s1.length - ((cb s1 del1) + 1).toNat) + 1) s1 (cb s1 del1) ((cb s1 del1) + 1)))
theorem mn (y1 : SlV) (y1b : Option Nat) (s1 : List Op) (f1 : Nat) (caps1 : List Value) (pre1 : List Pred) [StabL pre1] (del1 : Op → Bool) (hfb1 : tab.fnb f1 = true) (hfn1 : ∀ (a0_ : Op), Du f1 ([.agg ⟨cO a0_⟩] ++ caps1) pre1 (.bool (del1 a0_))) : Dv 174 [y1.val s1.length, .func (.func f1) #[] ⟨caps1⟩] pre1 ⟨[], [ownL EOp 76 y1 y1b s1]⟩ (fun (_ : Unit) => y1.val (ej s1 del1).length) (fun _ => []) (fun _ => ⟨[], [ownL EOp 76 y1 y1b (ej s1 del1)]⟩) := by
 refine Dq Tryz.func174 fun C => ?_;refine lK EOp (e := 76) (X := y1) (b := y1b) (l := s1) Mm fun hl63y1 hleny1 => ?_;simp only [show EOp.by_ = 56 from rfl] at hleny1;refine Tx ?_;refine nj (mC y1 s1 _ _ _ del1 (by assumption) hfn1) .sq (au rfl) rfl rfl rfl Kr rfl rfl (.own Mm (PreR.sub Sf)) ?_;intro _;have hf := Ri (ej.eq_1 s1 del1);refine Ce hf (fun hc1 hc1p hf => ?_) fun hc1 hc1p hf => ?_
 ·refine Tx ?_;refine f4 ?_;rw [hf.to];exact ⟨(), _, (.cons (.tmp rfl) .nil), rfl, Sf, .nil _, Sp⟩
 ·have hix := nY s1 del1;have hig := nZ s1 del1;refine Lq (List Op × Int × Int) [1,4] [] (fun ⟨s2, i1, j1⟩ => ⟨[(0, .v (y1.val s2.length)), (5, .v (.int .i64 i1)), (6, .v (.int .i64 j1))], [], [ownL EOp 76 y1 y1b s2], [], (0 ≤ i1 ∧ i1 < j1 ∧ j1 ≤ (s1.length : Int) ∧ s2.length = s1.length) ∧ (cL del1 ((s1.length - j1.toNat) + 1) s2 i1 j1) = (ej s1 del1), (s1.length - j1.toNat) + 1⟩) ⟨s1, (cb s1 del1), ((cb s1 del1) + 1)⟩ ⟨Nz, hf.symm⟩ ?_;rintro ⟨s2, i1, j1⟩ ⟨hj, hf1⟩;simp only [Lc];have hlt0_ : ((s1.length - j1.toNat) + 1 - 1) + 1 = (s1.length - j1.toNat) + 1 := by omega
  have hf := Ri hf1.symm;rw [← hlt0_, cL] at hf;refine Cp hf (fun hc2 hc2p hf => ?_) fun hc2 hc2p hf => ?_
  ·refine Tx ?_;refine Oq EOp y1 s2 .sq (Xi j1.toNat) ?_;refine Oq EOp y1 s2 .sq Xa ?_;refine AlT fun g1 => ?_;refine Cv (hfn1 (gt s2 j1.toNat)) (hf := by assumption) fun _ => ?_;refine Ch hf (fun hc3 hf => ?_) fun hc3 hf => ?_
   ·refine Tx ?_;refine Oq EOp y1 s2 .sq (Xi i1.toNat) ?_;refine Wo EOp s2 i1.toNat 0 (gt s2 j1.toNat) y1b ?_;have hv1 : y1.val s2.length = y1.val (s2.set i1.toNat (gt s2 j1.toNat)).length := congrArg (SlV.val y1) List.length_set.symm;(try simp only [cB, cC, cW]); try rw [hv1]
    refine Tt ?_;have hnx1 : (s1.length - (j1 + 1).toNat) + 1 = (s1.length - j1.toNat) + 1 - 1 := by omega
    refine ⟨⟨(s2.set i1.toNat (gt s2 j1.toNat)), (i1 + 1), (j1 + 1)⟩, ⟨(by simp only [Ln, List.length_set]; omega), (by rw [hnx1]; exact (hf : (ej s1 del1) = (cL del1 ((s1.length - j1.toNat) + 1 - 1) (s2.set i1.toNat (gt s2 j1.toNat)) (i1 + 1) (j1 + 1))).symm)⟩, Oo, Le5⟩
   ·refine Tt ?_;have hnx2 : (s1.length - (j1 + 1).toNat) + 1 = (s1.length - j1.toNat) + 1 - 1 := by omega
    refine ⟨⟨s2, i1, (j1 + 1)⟩, ⟨(by simp only [Ln, List.length_set]; omega), (by rw [hnx2]; exact (hf : (ej s1 del1) = (cL del1 ((s1.length - j1.toNat) + 1 - 1) s2 i1 (j1 + 1))).symm)⟩, Oo, Le5⟩
  ·refine Sy Tz (rS EOp i1.toNat (l := s2) (X := y1) rfl rfl Zf rfl Zf rfl rfl (fun _ => by first | omega | (simp only [List.length_set]; omega)) (fun _ => by first | omega | (simp only [List.length_set]; omega))) ?_;refine zU EOp s2 i1.toNat (e := 76) (X := y1) (b := y1b) .sq (.inl ⟨_, rfl⟩) (au rfl) rfl rfl rfl rfl rfl rfl rfl rfl rfl rfl Zb Uo ?_;refine Tx ?_;refine Oq EOp y1 (s2.take i1.toNat) .sq (Dn EOp (l := (s2.take i1.toNat)) (X := y1) (h := i1.toNat) rfl rfl Zf rfl Zf rfl rfl (.head _) Zo (fun _ => by simp only [List.length_take]; omega)) ?_;refine Tx ?_;refine f4 ?_;rw [hf.to];exact ⟨(), _, (.cons (.tmp rfl) .nil), rfl, Sf, .nil _, Sp⟩
theorem sH (f : Op → Bool) : ∀ (R K : List Op) (g : Op) (G : List Op) (k : Nat), R.length < k → cL f k (K ++ (g :: G ++ R)) (K.length : Int) ((K.length + (G.length + 1) : Nat) : Int) = K ++ R.filter (fun p => !f p)
 | [], K, g, G, k + 1, _ => by
  rw [cL];have : decide (((K.length + (G.length + 1) : Nat) : Int) < ((K ++ (g :: G ++ [])).length : Int)) = false := by simp
  rw [this, cond_false];simp
 | v :: R, K, g, G, k + 1, hk => by
  simp only [List.length_cons] at hk;rw [cL];have h1 : decide (((K.length + (G.length + 1) : Nat) : Int) < ((K ++ (g :: G ++ v :: R)).length : Int)) = true := by simp; omega
  have e0 : ((K.length + (G.length + 1) : Nat) : Int).toNat = (K ++ g :: G).length := by simp; omega
  have g0 : gt (K ++ (g :: G ++ v :: R)) ((K.length + (G.length + 1) : Nat) : Int).toNat = v := by rw [← List.append_assoc]; exact mX _ _ _ _ e0
  rw [h1, cond_true, g0, List.filter_cons];cases hv : f v with
  | true =>
   simp only [Bool.not_true, cond_false, Bool.false_eq_true, if_false];have ih := sH f R K g (G ++ [v]) k (by omega);rw [show ((K.length + (G.length + 1) : Nat) : Int) + 1 = ((K.length + ((G ++ [v]).length + 1) : Nat) : Int) by simp; omega];rw [show K ++ (g :: G ++ v :: R) = K ++ (g :: (G ++ [v]) ++ R) by simp];exact ih
  | false =>
   simp only [Bool.not_false, cond_true, if_true];have hs : (K ++ (g :: G ++ v :: R)).set (K.length : Int).toNat v = K ++ (v :: G ++ v :: R) := ly K g v (G ++ v :: R) _ (by simp);rw [hs];cases G with
   | nil =>
    have ih := sH f R (K ++ [v]) v [] k (by omega);simp only [Ln, List.append_assoc, List.cons_append, List.nil_append] at ih ⊢;rw [show (K.length : Int) + 1 = ((K.length + (0 + 1) : Nat) : Int) by simp, show ((K.length + (0 + 1) : Nat) : Int) + 1 = ((K.length + (0 + 1) + (0 + 1) : Nat) : Int) by simp];exact ih
   | cons g' G =>
    have ih := sH f R (K ++ [v]) g' (G ++ [v]) k (by omega);simp only [Ln, List.append_assoc, List.cons_append, List.nil_append] at ih ⊢;rw [show (K.length : Int) + 1 = ((K.length + (0 + 1) : Nat) : Int) by simp, show ((K.length + (G.length + 1 + 1) : Nat) : Int) + 1 = ((K.length + (0 + 1) + (G.length + (0 + 1) + 1) : Nat) : Int) by simp; omega];exact ih
theorem DF_Op (l : List Op) (f : Op → Bool) : ej l f = l.filter (fun p => !f p) := by
 unfold ej;have h : cb l f = bS f l 0 := rfl;rcases IF_Op f l 0 with ⟨h1, h2⟩ | ⟨A, x, R, h1, h2, h3, h4⟩
 ·rw [h, h1];have : ((-1 : Int) == -1) = true := rfl;rw [this, cond_true];exact (List.filter_eq_self.2 fun p hp => by rw [h2 p hp]; rfl).symm
 ·rw [h, h4];have : (((0 + A.length : Nat) : Int) == -1) = false := by rw [beq_eq_false_iff_ne]; omega
  rw [this, cond_false, h1];have hk := sH f R A x [] (((A ++ x :: R).length - (((0 + A.length : Nat) : Int) + 1).toNat) + 1) (by simp; omega);simp only [List.length_nil, Nat.zero_add, List.cons_append, List.nil_append] at hk ⊢;rw [show (A.length : Int) + 1 = ((A.length + 1 : Nat) : Int) by simp];rw [show (A.length : Int) + 1 = ((A.length + 1 : Nat) : Int) by simp] at hk;rw [hk, List.filter_append, List.filter_cons, h3];simp only [Bool.not_true, Bool.false_eq_true, if_false];have hA : A.filter (fun p => !f p) = A := List.filter_eq_self.2 fun p hp => by rw [h2 p hp]; rfl
  rw [hA]
theorem jo (y1 : SlV) (y1b : Option Nat) (s1 : List Op) (f1 : Nat) (caps1 : List Value) (pre1 : List Pred) [StabL pre1] (del1 : Op → Bool) (hfb1 : tab.fnb f1 = true) (hfn1 : ∀ (a0_ : Op), Du f1 ([.agg ⟨cO a0_⟩] ++ caps1) pre1 (.bool (del1 a0_))) :
  Dv 174 [y1.val s1.length, .func (.func f1) #[] ⟨caps1⟩] pre1 ⟨[], [ownL EOp 76 y1 y1b s1]⟩ (fun (_ : Unit) => y1.val (s1.filter (fun p => !del1 p)).length) (fun (_ : Unit) => []) (fun (_ : Unit) => ⟨[], [ownL EOp 76 y1 y1b (s1.filter (fun p => !del1 p))]⟩) := by
 have := mn y1 y1b s1 f1 caps1 pre1 del1 hfb1 hfn1;rw [DF_Op] at this;exact this
def jl (o1 : Op) (m1 : Mail) : Bool :=
 decide (o1.seq ≤ m1.seq)
theorem mc (o1 : Op) (c1 : Nat) (y1 : SlV) (y2 : SlV) (y3 : SlV) (y4 : SlV) (y5 : SlV) (y6 : SlV) (y7 : SlV) (m1 : Mail) : Du 175 [.agg ⟨cO o1⟩, .pointer (some ⟨c1, 0, none⟩)] [VarP c1 (cM y1 y2 y3 y4 y5 y6 y7 m1), RdL EInt y1 m1.v.roots, RdL EPlace y2 m1.v.known, RdL EPlace y3 m1.v.way, RdL EInt y4 m1.d.gone, RdL EPlace y5 m1.d.here, RdL EInt y6 m1.d.wayGone, RdL EPlace y7 m1.d.wayHere] (.bool (jl o1 m1)) := by
 refine Dp Tryz.func175 fun C => ?_;refine BxT fun g1 => ?_;have hf := Ri (jl.eq_1 o1 m1);exact Ru
def bF (c1 : Client) (me1 : Int) (m1 : Mail) : Client × Int :=
 (bif ((bK c1 me1) != 0) then ((⟨0, 0, 0, ([] : List Op), 0, (⟨[], [], []⟩ : View)⟩ : Client), (bK c1 me1)) else (bif ((cx [m1]) != 0) then ((⟨0, 0, 0, ([] : List Op), 0, (⟨[], [], []⟩ : View)⟩ : Client), (cx [m1])) else (bif ((m1.kind == 1) || (m1.who != me1)) then ((⟨0, 0, 0, ([] : List Op), 0, (⟨[], [], []⟩ : View)⟩ : Client), 4) else (bif (((m1.life != c1.life) || decide (m1.version ≤ c1.version)) || decide (m1.seq > c1.seq)) then (c1, 0) else (bif (m1.kind == 3) then (bif (m1.frm != c1.version) then (c1, 0) else (bif ((ec c1.v m1.d).2 != 0) then ((⟨0, 0, 0, ([] : List Op), 0, (⟨[], [], []⟩ : View)⟩ : Client), (ec c1.v m1.d).2) else ((⟨c1.life, (if m1.time > c1.time then m1.time else c1.time), c1.seq, (c1.pending.filter (fun p => !(fun a0_ => jl a0_ m1) p)), m1.version, (ec c1.v m1.d).1⟩ : Client), 0))) else ((⟨c1.life, (if m1.time > c1.time then m1.time else c1.time), c1.seq, (c1.pending.filter (fun p => !(fun a0_ => jl a0_ m1) p)), m1.version, m1.v⟩ : Client), 0))))))
theorem nU (y1 : SlV) (y2 : SlV) (y3 : SlV) (y4 : SlV) (c1 : Client) (me1 : Int) (y5 : SlV) (y6 : SlV) (y7 : SlV) (y8 : SlV) (y9 : SlV) (y10 : SlV) (y11 : SlV) (m1 : Mail) : Dw 134 [.agg ⟨cC y1 y2 y3 y4 c1⟩, .int .i64 me1, .agg ⟨cM y5 y6 y7 y8 y9 y10 y11 m1⟩] [RdL EOp y1 c1.pending, RdL EInt y2 c1.v.roots, RdL EPlace y3 c1.v.known, RdL EPlace y4 c1.v.way, RdL EInt y5 m1.v.roots, RdL EPlace y6 m1.v.known, RdL EPlace y7 m1.v.way, RdL EInt y8 m1.d.gone, RdL EPlace y9 m1.d.here, RdL EInt y10 m1.d.wayGone, RdL EPlace y11 m1.d.wayHere] (fun (X : SlV × SlV × SlV × SlV) => .tuple #[.agg ⟨cC X.1 X.2.1 X.2.2.1 X.2.2.2 (bF c1 me1 m1).1⟩, .int .i64 (bF c1 me1 m1).2]) (fun X => [RdL EOp X.1 (bF c1 me1 m1).1.pending, RdL EInt X.2.1 (bF c1 me1 m1).1.v.roots, RdL EPlace X.2.2.1 (bF c1 me1 m1).1.v.known, RdL EPlace X.2.2.2 (bF c1 me1 m1).1.v.way]) := by
 refine Dp Tryz.func134 fun C => ?_;refine Qc y1 56 fun hlen1 => ?_;refine Qc y2 8 fun hlen2 => ?_;refine Qc y3 24 fun hlen3 => ?_;refine Qc y4 24 fun hlen4 => ?_;refine Qc y5 8 fun hlen5 => ?_;refine Qc y6 24 fun hlen6 => ?_;refine Qc y7 24 fun hlen7 => ?_;refine Qc y8 8 fun hlen8 => ?_;refine Qc y9 24 fun hlen9 => ?_;refine Qc y10 8 fun hlen10 => ?_;refine Qc y11 24 fun hlen11 => ?_;refine BxT fun g1 => ?_;refine BxT fun g2 => ?_;refine AlT fun g3 => ?_;refine Ck (jm y1 y2 y3 y4 c1 me1) fun _ => ?_;have hf := Ri (bF.eq_1 c1 me1 m1);refine Cn hf (fun hc1 hc1p hf => ?_) fun hc1 hc1p hf => ?_
 ·refine Tx ?_;refine Fc EOp ?_;refine Fc EInt ?_;refine Fc EPlace ?_;refine Rx ?_; exact Rr ⟨Z0, Z0, Z0, Z0⟩
 ·have hck := kl (ag hc1);refine Bl NMail.E [((y5, y6, y7, y8, y9, y10, y11), m1)] (hfill := kO rfl rfl) fun x1 x1b => ?_;refine Fx x1 ?_;refine Ns NMail x1 [m1] ?_;refine Ck (jw x1 [m1]) fun _ => ?_;refine Cn hf (fun hc2 hc2p hf => ?_) fun hc2 hc2p hf => ?_
  ·refine Tx ?_;refine Fc EOp ?_;refine Fc EInt ?_;refine Fc EPlace ?_;refine Rx ?_; exact Rr ⟨Z0, Z0, Z0, Z0⟩
  ·refine Ch hf (fun hc3 hf => ?_) fun hc3 hf => ?_
   ·refine Tx ?_;refine Fc EOp ?_;refine Fc EInt ?_;refine Fc EPlace ?_;refine Rx ?_; exact Rr ⟨Z0, Z0, Z0, Z0⟩
   ·refine Cm (kY y1 y2 y3 y4 c1) fun x2 => ?_;refine Qr x2.2.2.1 8 fun hlen12 => ?_;refine Qr x2.2.2.2.1 24 fun hlen13 => ?_;refine Qr x2.2.2.2.2 24 fun hlen14 => ?_;refine Ch hf (fun hc4 hf => ?_) fun hc4 hf => ?_
    ·refine Tx ?_;refine Fz x2.1 ?_;refine Rx ?_; exact Rr ⟨x2.1, x2.2.2.1, x2.2.2.2.1, x2.2.2.2.2⟩
    ·refine AlT fun g4 => ?_;refine Ce hf (fun hc5 hc5p hf => ?_) fun hc5 hc5p hf => ?_
     ·refine Cn hf (fun hc6 hc6p hf => ?_) fun hc6 hc6p hf => ?_
      ·refine Tx ?_;refine Fz x2.1 ?_;refine Rx ?_; exact Rr ⟨x2.1, x2.2.2.1, x2.2.2.2.1, x2.2.2.2.2⟩
      ·refine Ck (sx x2.2.2.1 x2.2.2.2.1 x2.2.2.2.2 c1.v y8 y9 y10 y11 m1.d) fun x3 => ?_;refine Qr x3.1 8 fun hlen15 => ?_;refine Qr x3.2.1 24 fun hlen16 => ?_;refine Qr x3.2.2 24 fun hlen17 => ?_;refine Cn hf (fun hc7 hc7p hf => ?_) fun hc7 hc7p hf => ?_
       ·refine Tx ?_;refine Fc EOp ?_;refine Fc EInt ?_;refine Fc EPlace ?_;refine Rx ?_; exact Rr ⟨Z0, Z0, Z0, Z0⟩
       ·refine Rg [(10,some [g1]),(12,some [g1]),(14,some [g1])] ?_;refine Ra 0 rfl XA ?_;refine Rq (Fa 2 [1,4,5,6,7,8,9,10]) (.keep (.keep (.keep (.drop Sa)))) Xv ?_;refine Rq (Fa 3 [1,4,5,6,7,8,9,10]) (.keep (.keep (.keep (.drop Sa)))) (q_ld1 rfl rfl Zf rfl Mm rfl) ?_;refine Dx [4,5] ?_;refine Rq (Fb 6 [1,9,10,11,12]) (.keep (.keep (.keep (.drop Sa)))) Xv ?_;refine Rq (Fa 7 [1,9,10,11,12]) (.keep (.keep (.keep (.drop Sa)))) (q_ld1 rfl rfl Zf rfl Mm rfl) ?_;refine Rq (Fa 8 [1,9,10,11,12]) (.keep (.keep (.keep (.drop Sa)))) (q_max rfl rfl Zf rfl Zf) ?_;refine Rn 1 ?_;refine Cm (jx x3.1 x3.2.1 x3.2.2 (ec c1.v m1.d).1) fun x4 => ?_;refine Ra 9 rfl Qp ?_;refine Rn 10 ?_;refine Wp ?_;refine Ra 11 rfl Qp ?_;refine Rn 12 ?_;refine W1 ?_;refine Ra 13 rfl Qp ?_;refine Rn 14 ?_;refine W1 ?_;refine Re0 ?_;refine Tx ?_;refine rw_le (rY (g := g2) Pk) ?_;refine Cm (jo x2.1 x2.2.1 c1.pending _ _ _ (fun a0_ => jl a0_ m1) Kr (fun a0_ => mc a0_ g2 y5 y6 y7 y8 y9 y10 y11 m1)) fun _ => ?_;refine Tx ?_;refine Fz x2.1 ?_;refine Fz x4.1 ?_;refine Fz x4.2.2.1 ?_;refine Fz x4.2.2.2.2.1 ?_;refine Rx ?_; exact Rr ⟨x2.1, x4.1, x4.2.2.1, x4.2.2.2.2.1⟩
     ·refine Rg [(10,some [g1]),(12,some [g1]),(14,some [g1])] ?_;refine Ra 0 rfl XA ?_;refine Rq (Fa 2 [1,4,5,6,7,8,9,10]) (.keep (.keep (.keep (.drop Sa)))) Xv ?_;refine Rq (Fa 3 [1,4,5,6,7,8,9,10]) (.keep (.keep (.keep (.drop Sa)))) (q_ld1 rfl rfl Zf rfl Mm rfl) ?_;refine Dx [4,5] ?_;refine Rq (Fb 6 [1,9,10,11,12]) (.keep (.keep (.keep (.drop Sa)))) Xv ?_;refine Rq (Fa 7 [1,9,10,11,12]) (.keep (.keep (.keep (.drop Sa)))) (q_ld1 rfl rfl Zf rfl Mm rfl) ?_;refine Rq (Fa 8 [1,9,10,11,12]) (.keep (.keep (.keep (.drop Sa)))) (q_max rfl rfl Zf rfl Zf) ?_;refine Rn 1 ?_;refine Cm (jx y5 y6 y7 m1.v) fun x5 => ?_;refine Ra 9 rfl Qp ?_;refine Rn 10 ?_;refine Wp ?_;refine Ra 11 rfl Qp ?_;refine Rn 12 ?_;refine W1 ?_;refine Ra 13 rfl Qp ?_;refine Rn 14 ?_;refine W1 ?_;refine Re0 ?_;refine Tx ?_;refine rw_le (rY (g := g2) Pk) ?_;refine Cm (jo x2.1 x2.2.1 c1.pending _ _ _ (fun a0_ => jl a0_ m1) Kr (fun a0_ => mc a0_ g2 y5 y6 y7 y8 y9 y10 y11 m1)) fun _ => ?_;refine Tx ?_;refine Fz x2.1 ?_;refine Fz x5.1 ?_;refine Fz x5.2.2.1 ?_;refine Fz x5.2.2.2.2.1 ?_;refine Rx ?_; exact Rr ⟨x2.1, x5.1, x5.2.2.1, x5.2.2.2.2.1⟩
end Go.Proofs.YtkjccbdeaflekaaGreatDoor
