/- Part of this claim. No condition. -/
import Derived.Test.YtchdacbjiomplaaWA
set_option linter.unusedVariables false
set_option linter.unusedSimpArgs false
namespace Go.Proofs.Ytchdacbjiomplaa
open Go Go.Proofs.Ytchdacbjiomplaa.Fw Go.Proofs
/-! ### tree -/
def find : List Place → Int → Place
  | [], _ => ⟨0, 0, 0⟩
  | p :: r, n => bif p.node == n then p else find r n
def place (p : Place) : Int := bif (decide (p.node < 1) || decide (p.node ≥ 16) || decide (p.parent < 0) || decide (p.parent > 16) || decide (p.name < 0) || decide (p.name > 99)) then 3 else 0
def standsF (l : List Place) (top : Int) : Nat → Int → Bool
  | 0, _ => false
  | k + 1, nd => bif nd == top then true else bif (find l nd).node == 0 then false else standsF l top k (find l nd).parent
def stands (l : List Place) (nd top : Int) : Bool := standsF l top (l.length + 1) nd
/-- the first loop of Check: from place number k on -/
def chk1 (l : List Place) : Nat → Nat → Int
  | 0, _ => 0
  | f + 1, k => bif place (gt l k) != 0 then place (gt l k) else bif (decide ((k : Int) > 0) && decide ((gt l (k - 1)).node ≥ (gt l k).node)) then 6 else chk1 l f (k + 1)
def chk2 (t : List Place) : List Place → Int
  | [] => 0
  | p :: r => bif stands t p.parent p.node then 4 else chk2 t r
def checkT (l : List Place) : Int := bif chk1 l l.length 0 != 0 then chk1 l l.length 0 else chk2 l l
def put (p : Place) : Bool → List Place → List Place
  | d, [] => bif !d then [p] else []
  | d, q :: r => bif (!d && decide (q.node ≥ p.node)) then p :: (bif q.node != p.node then q :: put p true r else put p true r) else (bif q.node != p.node then q :: put p d r else put p d r)
def putT (l : List Place) (p : Place) : List Place := put p (decide (p.parent < 0)) l
def under (l : List Place) (nd top : Int) : Bool × Int := bif checkT l != 0 then (false, checkT l) else bif (decide (nd < 0) || decide (nd > 16) || decide (top < 0) || decide (top > 16)) then (false, 5) else (stands l nd top, 0)

/-! ### move -/
def chkO (o : Op) : Int := bif (decide (o.time < 1) || decide (o.time > 10000) || decide (o.who < 0) || decide (o.who ≥ 3) || decide (o.node < 1) || decide (o.node ≥ 16) || decide (o.parent < 0) || decide (o.parent > 16) || decide (o.name < 0) || decide (o.name > 99) || decide (o.life < 1) || decide (o.life > 50) || decide (o.seq < 1) || decide (o.seq > 30)) then 3 else 0
def moveDo (l : List Place) (o : Op) : List Place × Step × Int :=
  bif checkT l != 0 then ([], default, checkT l) else bif chkO o != 0 then ([], default, chkO o) else
  bif stands l o.parent o.node then (l, ⟨o, false, find l o.node⟩, 0) else (putT l ⟨o.node, o.parent, o.name⟩, ⟨o, true, find l o.node⟩, 0)
def wasOf (s : Step) : Place := bif s.was.node == 0 then ⟨s.o.node, -1, 0⟩ else s.was
def moveUndo (l : List Place) (s : Step) : List Place × Int :=
  bif checkT l != 0 then ([], checkT l) else bif chkO s.o != 0 then ([], chkO s.o) else bif !s.did then (l, 0) else
  bif ((wasOf s).node != s.o.node || find l s.o.node != ⟨s.o.node, s.o.parent, s.o.name⟩) then ([], 4) else
  bif checkT (putT l (wasOf s)) != 0 then ([], checkT (putT l (wasOf s))) else (putT l (wasOf s), 0)
end Go.Proofs.Ytchdacbjiomplaa

namespace Go.Proofs.Ytchdacbjiomplaa
open Go Go.Proofs.Ytchdacbjiomplaa.Fw Go.Proofs

/-! ### Plain facts of trees -/
theorem chk1_ok (l : List Place) : ∀ (f k : Nat), k + f = l.length → chk1 l f k = 0 → (∀ i, k ≤ i → i < l.length → place (gt l i) = 0) ∧ ∀ i, k ≤ i → i < l.length → 0 < i → (gt l (i - 1)).node < (gt l i).node
  | 0, k, h, _ => ⟨fun i h1 h2 => by omega, fun i h1 h2 => by omega⟩
  | f + 1, k, h, hc => by
    rw [chk1] at hc
    cases h1 : place (gt l k) != 0 with
    | true => rw [h1, cond_true] at hc; simp [hc] at h1
    | false =>
      rw [h1, cond_false] at hc
      cases h2 : (decide ((k : Int) > 0) && decide ((gt l (k - 1)).node ≥ (gt l k).node)) with
      | true => rw [h2, cond_true] at hc; cases hc
      | false =>
        rw [h2, cond_false] at hc
        obtain ⟨ha, hb⟩ := chk1_ok l f (k + 1) (by omega) hc
        refine ⟨fun i hi hlt => ?_, fun i hi hlt hp => ?_⟩
        · rcases Nat.eq_or_lt_of_le hi with rfl | hi
          · simpa using h1
          · exact ha i hi hlt
        · rcases Nat.eq_or_lt_of_le hi with rfl | hi
          · simp only [Bool.and_eq_false_iff, decide_eq_false_iff_not] at h2
            rcases h2 with h2 | h2 <;> omega
          · exact hb i hi hlt hp

theorem checkT_1 {l : List Place} (h : checkT l = 0) : chk1 l l.length 0 = 0 := by
  unfold checkT at h
  cases h1 : chk1 l l.length 0 != 0 with
  | true => rw [h1, cond_true] at h; exact h
  | false => simpa using h1

theorem plc_ok {p : Place} (h : place p = 0) : 1 ≤ p.node ∧ p.node < 16 ∧ 0 ≤ p.parent ∧ p.parent ≤ 16 ∧ 0 ≤ p.name ∧ p.name ≤ 99 := by
  unfold place at h
  generalize hb : (decide (p.node < 1) || decide (p.node ≥ 16) || decide (p.parent < 0) || decide (p.parent > 16) || decide (p.name < 0) || decide (p.name > 99)) = b at h
  cases b with
  | true => simp at h
  | false => simp only [Bool.or_eq_false_iff, decide_eq_false_iff_not] at hb; omega

theorem checkT_len {l : List Place} (h : checkT l = 0) : l.length ≤ 15 := by
  obtain ⟨ha, hb⟩ := chk1_ok l l.length 0 (by omega) (checkT_1 h)
  have key : ∀ i, i < l.length → (i : Int) + 1 ≤ (gt l i).node := by
    intro i
    induction i with
    | zero => intro h0; have := (plc_ok (ha 0 (by omega) h0)).1; simpa using this
    | succ i ih => intro hi; have := ih (by omega); have := hb (i + 1) (by omega) hi (by omega); simp at this; push_cast; omega
  apply Classical.byContradiction
  intro hn
  have h1 := key 15 (by omega)
  have h2 := (plc_ok (ha 15 (by omega) (by omega))).2.1
  omega
theorem put_len (p : Place) : ∀ (d : Bool) (l : List Place), (put p d l).length ≤ l.length + (bif d then 0 else 1)
  | true, [] => by simp [put]
  | false, [] => by simp [put]
  | d, q :: r => by
    have h1 := put_len p d r
    have h2 := put_len p true r
    rw [put]
    cases h3 : (!d && decide (q.node ≥ p.node)) <;> cases (q.node != p.node) <;> cases d <;> simp only [cond_true, cond_false, List.length_cons, Bool.not_true, Bool.false_and, Bool.false_eq_true] at * <;> omega
theorem putT_len (l : List Place) (p : Place) : (putT l p).length ≤ l.length + 1 := by
  have := put_len p (decide (p.parent < 0)) l
  have h : (bif decide (p.parent < 0) then 0 else 1) ≤ 1 := by cases decide (p.parent < 0) <;> simp
  unfold putT
  omega
theorem ne_place (a b : Place) : (a != b) = !flatEq (EPlace.enc a) (EPlace.enc b) := by rw [flatEq_Place]; rfl
theorem checkT_small {l : List Place} (h : checkT l = 0) : l.length ≤ 1000000 := Nat.le_trans (checkT_len h) (by omega)
end Go.Proofs.Ytchdacbjiomplaa

namespace Go.Proofs.Ytchdacbjiomplaa
open Go Go.Proofs.Ytchdacbjiomplaa.Fw

/-! ### Ways up a tree -/
inductive Way (l : List Place) (ok : Int → Prop) : Int → Int → Nat → Prop
  | here (a : Int) : Way l ok a a 0
  | up {a b : Int} {k : Nat} (hok : ok a) (hn : (find l a).node ≠ 0) (h : Way l ok (find l a).parent b k) : Way l ok a b (k + 1)

theorem standsF_iff (l : List Place) (top : Int) : ∀ (f : Nat) (nd : Int), standsF l top f nd = true ↔ ∃ k, k < f ∧ Way l (fun _ => True) nd top k
  | 0, nd => by simp [standsF]
  | f + 1, nd => by
    rw [standsF]
    by_cases h : nd = top
    · subst h
      simp only [beq_self_eq_true, cond_true, true_iff]
      exact ⟨0, by omega, .here _⟩
    · have hb : (nd == top) = false := by simpa using h
      rw [hb, cond_false]
      by_cases h0 : (find l nd).node = 0
      · have : ((find l nd).node == 0) = true := by simpa using h0
        rw [this, cond_true]
        constructor
        · intro h; cases h
        · rintro ⟨k, _, hw⟩
          cases hw with
          | here => exact absurd rfl h
          | up _ hn _ => exact absurd h0 hn
      · have : ((find l nd).node == 0) = false := by simpa using h0
        rw [this, cond_false, standsF_iff l top f]
        constructor
        · rintro ⟨k, hk, hw⟩; exact ⟨k + 1, by omega, .up trivial h0 hw⟩
        · rintro ⟨k, hk, hw⟩
          cases hw with
          | here => exact absurd rfl h
          | up _ _ hw => exact ⟨_, by omega, hw⟩

theorem Way.last {l : List Place} {ok : Int → Prop} (a : Int) {x b : Int} {k : Nat} (h : Way l ok x b k) :
    (∃ k', Way l (fun z => ok z ∧ z ≠ a) x b k') ∨ (ok a ∧ (find l a).node ≠ 0 ∧ ∃ k', Way l (fun z => ok z ∧ z ≠ a) (find l a).parent b k') := by
  induction h with
  | here x => exact .inl ⟨0, .here _⟩
  | @up x b k hok hn h ih =>
    rcases ih with ⟨k', hw⟩ | h2
    · by_cases hx : x = a
      · subst hx; exact .inr ⟨hok, hn, k', hw⟩
      · exact .inl ⟨k' + 1, .up ⟨hok, hx⟩ hn hw⟩
    · exact .inr h2

theorem Way.mono {l : List Place} {ok ok' : Int → Prop} (hm : ∀ z, ok z → ok' z) {a b : Int} {k : Nat} (h : Way l ok a b k) : Way l ok' a b k := by
  induction h with
  | here x => exact .here x
  | up hok hn _ ih => exact .up (hm _ hok) hn ih

theorem Way.short {l : List Place} : ∀ (m : Nat) (S : List Int), S.length ≤ m → ∀ {a b : Int} {k : Nat}, Way l (fun z => z ∈ S) a b k → ∃ k', k' ≤ m ∧ Way l (fun z => z ∈ S) a b k' := by
  intro m
  induction m with
  | zero =>
    intro S hS a b k h
    cases h with
    | here => exact ⟨0, Nat.le_refl _, .here _⟩
    | up hok _ _ =>
      have : S = [] := List.length_eq_zero_iff.1 (by omega)
      subst this; cases hok
  | succ m ih =>
    intro S hS a b k h
    rcases h.last a with ⟨k', hw⟩ | ⟨hok, hn, k', hw⟩
    · cases hw with
      | here => exact ⟨0, by omega, .here _⟩
      | up hok _ _ => exact absurd rfl hok.2
    · have hlt : (S.filter (· != a)).length < S.length := by
        apply Classical.byContradiction
        intro hge
        have := List.filter_eq_self.1 ((List.filter_sublist (p := (· != a)) (l := S)).eq_of_length_le (by omega)) a hok
        simp at this
      obtain ⟨k2, hk2, hw2⟩ := ih (S.filter (· != a)) (by omega) (hw.mono fun z hz => by simpa using hz)
      exact ⟨k2 + 1, by omega, .up hok hn (hw2.mono fun z hz => (List.mem_filter.1 hz).1)⟩

theorem find_node {l : List Place} {a : Int} : (find l a).node ≠ 0 → (find l a).node = a ∧ find l a ∈ l := by
  induction l with
  | nil => intro h; exact absurd rfl h
  | cons p r ih =>
    intro h
    rw [find] at h ⊢
    cases hp : p.node == a with
    | true => rw [cond_true]; exact ⟨by simpa using hp, .head _⟩
    | false => rw [hp, cond_false] at h; rw [cond_false]; exact ⟨(ih h).1, .tail _ (ih h).2⟩

def Up (l : List Place) (a b : Int) : Prop := ∃ k, Way l (fun _ => True) a b k

theorem stands_iff (l : List Place) (a b : Int) : stands l a b = true ↔ Up l a b := by
  unfold stands
  rw [standsF_iff]
  constructor
  · rintro ⟨k, _, h⟩; exact ⟨k, h⟩
  · rintro ⟨k, h⟩
    have h1 : ∀ {a b : Int} {k : Nat}, Way l (fun _ => True) a b k → Way l (fun z => z ∈ l.map (·.node)) a b k := by
      intro a b k h
      induction h with
      | here x => exact .here x
      | up _ hn _ ih =>
        obtain ⟨e, hm⟩ := find_node hn
        exact .up (List.mem_map.2 ⟨_, hm, e⟩) hn ih
    obtain ⟨k', hk, hw⟩ := (h1 h).short (l := l) l.length (l.map (·.node)) (by simp)
    exact ⟨k', by omega, hw.mono fun _ _ => trivial⟩

theorem Up.refl (l : List Place) (a : Int) : Up l a a := ⟨0, .here a⟩
theorem Way.trans {l : List Place} {ok : Int → Prop} {a b c : Int} {k m : Nat} (h : Way l ok a b k) (h' : Way l ok b c m) : ∃ n, Way l ok a c n := by
  induction h with
  | here => exact ⟨m, h'⟩
  | up hok hn _ ih => obtain ⟨n, hw⟩ := ih h'; exact ⟨n + 1, .up hok hn hw⟩
theorem Up.trans {l : List Place} {a b c : Int} (h : Up l a b) (h' : Up l b c) : Up l a c := by
  obtain ⟨_, h⟩ := h
  obtain ⟨_, h'⟩ := h'
  exact h.trans h'
end Go.Proofs.Ytchdacbjiomplaa

namespace Go.Proofs.Ytchdacbjiomplaa
open Go Go.Proofs.Ytchdacbjiomplaa.Fw

/-! ### What a tree is -/
structure IsTree (l : List Place) : Prop where
  ok : ∀ p ∈ l, place p = 0
  up : l.Pairwise (fun a b => a.node < b.node)
  no : ∀ p ∈ l, ¬ Up l p.parent p.node

theorem gt_cons_succ (p : Place) (r : List Place) (i : Nat) : gt (p :: r) (i + 1) = gt r i := by simp [gt]
theorem gt_cons_zero (p : Place) (r : List Place) : gt (p :: r) 0 = p := by simp [gt]

theorem pairwise_gt : ∀ (l : List Place), (∀ i, i + 1 < l.length → (gt l i).node < (gt l (i + 1)).node) → l.Pairwise (fun a b => a.node < b.node)
  | [], _ => .nil
  | [p], _ => by simp
  | p :: q :: r, h => by
    have h1 := pairwise_gt (q :: r) (fun i hi => by have := h (i + 1) (by simp at hi ⊢; omega); simpa [gt_cons_succ] using this)
    have h0 : p.node < q.node := by have := h 0 (by simp); simpa [gt] using this
    refine .cons (fun a ha => ?_) h1
    rcases List.mem_cons.1 ha with rfl | ha
    · exact h0
    · exact Int.lt_trans h0 (List.rel_of_pairwise_cons h1 ha)

theorem gt_pairwise : ∀ {l : List Place}, l.Pairwise (fun a b => a.node < b.node) → ∀ i, i + 1 < l.length → (gt l i).node < (gt l (i + 1)).node := by
  intro l h i hi
  rw [gt_eq (by omega), gt_eq hi]
  exact List.pairwise_iff_getElem.1 h i (i + 1) (by omega) hi (by omega)

theorem chk1_of (l : List Place) (ha : ∀ i, i < l.length → place (gt l i) = 0) (hb : ∀ i, i + 1 < l.length → (gt l i).node < (gt l (i + 1)).node) : ∀ (f k : Nat), k + f = l.length → chk1 l f k = 0
  | 0, _, _ => rfl
  | f + 1, k, h => by
    rw [chk1, ha k (by omega)]
    have h2 : (decide ((k : Int) > 0) && decide ((gt l (k - 1)).node ≥ (gt l k).node)) = false := by
      cases k with
      | zero => simp
      | succ k => have := hb k (by omega); simp; omega
    rw [h2]
    exact chk1_of l ha hb f (k + 1) (by omega)

theorem chk2_iff (t : List Place) : ∀ (l : List Place), chk2 t l = 0 ↔ ∀ p ∈ l, ¬ Up t p.parent p.node
  | [] => by simp [chk2]
  | p :: r => by
    rw [chk2]
    cases h : stands t p.parent p.node with
    | true => simp only [cond_true, List.forall_mem_cons, (stands_iff t _ _).1 h, not_true, false_and, iff_false]; decide
    | false =>
      have hn : ¬ Up t p.parent p.node := fun hu => by rw [(stands_iff t _ _).2 hu] at h; cases h
      simp only [cond_false, List.forall_mem_cons, hn, not_false_eq_true, true_and, chk2_iff t r]

theorem checkT_iff (l : List Place) : checkT l = 0 ↔ IsTree l := by
  constructor
  · intro h
    have h1 := checkT_1 h
    obtain ⟨ha, hb⟩ := chk1_ok l l.length 0 (by omega) h1
    have h2 : chk2 l l = 0 := by
      unfold checkT at h
      rw [h1] at h
      exact h
    refine ⟨fun p hp => ?_, pairwise_gt l fun i hi => by have := hb (i + 1) (by omega) hi (by omega); simpa using this, (chk2_iff l l).1 h2⟩
    obtain ⟨i, hi, rfl⟩ := List.getElem_of_mem hp
    have := ha i (by omega) hi
    rwa [gt_eq hi] at this
  · intro h
    have h1 : chk1 l l.length 0 = 0 := chk1_of l (fun i hi => by rw [gt_eq hi]; exact h.ok _ (List.getElem_mem hi)) (gt_pairwise h.up) _ _ (by omega)
    unfold checkT
    rw [h1]
    exact (chk2_iff l l).2 h.no

/-! ### A node put to a place -/
theorem find_put_t (p : Place) (n : Int) : ∀ l : List Place, find (put p true l) n = bif n == p.node then ⟨0, 0, 0⟩ else find l n
  | [] => by simp [put, find]
  | q :: r => by
    have ih := find_put_t p n r
    rw [put]
    simp only [Bool.not_true, Bool.false_and, cond_false]
    by_cases hq : q.node = p.node
    · have : (q.node != p.node) = false := by simpa using hq
      rw [this, cond_false, ih, find]
      by_cases hn : n = p.node
      · simp [hn]
      · have h1 : (n == p.node) = false := by simpa using hn
        have h2 : (q.node == n) = false := by rw [hq]; simpa using Ne.symm hn
        rw [h1, h2]; rfl
    · have : (q.node != p.node) = true := by simpa using hq
      rw [this, cond_true, find, find, ih]
      by_cases hn : n = p.node
      · have h2 : (q.node == n) = false := by rw [hn]; simpa using hq
        rw [h2, hn]; simp
      · have h1 : (n == p.node) = false := by simpa using hn
        rw [h1]; rfl

theorem find_put_f (p : Place) (n : Int) : ∀ l : List Place, find (put p false l) n = bif n == p.node then p else find l n
  | [] => by
    by_cases hn : n = p.node
    · simp [put, find, hn]
    · have h1 : (n == p.node) = false := by simpa using hn
      have h2 : (p.node == n) = false := by simpa using Ne.symm hn
      simp [put, find, h1, h2]
  | q :: r => by
    rw [put]
    by_cases hge : q.node ≥ p.node
    · have h0 : (!false && decide (q.node ≥ p.node)) = true := by simpa using hge
      rw [h0, cond_true]
      have e : (bif q.node != p.node then q :: put p true r else put p true r) = put p true (q :: r) := by rw [put]; rfl
      rw [e, find, find_put_t]
      by_cases hn : n = p.node
      · subst hn; simp
      · have h1 : (n == p.node) = false := by simpa using hn
        have h2 : (p.node == n) = false := by simpa using Ne.symm hn
        rw [h1, h2]; rfl
    · have h0 : (!false && decide (q.node ≥ p.node)) = false := by simpa using hge
      have hne : (q.node != p.node) = true := by simp; omega
      rw [h0, cond_false, hne, cond_true, find, find, find_put_f p n r]
      by_cases hn : n = p.node
      · have h2 : (q.node == n) = false := by simp; omega
        rw [h2, hn]; simp
      · have h1 : (n == p.node) = false := by simpa using hn
        rw [h1]; rfl

theorem mem_put_t (p x : Place) : ∀ l : List Place, x ∈ put p true l → x ∈ l ∧ x.node ≠ p.node
  | [], h => by cases h
  | q :: r, h => by
    rw [put] at h
    simp only [Bool.not_true, Bool.false_and, cond_false] at h
    cases hq : q.node != p.node with
    | true =>
      rw [hq, cond_true] at h
      rcases List.mem_cons.1 h with rfl | h
      · exact ⟨.head _, by simpa using hq⟩
      · exact ⟨.tail _ (mem_put_t p x r h).1, (mem_put_t p x r h).2⟩
    | false => rw [hq, cond_false] at h; exact ⟨.tail _ (mem_put_t p x r h).1, (mem_put_t p x r h).2⟩

theorem mem_put_f (p x : Place) : ∀ l : List Place, x ∈ put p false l → x = p ∨ (x ∈ l ∧ x.node ≠ p.node)
  | [], h => by simp [put] at h; exact .inl h
  | q :: r, h => by
    rw [put] at h
    by_cases hge : q.node ≥ p.node
    · have h0 : (!false && decide (q.node ≥ p.node)) = true := by simpa using hge
      have e : (bif q.node != p.node then q :: put p true r else put p true r) = put p true (q :: r) := by rw [put]; rfl
      rw [h0, cond_true, e] at h
      rcases List.mem_cons.1 h with rfl | h
      · exact .inl rfl
      · exact .inr (mem_put_t p x _ h)
    · have h0 : (!false && decide (q.node ≥ p.node)) = false := by simpa using hge
      have hne : (q.node != p.node) = true := by simp; omega
      rw [h0, cond_false, hne, cond_true] at h
      rcases List.mem_cons.1 h with rfl | h
      · exact .inr ⟨.head _, by simpa using hne⟩
      · rcases mem_put_f p x r h with h | ⟨h1, h2⟩
        · exact .inl h
        · exact .inr ⟨.tail _ h1, h2⟩

theorem put_t_up (p : Place) : ∀ {l : List Place}, l.Pairwise (fun a b => a.node < b.node) → (put p true l).Pairwise (fun a b => a.node < b.node)
  | [], _ => .nil
  | q :: r, h => by
    have hr := List.Pairwise.of_cons h
    rw [put]
    simp only [Bool.not_true, Bool.false_and, cond_false]
    cases q.node != p.node with
    | true => exact .cons (fun a ha => List.rel_of_pairwise_cons h (mem_put_t p a r ha).1) (put_t_up p hr)
    | false => exact put_t_up p hr

theorem put_f_up (p : Place) : ∀ {l : List Place}, l.Pairwise (fun a b => a.node < b.node) → (put p false l).Pairwise (fun a b => a.node < b.node)
  | [], _ => by simp [put]
  | q :: r, h => by
    have hr := List.Pairwise.of_cons h
    rw [put]
    by_cases hge : q.node ≥ p.node
    · have h0 : (!false && decide (q.node ≥ p.node)) = true := by simpa using hge
      have e : (bif q.node != p.node then q :: put p true r else put p true r) = put p true (q :: r) := by rw [put]; rfl
      rw [h0, cond_true, e]
      refine .cons (fun a ha => ?_) (put_t_up p h)
      obtain ⟨hm, hn⟩ := mem_put_t p a _ ha
      have : q.node ≤ a.node := by
        rcases List.mem_cons.1 hm with rfl | hm
        · exact Int.le_refl _
        · exact Int.le_of_lt (List.rel_of_pairwise_cons h hm)
      omega
    · have h0 : (!false && decide (q.node ≥ p.node)) = false := by simpa using hge
      have hne : (q.node != p.node) = true := by simp; omega
      rw [h0, cond_false, hne, cond_true]
      refine .cons (fun a ha => ?_) (put_f_up p hr)
      rcases mem_put_f p a r ha with rfl | ⟨hm, _⟩
      · omega
      · exact List.rel_of_pairwise_cons h hm

/-- Trees of like places are alike. -/
theorem find_lt {l : List Place} {n : Int} (h : ∀ p ∈ l, n < p.node) : find l n = ⟨0, 0, 0⟩ := by
  induction l with
  | nil => rfl
  | cons p r ih =>
    rw [find]
    have := h p (.head _)
    have h1 : (p.node == n) = false := by simp; omega
    rw [h1, cond_false]
    exact ih fun q hq => h q (.tail _ hq)

theorem ext_find : ∀ {l l' : List Place}, l.Pairwise (fun a b => a.node < b.node) → l'.Pairwise (fun a b => a.node < b.node) → (∀ p ∈ l, 1 ≤ p.node) → (∀ p ∈ l', 1 ≤ p.node) → (∀ n, 1 ≤ n → find l n = find l' n) → l = l'
  | [], [], _, _, _, _, _ => rfl
  | [], q :: r, _, _, _, h4, h5 => by
    have h1 := h4 q (.head _)
    have := h5 q.node h1
    simp [find] at this
    rw [← this] at h1; simp at h1
  | p :: r, [], _, _, h3, _, h5 => by
    have h1 := h3 p (.head _)
    have := h5 p.node h1
    simp [find] at this
    rw [this] at h1; simp at h1
  | p :: r, q :: s, h1, h2, h3, h4, h5 => by
    have hp := h3 p (.head _)
    have hq := h4 q (.head _)
    have e1 := h5 p.node hp
    have e2 := h5 q.node hq
    have hpq : p.node = q.node := by
      rcases Int.lt_trichotomy p.node q.node with h | h | h
      · have : find (q :: s) p.node = ⟨0, 0, 0⟩ := find_lt fun x hx => by
          rcases List.mem_cons.1 hx with rfl | hx
          · exact h
          · exact Int.lt_trans h (List.rel_of_pairwise_cons h2 hx)
        rw [this] at e1
        simp [find] at e1
        rw [e1] at hp; simp at hp
      · exact h
      · have : find (p :: r) q.node = ⟨0, 0, 0⟩ := find_lt fun x hx => by
          rcases List.mem_cons.1 hx with rfl | hx
          · exact h
          · exact Int.lt_trans h (List.rel_of_pairwise_cons h1 hx)
        rw [this] at e2
        simp [find] at e2
        rw [← e2] at hq; simp at hq
    have e : p = q := by simpa [find, hpq] using e1
    subst e
    refine congrArg _ (ext_find (List.Pairwise.of_cons h1) (List.Pairwise.of_cons h2) (fun x hx => h3 x (.tail _ hx)) (fun x hx => h4 x (.tail _ hx)) fun n hn => ?_)
    by_cases hn' : n = p.node
    · subst hn'
      rw [find_lt fun x hx => List.rel_of_pairwise_cons h1 hx, find_lt fun x hx => List.rel_of_pairwise_cons h2 hx]
    · have := h5 n hn
      rw [find, find] at this
      have hb : (p.node == n) = false := by simpa using Ne.symm hn'
      rwa [hb, cond_false, cond_false] at this
end Go.Proofs.Ytchdacbjiomplaa

namespace Go.Proofs.Ytchdacbjiomplaa
open Go Go.Proofs.Ytchdacbjiomplaa.Fw

theorem Way.first {l : List Place} {ok : Int → Prop} (a : Int) {x b : Int} {k : Nat} (h : Way l ok x b k) :
    (∃ k', Way l (fun z => ok z ∧ z ≠ a) x b k') ∨ (∃ k', Way l (fun z => ok z ∧ z ≠ a) x a k') := by
  induction h with
  | here x => exact .inl ⟨0, .here _⟩
  | @up x b k hok hn h ih =>
    by_cases hx : x = a
    · subst hx; exact .inr ⟨0, .here _⟩
    · rcases ih with ⟨k', hw⟩ | ⟨k', hw⟩
      · exact .inl ⟨k' + 1, .up ⟨hok, hx⟩ hn hw⟩
      · exact .inr ⟨k' + 1, .up ⟨hok, hx⟩ hn hw⟩

theorem Way.turn {l l' : List Place} {ok : Int → Prop} (hf : ∀ z, ok z → find l' z = find l z) {a b : Int} {k : Nat} (h : Way l ok a b k) : Way l' ok a b k := by
  induction h with
  | here x => exact .here x
  | up hok hn _ ih => exact .up hok (by rw [hf _ hok]; exact hn) (by rw [hf _ hok]; exact ih)

theorem find_mem : ∀ {l : List Place}, l.Pairwise (fun a b => a.node < b.node) → ∀ p ∈ l, find l p.node = p
  | q :: r, h, p, hp => by
    rw [find]
    rcases List.mem_cons.1 hp with rfl | hp
    · simp
    · have := List.rel_of_pairwise_cons h hp
      have hb : (q.node == p.node) = false := by simp; omega
      rw [hb, cond_false]
      exact find_mem (List.Pairwise.of_cons h) p hp

theorem putT_f {l : List Place} {p : Place} (h : 0 ≤ p.parent) : putT l p = put p false l := by
  unfold putT
  have : decide (p.parent < 0) = false := by simp; omega
  rw [this]
theorem putT_t {l : List Place} {p : Place} (h : p.parent < 0) : putT l p = put p true l := by
  unfold putT
  have : decide (p.parent < 0) = true := by simp; omega
  rw [this]
theorem find_putT (l : List Place) (p : Place) (n : Int) : find (putT l p) n = bif n == p.node then (bif decide (p.parent < 0) then ⟨0, 0, 0⟩ else p) else find l n := by
  unfold putT
  cases decide (p.parent < 0) with
  | true => rw [find_put_t]; rfl
  | false => rw [find_put_f]; rfl

theorem IsTree.node {l : List Place} (h : IsTree l) : ∀ p ∈ l, 1 ≤ p.node := fun p hp => (plc_ok (h.ok p hp)).1

theorem IsTree.put {l : List Place} (h : IsTree l) {p : Place} (hp : place p = 0) (hs : ¬ Up l p.parent p.node) : IsTree (putT l p) := by
  have hpp := plc_ok hp
  have hfind : ∀ n, n ≠ p.node → find (putT l p) n = find l n := fun n hn => by
    rw [find_putT]
    have : (n == p.node) = false := by simpa using hn
    rw [this]; rfl
  have hmem : ∀ x, x ∈ putT l p → x = p ∨ (x ∈ l ∧ x.node ≠ p.node) := fun x hx => by
    rw [putT_f hpp.2.2.1] at hx
    exact mem_put_f p x l hx
  refine ⟨fun x hx => ?_, by rw [putT_f hpp.2.2.1]; exact put_f_up p h.up, fun x hx hu => ?_⟩
  · rcases hmem x hx with rfl | ⟨hx, _⟩
    · exact hp
    · exact h.ok x hx
  · obtain ⟨k, hw⟩ := hu
    have back : ∀ {a b : Int} {k : Nat}, Way (putT l p) (fun z => True ∧ z ≠ p.node) a b k → Up l a b := fun hw => ⟨_, (hw.turn (l' := l) fun z hz => (hfind z hz.2).symm).mono fun _ _ => trivial⟩
    rcases hw.last p.node with ⟨k', h1⟩ | ⟨_, _, k', h1⟩
    · rcases hmem x hx with rfl | ⟨hx, _⟩
      · exact hs (back h1)
      · exact h.no x hx (back h1)
    · have e : (find (putT l p) p.node).parent = p.parent := by
        rw [find_putT]
        have : decide (p.parent < 0) = false := by simp; omega
        simp [this]
      rw [e] at h1
      have hu := back h1
      rcases hmem x hx with rfl | ⟨hxl, hxn⟩
      · exact hs hu
      · rcases hw.first p.node with ⟨k2, h2⟩ | ⟨k2, h2⟩
        · exact h.no x hxl (back h2)
        · have hup : Up l x.node p.node := by
            obtain ⟨k3, h3⟩ := back h2
            have := find_mem h.up x hxl
            exact ⟨k3 + 1, .up trivial (by rw [this]; have := h.node x hxl; omega) (by rw [this]; exact h3)⟩
          exact hs (hu.trans hup)

theorem chkO_ok {o : Op} (h : chkO o = 0) : 1 ≤ o.time ∧ o.time ≤ 10000 ∧ 0 ≤ o.who ∧ o.who < 3 ∧ 1 ≤ o.node ∧ o.node < 16 ∧ 0 ≤ o.parent ∧ o.parent ≤ 16 ∧ 0 ≤ o.name ∧ o.name ≤ 99 ∧ 1 ≤ o.life ∧ o.life ≤ 50 ∧ 1 ≤ o.seq ∧ o.seq ≤ 30 := by
  unfold chkO at h
  generalize hb : (decide (o.time < 1) || decide (o.time > 10000) || decide (o.who < 0) || decide (o.who ≥ 3) || decide (o.node < 1) || decide (o.node ≥ 16) || decide (o.parent < 0) || decide (o.parent > 16) || decide (o.name < 0) || decide (o.name > 99) || decide (o.life < 1) || decide (o.life > 50) || decide (o.seq < 1) || decide (o.seq > 30)) = b at h
  cases b with
  | true => simp at h
  | false => simp only [Bool.or_eq_false_iff, decide_eq_false_iff_not] at hb; omega

def opPlace (o : Op) : Place := ⟨o.node, o.parent, o.name⟩
theorem opPlace_ok {o : Op} (h : chkO o = 0) : place (opPlace o) = 0 := by
  have := chkO_ok h
  have hb : (decide ((opPlace o).node < 1) || decide ((opPlace o).node ≥ 16) || decide ((opPlace o).parent < 0) || decide ((opPlace o).parent > 16) || decide ((opPlace o).name < 0) || decide ((opPlace o).name > 99)) = false := by
    have e1 : (opPlace o).node = o.node := rfl
    have e2 : (opPlace o).parent = o.parent := rfl
    have e3 : (opPlace o).name = o.name := rfl
    simp only [e1, e2, e3, Bool.or_eq_false_iff, decide_eq_false_iff_not]; omega
  unfold place
  rw [hb]; rfl

theorem moveDo_err (l : List Place) (o : Op) : (moveDo l o).2.2 = bif checkT l != 0 then checkT l else chkO o := by
  unfold moveDo
  cases h1 : checkT l != 0 with
  | true => rfl
  | false =>
    cases h2 : chkO o != 0 with
    | true => rfl
    | false =>
      have h2 : chkO o = 0 := by simpa using h2
      cases stands l o.parent o.node <;> simp [h2]

theorem moveDo_ok {l : List Place} {o : Op} (h : (moveDo l o).2.2 = 0) : checkT l = 0 ∧ chkO o = 0 := by
  rw [moveDo_err] at h
  cases h1 : checkT l != 0 with
  | true => rw [h1, cond_true] at h; simp [h] at h1
  | false => rw [h1, cond_false] at h; exact ⟨by simpa using h1, h⟩

theorem moveDo_eq {l : List Place} {o : Op} (h1 : checkT l = 0) (h2 : chkO o = 0) : moveDo l o = bif stands l o.parent o.node then (l, ⟨o, false, find l o.node⟩, 0) else (putT l (opPlace o), ⟨o, true, find l o.node⟩, 0) := by
  unfold moveDo
  rw [h1, h2]; rfl

theorem find_none {n : Int} : ∀ {l : List Place}, (∀ p ∈ l, p.node ≠ n) → find l n = ⟨0, 0, 0⟩
  | [], _ => rfl
  | p :: r, h => by
    rw [find]
    have : (p.node == n) = false := by simpa using h p (.head _)
    rw [this, cond_false]
    exact find_none fun q hq => h q (.tail _ hq)

structure Moved (l : List Place) (o : Op) : Prop where
  tree : checkT (moveDo l o).1 = 0
  did : (moveDo l o).2.1.did = !stands l o.parent o.node
  op : (moveDo l o).2.1.o = o
  under : under l o.parent o.node = (stands l o.parent o.node, 0)
  else_ : ∀ n, n ≠ o.node → find (moveDo l o).1 n = find l n
  node : (moveDo l o).2.1.did = true → find (moveDo l o).1 o.node = opPlace o
  undo : moveUndo (moveDo l o).1 (moveDo l o).2.1 = (l, 0)

theorem moved_of {l : List Place} {o : Op} (h : (moveDo l o).2.2 = 0) : Moved l o := by
  obtain ⟨h1, h2⟩ := moveDo_ok h
  have ho := chkO_ok h2
  have hunder : under l o.parent o.node = (stands l o.parent o.node, 0) := by
    unfold under
    have hb : (decide (o.parent < 0) || decide (o.parent > 16) || decide (o.node < 0) || decide (o.node > 16)) = false := by simp only [Bool.or_eq_false_iff, decide_eq_false_iff_not]; omega
    rw [h1, hb]; rfl
  cases hs : stands l o.parent o.node with
  | true =>
    have e : moveDo l o = (l, ⟨o, false, find l o.node⟩, 0) := by rw [moveDo_eq h1 h2, hs]; rfl
    refine ⟨by rw [e]; exact h1, by rw [e, hs]; rfl, by rw [e], by rw [hunder, hs], fun n _ => by rw [e], fun hd => (by rw [e] at hd; cases hd), ?_⟩
    rw [e]
    unfold moveUndo
    simp [h1, h2]
  | false =>
    have e : moveDo l o = (putT l (opPlace o), ⟨o, true, find l o.node⟩, 0) := by rw [moveDo_eq h1 h2, hs]; rfl
    have hT := (checkT_iff l).1 h1
    have hT' : IsTree (putT l (opPlace o)) := hT.put (opPlace_ok h2) fun hu => by rw [← stands_iff] at hu; rw [show (opPlace o).parent = o.parent from rfl, show (opPlace o).node = o.node from rfl, hs] at hu; cases hu
    have hc' := (checkT_iff _).2 hT'
    have hnp : decide ((opPlace o).parent < 0) = false := decide_eq_false (show ¬ o.parent < 0 by omega)
    have hfn : find (putT l (opPlace o)) o.node = opPlace o := by
      rw [find_putT, hnp]
      simp [opPlace]
    have hfe : ∀ n, n ≠ o.node → find (putT l (opPlace o)) n = find l n := fun n hn => by
      rw [find_putT]
      have : (n == (opPlace o).node) = false := by simpa [opPlace] using hn
      rw [this]; rfl
    refine ⟨by rw [e]; exact hc', by rw [e, hs]; rfl, by rw [e], by rw [hunder, hs], fun n hn => by rw [e]; exact hfe n hn, fun _ => by rw [e]; exact hfn, ?_⟩
    rw [e]
    have hwas : (wasOf ⟨o, true, find l o.node⟩).node = o.node := by
      unfold wasOf
      cases hz : (find l o.node).node == 0 with
      | true => rfl
      | false => exact (find_node (by simpa using hz)).1
    have hback : putT (putT l (opPlace o)) (wasOf ⟨o, true, find l o.node⟩) = l := by
      unfold wasOf
      cases hz : (find l o.node).node == 0 with
      | true =>
        simp only [cond_true]
        have hz : (find l o.node).node = 0 := by simpa using hz
        have hz2 : find l o.node = ⟨0, 0, 0⟩ := by
          by_cases hm : ∃ p ∈ l, p.node = o.node
          · obtain ⟨p, hp, hpn⟩ := hm
            rw [← hpn, find_mem hT.up p hp] at hz
            have := hT.node p hp
            omega
          · exact find_none fun p hp hpn => hm ⟨p, hp, hpn⟩
        have hneg : (⟨o.node, -1, 0⟩ : Place).parent < 0 := by simp
        have hsub : ∀ p ∈ putT (putT l (opPlace o)) ⟨o.node, -1, 0⟩, p ∈ putT l (opPlace o) := fun p hp => by rw [putT_t hneg] at hp; exact (mem_put_t _ _ _ hp).1
        refine ext_find (by rw [putT_t hneg]; exact put_t_up _ hT'.up) hT.up (fun p hp => hT'.node p (hsub p hp)) hT.node fun n _ => ?_
        rw [find_putT]
        by_cases hn : n = o.node
        · subst hn; simp [hz2]
        · have : (n == (⟨o.node, -1, 0⟩ : Place).node) = false := by simpa using hn
          rw [this, cond_false, hfe n hn]
      | false =>
        simp only [cond_false]
        have hz : (find l o.node).node ≠ 0 := by simpa using hz
        obtain ⟨hn0, hm0⟩ := find_node hz
        have hok := plc_ok (hT.ok _ hm0)
        have hnp2 : decide ((find l o.node).parent < 0) = false := decide_eq_false (by omega)
        refine ext_find (by rw [putT_f (by omega)]; exact put_f_up _ hT'.up) hT.up (fun p hp => ?_) hT.node fun n _ => ?_
        · rw [putT_f (by omega)] at hp
          rcases mem_put_f _ _ _ hp with rfl | ⟨hp, _⟩
          · omega
          · exact hT'.node p hp
        · rw [find_putT, hnp2]
          by_cases hn : n = o.node
          · subst hn; simp [hn0]
          · have : (n == (find l o.node).node) = false := by rw [hn0]; simpa using hn
            rw [this, cond_false, hfe n hn]
    unfold moveUndo
    have hx : ((wasOf ⟨o, true, find l o.node⟩).node != o.node || find (putT l (opPlace o)) o.node != ⟨o.node, o.parent, o.name⟩) = false := by
      rw [hwas, hfn]; simp [opPlace]
    simp only [hc', h2, hback, h1, hx, bne_self_eq_false, cond_false, Bool.not_true]
theorem moveDo_ok0 {t : List Place} {o : Op} (h1 : checkT t = 0) (h2 : chkO o = 0) : (moveDo t o).2.2 = 0 := by
  rw [moveDo_err, h1, h2]; rfl
end Go.Proofs.Ytchdacbjiomplaa

namespace Go.Proofs.Ytchdacbjiomplaa
open Go Go.Proofs.Ytchdacbjiomplaa.Fw Go.Proofs
/-! ### What the code computes, in plain words -/
theorem tree_place_eq (p : Place) : tree_place p = place p := rfl
theorem tree_Find_eq : ∀ (l : List Place) (n : Int), tree_Find l n = find l n
  | [], _ => rfl
  | p :: r, n => by
    have ih := tree_Find_eq r n
    unfold tree_Find at ih ⊢
    rw [tree_Find_L0, find, ih]
theorem tree_Stands_eq (l : List Place) (nd top : Int) : tree_Stands l nd top = stands l nd top := by
  have key : ∀ (f : Nat) (nd : Int), tree_Stands_L0 l top f nd = standsF l top f nd := by
    intro f
    induction f with
    | zero => intro nd; rfl
    | succ f ih => intro nd; rw [tree_Stands_L0, standsF, tree_Find_eq, ih]
  unfold tree_Stands stands
  exact key _ nd
theorem tree_Check_L1_eq (t : List Place) : ∀ l : List Place, tree_Check_L1 t l = chk2 t l
  | [] => rfl
  | p :: r => by rw [tree_Check_L1, chk2, tree_Stands_eq, tree_Check_L1_eq t r]
theorem tree_Check_eq (t : List Place) : tree_Check t = checkT t := by
  have key : ∀ (r : List Place) (k : Nat), r = t.drop k → tree_Check_L0 t r k = bif chk1 t (t.length - k) k != 0 then chk1 t (t.length - k) k else chk2 t t := by
    intro r
    induction r with
    | nil =>
      intro k hr
      have : t.length - k = 0 := by have := congrArg List.length hr; simp at this; omega
      rw [tree_Check_L0, this, chk1, tree_Check_L1_eq]; rfl
    | cons p r ih =>
      intro k hr
      have hk : k < t.length := by have := congrArg List.length hr; simp at this; omega
      rw [drop_gt hk] at hr
      obtain ⟨rfl, hr'⟩ := List.cons.inj hr
      rw [tree_Check_L0, show t.length - k = (t.length - (k + 1)) + 1 by omega, chk1, tree_place_eq, ih (k + 1) hr']
      cases h1 : place (gt t k) != 0 with
      | true => simp only [cond_true, h1]
      | false =>
        simp only [cond_false]
        cases h2 : (decide ((k : Int) > 0) && decide ((gt t (k - 1)).node ≥ (gt t k).node)) <;> rfl
  unfold tree_Check checkT
  exact key t 0 rfl
theorem tree_Put_eq (l : List Place) (p : Place) : tree_Put l p = putT l p := by
  have key : ∀ (r : List Place) (d : Bool) (acc : List Place), tree_Put_L0 p r d acc = acc ++ put p d r := by
    intro r
    induction r with
    | nil => intro d acc; rw [tree_Put_L0, put]; cases d <;> simp
    | cons q r ih =>
      intro d acc
      rw [tree_Put_L0, put]
      cases h1 : (!d && decide (q.node ≥ p.node)) <;> cases h2 : q.node != p.node <;> simp only [cond_true, cond_false, ih, List.append_assoc, List.cons_append, List.nil_append]
  unfold tree_Put putT
  exact (key l _ []).trans (List.nil_append _)
theorem tree_Copy_eq (l : List Place) : tree_Copy l = l := rfl
theorem tree_Under_eq (l : List Place) (a b : Int) : tree_Under l a b = under l a b := by
  unfold tree_Under under
  rw [tree_Check_eq, tree_Stands_eq]
theorem move_Check_eq (o : Op) : move_Check o = chkO o := rfl
theorem move_Do_eq (l : List Place) (o : Op) : move_Do l o = moveDo l o := by
  unfold move_Do moveDo
  rw [tree_Check_eq, tree_Stands_eq, move_Check_eq, tree_Copy_eq, tree_Put_eq, tree_Find_eq]
  rfl
theorem move_Undo_eq (l : List Place) (s : Step) : move_Undo l s = moveUndo l s := by
  unfold move_Undo moveUndo wasOf
  simp only [tree_Check_eq, move_Check_eq, tree_Copy_eq, tree_Put_eq, tree_Find_eq]
  cases s.was.node == 0 <;> rfl
end Go.Proofs.Ytchdacbjiomplaa
