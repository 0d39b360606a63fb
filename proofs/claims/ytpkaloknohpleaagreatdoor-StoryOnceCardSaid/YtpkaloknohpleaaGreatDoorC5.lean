/- Part of this claim. No condition. -/
import Derived.Test.YtpkaloknohpleaaGreatDoorC4
import Derived.Test.YtpkaloknohpleaaGreatDoorC3
set_option linter.unusedVariables false
set_option linter.unusedSimpArgs false
namespace Go.Proofs.YtpkaloknohpleaaGreatDoor
open Go Go.Proofs.YtpkaloknohpleaaGreatDoor.Fw Go.Proofs
theorem jT {α : Type} [Inhabited α] (f : α → Int) : ∀ (l : List α), (∀ i, i + 1 < l.length → f (gt l i) < f (gt l (i + 1))) → l.Pairwise (fun a b => f a < f b)
 | [], _ => .nil
 | [a], _ => by simp
 | a :: b :: r, h => by
  have ih := jT f (b :: r) (fun i hi => by have := h (i + 1) (by simpa using hi); simpa [gt] using this)
  have h0 : f a < f b := by simpa [gt] using h 0 (by simp)
  refine List.pairwise_cons.2 ⟨fun c hc => ?_, ih⟩
  rcases List.mem_cons.1 hc with rfl | hc
  ·exact h0
  ·have := (List.pairwise_cons.1 ih).1 c hc; omega
theorem jV {α : Type} [Inhabited α] (f : α → Int) : ∀ {l : List α}, l.Pairwise (fun a b => f a < f b) → ∀ i, i + 1 < l.length → f (gt l i) < f (gt l (i + 1))
 | [], _, i, hi => by simp at hi
 | a :: r, h, i, hi => by
  obtain ⟨h1, h2⟩ := List.pairwise_cons.1 h
  cases i with
  | zero =>
   have h3 : 0 < r.length := by simpa using hi
   have := h1 (gt r 0) (gn h3)
   simpa [gt] using this
  | succ i =>
   have := jV f h2 i (by simpa using hi)
   simpa [gt] using this
structure mG (l : List Int) : Prop where
 len : l.length ≤ 4
 rng : ∀ n ∈ l, 0 ≤ n ∧ n ≤ 16
 up : l.Pairwise (fun a b => a < b)
theorem m0 (l : List Int) : ∀ (r : List Int) (k : Nat), r = l.drop k → (dE l r k = 0 ↔ (∀ n ∈ r, 0 ≤ n ∧ n ≤ 16) ∧ ∀ i, k ≤ i → i < l.length → 0 < i → gt l (i - 1) < gt l i)
 | [], k, hr => by
  have hk : l.length ≤ k := by have := congrArg List.length hr; simp at this; omega
  rw [dE]
  exact ⟨fun _ => ⟨by simp, fun i h1 h2 => by omega⟩, fun _ => rfl⟩
 | n :: r, k, hr => by
  have hk : k < l.length := by have := congrArg List.length hr; simp at this; omega
  rw [aE hk] at hr
  obtain ⟨hn, hr'⟩ := List.cons.inj hr
  have ih := m0 l r (k + 1) hr'
  rw [dE]
  cases h1 : (decide (n < 0) || decide (n > 16)) with
  | true =>
   simp only [cond_true]
   refine ⟨fun h => by omega, fun h => ?_⟩
   have := h.1 n (.head _)
   simp at h1; omega
  | false =>
   simp at h1
   cases h2 : (decide ((k : Int) > 0) && decide (gt l (k - 1) ≥ n)) with
   | true =>
    simp only [cond_true, cond_false]
    simp only [Bool.and_eq_true, decide_eq_true_eq] at h2
    refine ⟨fun h => by omega, fun h => ?_⟩
    have := h.2 k (Nat.le_refl _) hk (by omega)
    rw [← hn] at this
    omega
   | false =>
    simp only [cond_false]
    rw [ih]
    constructor
    ·rintro ⟨a, b⟩
     refine ⟨fun m hm => ?_, fun i hi hl hp => ?_⟩
     ·cases hm with
      | head => omega
      | tail _ hm => exact a m hm
     ·by_cases he : i = k
      ·subst he
       simp at h2
       have := h2 (by omega)
       rw [← hn]; omega
      ·exact b i (by omega) hl hp
    ·rintro ⟨a, b⟩
     exact ⟨fun m hm => a m (.tail _ hm), fun i hi hl hp => b i (by omega) hl hp⟩
theorem jF (l : List Int) : bL l = 0 ↔ mG l := by
 unfold bL
 cases h : decide ((l.length : Int) > 4) with
 | true =>
  simp at h
  simp only [cond_true]
  exact ⟨fun h => by omega, fun h' => by have := h'.len; omega⟩
 | false =>
  simp at h
  rw [cond_false, m0 l l 0 rfl]
  constructor
  ·rintro ⟨a, b⟩
   exact ⟨by omega, a, jT id l fun i hi => by have := b (i + 1) (by omega) hi (by omega); simpa using this⟩
  ·intro h'
   refine ⟨h'.rng, fun i _ hl hp => ?_⟩
   have := jV id h'.up (i - 1) (by omega)
   rw [show i - 1 + 1 = i by omega] at this
   exact this
theorem mG.take {l : List Int} (h : mG l) (k : Nat) : mG (l.take k) :=
 ⟨by have := h.len; simp; omega, fun n hn => h.rng n (List.mem_of_mem_take hn), h.up.sublist (List.take_sublist k l)⟩
def iz (t : List Place) (roots : List Int) : View := ⟨roots, t.filter (fun p => dj t p.node roots), t.filter (fun p => !dj t p.node roots && dI t p.node roots)⟩
theorem nl (t : List Place) (roots : List Int) : ∀ (l known way : List Place), dQ t roots l known way = (⟨roots, known ++ l.filter (fun p => dj t p.node roots), way ++ l.filter (fun p => !dj t p.node roots && dI t p.node roots)⟩, 0)
 | [], known, way => by simp [dQ]
 | p :: r, known, way => by
  rw [dQ]
  cases hb : dj t p.node roots with
  | true =>
   rw [cond_true, nl t roots r, List.filter_cons, List.filter_cons, hb]
   simp
  | false =>
   rw [cond_false]
   cases ha : dI t p.node roots with
   | true => rw [cond_true, nl t roots r, List.filter_cons, List.filter_cons, hb, ha]; simp
   | false => rw [cond_false, nl t roots r, List.filter_cons, List.filter_cons, hb, ha]; simp
theorem Of_eq (t : List Place) (roots : List Int) : bW t roots = bif dz t != 0 then (⟨[], [], []⟩, dz t) else bif bL roots != 0 then (⟨[], [], []⟩, bL roots) else (iz t roots, 0) := by
 unfold bW
 rw [fB, nl]
 rfl
theorem Of_ok {t : List Place} {roots : List Int} (h : (bW t roots).2 = 0) : dz t = 0 ∧ bL roots = 0 ∧ bW t roots = (iz t roots, 0) := by
 rw [Of_eq] at h ⊢
 cases h1 : dz t != 0 with
 | true => rw [h1, cond_true] at h; simp only at h; rw [h] at h1; simp at h1
 | false =>
  rw [h1, cond_false] at h
  cases h2 : bL roots != 0 with
  | true => rw [h2, cond_true] at h; simp only at h; rw [h] at h2; simp at h2
  | false => exact ⟨ae h1, ae h2, rfl⟩
theorem Of_of {t : List Place} {roots : List Int} (h1 : dz t = 0) (h2 : bL roots = 0) : bW t roots = (iz t roots, 0) := by
 rw [Of_eq, h1, h2]; rfl
structure Rising (l : List Place) : Prop where
 up : l.Pairwise (fun a b => a.node < b.node)
 rng : ∀ p ∈ l, 1 ≤ p.node ∧ p.node < 16
 par : ∀ p ∈ l, 0 ≤ p.parent
theorem gr.rising {l : List Place} (h : gr l) : Rising l := ⟨h.up, fun q hq => by have := nG (h.ok q hq); omega, fun q hq => by have := nG (h.ok q hq); omega⟩
theorem Rising.nil : Rising [] := ⟨.nil, by simp, by simp⟩
theorem Rising.none {l : List Place} (h : Rising l) {n : Int} (hz : (find l n).node = 0) : find l n = ⟨0, 0, 0⟩ := by
 refine kL fun q hq hqn => ?_
 have h3 := lb h.up q hq
 rw [hqn] at h3
 rw [h3] at hz
 have := h.rng q hq
 omega
theorem Rising.put {l : List Place} (h : Rising l) {p : Place} (h1 : 1 ≤ p.node ∧ p.node < 16) : Rising (putT l p) := by
 by_cases hp : p.parent < 0
 ·rw [tm hp]
  exact ⟨lR p h.up, fun q hq => h.rng q (fQ p q l hq).1, fun q hq => h.par q (fQ p q l hq).1⟩
 ·rw [p5 (by omega)]
  refine ⟨nf p h.up, fun q hq => ?_, fun q hq => ?_⟩
  ·rcases jw p q l hq with rfl | hq
   ·exact h1
   ·exact h.rng q hq.1
  ·rcases jw p q l hq with rfl | hq
   ·omega
   ·exact h.par q hq.1
theorem Rising.ext {l m : List Place} (h : Rising l) (h' : Rising m) (hf : ∀ n, 1 ≤ n → n < 16 → find l n = find m n) : l = m := by
 refine ni h.up h'.up (fun p hp => (h.rng p hp).1) (fun p hp => (h'.rng p hp).1) fun n hn => ?_
 by_cases h2 : n < 16
 ·exact hf n hn h2
 ·rw [kL fun q hq e => by have := h.rng q hq; omega, kL fun q hq e => by have := h'.rng q hq; omega]
theorem Rising.puts : ∀ (m : List Place) {l : List Place}, Rising l → (∀ p ∈ m, 1 ≤ p.node ∧ p.node < 16) → Rising (m.foldl putT l)
 | [], _, h, _ => h
 | p :: r, _, h, hm => Rising.puts r (h.put (hm p (.head _))) fun q hq => hm q (.tail _ hq)
def plcB (p : Place) : Bool := (((((decide (p.node < 1) || decide (p.node ≥ 16)) || decide (p.parent < 0)) || decide (p.parent > 16)) || decide (p.name < 0)) || decide (p.name > 99))
theorem ss (p : Place) : place p = bif plcB p then 3 else 0 := rfl
theorem rD (p : Place) : plcB p = false ↔ place p = 0 := by rw [ss]; cases plcB p <;> simp
def gl (l : List Int) (e : Int) : List Int → Nat → Int
 | [], _ => e
 | n :: r, k => bif (decide (n < 1) || decide (n ≥ 16)) then 5 else bif (decide ((k : Int) > 0) && decide (gt l (k - 1) ≥ n)) then 6 else gl l e r (k + 1)
def hl (gone : List Int) (l : List Place) (e : Int) : List Place → Nat → Int
 | [], _ => e
 | p :: r, k => bif plcB p then 3 else bif ((decide ((k : Int) > 0) && decide ((gt l (k - 1)).node ≥ p.node)) || decide (p.node ∈ gone)) then 6 else hl gone l e r (k + 1)
def half (gone : List Int) (here : List Place) (e : Int) : Int := bif (decide ((gone.length : Int) > 16) || decide ((here.length : Int) > 16)) then 2 else gl gone (hl gone here e here 0) gone 0
theorem vt (d : Delta) : ∀ (r : List Place) (k : Nat), de d r k = hl d.gone d.here (dH d) r k
 | [], _ => rfl
 | p :: r, k => by rw [de, hl, vt d r]; rfl
theorem vv (d : Delta) : ∀ (r : List Int) (k : Nat), dq d r k = gl d.gone (de d d.here 0) r k
 | [], _ => rfl
 | p :: r, k => by rw [dq, gl, vv d r]
theorem vr (d : Delta) : ∀ (r : List Place) (k : Nat), dc d r k = hl d.wayGone d.wayHere 0 r k
 | [], _ => rfl
 | p :: r, k => by rw [dc, hl, vr d r]; rfl
theorem vu (d : Delta) : ∀ (r : List Int) (k : Nat), dp d r k = gl d.wayGone (dc d d.wayHere 0) r k
 | [], _ => rfl
 | p :: r, k => by rw [dp, gl, vu d r]
theorem oH (d : Delta) : bg d = half d.gone d.here (half d.wayGone d.wayHere 0) := by
 have e1 : dH d = half d.wayGone d.wayHere 0 := by unfold dH half; rw [vu, vr]
 unfold bg eh
 rw [vv, vt, e1]; rfl
theorem ve (l : List Int) (e : Int) : ∀ (r : List Int) (k : Nat), r = l.drop k → (gl l e r k = 0 ↔ (∀ n ∈ r, 1 ≤ n ∧ n < 16) ∧ (∀ i, k ≤ i → i < l.length → 0 < i → gt l (i - 1) < gt l i) ∧ e = 0)
 | [], k, hr => by
  have hk : l.length ≤ k := by have := congrArg List.length hr; simp at this; omega
  rw [gl]
  exact ⟨fun h => ⟨by simp, fun i h1 h2 => by omega, h⟩, fun h => h.2.2⟩
 | n :: r, k, hr => by
  have hk : k < l.length := by have := congrArg List.length hr; simp at this; omega
  rw [aE hk] at hr
  obtain ⟨hn, hr'⟩ := List.cons.inj hr
  have ih := ve l e r (k + 1) hr'
  rw [gl]
  cases h1 : (decide (n < 1) || decide (n ≥ 16)) with
  | true =>
   simp only [cond_true]
   refine ⟨fun h => by omega, fun h => ?_⟩
   have := h.1 n (.head _)
   simp at h1; omega
  | false =>
   simp at h1
   cases h2 : (decide ((k : Int) > 0) && decide (gt l (k - 1) ≥ n)) with
   | true =>
    simp only [cond_true, cond_false]
    simp only [Bool.and_eq_true, decide_eq_true_eq] at h2
    refine ⟨fun h => by omega, fun h => ?_⟩
    have := h.2.1 k (Nat.le_refl _) hk (by omega)
    rw [← hn] at this
    omega
   | false =>
    simp only [cond_false]
    rw [ih]
    constructor
    ·rintro ⟨a, b, c⟩
     refine ⟨fun m hm => ?_, fun i hi hl hp => ?_, c⟩
     ·cases hm with
      | head => omega
      | tail _ hm => exact a m hm
     ·by_cases he : i = k
      ·subst he
       simp at h2
       have := h2 (by omega)
       rw [← hn]; omega
      ·exact b i (by omega) hl hp
    ·rintro ⟨a, b, c⟩
     exact ⟨fun m hm => a m (.tail _ hm), fun i hi hl hp => b i (by omega) hl hp, c⟩
theorem vc (gone : List Int) (l : List Place) (e : Int) : ∀ (r : List Place) (k : Nat), r = l.drop k → (hl gone l e r k = 0 ↔ (∀ p ∈ r, place p = 0 ∧ p.node ∉ gone) ∧ (∀ i, k ≤ i → i < l.length → 0 < i → (gt l (i - 1)).node < (gt l i).node) ∧ e = 0)
 | [], k, hr => by
  have hk : l.length ≤ k := by have := congrArg List.length hr; simp at this; omega
  rw [hl]
  exact ⟨fun h => ⟨by simp, fun i h1 h2 => by omega, h⟩, fun h => h.2.2⟩
 | p :: r, k, hr => by
  have hk : k < l.length := by have := congrArg List.length hr; simp at this; omega
  rw [aE hk] at hr
  obtain ⟨hn, hr'⟩ := List.cons.inj hr
  have ih := vc gone l e r (k + 1) hr'
  rw [hl]
  cases h1 : plcB p with
  | true =>
   simp only [cond_true]
   refine ⟨fun h => by omega, fun h => ?_⟩
   have := (rD p).2 (h.1 p (.head _)).1
   rw [this] at h1; cases h1
  | false =>
   have hp := (rD p).1 h1
   cases h2 : ((decide ((k : Int) > 0) && decide ((gt l (k - 1)).node ≥ p.node)) || decide (p.node ∈ gone)) with
   | true =>
    simp only [cond_true, cond_false]
    simp only [Bool.or_eq_true, Bool.and_eq_true, decide_eq_true_eq] at h2
    refine ⟨fun h => by omega, fun h => ?_⟩
    rcases h2 with h2 | h2
    ·have := h.2.1 k (Nat.le_refl _) hk (by omega)
     rw [← hn] at this
     omega
    ·exact absurd h2 (h.1 p (.head _)).2
   | false =>
    simp only [cond_false]
    rw [ih]
    simp only [Bool.or_eq_false_iff, Bool.and_eq_false_iff, decide_eq_false_iff_not] at h2
    constructor
    ·rintro ⟨a, b, c⟩
     refine ⟨fun m hm => ?_, fun i hi hl hp => ?_, c⟩
     ·cases hm with
      | head => exact ⟨hp, h2.2⟩
      | tail _ hm => exact a m hm
     ·by_cases he : i = k
      ·subst he
       rw [← hn]; omega
      ·exact b i (by omega) hl hp
    ·rintro ⟨a, b, c⟩
     exact ⟨fun m hm => a m (.tail _ hm), fun i hi hl hp => b i (by omega) hl hp, c⟩
structure Half (gone : List Int) (here : List Place) : Prop where
 len1 : gone.length ≤ 16
 len2 : here.length ≤ 16
 rng : ∀ n ∈ gone, 1 ≤ n ∧ n < 16
 gup : gone.Pairwise (fun a b => a < b)
 ok : ∀ p ∈ here, place p = 0
 apart : ∀ p ∈ here, p.node ∉ gone
 hup : here.Pairwise (fun a b => a.node < b.node)
theorem rJ (gone : List Int) (here : List Place) (e : Int) : half gone here e = 0 ↔ Half gone here ∧ e = 0 := by
 unfold half
 cases h : (decide ((gone.length : Int) > 16) || decide ((here.length : Int) > 16)) with
 | true =>
  simp at h
  simp only [cond_true]
  exact ⟨fun h => by omega, fun h' => by have := h'.1.len1; have := h'.1.len2; omega⟩
 | false =>
  simp at h
  rw [cond_false, ve gone _ gone 0 rfl, vc gone here e here 0 rfl]
  constructor
  ·rintro ⟨a, b, c, d, e⟩
   exact ⟨⟨by omega, by omega, a, jT id gone fun i hi => by have := b (i + 1) (by omega) hi (by omega); simpa using this, fun p hp => (c p hp).1, fun p hp => (c p hp).2,
    jT Place.node here fun i hi => by have := d (i + 1) (by omega) hi (by omega); simpa using this⟩, e⟩
  ·rintro ⟨h', he⟩
   refine ⟨h'.rng, fun i _ hl hp => ?_, fun p hp => ⟨h'.ok p hp, h'.apart p hp⟩, fun i _ hl hp => ?_, he⟩
   ·have := jV id h'.gup (i - 1) (by omega)
    rw [show i - 1 + 1 = i by omega] at this
    exact this
   ·have := jV Place.node h'.hup (i - 1) (by omega)
    rw [show i - 1 + 1 = i by omega] at this
    exact this
theorem kN (d : Delta) : bg d = 0 ↔ Half d.gone d.here ∧ Half d.wayGone d.wayHere := by
 rw [oH, rJ, rJ]
 simp
structure i6 (v : View) : Prop where
 roots : mG v.roots
 known : gr v.known
 way : gr v.way
 all : dz (cd v) = 0
 is : iz (cd v) v.roots = v
theorem dr (v : View) : bv v = 0 ↔ i6 v := by
 rw [pe]
 cases h0 : (bL v.roots != 0) with
 | true => exact ⟨fun h => by rw [cond_true] at h; rw [h] at h0; simp at h0, fun h => by have := (jF _).2 h.roots; rw [this] at h0; simp at h0⟩
 | false =>
  have g0 := (jF _).1 (ae h0)
  cases h1 : (dz v.known != 0) with
  | true => exact ⟨fun h => by simp only [cond_true, cond_false] at h; rw [h] at h1; simp at h1, fun h => by have := (eB _).2 h.known; rw [this] at h1; simp at h1⟩
  | false =>
   have g1 := (eB _).1 (ae h1)
   cases h2 : (dz v.way != 0) with
   | true => exact ⟨fun h => by simp only [cond_true, cond_false] at h; rw [h] at h2; simp at h2, fun h => by have := (eB _).2 h.way; rw [this] at h2; simp at h2⟩
   | false =>
    have g2 := (eB _).1 (ae h2)
    simp only [cond_false]
    constructor
    ·intro h
     cases h3 : ((bW (cd v) v.roots).2 == 0 && !(eD (bW (cd v) v.roots).1 v)) with
     | true => rw [h3] at h; simp at h
     | false =>
      rw [h3, cond_false] at h
      obtain ⟨h4, h5, h6⟩ := Of_ok h
      rw [h6] at h3
      simp only [BEq.rfl, Bool.true_and, Bool.not_eq_false'] at h3
      exact ⟨g0, g1, g2, h4, (rZ _ _).1 h3⟩
    ·intro h
     have := Of_of h.all ((jF _).2 h.roots)
     rw [this, h.is, t8]
     rfl
theorem uu {v : View} (h : bv v = 0) : v.known.length ≤ 15 ∧ v.way.length ≤ 15 := by
 have h := (dr v).1 h
 exact ⟨ld ((eB _).2 h.known), ld ((eB _).2 h.way)⟩
theorem tP {d : Delta} (h : bg d = 0) : d.gone.length ≤ 16 ∧ d.here.length ≤ 16 ∧ d.wayGone.length ≤ 16 ∧ d.wayHere.length ≤ 16 := by
 obtain ⟨h1, h2⟩ := (kN d).1 h
 exact ⟨h1.len1, h1.len2, h2.len1, h2.len2⟩
end Go.Proofs.YtpkaloknohpleaaGreatDoor

set_option maxHeartbeats 2000000
namespace Go.Proofs.YtpkaloknohpleaaGreatDoor
open Go Go.Proofs.YtpkaloknohpleaaGreatDoor.Fw Go.Proofs
attribute [local irreducible] RdL RdN VarP RW CW
def el  : List Place → (List Place) → (List Place)
 | [], p2 => p2
 | pn2 :: rn2, p2 => (el rn2 (cq p2 pn2))
def em (here1 : List Place) : List Int → (List Place) → (List Place)
 | [], p1 => (el here1 p1)
 | pn1 :: rn1, p1 => (em here1 rn1 (cq p1 (⟨pn1, (-1), 0⟩ : Place)))
def bN (l1 : List Place) (gone1 : List Int) (here1 : List Place) : List Place :=
 (em here1 gone1 l1)
theorem ez (y1 : SlV) (l1 : List Place) (y2 : SlV) (gone1 : List Int) (y3 : SlV) (here1 : List Place) (hlt : l1.length ≤ 1000 ∧ gone1.length ≤ 1000 ∧ here1.length ≤ 1000) : Does Tryz.prog 129 [y1.val l1.length, y2.val gone1.length, y3.val here1.length] [RdL EPlace y1 l1, RdL EInt y2 gone1, RdL EPlace y3 here1] (fun (X : SlV) => X.val (bN l1 gone1 here1).length) (fun X => [RdL EPlace X (bN l1 gone1 here1)]) := by
 refine bj aZ Tryz.func129 rfl Tryz.ntmps129 Tryz.results129 rfl inferInstance (fun _ => inferInstance) fun C => ?_
 refine Pc EPlace y1 l1 24 fun hlen1 => ?_
 refine Pc EInt y2 gone1 8 fun hlen2 => ?_
 refine Pc EPlace y3 here1 24 fun hlen3 => ?_
 refine Tx ?_
 refine Cg (c8 y1 l1) fun x1 => ?_
 refine Rp rfl rfl rfl rfl ?_
 refine Al fun g1 => ?_
 refine Tx ?_
 (repeat refine ao ?_); refine Lp [2,6,7,15,16] [false] (fun (i_ : Nat × List Place × SlV) => match i_ with | ⟨n1, p1, x2⟩ => (⟨[(17, .v (.int .i64 (n1 : Int)))], [⟨g1, 27, [x2.val p1.length]⟩], [], [RdL EPlace x2 p1], (n1 ≤ gone1.length) ∧ (p1.length ≤ l1.length + n1) ∧ (em here1 (gone1.drop n1) p1) = (bN l1 gone1 here1), gone1.length - n1⟩ : Ls)) ⟨0, l1, x1.1⟩ (Sc (Sc (Sc (Sc (Sc Sn))))) (.drop (.nil)) ⟨Nat.zero_le _, (by simp), (by simp only [bN, Cf] : (bN l1 gone1 here1) = (em here1 gone1 l1)).symm⟩ (Le.trans (ay EPlace 83 x1.1 x1.2 l1 Uo) Le4) ?_
 rintro ⟨n1, p1, x2⟩ ⟨hkn1, hpb, hf1⟩
 simp only [List.cons_append, List.nil_append]
 refine Tx ?_
 refine Cd (b := decide ((n1 : Int) < (gone1.length : Int))) (fun hc1 => ?_) fun hc1 => ?_
 ·have hlt0 : n1 < gone1.length := Int.ofNat_lt.1 (of_decide_eq_true hc1)
  refine Tx ?_
  refine rw_q rfl rfl rfl (q_idx EInt n1 rfl rfl Zf rfl Zf rfl rfl rfl Mm rfl Zf (fun _ => by first | assumption | omega)) ?_
  refine rw_q rfl rfl rfl (q_le1 EInt rfl rfl Zf rfl rfl Mm (fun _ => by first | assumption | omega) rfl) ?_
  refine Tx ?_
  refine Cl (fA x2 p1 (⟨(gt gone1 n1), (-1), 0⟩ : Place) (by omega)) fun x3 => ?_
  refine Pr EPlace x3 (cq p1 (⟨(gt gone1 n1), (-1), 0⟩ : Place)) 24 fun hlen4 => ?_
  refine Tx ?_
  refine rw_q rfl rfl rfl (q_add rfl rfl Zf rfl Zf Zo) ?_
  refine Tx ?_
  refine ⟨⟨(n1 + 1), (cq p1 (⟨(gt gone1 n1), (-1), 0⟩ : Place)), x3⟩, ⟨hlt0, (by have := pq p1 (⟨(gt gone1 n1), (-1), 0⟩ : Place); simp only []; omega), (by rw [← hf1, aE hlt0]; simp only [em, Cf] : (bN l1 gone1 here1) = (em here1 (gone1.drop (n1 + 1)) (cq p1 (⟨(gt gone1 n1), (-1), 0⟩ : Place)))).symm⟩, (by simp only []; omega), Le4⟩
 ·have hge0 : gone1.length ≤ n1 := by have := of_decide_eq_false hc1; omega
  refine Tx ?_
  (repeat refine ao ?_); refine Lp [6,7,26,27] [false] (fun (i_ : Nat × List Place × SlV) => match i_ with | ⟨n2, p2, x4⟩ => (⟨[(28, .v (.int .i64 (n2 : Int)))], [⟨g1, 27, [x4.val p2.length]⟩], [], [RdL EPlace x4 p2], (n2 ≤ here1.length) ∧ (p2.length ≤ l1.length + gone1.length + n2) ∧ (el (here1.drop n2) p2) = (bN l1 gone1 here1), here1.length - n2⟩ : Ls)) ⟨0, p1, x2⟩ (Sc (Sc (Sc (Sc Sn)))) (.drop (.nil)) ⟨Nat.zero_le _, (by omega), (by rw [← hf1, List.drop_of_length_le hge0]; simp only [em, Cf] : (bN l1 gone1 here1) = (el here1 p1)).symm⟩ Le4 ?_
  rintro ⟨n2, p2, x4⟩ ⟨hkn2, hpc, hf2⟩
  simp only [List.cons_append, List.nil_append]
  refine Tx ?_
  refine Cd (b := decide ((n2 : Int) < (here1.length : Int))) (fun hc2 => ?_) fun hc2 => ?_
  ·have hlt1 : n2 < here1.length := Int.ofNat_lt.1 (of_decide_eq_true hc2)
   refine Tx ?_
   refine rw_q rfl rfl rfl (q_idx EPlace n2 rfl rfl Zf rfl Zf rfl rfl rfl Mm rfl Zf (fun _ => by first | assumption | omega)) ?_
   refine rw_q rfl rfl rfl (q_leA EPlace rfl rfl Zf rfl rfl Mm (fun _ => by first | assumption | omega)) ?_
   refine Al fun g2 => ?_
   refine Tx ?_
   refine Cl (fA x4 p2 (gt here1 n2) (by omega)) fun x5 => ?_
   refine Pr EPlace x5 (cq p2 (gt here1 n2)) 24 fun hlen5 => ?_
   refine Tx ?_
   refine rw_q rfl rfl rfl (q_add rfl rfl Zf rfl Zf Zo) ?_
   refine Tx ?_
   refine ⟨⟨(n2 + 1), (cq p2 (gt here1 n2)), x5⟩, ⟨hlt1, (by have := pq p2 (gt here1 n2); simp only []; omega), (by rw [← hf2, aE hlt1]; simp only [el, Cf] : (bN l1 gone1 here1) = (el (here1.drop (n2 + 1)) (cq p2 (gt here1 n2)))).symm⟩, (by simp only []; omega), Le4⟩
  ·have hge1 : here1.length ≤ n2 := by have := of_decide_eq_false hc2; omega
   refine Tx ?_
   refine ai ?_; rw [show (bN l1 gone1 here1) = p2 by rw [← hf2, List.drop_of_length_le hge1]; simp only [el, Cf]]; exact Re x4 (Vt Vn)
def bH (v1 : View) (d1 : Delta) : View × Int :=
 (bif ((bv v1) != 0) then ((⟨[], [], []⟩ : View), (bv v1)) else (bif ((bg d1) != 0) then ((⟨[], [], []⟩ : View), (bg d1)) else (bif ((bv (⟨v1.roots, (bN v1.known d1.gone d1.here), (bN v1.way d1.wayGone d1.wayHere)⟩ : View)) != 0) then ((⟨[], [], []⟩ : View), (bv (⟨v1.roots, (bN v1.known d1.gone d1.here), (bN v1.way d1.wayGone d1.wayHere)⟩ : View))) else ((⟨v1.roots, (bN v1.known d1.gone d1.here), (bN v1.way d1.wayGone d1.wayHere)⟩ : View), 0))))
theorem nb (y1 : SlV) (y2 : SlV) (y3 : SlV) (v1 : View) (y4 : SlV) (y5 : SlV) (y6 : SlV) (y7 : SlV) (d1 : Delta) : Does Tryz.prog 106 [.agg ⟨[y1.val v1.roots.length, y2.val v1.known.length, y3.val v1.way.length]⟩, .agg ⟨[y4.val d1.gone.length, y5.val d1.here.length, y6.val d1.wayGone.length, y7.val d1.wayHere.length]⟩] [RdL EInt y1 v1.roots, RdL EPlace y2 v1.known, RdL EPlace y3 v1.way, RdL EInt y4 d1.gone, RdL EPlace y5 d1.here, RdL EInt y6 d1.wayGone, RdL EPlace y7 d1.wayHere] (fun (X : SlV × SlV × SlV) => .tuple #[.agg ⟨[X.1.val (bH v1 d1).1.roots.length, X.2.1.val (bH v1 d1).1.known.length, X.2.2.val (bH v1 d1).1.way.length]⟩, .int .i64 (bH v1 d1).2]) (fun X => [RdL EInt X.1 (bH v1 d1).1.roots, RdL EPlace X.2.1 (bH v1 d1).1.known, RdL EPlace X.2.2 (bH v1 d1).1.way]) := by
 refine bj aZ Tryz.func106 rfl Tryz.ntmps106 Tryz.results106 rfl inferInstance (fun _ => inferInstance) fun C => ?_
 refine Pc EInt y1 v1.roots 8 fun hlen1 => ?_
 refine Pc EPlace y2 v1.known 24 fun hlen2 => ?_
 refine Pc EPlace y3 v1.way 24 fun hlen3 => ?_
 refine Pc EInt y4 d1.gone 8 fun hlen4 => ?_
 refine Pc EPlace y5 d1.here 24 fun hlen5 => ?_
 refine Pc EInt y6 d1.wayGone 8 fun hlen6 => ?_
 refine Pc EPlace y7 d1.wayHere 24 fun hlen7 => ?_
 refine Tx ?_
 refine Bx fun g1 => ?_
 refine Bx fun g2 => ?_
 refine Al fun g3 => ?_
 refine Tx ?_
 refine Cl (eN y1 y2 y3 v1) fun _ => ?_
 refine Tx ?_
 refine Cd (b := ((bv v1) != 0)) (fun hc1 => ?_) fun hc1 => ?_
 ·have hc1p := bne_iff_ne.1 hc1
  refine Tx ?_
  refine Fc EInt ?_
  refine Fc EPlace ?_
  refine ai ?_; simp only [bH, hc1, Cf]; exact Re ⟨(⟨none, 0⟩ : SlV), (⟨none, 0⟩ : SlV), (⟨none, 0⟩ : SlV)⟩ (Va (Vt Vn))
 ·have hc1p := ae hc1
  have hvl := uu (ae hc1)
  refine Tx ?_
  refine Cl (gX y4 y5 y6 y7 d1) fun _ => ?_
  refine Tx ?_
  refine Cd (b := ((bg d1) != 0)) (fun hc2 => ?_) fun hc2 => ?_
  ·have hc2p := bne_iff_ne.1 hc2
   refine Tx ?_
   refine Fc EInt ?_
   refine Fc EPlace ?_
   refine ai ?_; simp only [bH, hc1, hc2, Cf]; exact Re ⟨(⟨none, 0⟩ : SlV), (⟨none, 0⟩ : SlV), (⟨none, 0⟩ : SlV)⟩ (Va (Vt Vn))
  ·have hc2p := ae hc2
   have hdl := tP (ae hc2)
   refine Tx ?_
   refine gp [4, 5] [true, true, true] (fun (i_ : Nat × SlV × Option Nat × SlV × SlV) => match i_ with | ⟨g4, x1, b1, x2, x3⟩ => [(8, .v (.pointer (some ⟨g4, 0, none⟩)))]) (fun (i_ : Nat × SlV × Option Nat × SlV × SlV) => match i_ with | ⟨g4, x1, b1, x2, x3⟩ => [⟨g4, 59, [x1.val v1.roots.length, x2.val (bN v1.known d1.gone d1.here).length, x3.val (bN v1.way d1.wayGone d1.wayHere).length]⟩]) (fun (i_ : Nat × SlV × Option Nat × SlV × SlV) => match i_ with | ⟨g4, x1, b1, x2, x3⟩ => [ownL EInt 3 x1 b1 v1.roots]) (fun (i_ : Nat × SlV × Option Nat × SlV × SlV) => match i_ with | ⟨g4, x1, b1, x2, x3⟩ => [RdL EPlace x2 (bN v1.known d1.gone d1.here), RdL EPlace x3 (bN v1.way d1.wayGone d1.wayHere)]) (fun _ => True) (.cons rfl (.cons rfl (.nil _))) (.keep (.keep (.keep (.nil)))) ?_ ?_
   ·refine au (fun j => match j with | 19 => none | _ => some []) ?_
    refine Rb 0 rfl Qp ?_
    refine Rb 1 rfl Q1 ?_
    refine Rb 3 rfl Qp ?_
    refine Rb 4 rfl Q1 ?_
    refine Rb 5 rfl Qp ?_
    refine Rb 6 rfl Q1 ?_
    refine Rb 7 rfl Qp ?_
    refine Rb 8 rfl Q1 ?_
    refine Rb 10 rfl Qp ?_
    refine Rb 11 rfl Q1 ?_
    refine Rb 12 rfl Qp ?_
    refine Rb 13 rfl Q1 ?_
    refine Rb 14 rfl Qp ?_
    refine Rb 15 rfl Q1 ?_
    refine fu 2 18 Kr ?_ ?_
    ·refine aV (cP y1 v1.roots) (.an rfl rfl) (.inr (by simp [Lent.ids])) (ac rfl) rfl rfl rfl Kr rfl rfl Sm (.nil _) (.nil _) ?_
     intro x4
     refine fu 9 18 Kr ?_ ?_
     ·refine cJ (ez y2 v1.known y4 d1.gone y5 d1.here ⟨by omega, by omega, by omega⟩) (.an rfl rfl) (ac rfl) rfl rfl rfl Kr rfl rfl Sm ?_
      intro x5
      refine Pr EPlace x5 (bN v1.known d1.gone d1.here) 24 fun hlen8 => ?_
      refine fu 16 18 Kr ?_ ?_
      ·refine cJ (ez y3 v1.way y6 d1.wayGone y7 d1.wayHere ⟨by omega, by omega, by omega⟩) (.an rfl rfl) (ac rfl) rfl rfl rfl Kr rfl rfl Sm ?_
       intro x6
       refine Pr EPlace x6 (bN v1.way d1.wayGone d1.wayHere) 24 fun hlen9 => ?_
       refine Ra 17 rfl Qp ?_
       refine ap 18 Kr ?_
       refine di (.an rfl rfl) (ac rfl) rfl rfl rfl rfl fun g5 => ?_
       refine ap 19 Kr ?_
       refine cY (.lo [g5] rfl rfl) (.inr (by simp)) (ac rfl) rfl rfl rfl rfl rfl rfl rfl rfl rfl Ub rfl ?_
       refine bn Kr ?_
       refine ⟨⟨g5, x4.1, x4.2, x5, x6⟩, trivial, Le4⟩
      ·refine di (.an rfl rfl) (ac rfl) rfl rfl rfl rfl fun g6 => ?_
       refine ap 16 Kr ?_
       refine cJ (ez y3 v1.way y6 d1.wayGone y7 d1.wayHere ⟨by omega, by omega, by omega⟩) (.an rfl rfl) (ac rfl) rfl rfl rfl Kr rfl rfl Sm ?_
       intro x7
       refine Pr EPlace x7 (bN v1.way d1.wayGone d1.wayHere) 24 fun hlen10 => ?_
       refine Ra 17 rfl Qp ?_
       refine ap 19 Kr ?_
       refine cY (.lo [g6] rfl rfl) (.inr (by simp)) (ac rfl) rfl rfl rfl rfl rfl rfl rfl rfl rfl Ub rfl ?_
       refine bn Kr ?_
       refine ⟨⟨g6, x4.1, x4.2, x5, x7⟩, trivial, Le4⟩
     ·refine di (.an rfl rfl) (ac rfl) rfl rfl rfl rfl fun g7 => ?_
      refine ap 9 Kr ?_
      refine cJ (ez y2 v1.known y4 d1.gone y5 d1.here ⟨by omega, by omega, by omega⟩) (.an rfl rfl) (ac rfl) rfl rfl rfl Kr rfl rfl Sm ?_
      intro x8
      refine Pr EPlace x8 (bN v1.known d1.gone d1.here) 24 fun hlen11 => ?_
      refine ap 16 Kr ?_
      refine cJ (ez y3 v1.way y6 d1.wayGone y7 d1.wayHere ⟨by omega, by omega, by omega⟩) (.an rfl rfl) (ac rfl) rfl rfl rfl Kr rfl rfl Sm ?_
      intro x9
      refine Pr EPlace x9 (bN v1.way d1.wayGone d1.wayHere) 24 fun hlen12 => ?_
      refine Ra 17 rfl Qp ?_
      refine ap 19 Kr ?_
      refine cY (.lo [g7] rfl rfl) (.inr (by simp)) (ac rfl) rfl rfl rfl rfl rfl rfl rfl rfl rfl Ub rfl ?_
      refine bn Kr ?_
      refine ⟨⟨g7, x4.1, x4.2, x8, x9⟩, trivial, Le4⟩
    ·refine di (.an rfl rfl) (ac rfl) rfl rfl rfl rfl fun g8 => ?_
     refine ap 2 Kr ?_
     refine aV (cP y1 v1.roots) (.an rfl rfl) (.inr (by simp [Lent.ids])) (ac rfl) rfl rfl rfl Kr rfl rfl Sm (.nil _) (.nil _) ?_
     intro x10
     refine ap 9 Kr ?_
     refine cJ (ez y2 v1.known y4 d1.gone y5 d1.here ⟨by omega, by omega, by omega⟩) (.an rfl rfl) (ac rfl) rfl rfl rfl Kr rfl rfl Sm ?_
     intro x11
     refine Pr EPlace x11 (bN v1.known d1.gone d1.here) 24 fun hlen13 => ?_
     refine ap 16 Kr ?_
     refine cJ (ez y3 v1.way y6 d1.wayGone y7 d1.wayHere ⟨by omega, by omega, by omega⟩) (.an rfl rfl) (ac rfl) rfl rfl rfl Kr rfl rfl Sm ?_
     intro x12
     refine Pr EPlace x12 (bN v1.way d1.wayGone d1.wayHere) 24 fun hlen14 => ?_
     refine Ra 17 rfl Qp ?_
     refine ap 19 Kr ?_
     refine cY (.lo [g8] rfl rfl) (.inr (by simp)) (ac rfl) rfl rfl rfl rfl rfl rfl rfl rfl rfl Ub rfl ?_
     refine bn Kr ?_
     refine ⟨⟨g8, x10.1, x10.2, x11, x12⟩, trivial, Le4⟩
   ·rintro ⟨g4, x1, b1, x2, x3⟩ -
    simp only [List.cons_append, List.nil_append]
    refine Tx ?_
    refine pj (eN x1 x2 x3 (⟨v1.roots, (bN v1.known d1.gone d1.here), (bN v1.way d1.wayGone d1.wayHere)⟩ : View)) .sq (ac rfl) rfl rfl rfl Kr rfl rfl (.own Mm (.fact Mm (.fact Mm (.nil _ _)))) ?_
    intro _
    refine Tx ?_
    refine Cd (b := ((bv (⟨v1.roots, (bN v1.known d1.gone d1.here), (bN v1.way d1.wayGone d1.wayHere)⟩ : View)) != 0)) (fun hc3 => ?_) fun hc3 => ?_
    ·have hc3p := bne_iff_ne.1 hc3
     refine Tx ?_
     refine Fc EInt ?_
     refine Fc EPlace ?_
     refine ai ?_; simp only [bH, hc1, hc2, hc3, Cf]; exact Re ⟨(⟨none, 0⟩ : SlV), (⟨none, 0⟩ : SlV), (⟨none, 0⟩ : SlV)⟩ (Va (Vt Vn))
    ·have hc3p := ae hc3
     refine Tx ?_
     refine cw_le (ay EInt 3 x1 b1 v1.roots Uo) ?_
     refine ai ?_; simp only [bH, hc1, hc2, hc3, Cf]; exact Re ⟨x1, x2, x3⟩ (Va (Vt Vn))
def it (v1 : View) : View :=
 v1
theorem fJ (y1 : SlV) (y2 : SlV) (y3 : SlV) (v1 : View) : DoesG Tryz.prog 86 [.agg ⟨[y1.val v1.roots.length, y2.val v1.known.length, y3.val v1.way.length]⟩] [RdL EInt y1 v1.roots, RdL EPlace y2 v1.known, RdL EPlace y3 v1.way] ⟨[], []⟩ (fun (X : SlV × Option Nat × SlV × Option Nat × SlV × Option Nat) => .agg ⟨[X.1.val (it v1).roots.length, X.2.2.1.val (it v1).known.length, X.2.2.2.2.1.val (it v1).way.length]⟩) (fun X => []) (fun X => ⟨[], [ownL EInt 3 X.1 X.2.1 (it v1).roots, ownL EPlace 83 X.2.2.1 X.2.2.2.1 (it v1).known, ownL EPlace 83 X.2.2.2.2.1 X.2.2.2.2.2 (it v1).way]⟩) := by
 refine co aZ Tryz.func86 rfl Tryz.ntmps86 Tryz.results86 rfl inferInstance (fun _ => inferInstance) fun C => ?_
 refine Pc EInt y1 v1.roots 8 fun hlen1 => ?_
 refine Pc EPlace y2 v1.known 24 fun hlen2 => ?_
 refine Pc EPlace y3 v1.way 24 fun hlen3 => ?_
 refine Tx ?_
 refine Bx fun g1 => ?_
 refine Al fun g2 => ?_
 refine dY ?_
 (repeat refine ao ?_); refine au (fun j => match j with | 10 => some [g2] | _ => some []) ?_
 refine Rb 0 rfl Qp ?_
 refine Rb 1 rfl Q1 ?_
 refine Rb 3 rfl Qp ?_
 refine Rb 4 rfl Q1 ?_
 refine Rb 6 rfl Qp ?_
 refine Rb 7 rfl Q1 ?_
 refine ap 2 Kr ?_
 refine aV (cP y1 v1.roots) (.an rfl rfl) (.inr (by simp [Lent.ids])) (ac rfl) rfl rfl rfl Kr rfl rfl Sm (.nil _) (.nil _) ?_
 intro x1
 refine ap 5 Kr ?_
 refine aV (c8 y2 v1.known) (.an rfl rfl) (.inr (by simp [Lent.ids])) (ac rfl) rfl rfl rfl Kr rfl rfl Sm (.nil _) (.nil _) ?_
 intro x2
 refine ap 8 Kr ?_
 refine aV (c8 y3 v1.way) (.an rfl rfl) (.inr (by simp [Lent.ids])) (ac rfl) rfl rfl rfl Kr rfl rfl Sm (.nil _) (.nil _) ?_
 intro x3
 refine Ra 9 rfl Qp ?_
 refine ap 10 Kr ?_
 refine cY (.an rfl rfl) (.inr (by simp)) (ac rfl) rfl rfl rfl rfl rfl rfl rfl rfl rfl Ub rfl ?_
 refine bn Kr ?_
 (repeat refine ao ?_)
 refine ai ?_; simp only [it, Cf]; exact Re ⟨x1.1, x1.2, x2.1, x2.2, x3.1, x3.2⟩ (Va Vn)
def fE (d1 : Delta) : Delta :=
 d1
theorem kM (y1 : SlV) (y2 : SlV) (y3 : SlV) (y4 : SlV) (d1 : Delta) : DoesG Tryz.prog 87 [.agg ⟨[y1.val d1.gone.length, y2.val d1.here.length, y3.val d1.wayGone.length, y4.val d1.wayHere.length]⟩] [RdL EInt y1 d1.gone, RdL EPlace y2 d1.here, RdL EInt y3 d1.wayGone, RdL EPlace y4 d1.wayHere] ⟨[], []⟩ (fun (X : SlV × Option Nat × SlV × Option Nat × SlV × Option Nat × SlV × Option Nat) => .agg ⟨[X.1.val (fE d1).gone.length, X.2.2.1.val (fE d1).here.length, X.2.2.2.2.1.val (fE d1).wayGone.length, X.2.2.2.2.2.2.1.val (fE d1).wayHere.length]⟩) (fun X => []) (fun X => ⟨[], [ownL EInt 3 X.1 X.2.1 (fE d1).gone, ownL EPlace 83 X.2.2.1 X.2.2.2.1 (fE d1).here, ownL EInt 3 X.2.2.2.2.1 X.2.2.2.2.2.1 (fE d1).wayGone, ownL EPlace 83 X.2.2.2.2.2.2.1 X.2.2.2.2.2.2.2 (fE d1).wayHere]⟩) := by
 refine co aZ Tryz.func87 rfl Tryz.ntmps87 Tryz.results87 rfl inferInstance (fun _ => inferInstance) fun C => ?_
 refine Pc EInt y1 d1.gone 8 fun hlen1 => ?_
 refine Pc EPlace y2 d1.here 24 fun hlen2 => ?_
 refine Pc EInt y3 d1.wayGone 8 fun hlen3 => ?_
 refine Pc EPlace y4 d1.wayHere 24 fun hlen4 => ?_
 refine Tx ?_
 refine Bx fun g1 => ?_
 refine Al fun g2 => ?_
 refine dY ?_
 (repeat refine ao ?_); refine au (fun j => match j with | 13 => some [g2] | _ => some []) ?_
 refine Rb 0 rfl Qp ?_
 refine Rb 1 rfl Q1 ?_
 refine Rb 3 rfl Qp ?_
 refine Rb 4 rfl Q1 ?_
 refine Rb 6 rfl Qp ?_
 refine Rb 7 rfl Q1 ?_
 refine Rb 9 rfl Qp ?_
 refine Rb 10 rfl Q1 ?_
 refine ap 2 Kr ?_
 refine aV (cP y1 d1.gone) (.an rfl rfl) (.inr (by simp [Lent.ids])) (ac rfl) rfl rfl rfl Kr rfl rfl Sm (.nil _) (.nil _) ?_
 intro x1
 refine ap 5 Kr ?_
 refine aV (c8 y2 d1.here) (.an rfl rfl) (.inr (by simp [Lent.ids])) (ac rfl) rfl rfl rfl Kr rfl rfl Sm (.nil _) (.nil _) ?_
 intro x2
 refine ap 8 Kr ?_
 refine aV (cP y3 d1.wayGone) (.an rfl rfl) (.inr (by simp [Lent.ids])) (ac rfl) rfl rfl rfl Kr rfl rfl Sm (.nil _) (.nil _) ?_
 intro x3
 refine ap 11 Kr ?_
 refine aV (c8 y4 d1.wayHere) (.an rfl rfl) (.inr (by simp [Lent.ids])) (ac rfl) rfl rfl rfl Kr rfl rfl Sm (.nil _) (.nil _) ?_
 intro x4
 refine Ra 12 rfl Qp ?_
 refine ap 13 Kr ?_
 refine cY (.an rfl rfl) (.inr (by simp)) (ac rfl) rfl rfl rfl rfl rfl rfl rfl rfl rfl Ub rfl ?_
 refine bn Kr ?_
 (repeat refine ao ?_)
 refine ai ?_; simp only [fE, Cf]; exact Re ⟨x1.1, x1.2, x2.1, x2.2, x3.1, x3.2, x4.1, x4.2⟩ (Va Vn)
def fz (a1 : Mail) (b1 : Mail) : Bool :=
 ((((((((((a1.kind == b1.kind) && (a1.who == b1.who)) && (a1.life == b1.life)) && (a1.seq == b1.seq)) && (a1.time == b1.time)) && (a1.version == b1.version)) && (a1.frm == b1.frm)) && decide (a1.o = b1.o)) && (eD a1.v b1.v)) && (mA a1.d b1.d))
theorem hY (y1 : SlV) (y2 : SlV) (y3 : SlV) (y4 : SlV) (y5 : SlV) (y6 : SlV) (y7 : SlV) (a1 : Mail) (y8 : SlV) (y9 : SlV) (y10 : SlV) (y11 : SlV) (y12 : SlV) (y13 : SlV) (y14 : SlV) (b1 : Mail) : Does Tryz.prog 95 [.agg ⟨[.int .i64 a1.kind, .int .i64 a1.who, .int .i64 a1.life, .int .i64 a1.seq, .int .i64 a1.time, .int .i64 a1.version, .int .i64 a1.frm, .int .i64 a1.o.time, .int .i64 a1.o.who, .int .i64 a1.o.node, .int .i64 a1.o.parent, .int .i64 a1.o.name, .int .i64 a1.o.life, .int .i64 a1.o.seq, y1.val a1.v.roots.length, y2.val a1.v.known.length, y3.val a1.v.way.length, y4.val a1.d.gone.length, y5.val a1.d.here.length, y6.val a1.d.wayGone.length, y7.val a1.d.wayHere.length]⟩, .agg ⟨[.int .i64 b1.kind, .int .i64 b1.who, .int .i64 b1.life, .int .i64 b1.seq, .int .i64 b1.time, .int .i64 b1.version, .int .i64 b1.frm, .int .i64 b1.o.time, .int .i64 b1.o.who, .int .i64 b1.o.node, .int .i64 b1.o.parent, .int .i64 b1.o.name, .int .i64 b1.o.life, .int .i64 b1.o.seq, y8.val b1.v.roots.length, y9.val b1.v.known.length, y10.val b1.v.way.length, y11.val b1.d.gone.length, y12.val b1.d.here.length, y13.val b1.d.wayGone.length, y14.val b1.d.wayHere.length]⟩] [RdL EInt y1 a1.v.roots, RdL EPlace y2 a1.v.known, RdL EPlace y3 a1.v.way, RdL EInt y4 a1.d.gone, RdL EPlace y5 a1.d.here, RdL EInt y6 a1.d.wayGone, RdL EPlace y7 a1.d.wayHere, RdL EInt y8 b1.v.roots, RdL EPlace y9 b1.v.known, RdL EPlace y10 b1.v.way, RdL EInt y11 b1.d.gone, RdL EPlace y12 b1.d.here, RdL EInt y13 b1.d.wayGone, RdL EPlace y14 b1.d.wayHere] (fun (_ : Unit) => .bool (fz a1 b1)) (fun _ => []) := by
 refine bj aZ Tryz.func95 rfl Tryz.ntmps95 Tryz.results95 rfl inferInstance (fun _ => inferInstance) fun C => ?_
 refine Pc EInt y1 a1.v.roots 8 fun hlen1 => ?_
 refine Pc EPlace y2 a1.v.known 24 fun hlen2 => ?_
 refine Pc EPlace y3 a1.v.way 24 fun hlen3 => ?_
 refine Pc EInt y4 a1.d.gone 8 fun hlen4 => ?_
 refine Pc EPlace y5 a1.d.here 24 fun hlen5 => ?_
 refine Pc EInt y6 a1.d.wayGone 8 fun hlen6 => ?_
 refine Pc EPlace y7 a1.d.wayHere 24 fun hlen7 => ?_
 refine Pc EInt y8 b1.v.roots 8 fun hlen8 => ?_
 refine Pc EPlace y9 b1.v.known 24 fun hlen9 => ?_
 refine Pc EPlace y10 b1.v.way 24 fun hlen10 => ?_
 refine Pc EInt y11 b1.d.gone 8 fun hlen11 => ?_
 refine Pc EPlace y12 b1.d.here 24 fun hlen12 => ?_
 refine Pc EInt y13 b1.d.wayGone 8 fun hlen13 => ?_
 refine Pc EPlace y14 b1.d.wayHere 24 fun hlen14 => ?_
 refine Tx ?_
 refine Bx fun g1 => ?_
 refine Bx fun g2 => ?_
 refine Tx ?_
 refine rw_qg (aG rfl rfl rfl) rfl rfl (q_eqE rS (l9 a1.o b1.o) rfl rfl Bt rfl Bt rfl rfl) ?_
 refine Tx ?_
 refine dv (fun hG_ => ja y1 y2 y3 a1.v y8 y9 y10 b1.v) Zf .sq (aG rfl rfl rfl) rfl rfl rfl Kr rfl Bt Sm ?_
 refine Tx ?_
 refine dv (fun hG_ => nZ y4 y5 y6 y7 a1.d y11 y12 y13 y14 b1.d) Zf .sq (aG rfl rfl rfl) rfl rfl rfl Kr rfl Bt Sm ?_
 refine Tx ?_
 refine ai ?_; simp only [fz, Cf]; exact Re () (Vt Vn)
def bJ (m1 : Mail) : Int :=
 (bif (decide (m1.kind < 1) || decide (m1.kind > 3)) then 4 else (bif (decide (m1.who < 0) || decide (m1.who ≥ 3)) then 5 else (bif (m1.kind == 1) then (bif (!(fz m1 (⟨m1.kind, m1.who, 0, 0, 0, 0, 0, m1.o, (⟨[], [], []⟩ : View), (⟨[], [], [], []⟩ : Delta)⟩ : Mail))) then 4 else (bif (m1.o.who != m1.who) then 4 else (ck m1.o))) else (bif (m1.kind == 2) then (bif (!(fz m1 (⟨m1.kind, m1.who, m1.life, m1.seq, m1.time, m1.version, 0, (⟨0, 0, 0, 0, 0, 0, 0⟩ : Op), m1.v, (⟨[], [], [], []⟩ : Delta)⟩ : Mail))) then 4 else (bif (((((((((decide (m1.life < 1) || decide (m1.life > 50)) || decide (m1.seq < 0)) || decide (m1.seq > 30)) || decide (m1.time < 0)) || decide (m1.time > 10000)) || decide (m1.version < 1)) || decide (m1.version > 60)) || decide (m1.frm < 0)) || decide (m1.frm ≥ m1.version)) then 3 else (bv m1.v))) else (bif (m1.kind == 3) then (bif (!(fz m1 (⟨m1.kind, m1.who, m1.life, m1.seq, m1.time, m1.version, m1.frm, (⟨0, 0, 0, 0, 0, 0, 0⟩ : Op), (⟨[], [], []⟩ : View), m1.d⟩ : Mail))) then 4 else (bif (((((((((decide (m1.life < 1) || decide (m1.life > 50)) || decide (m1.seq < 0)) || decide (m1.seq > 30)) || decide (m1.time < 0)) || decide (m1.time > 10000)) || decide (m1.version < 1)) || decide (m1.version > 60)) || decide (m1.frm < 0)) || decide (m1.frm ≥ m1.version)) then 3 else (bg m1.d))) else (bif (!(fz m1 (⟨m1.kind, m1.who, 0, 0, 0, 0, 0, (⟨0, 0, 0, 0, 0, 0, 0⟩ : Op), (⟨[], [], []⟩ : View), (⟨[], [], [], []⟩ : Delta)⟩ : Mail))) then 4 else (bif (((((((((decide (m1.life < 1) || decide (m1.life > 50)) || decide (m1.seq < 0)) || decide (m1.seq > 30)) || decide (m1.time < 0)) || decide (m1.time > 10000)) || decide (m1.version < 1)) || decide (m1.version > 60)) || decide (m1.frm < 0)) || decide (m1.frm ≥ m1.version)) then 3 else (bg m1.d))))))))
theorem oA (y1 : SlV) (y2 : SlV) (y3 : SlV) (y4 : SlV) (y5 : SlV) (y6 : SlV) (y7 : SlV) (m1 : Mail) : Does Tryz.prog 68 [.agg ⟨[.int .i64 m1.kind, .int .i64 m1.who, .int .i64 m1.life, .int .i64 m1.seq, .int .i64 m1.time, .int .i64 m1.version, .int .i64 m1.frm, .int .i64 m1.o.time, .int .i64 m1.o.who, .int .i64 m1.o.node, .int .i64 m1.o.parent, .int .i64 m1.o.name, .int .i64 m1.o.life, .int .i64 m1.o.seq, y1.val m1.v.roots.length, y2.val m1.v.known.length, y3.val m1.v.way.length, y4.val m1.d.gone.length, y5.val m1.d.here.length, y6.val m1.d.wayGone.length, y7.val m1.d.wayHere.length]⟩] [RdL EInt y1 m1.v.roots, RdL EPlace y2 m1.v.known, RdL EPlace y3 m1.v.way, RdL EInt y4 m1.d.gone, RdL EPlace y5 m1.d.here, RdL EInt y6 m1.d.wayGone, RdL EPlace y7 m1.d.wayHere] (fun (_ : Unit) => .int .i64 (bJ m1)) (fun _ => []) := by
 refine bj aZ Tryz.func68 rfl Tryz.ntmps68 Tryz.results68 rfl inferInstance (fun _ => inferInstance) fun C => ?_
 refine Pc EInt y1 m1.v.roots 8 fun hlen1 => ?_
 refine Pc EPlace y2 m1.v.known 24 fun hlen2 => ?_
 refine Pc EPlace y3 m1.v.way 24 fun hlen3 => ?_
 refine Pc EInt y4 m1.d.gone 8 fun hlen4 => ?_
 refine Pc EPlace y5 m1.d.here 24 fun hlen5 => ?_
 refine Pc EInt y6 m1.d.wayGone 8 fun hlen6 => ?_
 refine Pc EPlace y7 m1.d.wayHere 24 fun hlen7 => ?_
 refine Tx ?_
 refine Bx fun g1 => ?_
 refine Tx ?_
 refine Cd (b := (decide (m1.kind < 1) || decide (m1.kind > 3))) (fun hc1 => ?_) fun hc1 => ?_
 ·refine Tx ?_
  refine ai ?_; simp only [bJ, hc1, Cf]; exact Re () (Vt Vn)
 ·refine Tx ?_
  refine Cd (b := (decide (m1.who < 0) || decide (m1.who ≥ 3))) (fun hc2 => ?_) fun hc2 => ?_
  ·refine Tx ?_
   refine ai ?_; simp only [bJ, hc1, hc2, Cf]; exact Re () (Vt Vn)
  ·refine Tx ?_
   refine Al fun g2 => ?_
   refine Tx ?_
   refine Cd (b := (m1.kind == 1)) (fun hc3 => ?_) fun hc3 => ?_
   ·have hc3p := eq_of_beq hc3
    refine Tx ?_
    refine eS .sq (.inl ⟨_, rfl⟩) (ac rfl) rfl rfl rfl rfl rfl rfl rfl rfl rfl Ub rfl ?_
    refine Tx ?_
    refine Fr EInt ?_
    refine Fr EPlace ?_
    refine Cl (hY y1 y2 y3 y4 y5 y6 y7 m1 (⟨none, 0⟩ : SlV) (⟨none, 0⟩ : SlV) (⟨none, 0⟩ : SlV) (⟨none, 0⟩ : SlV) (⟨none, 0⟩ : SlV) (⟨none, 0⟩ : SlV) (⟨none, 0⟩ : SlV) (⟨m1.kind, m1.who, 0, 0, 0, 0, 0, m1.o, (⟨[], [], []⟩ : View), (⟨[], [], [], []⟩ : Delta)⟩ : Mail)) fun _ => ?_
    refine Tx ?_
    refine Cd (b := (!(fz m1 (⟨m1.kind, m1.who, 0, 0, 0, 0, 0, m1.o, (⟨[], [], []⟩ : View), (⟨[], [], [], []⟩ : Delta)⟩ : Mail)))) (fun hc4 => ?_) fun hc4 => ?_
    ·refine Tx ?_
     refine ai ?_; simp only [bJ, hc1, hc2, hc3, hc4, Cf]; exact Re () (Vt Vn)
    ·refine Tx ?_
     refine Cd (b := (m1.kind == 1)) (fun hc5 => ?_) fun hc5 => ?_
     ·refine Tx ?_
      refine Cd (b := (m1.o.who != m1.who)) (fun hc6 => ?_) fun hc6 => ?_
      ·have hc6p := bne_iff_ne.1 hc6
       refine Tx ?_
       refine ai ?_; simp only [bJ, hc1, hc2, hc3, hc4, hc6, Cf]; exact Re () (Vt Vn)
      ·have hc6p := ae hc6
       refine Tx ?_
       refine Cl (ef m1.o) fun _ => ?_
       refine Tx ?_
       refine ai ?_; simp only [bJ, hc1, hc2, hc3, hc4, hc6, Cf]; exact Re () (Vt Vn)
     ·exact Bool.noConfusion (hc5.symm.trans hc3)
   ·have hc3p := ne_of_beq_false hc3
    refine Tx ?_
    refine Cd (b := (m1.kind == 2)) (fun hc7 => ?_) fun hc7 => ?_
    ·have hc7p := eq_of_beq hc7
     (repeat refine ao ?_); refine au (fun j => match j with | 11 => some [g2] | 13 => some [g2] | 15 => some [g2] | 17 => some [g2] | 19 => some [g2] | _ => some []) ?_
     refine Ra 0 rfl Qp ?_
     refine Ra 1 rfl Q1 ?_
     refine ra_q (.an (i := 2) (js := [4, 5, 6, 7, 8, 9, 10, 11]) rfl Kr Kr Kr Kr) (.drop (bK.all _)) (by intro g hg; simp at hg; simp [hg]) rfl rfl rfl (q_pev rfl Zf) ?_
     refine ra_q (.an (i := 3) (js := [4, 5, 6, 7, 8, 9, 10, 11]) rfl Kr Kr Kr Kr) (.drop (bK.all _)) (by intro g hg; simp at hg; simp [hg]) rfl rfl rfl (q_ld1 rfl rfl Zf rfl Mm rfl) ?_
     refine ra_q (.an (i := 4) (js := [6, 7, 8, 9, 10, 11, 12, 13]) rfl Kr Kr Kr Kr) (.drop (bK.all _)) (by intro g hg; simp at hg; simp [hg]) rfl rfl rfl (q_pev rfl Zf) ?_
     refine ra_q (.an (i := 5) (js := [6, 7, 8, 9, 10, 11, 12, 13]) rfl Kr Kr Kr Kr) (.drop (bK.all _)) (by intro g hg; simp at hg; simp [hg]) rfl rfl rfl (q_ld1 rfl rfl Zf rfl Mm rfl) ?_
     refine ra_q (.an (i := 6) (js := [8, 9, 10, 11, 12, 13, 14, 15]) rfl Kr Kr Kr Kr) (.drop (bK.all _)) (by intro g hg; simp at hg; simp [hg]) rfl rfl rfl (q_pev rfl Zf) ?_
     refine ra_q (.an (i := 7) (js := [8, 9, 10, 11, 12, 13, 14, 15]) rfl Kr Kr Kr Kr) (.drop (bK.all _)) (by intro g hg; simp at hg; simp [hg]) rfl rfl rfl (q_ld1 rfl rfl Zf rfl Mm rfl) ?_
     refine ra_q (.an (i := 8) (js := [10, 11, 12, 13, 14, 15, 16, 17]) rfl Kr Kr Kr Kr) (.drop (bK.all _)) (by intro g hg; simp at hg; simp [hg]) rfl rfl rfl (q_pev rfl Zf) ?_
     refine ra_q (.an (i := 9) (js := [10, 11, 12, 13, 14, 15, 16, 17]) rfl Kr Kr Kr Kr) (.drop (bK.all _)) (by intro g hg; simp at hg; simp [hg]) rfl rfl rfl (q_ldP rfl rfl Zf rfl Mm rfl) ?_
     refine Ra 10 rfl Qp ?_
     refine ap 11 Kr ?_
     refine ew (.an rfl rfl) (.inr (by simp)) (ac rfl) rfl rfl rfl rfl rfl rfl rfl rfl rfl Ub rfl ?_
     refine Ra 12 rfl Qp ?_
     refine ap 13 Kr ?_
     refine ew (.an rfl rfl) (.inr (by simp)) (ac rfl) rfl rfl rfl rfl rfl rfl rfl rfl rfl Ub rfl ?_
     refine Ra 14 rfl Qp ?_
     refine ap 15 Kr ?_
     refine ew (.an rfl rfl) (.inr (by simp)) (ac rfl) rfl rfl rfl rfl rfl rfl rfl rfl rfl Ub rfl ?_
     refine Ra 16 rfl Qp ?_
     refine ap 17 Kr ?_
     refine ew (.an rfl rfl) (.inr (by simp)) (ac rfl) rfl rfl rfl rfl rfl rfl rfl rfl rfl Ub rfl ?_
     refine Ra 18 rfl Qp ?_
     refine ap 19 Kr ?_
     refine eS (.an rfl rfl) (.inr (by simp)) (ac rfl) rfl rfl rfl rfl rfl rfl rfl rfl rfl Ub rfl ?_
     refine bn Kr ?_
     refine Tx ?_
     refine Fr EInt ?_
     refine Fr EPlace ?_
     refine Cl (hY y1 y2 y3 y4 y5 y6 y7 m1 y1 y2 y3 (⟨none, 0⟩ : SlV) (⟨none, 0⟩ : SlV) (⟨none, 0⟩ : SlV) (⟨none, 0⟩ : SlV) (⟨m1.kind, m1.who, m1.life, m1.seq, m1.time, m1.version, 0, (⟨0, 0, 0, 0, 0, 0, 0⟩ : Op), m1.v, (⟨[], [], [], []⟩ : Delta)⟩ : Mail)) fun _ => ?_
     refine Tx ?_
     refine Cd (b := (!(fz m1 (⟨m1.kind, m1.who, m1.life, m1.seq, m1.time, m1.version, 0, (⟨0, 0, 0, 0, 0, 0, 0⟩ : Op), m1.v, (⟨[], [], [], []⟩ : Delta)⟩ : Mail)))) (fun hc8 => ?_) fun hc8 => ?_
     ·refine Tx ?_
      refine ai ?_; simp only [bJ, hc1, hc2, hc3, hc7, hc8, Cf]; exact Re () (Vt Vn)
     ·refine Tx ?_
      refine Cd (b := (m1.kind == 1)) (fun hc9 => ?_) fun hc9 => ?_
      ·exact Bool.noConfusion (hc9.symm.trans hc3)
      ·refine Tx ?_
       refine Cd (b := (((((((((decide (m1.life < 1) || decide (m1.life > 50)) || decide (m1.seq < 0)) || decide (m1.seq > 30)) || decide (m1.time < 0)) || decide (m1.time > 10000)) || decide (m1.version < 1)) || decide (m1.version > 60)) || decide (m1.frm < 0)) || decide (m1.frm ≥ m1.version))) (fun hc10 => ?_) fun hc10 => ?_
       ·refine Tx ?_
        refine ai ?_; simp only [bJ, hc1, hc2, hc3, hc7, hc8, hc10, Cf]; exact Re () (Vt Vn)
       ·refine Tx ?_
        refine Cd (b := (m1.kind == 2)) (fun hc11 => ?_) fun hc11 => ?_
        ·refine Tx ?_
         refine Cl (eN y1 y2 y3 m1.v) fun _ => ?_
         refine Tx ?_
         refine ai ?_; simp only [bJ, hc1, hc2, hc3, hc7, hc8, hc10, Cf]; exact Re () (Vt Vn)
        ·exact Bool.noConfusion (hc11.symm.trans hc7)
    ·have hc7p := ne_of_beq_false hc7
     refine Tx ?_
     refine Cd (b := (m1.kind == 3)) (fun hc12 => ?_) fun hc12 => ?_
     ·have hc12p := eq_of_beq hc12
      (repeat refine ao ?_); refine au (fun j => match j with | 13 => some [g2] | 15 => some [g2] | 17 => some [g2] | 19 => some [g2] | 21 => some [g2] | 23 => some [g2] | _ => some []) ?_
      refine Ra 0 rfl Qp ?_
      refine Ra 1 rfl Q1 ?_
      refine ra_q (.an (i := 2) (js := [4, 5, 6, 7, 8, 9, 10, 11, 12, 13]) rfl Kr Kr Kr Kr) (.drop (bK.all _)) (by intro g hg; simp at hg; simp [hg]) rfl rfl rfl (q_pev rfl Zf) ?_
      refine ra_q (.an (i := 3) (js := [4, 5, 6, 7, 8, 9, 10, 11, 12, 13]) rfl Kr Kr Kr Kr) (.drop (bK.all _)) (by intro g hg; simp at hg; simp [hg]) rfl rfl rfl (q_ld1 rfl rfl Zf rfl Mm rfl) ?_
      refine ra_q (.an (i := 4) (js := [6, 7, 8, 9, 10, 11, 12, 13, 14, 15]) rfl Kr Kr Kr Kr) (.drop (bK.all _)) (by intro g hg; simp at hg; simp [hg]) rfl rfl rfl (q_pev rfl Zf) ?_
      refine ra_q (.an (i := 5) (js := [6, 7, 8, 9, 10, 11, 12, 13, 14, 15]) rfl Kr Kr Kr Kr) (.drop (bK.all _)) (by intro g hg; simp at hg; simp [hg]) rfl rfl rfl (q_ld1 rfl rfl Zf rfl Mm rfl) ?_
      refine ra_q (.an (i := 6) (js := [8, 9, 10, 11, 12, 13, 14, 15, 16, 17]) rfl Kr Kr Kr Kr) (.drop (bK.all _)) (by intro g hg; simp at hg; simp [hg]) rfl rfl rfl (q_pev rfl Zf) ?_
      refine ra_q (.an (i := 7) (js := [8, 9, 10, 11, 12, 13, 14, 15, 16, 17]) rfl Kr Kr Kr Kr) (.drop (bK.all _)) (by intro g hg; simp at hg; simp [hg]) rfl rfl rfl (q_ld1 rfl rfl Zf rfl Mm rfl) ?_
      refine ra_q (.an (i := 8) (js := [10, 11, 12, 13, 14, 15, 16, 17, 18, 19]) rfl Kr Kr Kr Kr) (.drop (bK.all _)) (by intro g hg; simp at hg; simp [hg]) rfl rfl rfl (q_pev rfl Zf) ?_
      refine ra_q (.an (i := 9) (js := [10, 11, 12, 13, 14, 15, 16, 17, 18, 19]) rfl Kr Kr Kr Kr) (.drop (bK.all _)) (by intro g hg; simp at hg; simp [hg]) rfl rfl rfl (q_ld1 rfl rfl Zf rfl Mm rfl) ?_
      refine ra_q (.an (i := 10) (js := [12, 13, 14, 15, 16, 17, 18, 19, 20, 21]) rfl Kr Kr Kr Kr) (.drop (bK.all _)) (by intro g hg; simp at hg; simp [hg]) rfl rfl rfl (q_pev rfl Zf) ?_
      refine ra_q (.an (i := 11) (js := [12, 13, 14, 15, 16, 17, 18, 19, 20, 21]) rfl Kr Kr Kr Kr) (.drop (bK.all _)) (by intro g hg; simp at hg; simp [hg]) rfl rfl rfl (q_ldP rfl rfl Zf rfl Mm rfl) ?_
      refine Ra 12 rfl Qp ?_
      refine ap 13 Kr ?_
      refine ew (.an rfl rfl) (.inr (by simp)) (ac rfl) rfl rfl rfl rfl rfl rfl rfl rfl rfl Ub rfl ?_
      refine Ra 14 rfl Qp ?_
      refine ap 15 Kr ?_
      refine ew (.an rfl rfl) (.inr (by simp)) (ac rfl) rfl rfl rfl rfl rfl rfl rfl rfl rfl Ub rfl ?_
      refine Ra 16 rfl Qp ?_
      refine ap 17 Kr ?_
      refine ew (.an rfl rfl) (.inr (by simp)) (ac rfl) rfl rfl rfl rfl rfl rfl rfl rfl rfl Ub rfl ?_
      refine Ra 18 rfl Qp ?_
      refine ap 19 Kr ?_
      refine ew (.an rfl rfl) (.inr (by simp)) (ac rfl) rfl rfl rfl rfl rfl rfl rfl rfl rfl Ub rfl ?_
      refine Ra 20 rfl Qp ?_
      refine ap 21 Kr ?_
      refine ew (.an rfl rfl) (.inr (by simp)) (ac rfl) rfl rfl rfl rfl rfl rfl rfl rfl rfl Ub rfl ?_
      refine Ra 22 rfl Qp ?_
      refine ap 23 Kr ?_
      refine eS (.an rfl rfl) (.inr (by simp)) (ac rfl) rfl rfl rfl rfl rfl rfl rfl rfl rfl Ub rfl ?_
      refine bn Kr ?_
      refine Tx ?_
      refine Fr EInt ?_
      refine Fr EPlace ?_
      refine Cl (hY y1 y2 y3 y4 y5 y6 y7 m1 (⟨none, 0⟩ : SlV) (⟨none, 0⟩ : SlV) (⟨none, 0⟩ : SlV) y4 y5 y6 y7 (⟨m1.kind, m1.who, m1.life, m1.seq, m1.time, m1.version, m1.frm, (⟨0, 0, 0, 0, 0, 0, 0⟩ : Op), (⟨[], [], []⟩ : View), m1.d⟩ : Mail)) fun _ => ?_
      refine Tx ?_
      refine Cd (b := (!(fz m1 (⟨m1.kind, m1.who, m1.life, m1.seq, m1.time, m1.version, m1.frm, (⟨0, 0, 0, 0, 0, 0, 0⟩ : Op), (⟨[], [], []⟩ : View), m1.d⟩ : Mail)))) (fun hc13 => ?_) fun hc13 => ?_
      ·refine Tx ?_
       refine ai ?_; simp only [bJ, hc1, hc2, hc3, hc7, hc12, hc13, Cf]; exact Re () (Vt Vn)
      ·refine Tx ?_
       refine Cd (b := (m1.kind == 1)) (fun hc14 => ?_) fun hc14 => ?_
       ·exact Bool.noConfusion (hc14.symm.trans hc3)
       ·refine Tx ?_
        refine Cd (b := (((((((((decide (m1.life < 1) || decide (m1.life > 50)) || decide (m1.seq < 0)) || decide (m1.seq > 30)) || decide (m1.time < 0)) || decide (m1.time > 10000)) || decide (m1.version < 1)) || decide (m1.version > 60)) || decide (m1.frm < 0)) || decide (m1.frm ≥ m1.version))) (fun hc15 => ?_) fun hc15 => ?_
        ·refine Tx ?_
         refine ai ?_; simp only [bJ, hc1, hc2, hc3, hc7, hc12, hc13, hc15, Cf]; exact Re () (Vt Vn)
        ·refine Tx ?_
         refine Cd (b := (m1.kind == 2)) (fun hc16 => ?_) fun hc16 => ?_
         ·exact Bool.noConfusion (hc16.symm.trans hc7)
         ·refine Tx ?_
          refine Cl (gX y4 y5 y6 y7 m1.d) fun _ => ?_
          refine Tx ?_
          refine ai ?_; simp only [bJ, hc1, hc2, hc3, hc7, hc12, hc13, hc15, Cf]; exact Re () (Vt Vn)
     ·have hc12p := ne_of_beq_false hc12
      refine Tx ?_
      refine Fr EInt ?_
      refine Fr EPlace ?_
      refine Cl (hY y1 y2 y3 y4 y5 y6 y7 m1 (⟨none, 0⟩ : SlV) (⟨none, 0⟩ : SlV) (⟨none, 0⟩ : SlV) (⟨none, 0⟩ : SlV) (⟨none, 0⟩ : SlV) (⟨none, 0⟩ : SlV) (⟨none, 0⟩ : SlV) (⟨m1.kind, m1.who, 0, 0, 0, 0, 0, (⟨0, 0, 0, 0, 0, 0, 0⟩ : Op), (⟨[], [], []⟩ : View), (⟨[], [], [], []⟩ : Delta)⟩ : Mail)) fun _ => ?_
      refine Tx ?_
      refine Cd (b := (!(fz m1 (⟨m1.kind, m1.who, 0, 0, 0, 0, 0, (⟨0, 0, 0, 0, 0, 0, 0⟩ : Op), (⟨[], [], []⟩ : View), (⟨[], [], [], []⟩ : Delta)⟩ : Mail)))) (fun hc17 => ?_) fun hc17 => ?_
      ·refine Tx ?_
       refine ai ?_; simp only [bJ, hc1, hc2, hc3, hc7, hc12, hc17, Cf]; exact Re () (Vt Vn)
      ·refine Tx ?_
       refine Cd (b := (m1.kind == 1)) (fun hc18 => ?_) fun hc18 => ?_
       ·exact Bool.noConfusion (hc18.symm.trans hc3)
       ·refine Tx ?_
        refine Cd (b := (((((((((decide (m1.life < 1) || decide (m1.life > 50)) || decide (m1.seq < 0)) || decide (m1.seq > 30)) || decide (m1.time < 0)) || decide (m1.time > 10000)) || decide (m1.version < 1)) || decide (m1.version > 60)) || decide (m1.frm < 0)) || decide (m1.frm ≥ m1.version))) (fun hc19 => ?_) fun hc19 => ?_
        ·refine Tx ?_
         refine ai ?_; simp only [bJ, hc1, hc2, hc3, hc7, hc12, hc17, hc19, Cf]; exact Re () (Vt Vn)
        ·refine Tx ?_
         refine Cd (b := (m1.kind == 2)) (fun hc20 => ?_) fun hc20 => ?_
         ·exact Bool.noConfusion (hc20.symm.trans hc7)
         ·refine Tx ?_
          refine Cl (gX y4 y5 y6 y7 m1.d) fun _ => ?_
          refine Tx ?_
          refine ai ?_; simp only [bJ, hc1, hc2, hc3, hc7, hc12, hc17, hc19, Cf]; exact Re () (Vt Vn)
def d9  : List Mail → Int
 | [] => 0
 | pn1 :: rn1 => (bif ((bJ pn1) != 0) then (bJ pn1) else (d9 rn1))
def bO (l1 : List Mail) : Int :=
 (bif decide ((l1.length : Int) > 30) then 2 else (d9 l1))
theorem fI (y1 : SlV) (l1 : List Mail) : Does Tryz.prog 43 [y1.val l1.length] [RdN NMail y1 l1] (fun (_ : Unit) => .int .i64 (bO l1)) (fun _ => []) := by
 refine bj aZ Tryz.func43 rfl Tryz.ntmps43 Tryz.results43 rfl inferInstance (fun _ => inferInstance) fun C => ?_
 refine Pn NMail y1 l1 280 fun hlen1 => ?_
 refine Tx ?_
 refine Cd (b := decide ((l1.length : Int) > 30)) (fun hc1 => ?_) fun hc1 => ?_
 ·have hc1p := of_decide_eq_true hc1
  refine Tx ?_
  refine ai ?_; simp only [bO, hc1, Cf]; exact Re () (Vt Vn)
 ·have hc1p := of_decide_eq_false hc1
  refine Tx ?_
  (repeat refine ao ?_); refine Lp [2,9,10] [] (fun (n1 : Nat) => (⟨[(11, .v (.int .i64 (n1 : Int)))], [], [], [], (n1 ≤ l1.length) ∧ (d9 (l1.drop n1)) = (bO l1), l1.length - n1⟩ : Ls)) 0 (Sc (Sc (Sc Sn))) (.nil) ⟨Nat.zero_le _, (by simp only [bO, hc1, Cf] : (bO l1) = (d9 l1)).symm⟩ Le4 ?_
  rintro n1 ⟨hkn1, hf1⟩
  simp only [List.cons_append, List.nil_append]
  refine Tx ?_
  refine Cd (b := decide ((n1 : Int) < (l1.length : Int))) (fun hc2 => ?_) fun hc2 => ?_
  ·have hlt0 : n1 < l1.length := Int.ofNat_lt.1 (of_decide_eq_true hc2)
   refine Tx ?_
   refine fj NMail (X := y1) (l := l1) Mm fun (γ1 : Nat → SlV × SlV × SlV × SlV × SlV × SlV × SlV) => ?_
   refine rw_q rfl rfl rfl (dw NMail γ1 n1 rfl rfl Zf rfl Zf rfl rfl rfl Mm rfl Zf (fun _ => by first | assumption | omega)) ?_
   refine rw_q rfl rfl rfl (q_is (v' := .agg ⟨[.int .i64 (gt l1 n1).kind, .int .i64 (gt l1 n1).who, .int .i64 (gt l1 n1).life, .int .i64 (gt l1 n1).seq, .int .i64 (gt l1 n1).time, .int .i64 (gt l1 n1).version, .int .i64 (gt l1 n1).frm, .int .i64 (gt l1 n1).o.time, .int .i64 (gt l1 n1).o.who, .int .i64 (gt l1 n1).o.node, .int .i64 (gt l1 n1).o.parent, .int .i64 (gt l1 n1).o.name, .int .i64 (gt l1 n1).o.life, .int .i64 (gt l1 n1).o.seq, (γ1 n1).1.val (gt l1 n1).v.roots.length, (γ1 n1).2.1.val (gt l1 n1).v.known.length, (γ1 n1).2.2.1.val (gt l1 n1).v.way.length, (γ1 n1).2.2.2.1.val (gt l1 n1).d.gone.length, (γ1 n1).2.2.2.2.1.val (gt l1 n1).d.here.length, (γ1 n1).2.2.2.2.2.1.val (gt l1 n1).d.wayGone.length, (γ1 n1).2.2.2.2.2.2.val (gt l1 n1).d.wayHere.length]⟩) (fP NMail γ1 rfl rfl Zf rfl rfl Mm (fun _ => by first | assumption | omega)) rfl) ?_
   refine aI (F := RdL EInt (γ1 n1).1 (gt l1 n1).v.roots) [am NMail γ1 l1] Sm (fun M w h => (allF1 h) n1 Zc _ (.head _)) ?_
   refine aI (F := RdL EPlace (γ1 n1).2.1 (gt l1 n1).v.known) [am NMail γ1 l1] Sm (fun M w h => (allF1 h) n1 Zc _ (.tail _ (.head _))) ?_
   refine aI (F := RdL EPlace (γ1 n1).2.2.1 (gt l1 n1).v.way) [am NMail γ1 l1] Sm (fun M w h => (allF1 h) n1 Zc _ (.tail _ (.tail _ (.head _)))) ?_
   refine aI (F := RdL EInt (γ1 n1).2.2.2.1 (gt l1 n1).d.gone) [am NMail γ1 l1] Sm (fun M w h => (allF1 h) n1 Zc _ (.tail _ (.tail _ (.tail _ (.head _))))) ?_
   refine aI (F := RdL EPlace (γ1 n1).2.2.2.2.1 (gt l1 n1).d.here) [am NMail γ1 l1] Sm (fun M w h => (allF1 h) n1 Zc _ (.tail _ (.tail _ (.tail _ (.tail _ (.head _)))))) ?_
   refine aI (F := RdL EInt (γ1 n1).2.2.2.2.2.1 (gt l1 n1).d.wayGone) [am NMail γ1 l1] Sm (fun M w h => (allF1 h) n1 Zc _ (.tail _ (.tail _ (.tail _ (.tail _ (.tail _ (.head _))))))) ?_
   refine aI (F := RdL EPlace (γ1 n1).2.2.2.2.2.2 (gt l1 n1).d.wayHere) [am NMail γ1 l1] Sm (fun M w h => (allF1 h) n1 Zc _ (.tail _ (.tail _ (.tail _ (.tail _ (.tail _ (.tail _ (.head _)))))))) ?_
   refine Al fun g1 => ?_
   refine Tx ?_
   refine Cl (oA (γ1 n1).1 (γ1 n1).2.1 (γ1 n1).2.2.1 (γ1 n1).2.2.2.1 (γ1 n1).2.2.2.2.1 (γ1 n1).2.2.2.2.2.1 (γ1 n1).2.2.2.2.2.2 (gt l1 n1)) fun _ => ?_
   refine Tx ?_
   refine Cd (b := ((bJ (gt l1 n1)) != 0)) (fun hc3 => ?_) fun hc3 => ?_
   ·have hc3p := bne_iff_ne.1 hc3
    refine Tx ?_
    refine ai ?_; rw [show (bO l1) = (bJ (gt l1 n1)) by rw [← hf1, aE hlt0]; simp only [d9, hc3, Cf]]; exact Re () (Vt Vn)
   ·have hc3p := ae hc3
    refine Tx ?_
    refine rw_q rfl rfl rfl (q_add rfl rfl Zf rfl Zf Zo) ?_
    refine Tx ?_
    refine ⟨(n1 + 1), ⟨hlt0, (by rw [← hf1, aE hlt0]; simp only [d9, hc3, Cf] : (bO l1) = (d9 (l1.drop (n1 + 1)))).symm⟩, (by simp only []; omega), Le4⟩
  ·have hge0 : l1.length ≤ n1 := by have := of_decide_eq_false hc2; omega
   refine Tx ?_
   refine ai ?_; rw [show (bO l1) = 0 by rw [← hf1, List.drop_of_length_le hge0]; simp only [d9, Cf]]; exact Re () (Vt Vn)
theorem jO (x : SlV) (l : List (NMail.G × Mail)) : DoesG Tryz.prog 85 [x.val l.length] [RdL NMail.E x l] ⟨[], []⟩ (fun (X : SlV × Option Nat) => X.1.val l.length) (fun _ => []) (fun X => ⟨[], [ownL NMail.E 132 X.1 X.2 l]⟩) := by
 refine co aZ Tryz.func85 rfl Tryz.ntmps85 Tryz.results85 rfl inferInstance (fun _ => inferInstance) fun C => ?_
 refine dP (φ := l.length * NMail.E.by_ ≤ 140737488355328) [RdL NMail.E x l] Sm (fun M w h => (allF1 h).len) fun hlen => ?_
 refine Tx ?_
 refine rw_q rfl rfl rfl (jR rfl rfl Zf rfl) ?_
 refine dY ?_
 (repeat refine ao ?_); refine jh rfl rfl (fun hc0 => ?_) (fun hc0 => ?_)
 ·refine dP [RdL NMail.E x l] Sm (fun M w h => (allF1 h).nil_of hc0) fun hnil => ?_
  subst hnil
  refine cw_le (eO NMail.E 132) ?_
  refine Tx ?_
  (repeat refine ao ?_); refine ai ?_
  exact ⟨(⟨none, 0⟩, none), _, (.cons (.tmp rfl) .nil), rfl, .nil _, .nil _, Sp⟩
 ·refine Tx ?_
  refine bB NMail.E [] .sq (ac rfl) rfl rfl rfl rfl rfl rfl rfl rfl rfl rfl rfl rfl rfl rfl rfl fun x1 x1b => ?_
  refine Rp rfl rfl rfl rfl ?_
  refine b5 NMail.E [] l (b := x1b) .sq (fun _ _ => .inl ⟨_, rfl⟩) (ac rfl) rfl rfl rfl rfl rfl rfl rfl (fun _ _ => Uo) rfl rfl rfl rfl rfl rfl rfl (fr Mm) (by simpa using hlen) fun x2 x2b => ?_
  refine Tx ?_
  (repeat refine ao ?_); refine ai ?_
  exact ⟨(x2, x2b), _, (.cons (.tmp rfl) .nil), rfl, .nil _, .nil _, Sp⟩
theorem kw (x : SlV) (γ : Nat → NMail.G) (l : List Mail) : DoesG Tryz.prog 85 [x.val l.length] [RdG NMail x γ l] ⟨[], []⟩ (fun (X : SlV × Option Nat) => X.1.val l.length) (fun _ => []) (fun X => ⟨[], [ownL NMail.E 132 X.1 X.2 (zipG γ 0 l)]⟩) := by
 have := jO x (zipG γ 0 l)
 rw [dh] at this
 exact this
def dM  : List Mail → Nat → (List Mail) → (List Mail)
 | [], n1, l2 => l2
 | pn1 :: rn1, n1, l2 => (dM rn1 (n1 + 1) (l2.set n1 (gt l2 n1)))
def eC (l1 : List Mail) : List Mail :=
 (dM l1 0 l1)
theorem pc (y1 : SlV) (l1 : List Mail) : DoesG Tryz.prog 61 [y1.val l1.length] [RdN NMail y1 l1] ⟨[], []⟩ (fun (X : SlV × Option Nat × (Nat → SlV × SlV × SlV × SlV × SlV × SlV × SlV)) => X.1.val (eC l1).length) (fun X => [am NMail X.2.2 (eC l1)]) (fun X => ⟨[], [ownL NMail.E 132 X.1 X.2.1 (zipG X.2.2 0 (eC l1))]⟩) := by
 refine co aZ Tryz.func61 rfl Tryz.ntmps61 Tryz.results61 rfl inferInstance (fun _ => inferInstance) fun C => ?_
 refine Pn NMail y1 l1 280 fun hlen1 => ?_
 refine Tx ?_
 refine fj NMail (X := y1) (l := l1) Mm fun (γ1 : Nat → SlV × SlV × SlV × SlV × SlV × SlV × SlV) => ?_
 refine Cg (kw y1 γ1 l1) fun x1 => ?_
 refine Tx ?_
 (repeat refine ao ?_); refine Lp [2,8] [] (fun (i_ : List Mail × (Nat → SlV × SlV × SlV × SlV × SlV × SlV × SlV) × Nat) => match i_ with | ⟨l2, γ2, n1⟩ => (⟨[(0, .v (x1.1.val l2.length)), (7, .v (x1.1.val l2.length)), (9, .v (.int .i64 (n1 : Int)))], [], [ownL NMail.E 132 x1.1 x1.2 (zipG γ2 0 l2)], [am NMail γ2 l2], (n1 ≤ l1.length) ∧ (l2.length = l1.length) ∧ (dM (l1.drop n1) n1 l2) = (eC l1), l1.length - n1⟩ : Ls)) ⟨l1, γ1, 0⟩ (Sc (Sc Sn)) (.nil) ⟨Nat.zero_le _, rfl, (by simp only [eC, Cf] : (eC l1) = (dM l1 0 l1)).symm⟩ Le4 ?_
 rintro ⟨l2, γ2, n1⟩ ⟨hkn1, hll, hf1⟩
 simp only [List.cons_append, List.nil_append]
 refine Tx ?_
 refine Cd (b := decide ((n1 : Int) < (l1.length : Int))) (fun hc1 => ?_) fun hc1 => ?_
 ·have hlt0 : n1 < l1.length := Int.ofNat_lt.1 (of_decide_eq_true hc1)
  refine Tx ?_
  refine rw_qO NMail.E (e := 132) (X := x1.1) (b := x1.2) (l := zipG γ2 0 l2) Mm .sq rfl rfl rfl (dw NMail γ2 n1 rfl rfl Zf rfl Zf rfl rfl rfl (.head _) rfl Zf Za) ?_
  refine rw_qO NMail.E (e := 132) (X := x1.1) (b := x1.2) (l := zipG γ2 0 l2) Mm .sq rfl rfl rfl (q_is (v' := .agg ⟨[.int .i64 (gt l2 n1).kind, .int .i64 (gt l2 n1).who, .int .i64 (gt l2 n1).life, .int .i64 (gt l2 n1).seq, .int .i64 (gt l2 n1).time, .int .i64 (gt l2 n1).version, .int .i64 (gt l2 n1).frm, .int .i64 (gt l2 n1).o.time, .int .i64 (gt l2 n1).o.who, .int .i64 (gt l2 n1).o.node, .int .i64 (gt l2 n1).o.parent, .int .i64 (gt l2 n1).o.name, .int .i64 (gt l2 n1).o.life, .int .i64 (gt l2 n1).o.seq, (γ2 n1).1.val (gt l2 n1).v.roots.length, (γ2 n1).2.1.val (gt l2 n1).v.known.length, (γ2 n1).2.2.1.val (gt l2 n1).v.way.length, (γ2 n1).2.2.2.1.val (gt l2 n1).d.gone.length, (γ2 n1).2.2.2.2.1.val (gt l2 n1).d.here.length, (γ2 n1).2.2.2.2.2.1.val (gt l2 n1).d.wayGone.length, (γ2 n1).2.2.2.2.2.2.val (gt l2 n1).d.wayHere.length]⟩) (fP NMail γ2 rfl rfl Zf rfl rfl (.head _) Za) rfl) ?_
  refine aI (F := RdL EInt (γ2 n1).1 (gt l2 n1).v.roots) [am NMail γ2 l2] Sm (fun M w h => (allF1 h) n1 Zc _ (.head _)) ?_
  refine aI (F := RdL EPlace (γ2 n1).2.1 (gt l2 n1).v.known) [am NMail γ2 l2] Sm (fun M w h => (allF1 h) n1 Zc _ (.tail _ (.head _))) ?_
  refine aI (F := RdL EPlace (γ2 n1).2.2.1 (gt l2 n1).v.way) [am NMail γ2 l2] Sm (fun M w h => (allF1 h) n1 Zc _ (.tail _ (.tail _ (.head _)))) ?_
  refine aI (F := RdL EInt (γ2 n1).2.2.2.1 (gt l2 n1).d.gone) [am NMail γ2 l2] Sm (fun M w h => (allF1 h) n1 Zc _ (.tail _ (.tail _ (.tail _ (.head _))))) ?_
  refine aI (F := RdL EPlace (γ2 n1).2.2.2.2.1 (gt l2 n1).d.here) [am NMail γ2 l2] Sm (fun M w h => (allF1 h) n1 Zc _ (.tail _ (.tail _ (.tail _ (.tail _ (.head _)))))) ?_
  refine aI (F := RdL EInt (γ2 n1).2.2.2.2.2.1 (gt l2 n1).d.wayGone) [am NMail γ2 l2] Sm (fun M w h => (allF1 h) n1 Zc _ (.tail _ (.tail _ (.tail _ (.tail _ (.tail _ (.head _))))))) ?_
  refine aI (F := RdL EPlace (γ2 n1).2.2.2.2.2.2 (gt l2 n1).d.wayHere) [am NMail γ2 l2] Sm (fun M w h => (allF1 h) n1 Zc _ (.tail _ (.tail _ (.tail _ (.tail _ (.tail _ (.tail _ (.head _)))))))) ?_
  refine Al fun g1 => ?_
  refine Tx ?_
  (repeat refine ao ?_); refine au (fun j => match j with | 12 => some x1.2.toList | 15 => some x1.2.toList | _ => some []) ?_
  refine Ra 0 rfl Qp ?_
  refine Ra 1 rfl Qp ?_
  refine ra_q (.an (i := 2) (js := [3, 4, 5, 6, 7, 8, 9, 10, 11, 12]) rfl Kr Kr Kr Kr) (bK.all _) (by intro g hg; simp only [List.mem_append, List.mem_singleton, List.not_mem_nil, or_false, false_or, Option.mem_toList, Option.mem_def, List.append_nil] at hg; first | exact .inr ⟨ownL NMail.E 132 x1.1 x1.2 (zipG γ2 0 l2), Mm, hg⟩) rfl rfl rfl (q_pev rfl Zf) ?_
  refine ra_q (.an (i := 3) (js := [4, 5, 6, 7, 8, 9, 10, 11, 12]) rfl Kr Kr Kr Kr) (bK.all _) (by intro g hg; simp only [List.mem_append, List.mem_singleton, List.not_mem_nil, or_false, false_or, Option.mem_toList, Option.mem_def, List.append_nil] at hg; first | exact .inr ⟨ownL NMail.E 132 x1.1 x1.2 (zipG γ2 0 l2), Mm, hg⟩) rfl rfl rfl (q_pev rfl Zf) ?_
  refine Rb 4 rfl Qp ?_
  refine Rb 5 rfl (q_ldP rfl rfl Zf rfl Mm rfl) ?_
  refine Rb 7 rfl Qp ?_
  refine Rb 8 rfl (q_ldP rfl rfl Zf rfl Mm rfl) ?_
  refine ap 6 Kr ?_
  refine aV (fJ (γ2 n1).1 (γ2 n1).2.1 (γ2 n1).2.2.1 (gt l2 n1).v) (.an rfl rfl) (.inr (by simp [Lent.ids])) (ac rfl) rfl rfl rfl Kr rfl rfl Sm (.nil _) (.nil _) ?_
  intro x4
  refine ap 9 Kr ?_
  refine aV (kM (γ2 n1).2.2.2.1 (γ2 n1).2.2.2.2.1 (γ2 n1).2.2.2.2.2.1 (γ2 n1).2.2.2.2.2.2 (gt l2 n1).d) (.an rfl rfl) (.inr (by simp [Lent.ids])) (ac rfl) rfl rfl rfl Kr rfl rfl Sm (.nil _) (.nil _) ?_
  intro x5
  refine rw_qO NMail.E (e := 132) (X := x1.1) (b := x1.2) (l := zipG γ2 0 l2) Mm (.ab (i := 10) (js := []) [11, 12, 13, 14, 15] rfl Kr Kr Kr Kr Kr) rfl rfl rfl (dw NMail γ2 n1 rfl rfl Zf rfl Zf rfl rfl rfl (.head _) rfl Zf Za) ?_
  refine Ra 11 rfl (q_fae rfl rfl Zf rfl rfl) ?_
  refine ap 12 Kr ?_
  refine rw_le (ay EInt 3 x4.1 x4.2.1 (gt l2 n1).v.roots Uo) ?_
  refine rw_le (ay EPlace 83 x4.2.2.1 x4.2.2.2.1 (gt l2 n1).v.known Uo) ?_
  refine rw_le (ay EPlace 83 x4.2.2.2.2.1 x4.2.2.2.2.2 (gt l2 n1).v.way Uo) ?_
  refine gf NMail γ2 l2 n1 14 (x4.1, x4.2.2.1, x4.2.2.2.2.1, (γ2 n1).2.2.2.1, (γ2 n1).2.2.2.2.1, (γ2 n1).2.2.2.2.2.1, (γ2 n1).2.2.2.2.2.2) (gt l2 n1) (e := 132) (X := x1.1) (b := x1.2) (.an rfl rfl) (.inr (fun g h => by simp [h])) (ac rfl) rfl rfl rfl rfl rfl rfl rfl rfl rfl rfl rfl Zb rfl Uo ?_
  refine aI (F := RdL EInt (γ2 n1).2.2.2.1 (gt l2 n1).d.gone) [am NMail γ2 l2] Sm (fun M w h => (allF1 h) n1 Zc _ (.tail _ (.tail _ (.tail _ (.head _))))) ?_
  refine aI (F := RdL EPlace (γ2 n1).2.2.2.2.1 (gt l2 n1).d.here) [am NMail γ2 l2] Sm (fun M w h => (allF1 h) n1 Zc _ (.tail _ (.tail _ (.tail _ (.tail _ (.head _)))))) ?_
  refine aI (F := RdL EInt (γ2 n1).2.2.2.2.2.1 (gt l2 n1).d.wayGone) [am NMail γ2 l2] Sm (fun M w h => (allF1 h) n1 Zc _ (.tail _ (.tail _ (.tail _ (.tail _ (.tail _ (.head _))))))) ?_
  refine aI (F := RdL EPlace (γ2 n1).2.2.2.2.2.2 (gt l2 n1).d.wayHere) [am NMail γ2 l2] Sm (fun M w h => (allF1 h) n1 Zc _ (.tail _ (.tail _ (.tail _ (.tail _ (.tail _ (.tail _ (.head _)))))))) ?_
  refine aI (F := am NMail (updG γ2 n1 (x4.1, x4.2.2.1, x4.2.2.2.2.1, (γ2 n1).2.2.2.1, (γ2 n1).2.2.2.2.1, (γ2 n1).2.2.2.2.2.1, (γ2 n1).2.2.2.2.2.2)) (l2.set n1 (gt l2 n1))) [am NMail γ2 l2, RdL EInt x4.1 (gt l2 n1).v.roots, RdL EPlace x4.2.2.1 (gt l2 n1).v.known, RdL EPlace x4.2.2.2.2.1 (gt l2 n1).v.way, RdL EInt (γ2 n1).2.2.2.1 (gt l2 n1).d.gone, RdL EPlace (γ2 n1).2.2.2.2.1 (gt l2 n1).d.here, RdL EInt (γ2 n1).2.2.2.2.2.1 (gt l2 n1).d.wayGone, RdL EPlace (γ2 n1).2.2.2.2.2.2 (gt l2 n1).d.wayHere] Sm (fun M w h => am.upd NMail (h _ (.head _)) (da Sm h)) ?_
  have hv1 : x1.1.val l2.length = x1.1.val (l2.set n1 (gt l2 n1)).length := congrArg (SlV.val x1.1) List.length_set.symm
  try rw [hv1]
  refine rw_qO NMail.E (e := 132) (X := x1.1) (b := x1.2) (l := zipG (updG γ2 n1 (x4.1, x4.2.2.1, x4.2.2.2.2.1, (γ2 n1).2.2.2.1, (γ2 n1).2.2.2.2.1, (γ2 n1).2.2.2.2.2.1, (γ2 n1).2.2.2.2.2.2)) 0 (l2.set n1 (gt l2 n1))) Mm (.ab (i := 13) (js := []) [14, 15] rfl Kr Kr Kr Kr Kr) rfl rfl rfl (dw NMail (updG γ2 n1 (x4.1, x4.2.2.1, x4.2.2.2.2.1, (γ2 n1).2.2.2.1, (γ2 n1).2.2.2.2.1, (γ2 n1).2.2.2.2.2.1, (γ2 n1).2.2.2.2.2.2)) n1 rfl rfl Zf rfl Zf rfl rfl rfl (.head _) rfl Zf Za) ?_
  refine Ra 14 rfl (q_fae rfl rfl Zf rfl rfl) ?_
  refine ap 15 Kr ?_
  refine rw_le (ay EInt 3 x5.1 x5.2.1 (gt l2 n1).d.gone Uo) ?_
  refine rw_le (ay EPlace 83 x5.2.2.1 x5.2.2.2.1 (gt l2 n1).d.here Uo) ?_
  refine rw_le (ay EInt 3 x5.2.2.2.2.1 x5.2.2.2.2.2.1 (gt l2 n1).d.wayGone Uo) ?_
  refine rw_le (ay EPlace 83 x5.2.2.2.2.2.2.1 x5.2.2.2.2.2.2.2 (gt l2 n1).d.wayHere Uo) ?_
  refine ry NMail γ2 l2 n1 17 (x4.1, x4.2.2.1, x4.2.2.2.2.1, (γ2 n1).2.2.2.1, (γ2 n1).2.2.2.2.1, (γ2 n1).2.2.2.2.2.1, (γ2 n1).2.2.2.2.2.2) (gt l2 n1) (x4.1, x4.2.2.1, x4.2.2.2.2.1, x5.1, x5.2.2.1, x5.2.2.2.2.1, x5.2.2.2.2.2.2.1) (gt l2 n1) (e := 132) (X := x1.1) (b := x1.2) (.an rfl rfl) (.inr (fun g h => by simp [h])) (ac rfl) rfl rfl rfl rfl rfl rfl rfl rfl rfl rfl rfl Zb rfl Uo ?_
  refine aI (F := am NMail (updG γ2 n1 (x4.1, x4.2.2.1, x4.2.2.2.2.1, x5.1, x5.2.2.1, x5.2.2.2.2.1, x5.2.2.2.2.2.2.1)) (l2.set n1 (gt l2 n1))) [am NMail γ2 l2, RdL EInt x4.1 (gt l2 n1).v.roots, RdL EPlace x4.2.2.1 (gt l2 n1).v.known, RdL EPlace x4.2.2.2.2.1 (gt l2 n1).v.way, RdL EInt x5.1 (gt l2 n1).d.gone, RdL EPlace x5.2.2.1 (gt l2 n1).d.here, RdL EInt x5.2.2.2.2.1 (gt l2 n1).d.wayGone, RdL EPlace x5.2.2.2.2.2.2.1 (gt l2 n1).d.wayHere] Sm (fun M w h => am.upd NMail (h _ (.head _)) (da Sm h)) ?_
  refine bn Kr ?_
  refine Tx ?_
  refine rw_q rfl rfl rfl (q_add rfl rfl Zf rfl Zf Zo) ?_
  refine Tx ?_
  refine ⟨⟨(l2.set n1 (gt l2 n1)), (updG γ2 n1 (x4.1, x4.2.2.1, x4.2.2.2.2.1, x5.1, x5.2.2.1, x5.2.2.2.2.1, x5.2.2.2.2.2.2.1)), (n1 + 1)⟩, ⟨hlt0, (by (try simp only [List.length_set]); omega), (by rw [← hf1, aE hlt0]; simp only [dM, Cf] : (eC l1) = (dM (l1.drop (n1 + 1)) (n1 + 1) (l2.set n1 (gt l2 n1)))).symm⟩, (by simp only []; omega), Le4⟩
 ·have hge0 : l1.length ≤ n1 := by have := of_decide_eq_false hc1; omega
  refine Tx ?_
  refine ai ?_; rw [show (eC l1) = l2 by rw [← hf1, List.drop_of_length_le hge0]; simp only [dM, Cf]]; exact Re ⟨x1.1, x1.2, γ2⟩ (Vt Vn)
theorem lm : ∀ (r : List Mail) (n : Nat) (l : List Mail), dM r n l = l
 | [], _, _ => rfl
 | _ :: r, n, l => by
  have : l.set n (gt l n) = l := by
   by_cases h : n < l.length
   ·rw [gt_eq h]; exact List.set_getElem_self h
   ·exact List.set_eq_of_length_le (Nat.le_of_not_lt h)
  rw [dM, this]; exact lm r (n + 1) l
theorem nu (l : List Mail) : eC l = l := lm l 0 l
theorem gw (y1 : SlV) (l1 : List Mail) : DoesG Tryz.prog 61 [y1.val l1.length] [RdN NMail y1 l1] ⟨[], []⟩ (fun (X : SlV × Option Nat × (Nat → SlV × SlV × SlV × SlV × SlV × SlV × SlV)) => X.1.val l1.length) (fun X => [am NMail X.2.2 l1]) (fun X => ⟨[], [ownL NMail.E 132 X.1 X.2.1 (zipG X.2.2 0 l1)]⟩) := by
 have := pc y1 l1
 rw [nu] at this
 exact this
def eU (l1 : List Mail) (m1 : Mail) : (List Mail) × Int :=
 (bif decide ((l1.length : Int) < 30) then ((l1 ++ [m1]), 0) else (l1, 0))
def eW (l1 : List Mail) (m1 : Mail) : (List Mail) × Int :=
 (bif ((bO [m1]) != 0) then (([] : List Mail), (bO [m1])) else (eU l1 m1))
def eX (l1 : List Mail) (m1 : Mail) : (List Mail) × Int :=
 (bif ((bO l1) != 0) then (([] : List Mail), (bO l1)) else (eW l1 m1))
def dZ (l1 : List Mail) (m1 : Mail) : (List Mail) × Int :=
 (eX l1 m1)
theorem pb (y1 : SlV) (l1 : List Mail) (y2 : SlV) (y3 : SlV) (y4 : SlV) (y5 : SlV) (y6 : SlV) (y7 : SlV) (y8 : SlV) (m1 : Mail) : Does Tryz.prog 112 [y1.val l1.length, .agg ⟨[.int .i64 m1.kind, .int .i64 m1.who, .int .i64 m1.life, .int .i64 m1.seq, .int .i64 m1.time, .int .i64 m1.version, .int .i64 m1.frm, .int .i64 m1.o.time, .int .i64 m1.o.who, .int .i64 m1.o.node, .int .i64 m1.o.parent, .int .i64 m1.o.name, .int .i64 m1.o.life, .int .i64 m1.o.seq, y2.val m1.v.roots.length, y3.val m1.v.known.length, y4.val m1.v.way.length, y5.val m1.d.gone.length, y6.val m1.d.here.length, y7.val m1.d.wayGone.length, y8.val m1.d.wayHere.length]⟩] [RdN NMail y1 l1, RdL EInt y2 m1.v.roots, RdL EPlace y3 m1.v.known, RdL EPlace y4 m1.v.way, RdL EInt y5 m1.d.gone, RdL EPlace y6 m1.d.here, RdL EInt y7 m1.d.wayGone, RdL EPlace y8 m1.d.wayHere] (fun (X : SlV) => .tuple #[X.val (dZ l1 m1).1.length, .int .i64 (dZ l1 m1).2]) (fun X => [RdN NMail X (dZ l1 m1).1]) := by
 refine bj aZ Tryz.func112 rfl Tryz.ntmps112 Tryz.results112 rfl inferInstance (fun _ => inferInstance) fun C => ?_
 refine Pn NMail y1 l1 280 fun hlen1 => ?_
 refine Pc EInt y2 m1.v.roots 8 fun hlen2 => ?_
 refine Pc EPlace y3 m1.v.known 24 fun hlen3 => ?_
 refine Pc EPlace y4 m1.v.way 24 fun hlen4 => ?_
 refine Pc EInt y5 m1.d.gone 8 fun hlen5 => ?_
 refine Pc EPlace y6 m1.d.here 24 fun hlen6 => ?_
 refine Pc EInt y7 m1.d.wayGone 8 fun hlen7 => ?_
 refine Pc EPlace y8 m1.d.wayHere 24 fun hlen8 => ?_
 refine Tx ?_
 refine Bx fun g1 => ?_
 refine Tx ?_
 refine bB NMail.E [((y2, y3, y4, y5, y6, y7, y8), m1)] .sq (ac rfl) rfl rfl rfl rfl rfl rfl rfl rfl rfl rfl rfl rfl rfl (ma rfl rfl) rfl fun x1 x1b => ?_
 refine rw_q rfl rfl rfl (kZ rfl rfl Zf rfl rfl rfl rfl) ?_
 refine Tx ?_
 refine cw_le (ay NMail.E 132 x1 x1b [((y2, y3, y4, y5, y6, y7, y8), m1)] Uo) ?_
 refine cS (F := RdN NMail x1 [m1]) [RdL NMail.E x1 [((y2, y3, y4, y5, y6, y7, y8), m1)], RdL EInt y2 m1.v.roots, RdL EPlace y3 m1.v.known, RdL EPlace y4 m1.v.way, RdL EInt y5 m1.d.gone, RdL EPlace y6 m1.d.here, RdL EInt y7 m1.d.wayGone, RdL EPlace y8 m1.d.wayHere] Sm (fun M w h => RdN.of NMail (hs := [((y2, y3, y4, y5, y6, y7, y8), m1)]) rfl (h _ (.head _)) (aY (da Sm h) (fun p hp => by cases hp))) ?_
 (repeat refine ao ?_); refine Lp [0,3,4,5,12] [true] (fun (n1 : Nat) => (⟨[(13, .v (.int .i64 (n1 : Int)))], [], [], [], (n1 ≤ 2) ∧ (match n1 with | 0 => (eX l1 m1) | 1 => (eW l1 m1) | _ => (eU l1 m1)) = (dZ l1 m1), 2 - n1⟩ : Ls)) 0 (Sc (Sc (Sc (Sc (Sc Sn))))) (.keep (.nil)) ⟨Nat.zero_le _, (by simp only [dZ, Cf] : (dZ l1 m1) = (eX l1 m1)).symm⟩ Le4 ?_
 rintro n1 ⟨hkn1, hf1⟩
 simp only [List.cons_append, List.nil_append]
 have hkn13 : n1 = 0 ∨ n1 = 1 ∨ n1 = 2 := by omega
 rcases hkn13 with rfl | rfl | rfl
 ·have hf1 : (eX l1 m1) = (dZ l1 m1) := hf1
  refine Tx ?_
  refine Cd (b := decide ((0 : Int) < 2)) (fun hc1 => ?_) fun hc1 => ?_
  ·refine Tx ?_
   refine rw_q rfl rfl rfl (q_ixL 0 rfl rfl Zf rfl Zf rfl rfl rfl rfl rfl) ?_
   refine Tx ?_
   refine Cl (fI y1 l1) fun _ => ?_
   refine Tx ?_
   refine Cd (b := ((bO l1) != 0)) (fun hc2 => ?_) fun hc2 => ?_
   ·have hc2p := bne_iff_ne.1 hc2
    refine Tx ?_
    refine cS (F := RdN NMail ⟨none, 0⟩ ([] : List Mail)) [] (.nil _) (fun M w _ => RdN.nil _ M w) ?_
    refine ai ?_; rw [show (dZ l1 m1) = (([] : List Mail), (bO l1)) by rw [← hf1]; simp only [eX, hc2, Cf]]; exact Re (⟨none, 0⟩ : SlV) (Vt (Vt Vn))
   ·have hc2p := ae hc2
    refine Tx ?_
    refine rw_q rfl rfl rfl (q_add rfl rfl Zf rfl Zf (fun _ => by decide)) ?_
    refine Tx ?_
    refine ⟨1, ⟨by omega, (by rw [← hf1]; simp only [eX, hc2, Cf] : (dZ l1 m1) = (eW l1 m1)).symm⟩, (show 2 - 1 < 2 - 0 by decide), Le4⟩
  ·exact Bool.noConfusion (hc1.symm.trans (decide_eq_true (by decide)))
 ·have hf1 : (eW l1 m1) = (dZ l1 m1) := hf1
  refine Tx ?_
  refine Cd (b := decide ((1 : Int) < 2)) (fun hc3 => ?_) fun hc3 => ?_
  ·refine Tx ?_
   refine rw_q rfl rfl rfl (q_ixL 1 rfl rfl Zf rfl Zf rfl rfl rfl rfl rfl) ?_
   refine Tx ?_
   refine Cl (fI x1 [m1]) fun _ => ?_
   refine Tx ?_
   refine Cd (b := ((bO [m1]) != 0)) (fun hc4 => ?_) fun hc4 => ?_
   ·have hc4p := bne_iff_ne.1 hc4
    refine Tx ?_
    refine cS (F := RdN NMail ⟨none, 0⟩ ([] : List Mail)) [] (.nil _) (fun M w _ => RdN.nil _ M w) ?_
    refine ai ?_; rw [show (dZ l1 m1) = (([] : List Mail), (bO [m1])) by rw [← hf1]; simp only [eW, hc4, Cf]]; exact Re (⟨none, 0⟩ : SlV) (Vt (Vt Vn))
   ·have hc4p := ae hc4
    refine Tx ?_
    refine rw_q rfl rfl rfl (q_add rfl rfl Zf rfl Zf (fun _ => by decide)) ?_
    refine Tx ?_
    refine ⟨2, ⟨by omega, (by rw [← hf1]; simp only [eW, hc4, Cf] : (dZ l1 m1) = (eU l1 m1)).symm⟩, (show 2 - 2 < 2 - 1 by decide), Le4⟩
  ·exact Bool.noConfusion (hc3.symm.trans (decide_eq_true (by decide)))
 ·have hf1 : (eU l1 m1) = (dZ l1 m1) := hf1
  refine Tx ?_
  refine Cd (b := decide ((2 : Int) < 2)) (fun hc5 => ?_) fun hc5 => ?_
  ·exact Bool.noConfusion (hc5.symm.trans (decide_eq_false (by decide)))
  ·refine Tx ?_
   refine Cg (gw y1 l1) fun x2 => ?_
   refine Tx ?_
   refine Cd (b := decide ((l1.length : Int) < 30)) (fun hc6 => ?_) fun hc6 => ?_
   ·have hc6p := of_decide_eq_true hc6
    refine Tx ?_
    refine bB NMail.E [((y2, y3, y4, y5, y6, y7, y8), m1)] .sq (ac rfl) rfl rfl rfl rfl rfl rfl rfl rfl rfl rfl rfl rfl rfl (ma rfl rfl) rfl fun x3 x3b => ?_
    refine rw_le (ay NMail.E 132 x3 x3b [((y2, y3, y4, y5, y6, y7, y8), m1)] Uo) ?_
    refine aI (F := RdN NMail x3 [m1]) [RdL NMail.E x3 [((y2, y3, y4, y5, y6, y7, y8), m1)], RdL EInt y2 m1.v.roots, RdL EPlace y3 m1.v.known, RdL EPlace y4 m1.v.way, RdL EInt y5 m1.d.gone, RdL EPlace y6 m1.d.here, RdL EInt y7 m1.d.wayGone, RdL EPlace y8 m1.d.wayHere] Sm (fun M w h => RdN.of NMail (hs := [((y2, y3, y4, y5, y6, y7, y8), m1)]) rfl (h _ (.head _)) (aY (da Sm h) (fun p hp => by cases hp))) ?_
    refine Cg (gw x3 [m1]) fun x4 => ?_
    refine mo NMail x2.2.2 x4.2.2 l1 [m1] (b := x2.2.1) .sq (fun _ _ => .inl ⟨_, rfl⟩) (ac rfl) rfl rfl rfl rfl rfl rfl rfl (fun _ _ => Uo) rfl rfl rfl rfl rfl rfl rfl (oP (e := 132) (b := x4.2.1) Mm) (by have h30 : l1.length < 30 := (by omega); exact Nat.le_trans (Nat.mul_le_mul_right 280 (Nat.succ_le_succ (Nat.le_of_lt h30))) (by decide)) fun x5 x5b => ?_
    refine aI (F := am NMail (appG x2.2.2 l1.length x4.2.2) (l1 ++ [m1])) [am NMail x2.2.2 l1, am NMail x4.2.2 [m1]] Sm (fun M w h => am.app NMail (h _ (.head _)) (h _ (.tail _ (.head _)))) ?_
    refine Tx ?_
    refine cw_le (ay NMail.E 132 x5 x5b (zipG (appG x2.2.2 l1.length x4.2.2) 0 (l1 ++ [m1])) Uo) ?_
    refine cS (F := RdN NMail x5 (l1 ++ [m1])) [RdG NMail x5 (appG x2.2.2 l1.length x4.2.2) (l1 ++ [m1]), am NMail (appG x2.2.2 l1.length x4.2.2) (l1 ++ [m1])] Sm (fun M w h => RdN.ofG NMail (h _ (.head _)) (h _ (.tail _ (.head _)))) ?_
    refine ai ?_; rw [show (dZ l1 m1) = ((l1 ++ [m1]), 0) by rw [← hf1]; simp only [eU, hc6, Cf]]; exact Re x5 (Vt (Vt Vn))
   ·have hc6p := of_decide_eq_false hc6
    refine Tx ?_
    refine cw_le (ay NMail.E 132 x2.1 x2.2.1 (zipG x2.2.2 0 l1) Uo) ?_
    refine cS (F := RdN NMail x2.1 l1) [RdG NMail x2.1 x2.2.2 l1, am NMail x2.2.2 l1] Sm (fun M w h => RdN.ofG NMail (h _ (.head _)) (h _ (.tail _ (.head _)))) ?_
    refine ai ?_; rw [show (dZ l1 m1) = (l1, 0) by rw [← hf1]; simp only [eU, hc6, Cf]]; exact Re x2.1 (Vt (Vt Vn))
theorem jn (X : SlV) (b : Option Nat) (l : List (NMail.G × Mail)) (i j : Nat) (hij : i ≤ j) (hj : j ≤ l.length) : DoesG Tryz.prog 90 [X.val l.length, .int .i64 (i : Int), .int .i64 (j : Int)] [] ⟨[], [ownL NMail.E 132 X b l]⟩ (fun (_ : Unit) => X.val (l.take i ++ l.drop j).length) (fun _ => []) (fun _ => ⟨[], [ownL NMail.E 132 X b (l.take i ++ l.drop j)]⟩) := by
 refine co aZ Tryz.func90 rfl Tryz.ntmps90 Tryz.results90 rfl inferInstance (fun _ => inferInstance) fun C => ?_
 refine v7 NMail.E (e := 132) (X := X) (b := b) (l := l) Mm fun hcap => ?_
 refine iL NMail.E (e := 132) (X := X) (b := b) (l := l) Mm fun hl63 hlby => ?_
 have hlen : (l.take i ++ l.drop j).length = i + (l.length - j) := by simp; omega
 refine Tx ?_
 refine rw_q rfl rfl rfl (q_sl3 (k0 := i) (h := j) (m := l.length) rfl rfl Zf rfl Zf rfl Zf rfl Zf rfl rfl Zf Zf Zf (fun _ => hij) (fun _ => hj) (fun _ => hcap.1)) ?_
 refine Tx ?_
 refine Cd (b := ((i : Int) == (j : Int))) (fun hc1 => ?_) fun hc1 => ?_
 ·have hc1p := eq_of_beq hc1
  have hl1 : l.take i ++ l.drop j = l := by rw [show j = i by omega]; exact List.take_append_drop i l
  refine Tx ?_
  refine ai ?_
  rw [hl1]
  exact ⟨(), _, (.cons (.tmp rfl) .nil), rfl, .nil _, .nil _, Sp⟩
 ·refine Tx ?_
  (repeat refine ao ?_); refine au (fun k => match k with | 6 => some b.toList | _ => some []) ?_
  refine Rb 0 rfl Qp ?_
  refine Rb 1 rfl Qp ?_
  refine rw_qO NMail.E (e := 132) (X := X) (b := b) (l := l) Mm (.ab (i := 2) (js := [3, 4, 5]) [6, 7] rfl Kr Kr Kr Kr Kr) rfl rfl rfl (th NMail.E (l := l) i rfl rfl Zf rfl Zf rfl rfl (.head _) Zf Zo) ?_
  refine Rb 3 rfl Qp ?_
  refine Rb 4 rfl Qp ?_
  refine Rb 5 rfl (p4 NMail.E (l := l) (X := X) j rfl rfl Zf rfl Zf rfl rfl Zf (fun _ => hj)) ?_
  refine ap 6 Kr ?_
  refine pX NMail.E l i j (e := 132) (X := X) (b := b) (.an rfl rfl) (.inr (fun g h => by simp [h])) (ac rfl) rfl rfl rfl rfl rfl rfl rfl rfl rfl hij hj Uo ?_
  refine Ra 7 rfl Qp ?_
  refine bn Kr ?_
  refine Tx ?_
  refine rw_q rfl rfl rfl (u9 (k0 := (l.take i ++ l.drop j).length) (h := l.length) rfl rfl Zf rfl Zf rfl Zf rfl rfl Zf Zf Zo (fun _ => hcap.1)) ?_
  refine sW NMail.E (l.take i ++ l.drop j) l.length (e := 132) (X := X) (b := b) .sq (.inl ⟨_, rfl⟩) (ac rfl) rfl rfl rfl rfl rfl rfl rfl rfl rfl rfl (by omega) hcap.1 Mm ?_
  refine Tx ?_
  refine ai ?_
  exact ⟨(), _, (.cons (.tmp rfl) .nil), rfl, .nil _, .nil _, Sp⟩
theorem jL (X : SlV) (b : Option Nat) (γ : Nat → NMail.G) (l : List Mail) (i j : Nat) (hij : i ≤ j) (hj : j ≤ l.length) : DoesG Tryz.prog 90 [X.val l.length, .int .i64 (i : Int), .int .i64 (j : Int)] [] ⟨[], [ownL NMail.E 132 X b (zipG γ 0 l)]⟩ (fun (_ : Unit) => X.val (l.take i ++ l.drop j).length) (fun _ => []) (fun _ => ⟨[], [ownL NMail.E 132 X b (zipG (appG γ i (dropG γ j)) 0 (l.take i ++ l.drop j))]⟩) := by
 have := jn X b (zipG γ 0 l) i j hij (by rw [dh]; exact hj)
 rw [uo γ l i j (by omega), dh, dh] at this
 exact this
theorem kq (X : SlV) (b : Option Nat) (γ : Nat → NMail.G) (l : List Mail) (i j : Int) (h0 : 0 ≤ i) (hij : i ≤ j) (hj : j ≤ (l.length : Int)) : DoesG Tryz.prog 90 [X.val l.length, .int .i64 i, .int .i64 j] [] ⟨[], [ownL NMail.E 132 X b (zipG γ 0 l)]⟩ (fun (_ : Unit) => X.val (l.take i.toNat ++ l.drop j.toNat).length) (fun (_ : Unit) => []) (fun (_ : Unit) => ⟨[], [ownL NMail.E 132 X b (zipG (appG γ i.toNat (dropG γ j.toNat)) 0 (l.take i.toNat ++ l.drop j.toNat))]⟩) := by
 have := jL X b γ l i.toNat j.toNat (by omega) (by omega)
 rw [Int.toNat_of_nonneg h0, Int.toNat_of_nonneg (Int.le_trans h0 hij)] at this
 exact this
theorem kx (X : SlV) (b : Option Nat) (l : List (NMail.G × Mail)) (k h : Nat) (hk : k < h) (hh : h ≤ l.length) : DoesG Tryz.prog 85 [.slice (slA X.a X.c k NMail.E.esz) (h - k) (X.c - k)] [] ⟨[], [ownL NMail.E 132 X b l]⟩ (fun (Y : SlV × Option Nat) => Y.1.val ((l.drop k).take (h - k)).length) (fun (_ : SlV × Option Nat) => []) (fun (Y : SlV × Option Nat) => ⟨[], [ownL NMail.E 132 Y.1 Y.2 ((l.drop k).take (h - k)), ownL NMail.E 132 X b l]⟩) := by
 refine co aZ Tryz.func85 rfl Tryz.ntmps85 Tryz.results85 rfl inferInstance (fun _ => inferInstance) fun C => ?_
 have hl1 : ((l.drop k).take (h - k)).length = h - k := by simp; omega
 refine iL NMail.E (e := 132) (X := X) (b := b) (l := l) Mm fun hl63 hlby => ?_
 refine uJ NMail.E (e := 132) (X := X) (b := b) (l := l) Mm (by omega) fun hsome => ?_
 have hs2 : (slA X.a X.c k NMail.E.esz).isNone = false := ux hsome
 refine Tx ?_
 refine rw_q rfl rfl rfl (jR rfl rfl Zf rfl) ?_
 refine dY ?_
 (repeat refine ao ?_); refine jh rfl rfl (fun hc0 => ?_) (fun hc0 => ?_)
 ·exact Bool.noConfusion (hs2.symm.trans hc0)
 ·refine Tx ?_
  refine bB NMail.E [] .sq (ac rfl) rfl rfl rfl rfl rfl rfl rfl rfl rfl rfl rfl rfl rfl rfl rfl fun x1 x1b => ?_
  refine Rp rfl rfl rfl rfl ?_
  refine b5 NMail.E [] ((l.drop k).take (h - k)) (b := x1b) .sq (fun _ _ => .inl ⟨_, rfl⟩) (ac rfl) rfl rfl rfl rfl rfl rfl rfl (fun _ _ => Uo) rfl rfl rfl rfl rfl rfl rfl (by rw [hl1]; exact so (e := 132) (X := X) (b := b) (by omega) hh Mm) (by rw [hl1]; exact Nat.le_trans (Nat.mul_le_mul_right _ (by simp; omega)) hlby) fun x2 x2b => ?_
  refine Tx ?_
  (repeat refine ao ?_); refine ai ?_
  exact ⟨(x2, x2b), _, (.cons (.tmp rfl) .nil), rfl, .nil _, .nil _, Sp⟩
theorem kG (X : SlV) (b : Option Nat) (γ : Nat → NMail.G) (l : List Mail) (k h : Nat) (hk : k < h) (hh : h ≤ l.length) : DoesG Tryz.prog 85 [.slice (slA X.a X.c k NMail.E.esz) (h - k) (X.c - k)] [] ⟨[], [ownL NMail.E 132 X b (zipG γ 0 l)]⟩ (fun (Y : SlV × Option Nat) => Y.1.val ((l.drop k).take (h - k)).length) (fun (_ : SlV × Option Nat) => []) (fun (Y : SlV × Option Nat) => ⟨[], [ownL NMail.E 132 Y.1 Y.2 (zipG (dropG γ k) 0 ((l.drop k).take (h - k))), ownL NMail.E 132 X b (zipG γ 0 l)]⟩) := by
 have := kx X b (zipG γ 0 l) k h hk (by rw [dh]; exact hh)
 rw [uq γ l k (h - k), dh] at this
 exact this
theorem pd (X0 : SlV) (b0 : Option Nat) (γ0 : Nat → SlV × SlV × SlV × SlV × SlV × SlV × SlV) (l0 : List Mail) (k0 h0 : Nat) (hk0 : k0 < h0) (hh0 : h0 ≤ l0.length) (l1 : List Mail) (hl1 : l1 = (l0.drop k0).take (h0 - k0)) : DoesG Tryz.prog 61 [.slice (slA X0.a X0.c k0 NMail.E.esz) (h0 - k0) (X0.c - k0)] [am NMail γ0 l0] ⟨[], [ownL NMail.E 132 X0 b0 (zipG γ0 0 l0)]⟩ (fun (X : SlV × Option Nat × (Nat → SlV × SlV × SlV × SlV × SlV × SlV × SlV)) => X.1.val (eC l1).length) (fun (X : SlV × Option Nat × (Nat → SlV × SlV × SlV × SlV × SlV × SlV × SlV)) => [am NMail X.2.2 (eC l1)]) (fun (X : SlV × Option Nat × (Nat → SlV × SlV × SlV × SlV × SlV × SlV × SlV)) => ⟨[], [ownL NMail.E 132 X.1 X.2.1 (zipG X.2.2 0 (eC l1)), ownL NMail.E 132 X0 b0 (zipG γ0 0 l0)]⟩) := by
 refine co aZ Tryz.func61 rfl Tryz.ntmps61 Tryz.results61 rfl inferInstance (fun _ => inferInstance) fun C => ?_
 have hlen0 : l1.length = h0 - k0 := by rw [hl1]; simp; omega
 refine iL NMail.E (e := 132) (X := X0) (b := b0) (l := zipG γ0 0 l0) Mm fun hl63 hlby => ?_
 have hl63 : l0.length ≤ 9223372036854775807 := Nat.le_trans (Nat.le_of_eq (dh γ0 0 l0).symm) hl63
 have hlby : l0.length * 280 ≤ 140737488355328 := Nat.le_trans (Nat.le_of_eq (congrArg (· * 280) (dh γ0 0 l0).symm)) hlby
 have hlen1 : l1.length * 280 ≤ 140737488355328 := Nat.le_trans (Nat.mul_le_mul_right 280 (by omega)) hlby
 refine Tx ?_
 refine aV (kG X0 b0 γ0 l0 k0 h0 hk0 hh0) .sq (.inl ⟨_, rfl⟩) (ac rfl) rfl rfl rfl Kr rfl rfl Sm (.nil _) (.cons (.here _ _) (.nil _)) ?_
 intro x1
 simp only [← hl1, List.cons_append, List.nil_append]
 refine aI (F := am NMail (dropG γ0 k0) l1) [am NMail γ0 l0] Sm (fun M w h => by rw [hl1]; exact am.take NMail _ (am.drop NMail k0 (allF1 h))) ?_
 refine Tx ?_
 (repeat refine ao ?_); refine Lp [2,8] [] (fun (i_ : List Mail × (Nat → SlV × SlV × SlV × SlV × SlV × SlV × SlV) × Nat) => match i_ with | ⟨l2, γ2, n1⟩ => (⟨[(0, .v (x1.1.val l2.length)), (7, .v (x1.1.val l2.length)), (9, .v (.int .i64 (n1 : Int)))], [], [ownL NMail.E 132 x1.1 x1.2 (zipG γ2 0 l2), ownL NMail.E 132 X0 b0 (zipG γ0 0 l0)], [am NMail γ2 l2], (n1 ≤ l1.length) ∧ (l2.length = l1.length) ∧ (dM (l1.drop n1) n1 l2) = (eC l1), l1.length - n1⟩ : Ls)) ⟨l1, (dropG γ0 k0), 0⟩ (Sc (Sc Sn)) (.nil) ⟨Nat.zero_le _, rfl, (by simp only [eC, Cf] : (eC l1) = (dM l1 0 l1)).symm⟩ Le4 ?_
 rintro ⟨l2, γ2, n1⟩ ⟨hkn1, hll, hf1⟩
 simp only [List.cons_append, List.nil_append]
 refine Tx ?_
 refine Cd (b := decide ((n1 : Int) < (l1.length : Int))) (fun hc1 => ?_) fun hc1 => ?_
 ·have hlt0 : n1 < l1.length := Int.ofNat_lt.1 (of_decide_eq_true hc1)
  refine Tx ?_
  refine rw_qO NMail.E (e := 132) (X := x1.1) (b := x1.2) (l := zipG γ2 0 l2) Mm .sq rfl rfl rfl (dw NMail γ2 n1 rfl rfl Zf rfl Zf rfl rfl rfl (.head _) rfl Zf Za) ?_
  refine rw_qO NMail.E (e := 132) (X := x1.1) (b := x1.2) (l := zipG γ2 0 l2) Mm .sq rfl rfl rfl (q_is (v' := .agg ⟨[.int .i64 (gt l2 n1).kind, .int .i64 (gt l2 n1).who, .int .i64 (gt l2 n1).life, .int .i64 (gt l2 n1).seq, .int .i64 (gt l2 n1).time, .int .i64 (gt l2 n1).version, .int .i64 (gt l2 n1).frm, .int .i64 (gt l2 n1).o.time, .int .i64 (gt l2 n1).o.who, .int .i64 (gt l2 n1).o.node, .int .i64 (gt l2 n1).o.parent, .int .i64 (gt l2 n1).o.name, .int .i64 (gt l2 n1).o.life, .int .i64 (gt l2 n1).o.seq, (γ2 n1).1.val (gt l2 n1).v.roots.length, (γ2 n1).2.1.val (gt l2 n1).v.known.length, (γ2 n1).2.2.1.val (gt l2 n1).v.way.length, (γ2 n1).2.2.2.1.val (gt l2 n1).d.gone.length, (γ2 n1).2.2.2.2.1.val (gt l2 n1).d.here.length, (γ2 n1).2.2.2.2.2.1.val (gt l2 n1).d.wayGone.length, (γ2 n1).2.2.2.2.2.2.val (gt l2 n1).d.wayHere.length]⟩) (fP NMail γ2 rfl rfl Zf rfl rfl (.head _) Za) rfl) ?_
  refine aI (F := RdL EInt (γ2 n1).1 (gt l2 n1).v.roots) [am NMail γ2 l2] Sm (fun M w h => (allF1 h) n1 Zc _ (.head _)) ?_
  refine aI (F := RdL EPlace (γ2 n1).2.1 (gt l2 n1).v.known) [am NMail γ2 l2] Sm (fun M w h => (allF1 h) n1 Zc _ (.tail _ (.head _))) ?_
  refine aI (F := RdL EPlace (γ2 n1).2.2.1 (gt l2 n1).v.way) [am NMail γ2 l2] Sm (fun M w h => (allF1 h) n1 Zc _ (.tail _ (.tail _ (.head _)))) ?_
  refine aI (F := RdL EInt (γ2 n1).2.2.2.1 (gt l2 n1).d.gone) [am NMail γ2 l2] Sm (fun M w h => (allF1 h) n1 Zc _ (.tail _ (.tail _ (.tail _ (.head _))))) ?_
  refine aI (F := RdL EPlace (γ2 n1).2.2.2.2.1 (gt l2 n1).d.here) [am NMail γ2 l2] Sm (fun M w h => (allF1 h) n1 Zc _ (.tail _ (.tail _ (.tail _ (.tail _ (.head _)))))) ?_
  refine aI (F := RdL EInt (γ2 n1).2.2.2.2.2.1 (gt l2 n1).d.wayGone) [am NMail γ2 l2] Sm (fun M w h => (allF1 h) n1 Zc _ (.tail _ (.tail _ (.tail _ (.tail _ (.tail _ (.head _))))))) ?_
  refine aI (F := RdL EPlace (γ2 n1).2.2.2.2.2.2 (gt l2 n1).d.wayHere) [am NMail γ2 l2] Sm (fun M w h => (allF1 h) n1 Zc _ (.tail _ (.tail _ (.tail _ (.tail _ (.tail _ (.tail _ (.head _)))))))) ?_
  refine Al fun g1 => ?_
  refine Tx ?_
  (repeat refine ao ?_); refine au (fun j => match j with | 12 => some x1.2.toList | 15 => some x1.2.toList | _ => some []) ?_
  refine Ra 0 rfl Qp ?_
  refine Ra 1 rfl Qp ?_
  refine ra_q (.an (i := 2) (js := [3, 4, 5, 6, 7, 8, 9, 10, 11, 12]) rfl Kr Kr Kr Kr) (bK.all _) (by intro g hg; simp only [List.mem_append, List.mem_singleton, List.not_mem_nil, or_false, false_or, Option.mem_toList, Option.mem_def, List.append_nil] at hg; first | exact .inr ⟨ownL NMail.E 132 x1.1 x1.2 (zipG γ2 0 l2), Mm, hg⟩) rfl rfl rfl (q_pev rfl Zf) ?_
  refine ra_q (.an (i := 3) (js := [4, 5, 6, 7, 8, 9, 10, 11, 12]) rfl Kr Kr Kr Kr) (bK.all _) (by intro g hg; simp only [List.mem_append, List.mem_singleton, List.not_mem_nil, or_false, false_or, Option.mem_toList, Option.mem_def, List.append_nil] at hg; first | exact .inr ⟨ownL NMail.E 132 x1.1 x1.2 (zipG γ2 0 l2), Mm, hg⟩) rfl rfl rfl (q_pev rfl Zf) ?_
  refine Rb 4 rfl Qp ?_
  refine Rb 5 rfl (q_ldP rfl rfl Zf rfl Mm rfl) ?_
  refine Rb 7 rfl Qp ?_
  refine Rb 8 rfl (q_ldP rfl rfl Zf rfl Mm rfl) ?_
  refine ap 6 Kr ?_
  refine aV (fJ (γ2 n1).1 (γ2 n1).2.1 (γ2 n1).2.2.1 (gt l2 n1).v) (.an rfl rfl) (.inr (by simp [Lent.ids])) (ac rfl) rfl rfl rfl Kr rfl rfl Sm (.nil _) (.nil _) ?_
  intro x4
  refine ap 9 Kr ?_
  refine aV (kM (γ2 n1).2.2.2.1 (γ2 n1).2.2.2.2.1 (γ2 n1).2.2.2.2.2.1 (γ2 n1).2.2.2.2.2.2 (gt l2 n1).d) (.an rfl rfl) (.inr (by simp [Lent.ids])) (ac rfl) rfl rfl rfl Kr rfl rfl Sm (.nil _) (.nil _) ?_
  intro x5
  refine rw_qO NMail.E (e := 132) (X := x1.1) (b := x1.2) (l := zipG γ2 0 l2) Mm (.ab (i := 10) (js := []) [11, 12, 13, 14, 15] rfl Kr Kr Kr Kr Kr) rfl rfl rfl (dw NMail γ2 n1 rfl rfl Zf rfl Zf rfl rfl rfl (.head _) rfl Zf Za) ?_
  refine Ra 11 rfl (q_fae rfl rfl Zf rfl rfl) ?_
  refine ap 12 Kr ?_
  refine rw_le (ay EInt 3 x4.1 x4.2.1 (gt l2 n1).v.roots Uo) ?_
  refine rw_le (ay EPlace 83 x4.2.2.1 x4.2.2.2.1 (gt l2 n1).v.known Uo) ?_
  refine rw_le (ay EPlace 83 x4.2.2.2.2.1 x4.2.2.2.2.2 (gt l2 n1).v.way Uo) ?_
  refine gf NMail γ2 l2 n1 14 (x4.1, x4.2.2.1, x4.2.2.2.2.1, (γ2 n1).2.2.2.1, (γ2 n1).2.2.2.2.1, (γ2 n1).2.2.2.2.2.1, (γ2 n1).2.2.2.2.2.2) (gt l2 n1) (e := 132) (X := x1.1) (b := x1.2) (.an rfl rfl) (.inr (fun g h => by simp [h])) (ac rfl) rfl rfl rfl rfl rfl rfl rfl rfl rfl rfl rfl Zb rfl Uo ?_
  refine aI (F := RdL EInt (γ2 n1).2.2.2.1 (gt l2 n1).d.gone) [am NMail γ2 l2] Sm (fun M w h => (allF1 h) n1 Zc _ (.tail _ (.tail _ (.tail _ (.head _))))) ?_
  refine aI (F := RdL EPlace (γ2 n1).2.2.2.2.1 (gt l2 n1).d.here) [am NMail γ2 l2] Sm (fun M w h => (allF1 h) n1 Zc _ (.tail _ (.tail _ (.tail _ (.tail _ (.head _)))))) ?_
  refine aI (F := RdL EInt (γ2 n1).2.2.2.2.2.1 (gt l2 n1).d.wayGone) [am NMail γ2 l2] Sm (fun M w h => (allF1 h) n1 Zc _ (.tail _ (.tail _ (.tail _ (.tail _ (.tail _ (.head _))))))) ?_
  refine aI (F := RdL EPlace (γ2 n1).2.2.2.2.2.2 (gt l2 n1).d.wayHere) [am NMail γ2 l2] Sm (fun M w h => (allF1 h) n1 Zc _ (.tail _ (.tail _ (.tail _ (.tail _ (.tail _ (.tail _ (.head _)))))))) ?_
  refine aI (F := am NMail (updG γ2 n1 (x4.1, x4.2.2.1, x4.2.2.2.2.1, (γ2 n1).2.2.2.1, (γ2 n1).2.2.2.2.1, (γ2 n1).2.2.2.2.2.1, (γ2 n1).2.2.2.2.2.2)) (l2.set n1 (gt l2 n1))) [am NMail γ2 l2, RdL EInt x4.1 (gt l2 n1).v.roots, RdL EPlace x4.2.2.1 (gt l2 n1).v.known, RdL EPlace x4.2.2.2.2.1 (gt l2 n1).v.way, RdL EInt (γ2 n1).2.2.2.1 (gt l2 n1).d.gone, RdL EPlace (γ2 n1).2.2.2.2.1 (gt l2 n1).d.here, RdL EInt (γ2 n1).2.2.2.2.2.1 (gt l2 n1).d.wayGone, RdL EPlace (γ2 n1).2.2.2.2.2.2 (gt l2 n1).d.wayHere] Sm (fun M w h => am.upd NMail (h _ (.head _)) (da Sm h)) ?_
  have hv1 : x1.1.val l2.length = x1.1.val (l2.set n1 (gt l2 n1)).length := congrArg (SlV.val x1.1) List.length_set.symm
  try rw [hv1]
  refine rw_qO NMail.E (e := 132) (X := x1.1) (b := x1.2) (l := zipG (updG γ2 n1 (x4.1, x4.2.2.1, x4.2.2.2.2.1, (γ2 n1).2.2.2.1, (γ2 n1).2.2.2.2.1, (γ2 n1).2.2.2.2.2.1, (γ2 n1).2.2.2.2.2.2)) 0 (l2.set n1 (gt l2 n1))) Mm (.ab (i := 13) (js := []) [14, 15] rfl Kr Kr Kr Kr Kr) rfl rfl rfl (dw NMail (updG γ2 n1 (x4.1, x4.2.2.1, x4.2.2.2.2.1, (γ2 n1).2.2.2.1, (γ2 n1).2.2.2.2.1, (γ2 n1).2.2.2.2.2.1, (γ2 n1).2.2.2.2.2.2)) n1 rfl rfl Zf rfl Zf rfl rfl rfl (.head _) rfl Zf Za) ?_
  refine Ra 14 rfl (q_fae rfl rfl Zf rfl rfl) ?_
  refine ap 15 Kr ?_
  refine rw_le (ay EInt 3 x5.1 x5.2.1 (gt l2 n1).d.gone Uo) ?_
  refine rw_le (ay EPlace 83 x5.2.2.1 x5.2.2.2.1 (gt l2 n1).d.here Uo) ?_
  refine rw_le (ay EInt 3 x5.2.2.2.2.1 x5.2.2.2.2.2.1 (gt l2 n1).d.wayGone Uo) ?_
  refine rw_le (ay EPlace 83 x5.2.2.2.2.2.2.1 x5.2.2.2.2.2.2.2 (gt l2 n1).d.wayHere Uo) ?_
  refine ry NMail γ2 l2 n1 17 (x4.1, x4.2.2.1, x4.2.2.2.2.1, (γ2 n1).2.2.2.1, (γ2 n1).2.2.2.2.1, (γ2 n1).2.2.2.2.2.1, (γ2 n1).2.2.2.2.2.2) (gt l2 n1) (x4.1, x4.2.2.1, x4.2.2.2.2.1, x5.1, x5.2.2.1, x5.2.2.2.2.1, x5.2.2.2.2.2.2.1) (gt l2 n1) (e := 132) (X := x1.1) (b := x1.2) (.an rfl rfl) (.inr (fun g h => by simp [h])) (ac rfl) rfl rfl rfl rfl rfl rfl rfl rfl rfl rfl rfl Zb rfl Uo ?_
  refine aI (F := am NMail (updG γ2 n1 (x4.1, x4.2.2.1, x4.2.2.2.2.1, x5.1, x5.2.2.1, x5.2.2.2.2.1, x5.2.2.2.2.2.2.1)) (l2.set n1 (gt l2 n1))) [am NMail γ2 l2, RdL EInt x4.1 (gt l2 n1).v.roots, RdL EPlace x4.2.2.1 (gt l2 n1).v.known, RdL EPlace x4.2.2.2.2.1 (gt l2 n1).v.way, RdL EInt x5.1 (gt l2 n1).d.gone, RdL EPlace x5.2.2.1 (gt l2 n1).d.here, RdL EInt x5.2.2.2.2.1 (gt l2 n1).d.wayGone, RdL EPlace x5.2.2.2.2.2.2.1 (gt l2 n1).d.wayHere] Sm (fun M w h => am.upd NMail (h _ (.head _)) (da Sm h)) ?_
  refine bn Kr ?_
  refine Tx ?_
  refine rw_q rfl rfl rfl (q_add rfl rfl Zf rfl Zf Zo) ?_
  refine Tx ?_
  refine ⟨⟨(l2.set n1 (gt l2 n1)), (updG γ2 n1 (x4.1, x4.2.2.1, x4.2.2.2.2.1, x5.1, x5.2.2.1, x5.2.2.2.2.1, x5.2.2.2.2.2.2.1)), (n1 + 1)⟩, ⟨hlt0, (by (try simp only [List.length_set]); omega), (by rw [← hf1, aE hlt0]; simp only [dM, Cf] : (eC l1) = (dM (l1.drop (n1 + 1)) (n1 + 1) (l2.set n1 (gt l2 n1)))).symm⟩, (by simp only []; omega), Le4⟩
 ·have hge0 : l1.length ≤ n1 := by have := of_decide_eq_false hc1; omega
  refine Tx ?_
  refine ai ?_; rw [show (eC l1) = l2 by rw [← hf1, List.drop_of_length_le hge0]; simp only [dM, Cf]]; exact Re ⟨x1.1, x1.2, γ2⟩ (Vt Vn)
theorem pR (X0 : SlV) (b0 : Option Nat) (γ0 : Nat → SlV × SlV × SlV × SlV × SlV × SlV × SlV) (l0 : List Mail) (k0 h0 : Nat) (hk0 : k0 < h0) (hh0 : h0 ≤ l0.length) : DoesG Tryz.prog 61 [.slice (slA X0.a X0.c k0 NMail.E.esz) (h0 - k0) (X0.c - k0)] [am NMail γ0 l0] ⟨[], [ownL NMail.E 132 X0 b0 (zipG γ0 0 l0)]⟩ (fun (X : SlV × Option Nat × (Nat → SlV × SlV × SlV × SlV × SlV × SlV × SlV)) => X.1.val ((l0.drop k0).take (h0 - k0)).length) (fun (X : SlV × Option Nat × (Nat → SlV × SlV × SlV × SlV × SlV × SlV × SlV)) => [am NMail X.2.2 ((l0.drop k0).take (h0 - k0))]) (fun (X : SlV × Option Nat × (Nat → SlV × SlV × SlV × SlV × SlV × SlV × SlV)) => ⟨[], [ownL NMail.E 132 X.1 X.2.1 (zipG X.2.2 0 ((l0.drop k0).take (h0 - k0))), ownL NMail.E 132 X0 b0 (zipG γ0 0 l0)]⟩) := by
 have := pd X0 b0 γ0 l0 k0 h0 hk0 hh0 _ rfl
 rw [nu] at this
 exact this
def aA (l1 : List Mail) (k1 : Int) (twice1 : Bool) : (List Mail) × Mail × Int :=
 (bif ((bO l1) != 0) then (([] : List Mail), (⟨0, 0, 0, 0, 0, 0, 0, (⟨0, 0, 0, 0, 0, 0, 0⟩ : Op), (⟨[], [], []⟩ : View), (⟨[], [], [], []⟩ : Delta)⟩ : Mail), (bO l1)) else (bif (decide (k1 < 0) || decide (k1 ≥ (l1.length : Int))) then (([] : List Mail), (⟨0, 0, 0, 0, 0, 0, 0, (⟨0, 0, 0, 0, 0, 0, 0⟩ : Op), (⟨[], [], []⟩ : View), (⟨[], [], [], []⟩ : Delta)⟩ : Mail), 5) else (bif (!twice1) then ((l1.take k1.toNat ++ l1.drop (k1 + 1).toNat), (gt ((l1.drop k1.toNat).take ((k1 + 1).toNat - k1.toNat)) 0), 0) else (l1, (gt ((l1.drop k1.toNat).take ((k1 + 1).toNat - k1.toNat)) 0), 0))))
theorem hZ (y1 : SlV) (l1 : List Mail) (k1 : Int) (twice1 : Bool) : Does Tryz.prog 65 [y1.val l1.length, .int .i64 k1, .bool twice1] [RdN NMail y1 l1] (fun (X : SlV × SlV × SlV × SlV × SlV × SlV × SlV × SlV) => .tuple #[X.1.val (aA l1 k1 twice1).1.length, .agg ⟨[.int .i64 (aA l1 k1 twice1).2.1.kind, .int .i64 (aA l1 k1 twice1).2.1.who, .int .i64 (aA l1 k1 twice1).2.1.life, .int .i64 (aA l1 k1 twice1).2.1.seq, .int .i64 (aA l1 k1 twice1).2.1.time, .int .i64 (aA l1 k1 twice1).2.1.version, .int .i64 (aA l1 k1 twice1).2.1.frm, .int .i64 (aA l1 k1 twice1).2.1.o.time, .int .i64 (aA l1 k1 twice1).2.1.o.who, .int .i64 (aA l1 k1 twice1).2.1.o.node, .int .i64 (aA l1 k1 twice1).2.1.o.parent, .int .i64 (aA l1 k1 twice1).2.1.o.name, .int .i64 (aA l1 k1 twice1).2.1.o.life, .int .i64 (aA l1 k1 twice1).2.1.o.seq, X.2.1.val (aA l1 k1 twice1).2.1.v.roots.length, X.2.2.1.val (aA l1 k1 twice1).2.1.v.known.length, X.2.2.2.1.val (aA l1 k1 twice1).2.1.v.way.length, X.2.2.2.2.1.val (aA l1 k1 twice1).2.1.d.gone.length, X.2.2.2.2.2.1.val (aA l1 k1 twice1).2.1.d.here.length, X.2.2.2.2.2.2.1.val (aA l1 k1 twice1).2.1.d.wayGone.length, X.2.2.2.2.2.2.2.val (aA l1 k1 twice1).2.1.d.wayHere.length]⟩, .int .i64 (aA l1 k1 twice1).2.2]) (fun X => [RdN NMail X.1 (aA l1 k1 twice1).1, RdL EInt X.2.1 (aA l1 k1 twice1).2.1.v.roots, RdL EPlace X.2.2.1 (aA l1 k1 twice1).2.1.v.known, RdL EPlace X.2.2.2.1 (aA l1 k1 twice1).2.1.v.way, RdL EInt X.2.2.2.2.1 (aA l1 k1 twice1).2.1.d.gone, RdL EPlace X.2.2.2.2.2.1 (aA l1 k1 twice1).2.1.d.here, RdL EInt X.2.2.2.2.2.2.1 (aA l1 k1 twice1).2.1.d.wayGone, RdL EPlace X.2.2.2.2.2.2.2 (aA l1 k1 twice1).2.1.d.wayHere]) := by
 refine bj aZ Tryz.func65 rfl Tryz.ntmps65 Tryz.results65 rfl inferInstance (fun _ => inferInstance) fun C => ?_
 refine Pn NMail y1 l1 280 fun hlen1 => ?_
 refine Tx ?_
 refine Al fun g1 => ?_
 refine Tx ?_
 refine Cl (fI y1 l1) fun _ => ?_
 refine Tx ?_
 refine Cd (b := ((bO l1) != 0)) (fun hc1 => ?_) fun hc1 => ?_
 ·have hc1p := bne_iff_ne.1 hc1
  refine Tx ?_
  refine cS (F := RdN NMail ⟨none, 0⟩ ([] : List Mail)) [] (.nil _) (fun M w _ => RdN.nil _ M w) ?_
  refine Fc EInt ?_
  refine Fc EPlace ?_
  refine ai ?_; simp only [aA, hc1, Cf]; exact Re ⟨(⟨none, 0⟩ : SlV), (⟨none, 0⟩ : SlV), (⟨none, 0⟩ : SlV), (⟨none, 0⟩ : SlV), (⟨none, 0⟩ : SlV), (⟨none, 0⟩ : SlV), (⟨none, 0⟩ : SlV), (⟨none, 0⟩ : SlV)⟩ (Vt (Va (Vt Vn)))
 ·have hc1p := ae hc1
  refine Tx ?_
  refine Cd (b := (decide (k1 < 0) || decide (k1 ≥ (l1.length : Int)))) (fun hc2 => ?_) fun hc2 => ?_
  ·refine Tx ?_
   refine cS (F := RdN NMail ⟨none, 0⟩ ([] : List Mail)) [] (.nil _) (fun M w _ => RdN.nil _ M w) ?_
   refine Fc EInt ?_
   refine Fc EPlace ?_
   refine ai ?_; simp only [aA, hc1, hc2, Cf]; exact Re ⟨(⟨none, 0⟩ : SlV), (⟨none, 0⟩ : SlV), (⟨none, 0⟩ : SlV), (⟨none, 0⟩ : SlV), (⟨none, 0⟩ : SlV), (⟨none, 0⟩ : SlV), (⟨none, 0⟩ : SlV), (⟨none, 0⟩ : SlV)⟩ (Vt (Va (Vt Vn)))
  ·have hkb := hc2
   simp only [Bool.or_eq_false_iff, decide_eq_false_iff_not] at hkb
   refine Tx ?_
   refine Cg (gw y1 l1) fun x1 => ?_
   refine Tx ?_
   refine rw_q rfl rfl rfl (q_add rfl rfl Zf rfl Zf Zo) ?_
   refine vE NMail.E (e := 132) (X := x1.1) (b := x1.2.1) (l := (zipG x1.2.2 0 l1)) Mm fun hcap1 => ?_
   have hcap1 : l1.length ≤ x1.1.c ∧ x1.1.c ≤ 9223372036854775807 := ⟨Nat.le_trans (Nat.le_of_eq (dh x1.2.2 0 l1).symm) hcap1.1, hcap1.2⟩
   refine rw_q rfl rfl rfl (u9 (k0 := k1.toNat) (h := (k1 + 1).toNat) rfl rfl Zf rfl Zf rfl Zf rfl rfl Zo Zo Zo Zo) ?_
   refine aV (pR x1.1 x1.2.1 x1.2.2 l1 k1.toNat (k1 + 1).toNat (by omega) (by omega)) .sq (.inl ⟨_, rfl⟩) (ac rfl) rfl rfl rfl Kr rfl rfl Sm (.nil _) Tk ?_
   intro x2
   have hln1 : ((l1.drop k1.toNat).take ((k1 + 1).toNat - k1.toNat)).length = (k1 + 1).toNat - k1.toNat := by simp only [List.length_take, List.length_drop]; omega
   refine rw_qO NMail.E (e := 132) (X := x2.1) (b := x2.2.1) (l := zipG x2.2.2 0 ((l1.drop k1.toNat).take ((k1 + 1).toNat - k1.toNat))) Mm .sq rfl rfl rfl (dw NMail x2.2.2 0 rfl rfl Zf rfl Zf rfl rfl rfl (.head _) rfl Zf Za) ?_
   refine rw_qO NMail.E (e := 132) (X := x2.1) (b := x2.2.1) (l := zipG x2.2.2 0 ((l1.drop k1.toNat).take ((k1 + 1).toNat - k1.toNat))) Mm .sq rfl rfl rfl (q_is (v' := .agg ⟨[.int .i64 (gt ((l1.drop k1.toNat).take ((k1 + 1).toNat - k1.toNat)) 0).kind, .int .i64 (gt ((l1.drop k1.toNat).take ((k1 + 1).toNat - k1.toNat)) 0).who, .int .i64 (gt ((l1.drop k1.toNat).take ((k1 + 1).toNat - k1.toNat)) 0).life, .int .i64 (gt ((l1.drop k1.toNat).take ((k1 + 1).toNat - k1.toNat)) 0).seq, .int .i64 (gt ((l1.drop k1.toNat).take ((k1 + 1).toNat - k1.toNat)) 0).time, .int .i64 (gt ((l1.drop k1.toNat).take ((k1 + 1).toNat - k1.toNat)) 0).version, .int .i64 (gt ((l1.drop k1.toNat).take ((k1 + 1).toNat - k1.toNat)) 0).frm, .int .i64 (gt ((l1.drop k1.toNat).take ((k1 + 1).toNat - k1.toNat)) 0).o.time, .int .i64 (gt ((l1.drop k1.toNat).take ((k1 + 1).toNat - k1.toNat)) 0).o.who, .int .i64 (gt ((l1.drop k1.toNat).take ((k1 + 1).toNat - k1.toNat)) 0).o.node, .int .i64 (gt ((l1.drop k1.toNat).take ((k1 + 1).toNat - k1.toNat)) 0).o.parent, .int .i64 (gt ((l1.drop k1.toNat).take ((k1 + 1).toNat - k1.toNat)) 0).o.name, .int .i64 (gt ((l1.drop k1.toNat).take ((k1 + 1).toNat - k1.toNat)) 0).o.life, .int .i64 (gt ((l1.drop k1.toNat).take ((k1 + 1).toNat - k1.toNat)) 0).o.seq, (x2.2.2 0).1.val (gt ((l1.drop k1.toNat).take ((k1 + 1).toNat - k1.toNat)) 0).v.roots.length, (x2.2.2 0).2.1.val (gt ((l1.drop k1.toNat).take ((k1 + 1).toNat - k1.toNat)) 0).v.known.length, (x2.2.2 0).2.2.1.val (gt ((l1.drop k1.toNat).take ((k1 + 1).toNat - k1.toNat)) 0).v.way.length, (x2.2.2 0).2.2.2.1.val (gt ((l1.drop k1.toNat).take ((k1 + 1).toNat - k1.toNat)) 0).d.gone.length, (x2.2.2 0).2.2.2.2.1.val (gt ((l1.drop k1.toNat).take ((k1 + 1).toNat - k1.toNat)) 0).d.here.length, (x2.2.2 0).2.2.2.2.2.1.val (gt ((l1.drop k1.toNat).take ((k1 + 1).toNat - k1.toNat)) 0).d.wayGone.length, (x2.2.2 0).2.2.2.2.2.2.val (gt ((l1.drop k1.toNat).take ((k1 + 1).toNat - k1.toNat)) 0).d.wayHere.length]⟩) (fP NMail x2.2.2 rfl rfl Zf rfl rfl (.head _) Za) rfl) ?_
   refine aI (F := RdL EInt (x2.2.2 0).1 (gt ((l1.drop k1.toNat).take ((k1 + 1).toNat - k1.toNat)) 0).v.roots) [am NMail x2.2.2 ((l1.drop k1.toNat).take ((k1 + 1).toNat - k1.toNat))] Sm (fun M w h => (allF1 h) 0 Zc _ (.head _)) ?_
   refine aI (F := RdL EPlace (x2.2.2 0).2.1 (gt ((l1.drop k1.toNat).take ((k1 + 1).toNat - k1.toNat)) 0).v.known) [am NMail x2.2.2 ((l1.drop k1.toNat).take ((k1 + 1).toNat - k1.toNat))] Sm (fun M w h => (allF1 h) 0 Zc _ (.tail _ (.head _))) ?_
   refine aI (F := RdL EPlace (x2.2.2 0).2.2.1 (gt ((l1.drop k1.toNat).take ((k1 + 1).toNat - k1.toNat)) 0).v.way) [am NMail x2.2.2 ((l1.drop k1.toNat).take ((k1 + 1).toNat - k1.toNat))] Sm (fun M w h => (allF1 h) 0 Zc _ (.tail _ (.tail _ (.head _)))) ?_
   refine aI (F := RdL EInt (x2.2.2 0).2.2.2.1 (gt ((l1.drop k1.toNat).take ((k1 + 1).toNat - k1.toNat)) 0).d.gone) [am NMail x2.2.2 ((l1.drop k1.toNat).take ((k1 + 1).toNat - k1.toNat))] Sm (fun M w h => (allF1 h) 0 Zc _ (.tail _ (.tail _ (.tail _ (.head _))))) ?_
   refine aI (F := RdL EPlace (x2.2.2 0).2.2.2.2.1 (gt ((l1.drop k1.toNat).take ((k1 + 1).toNat - k1.toNat)) 0).d.here) [am NMail x2.2.2 ((l1.drop k1.toNat).take ((k1 + 1).toNat - k1.toNat))] Sm (fun M w h => (allF1 h) 0 Zc _ (.tail _ (.tail _ (.tail _ (.tail _ (.head _)))))) ?_
   refine aI (F := RdL EInt (x2.2.2 0).2.2.2.2.2.1 (gt ((l1.drop k1.toNat).take ((k1 + 1).toNat - k1.toNat)) 0).d.wayGone) [am NMail x2.2.2 ((l1.drop k1.toNat).take ((k1 + 1).toNat - k1.toNat))] Sm (fun M w h => (allF1 h) 0 Zc _ (.tail _ (.tail _ (.tail _ (.tail _ (.tail _ (.head _))))))) ?_
   refine aI (F := RdL EPlace (x2.2.2 0).2.2.2.2.2.2 (gt ((l1.drop k1.toNat).take ((k1 + 1).toNat - k1.toNat)) 0).d.wayHere) [am NMail x2.2.2 ((l1.drop k1.toNat).take ((k1 + 1).toNat - k1.toNat))] Sm (fun M w h => (allF1 h) 0 Zc _ (.tail _ (.tail _ (.tail _ (.tail _ (.tail _ (.tail _ (.head _)))))))) ?_
   refine Al fun g2 => ?_
   refine Tx ?_
   refine Cd (b := (!twice1)) (fun hc3 => ?_) fun hc3 => ?_
   ·refine Tx ?_
    refine rw_q rfl rfl rfl (q_add rfl rfl Zf rfl Zf Zo) ?_
    refine aV (kq x1.1 x1.2.1 x1.2.2 l1 k1 (k1 + 1) (by omega) (by omega) (by omega)) .sq (.inl ⟨_, rfl⟩) (ac rfl) rfl rfl rfl Kr rfl rfl Sm (.nil _) Tk ?_
    intro _
    refine aI (F := am NMail (appG x1.2.2 k1.toNat (dropG x1.2.2 (k1 + 1).toNat)) (l1.take k1.toNat ++ l1.drop (k1 + 1).toNat)) [am NMail x1.2.2 l1] Sm (fun M w h => am.del NMail _ _ (by omega) (allF1 h)) ?_
    refine Tx ?_
    (repeat refine ao ?_); refine au (fun j => match j with | 3 => some [g1] | _ => some []) ?_
    refine Ra 0 rfl Qp ?_
    refine Ra 1 rfl (q_ldA rfl rfl Zf rfl Mm rfl) ?_
    refine Ra 2 rfl Qp ?_
    refine ap 3 Kr ?_
    refine cY (.an rfl rfl) (.inr (by simp)) (ac rfl) rfl rfl rfl rfl rfl rfl rfl rfl rfl Ub rfl ?_
    refine Ra 4 rfl Qp ?_
    refine bn Kr ?_
    (repeat refine ao ?_)
    refine cw_le (ay NMail.E 132 x1.1 x1.2.1 (zipG (appG x1.2.2 k1.toNat (dropG x1.2.2 (k1 + 1).toNat)) 0 (l1.take k1.toNat ++ l1.drop (k1 + 1).toNat)) Uo) ?_
    refine cS (F := RdN NMail x1.1 (l1.take k1.toNat ++ l1.drop (k1 + 1).toNat)) [RdG NMail x1.1 (appG x1.2.2 k1.toNat (dropG x1.2.2 (k1 + 1).toNat)) (l1.take k1.toNat ++ l1.drop (k1 + 1).toNat), am NMail (appG x1.2.2 k1.toNat (dropG x1.2.2 (k1 + 1).toNat)) (l1.take k1.toNat ++ l1.drop (k1 + 1).toNat)] Sm (fun M w h => RdN.ofG NMail (h _ (.head _)) (h _ (.tail _ (.head _)))) ?_
    refine ai ?_; simp only [aA, hc1, hc2, hc3, Cf]; exact Re ⟨x1.1, (x2.2.2 0).1, (x2.2.2 0).2.1, (x2.2.2 0).2.2.1, (x2.2.2 0).2.2.2.1, (x2.2.2 0).2.2.2.2.1, (x2.2.2 0).2.2.2.2.2.1, (x2.2.2 0).2.2.2.2.2.2⟩ (Vt (Va (Vt Vn)))
   ·refine Tx ?_
    (repeat refine ao ?_); refine au (fun j => match j with | 3 => some [g1] | _ => some []) ?_
    refine Ra 0 rfl Qp ?_
    refine Ra 1 rfl (q_ldA rfl rfl Zf rfl Mm rfl) ?_
    refine Ra 2 rfl Qp ?_
    refine ap 3 Kr ?_
    refine cY (.an rfl rfl) (.inr (by simp)) (ac rfl) rfl rfl rfl rfl rfl rfl rfl rfl rfl Ub rfl ?_
    refine Ra 4 rfl Qp ?_
    refine bn Kr ?_
    (repeat refine ao ?_)
    refine cw_le (ay NMail.E 132 x1.1 x1.2.1 (zipG x1.2.2 0 l1) Uo) ?_
    refine cS (F := RdN NMail x1.1 l1) [RdG NMail x1.1 x1.2.2 l1, am NMail x1.2.2 l1] Sm (fun M w h => RdN.ofG NMail (h _ (.head _)) (h _ (.tail _ (.head _)))) ?_
    refine ai ?_; simp only [aA, hc1, hc2, hc3, Cf]; exact Re ⟨x1.1, (x2.2.2 0).1, (x2.2.2 0).2.1, (x2.2.2 0).2.2.1, (x2.2.2 0).2.2.2.1, (x2.2.2 0).2.2.2.2.1, (x2.2.2 0).2.2.2.2.2.1, (x2.2.2 0).2.2.2.2.2.2⟩ (Vt (Va (Vt Vn)))
theorem qK {l : List Mail} {k : Int} {t : Bool} (h : (aA l k t).2.2 = 0) : bO l = 0 ∧ 0 ≤ k ∧ k < (l.length : Int) := by
 unfold aA at h
 cases h1 : (bO l != 0) with
 | true => rw [h1, cond_true] at h; simp only at h; rw [h] at h1; cases h1
 | false =>
  rw [h1, cond_false] at h
  cases h2 : (decide (k < 0) || decide (k ≥ (l.length : Int))) with
  | true => rw [h2, cond_true] at h; cases h
  | false =>
   simp only [Bool.or_eq_false_iff, decide_eq_false_iff_not] at h2
   exact ⟨ae h1, by omega, by omega⟩
end Go.Proofs.YtpkaloknohpleaaGreatDoor

namespace Go.Proofs.YtpkaloknohpleaaGreatDoor
open Go Go.Proofs.YtpkaloknohpleaaGreatDoor.Fw
def insR {α : Type} (lt : α → α → Bool) (x : α) : List α → List α → List α
 | [], s => x :: s
 | y :: r, s => bif lt x y then insR lt x r (y :: s) else (y :: r).reverse ++ x :: s
theorem nS {α : Type} (lt : α → α → Bool) (x : α) : ∀ (r s : List α), insR lt x r s = (r.dropWhile (lt x)).reverse ++ x :: ((r.takeWhile (lt x)).reverse ++ s)
 | [], s => rfl
 | y :: r, s => by
  rw [insR]
  cases h : lt x y with
  | true => rw [cond_true, nS lt x r]; simp [List.dropWhile_cons, List.takeWhile_cons, h]
  | false => simp [List.dropWhile_cons, List.takeWhile_cons, h]
def isort {α : Type} (lt : α → α → Bool) : List α → List α → List α
 | acc, [] => acc
 | acc, x :: r => isort lt (insR lt x acc.reverse []) r
theorem uF {α : Type} (lt : α → α → Bool) (x : α) (r s : List α) : (insR lt x r s).length = r.length + s.length + 1 := by
 rw [nS]
 have := congrArg List.length (List.takeWhile_append_dropWhile (p := lt x) (l := r))
 simp only [List.length_append] at this
 simp; omega
theorem tJ {α : Type} (lt : α → α → Bool) (x : α) (r s : List α) : (insR lt x r s).Perm (x :: (r.reverse ++ s)) := by
 rw [nS]
 refine List.perm_middle.trans (.cons _ ?_)
 rw [← List.append_assoc, ← List.reverse_append, List.takeWhile_append_dropWhile]
theorem mr {α : Type} (lt : α → α → Bool) : ∀ (r acc : List α), (isort lt acc r).Perm (acc ++ r)
 | [], acc => by simp [isort]
 | x :: r, acc => by
  rw [isort]
  refine (mr lt r _).trans ?_
  refine ((tJ lt x acc.reverse []).append_right r).trans ?_
  simp only [List.reverse_reverse, List.append_nil, List.cons_append]
  exact List.perm_middle.symm
theorem uG {α : Type} (lt : α → α → Bool) (x : α) (r s : List α) : insR lt x r s = insR lt x r [] ++ s := by simp [nS]
theorem jA {α : Type} [Inhabited α] (A : List α) (b : α) (C : List α) (i : Nat) (h : i = A.length) : gt (A ++ b :: C) i = b := by subst h; simp [gt]
theorem iy {α : Type} (A : List α) (b c : α) (C : List α) (i : Nat) (h : i = A.length) : (A ++ b :: C).set i c = A ++ c :: C := by subst h; simp
def Sorted {α : Type} (lt : α → α → Bool) (l : List α) : Prop := l.Pairwise (fun a b => lt b a = false)
theorem qT {α : Type} {lt : α → α → Bool} (htr : ∀ a b c, lt c b = false → lt b a = false → lt c a = false) (has : ∀ a b, lt a b = true → lt b a = false) (x : α) (l : List α) (h : Sorted lt l) : Sorted lt (insR lt x l.reverse []) := by
 rw [nS, List.append_nil]
 have hl : l = (l.reverse.dropWhile (lt x)).reverse ++ (l.reverse.takeWhile (lt x)).reverse := by
  rw [← List.reverse_append, List.takeWhile_append_dropWhile, List.reverse_reverse]
 have hs : Sorted lt ((l.reverse.dropWhile (lt x)).reverse ++ (l.reverse.takeWhile (lt x)).reverse) := by rw [← hl]; exact h
 obtain ⟨h1, h2, h3⟩ := List.pairwise_append.1 hs
 have ht : ∀ b ∈ (l.reverse.takeWhile (lt x)).reverse, lt x b = true := fun b hb => by
  have := List.all_eq_true.1 (List.all_takeWhile (p := lt x) (l := l.reverse)) b (List.mem_reverse.1 hb)
  exact this
 refine List.pairwise_append.2 ⟨h1, List.pairwise_cons.2 ⟨fun b hb => has _ _ (ht b hb), h2⟩, fun a ha b hb => ?_⟩
 have hd : ∀ a ∈ (l.reverse.dropWhile (lt x)).reverse, lt x a = false := by
  intro a ha
  rw [List.mem_reverse] at ha
  cases hD : l.reverse.dropWhile (lt x) with
  | nil => rw [hD] at ha; cases ha
  | cons y D =>
   have hy : lt x y = false := by
    have := List.head_dropWhile_not (p := lt x) (l := l.reverse) (by rw [hD]; simp)
    simp only [hD, List.head_cons] at this
    exact this
   rw [hD] at ha h1
   rcases List.mem_cons.1 ha with rfl | ha
   ·exact hy
   ·have : lt y a = false := by
     have h1 : Sorted lt (y :: D).reverse := h1
     unfold Sorted at h1
     rw [List.pairwise_reverse] at h1
     exact (List.pairwise_cons.1 h1).1 a ha
    exact htr a y x hy this
 rcases List.mem_cons.1 hb with rfl | hb
 ·exact hd a ha
 ·exact h3 a ha b hb
theorem mT {α : Type} {lt : α → α → Bool} (htr : ∀ a b c, lt c b = false → lt b a = false → lt c a = false) (has : ∀ a b, lt a b = true → lt b a = false) : ∀ (r acc : List α), Sorted lt acc → Sorted lt (isort lt acc r)
 | [], acc, h => h
 | x :: r, acc, h => mT htr has r _ (qT htr has x acc h)
theorem kJ {α : Type} (lt : α → α → Bool) (l : List α) : (isort lt [] l).length = l.length := by
 have := (mr lt l []).length_eq
 simpa using this
end Go.Proofs.YtpkaloknohpleaaGreatDoor
