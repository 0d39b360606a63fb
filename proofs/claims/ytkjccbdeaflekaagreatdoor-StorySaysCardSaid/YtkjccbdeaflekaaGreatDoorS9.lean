/- Part of this claim. No condition. -/
import Derived.Test.YtkjccbdeaflekaaGreatDoorS5
import Derived.Test.YtkjccbdeaflekaaGreatDoorS8
import Derived.Test.YtkjccbdeaflekaaGreatDoorS4
import Derived.Test.YtkjccbdeaflekaaGreatDoorS2
import Derived.Test.YtkjccbdeaflekaaGreatDoorS3
set_option linter.unusedVariables false
set_option linter.unusedSimpArgs false
namespace Go.Proofs.YtkjccbdeaflekaaGreatDoor
open Go Go.Proofs.YtkjccbdeaflekaaGreatDoor.Fw Go.Proofs
theorem je {c : Bool} {a b : Int} (ha : a ≠ 0) : ((bif c then a else b) = 0 ↔ c = false ∧ b = 0) := by
 cases c <;> simp [ha]
structure yz (c : Client) (me : Int) (i : Nat) : Prop where
 ok : chkO (gt c.pending i) = 0
 who : (gt c.pending i).who = me
 life : (gt c.pending i).life = c.life
 seq : (gt c.pending i).seq = c.seq - (c.pending.length : Int) + 1 + (i : Int)
 time : (gt c.pending i).time ≤ c.time
 up : 0 < i → (gt c.pending (i - 1)).time < (gt c.pending i).time
theorem nb (c : Client) (me : Int) : ∀ (r : List Op) (k : Nat), r = c.pending.drop k → (el c me r k = 0 ↔ ∀ i, k ≤ i → i < c.pending.length → yz c me i)
 | [], k, h => by
  have : c.pending.length ≤ k := by have := congrArg List.length h; simp at this; omega
  exact ⟨fun _ i h1 h2 => by omega, fun _ => rfl⟩
 | p :: r, k, h => by
  have hk : k < c.pending.length := by
   rcases Nat.lt_or_ge k c.pending.length with h' | h'
   ·exact h'
   ·rw [List.drop_of_length_le h'] at h; cases h
  rw [aU hk] at h
  obtain ⟨rfl, h'⟩ := List.cons.inj h
  rw [el, eA]
  have key : yz c me k ↔ (chkO (gt c.pending k) = 0 ∧ ((((((gt c.pending k).who != me) || ((gt c.pending k).life != c.life)) || ((gt c.pending k).seq != (((c.seq - (c.pending.length : Int)) + 1) + (k : Int)))) || decide ((gt c.pending k).time > c.time)) || (decide ((k : Int) > 0) && decide ((gt c.pending k).time ≤ (gt c.pending (k - 1)).time))) = false) := by
   simp only [Bool.or_eq_false_iff, bne_eq_false_iff_eq, decide_eq_false_iff_not, Bool.and_eq_false_iff]
   constructor
   ·intro ⟨h1, h2, h3, h4, h5, h6⟩
    refine ⟨h1, ⟨⟨⟨h2, h3⟩, h4⟩, by omega⟩, ?_⟩
    rcases Nat.eq_zero_or_pos k with h7 | h7
    ·left; omega
    ·right; have := h6 h7; omega
   ·intro ⟨h1, ⟨⟨⟨h2, h3⟩, h4⟩, h5⟩, h6⟩
    refine ⟨h1, h2, h3, h4, by omega, fun h7 => ?_⟩
    rcases h6 with h6 | h6
    ·omega
    ·omega
  cases h1 : (chkO (gt c.pending k) != 0) with
  | true =>
   rw [cond_true]
   refine ⟨fun h2 => (by rw [h2] at h1; cases h1), fun h2 => ?_⟩
   have := (h2 k (Nat.le_refl _) hk).ok
   rw [this] at h1; cases h1
  | false =>
   rw [cond_false, je (by decide), nb c me r (k + 1) h']
   constructor
   ·intro ⟨h2, h3⟩ i hi hl
    by_cases hik : i = k
    ·rw [hik]; exact key.2 ⟨ai h1, h2⟩
    ·exact h3 i (by omega) hl
   ·intro h2
    exact ⟨(key.1 (h2 k (Nat.le_refl _) hk)).2, fun i hi hl => h2 i (by omega) hl⟩
structure IsCli (c : Client) (me : Int) : Prop where
 num : 0 ≤ me ∧ me < 3
 rng : 0 ≤ c.life ∧ c.life ≤ 50 ∧ 0 ≤ c.time ∧ c.time ≤ 10000 ∧ 0 ≤ c.seq ∧ c.seq ≤ 30 ∧ 0 ≤ c.version ∧ c.version ≤ 60
 few : c.pending.length ≤ 8
 view : sw c.v
 new : c.life = 0 → c.time = 0 ∧ c.seq = 0 ∧ c.version = 0
 vers : c.version = 0 → c.v.roots = []
 pseq : (c.pending.length : Int) ≤ c.seq
 pend : ∀ i, i < c.pending.length → yz c me i
theorem fg (c : Client) (me : Int) : bH c me = 0 ↔ IsCli c me := by
 constructor
 ·intro h
  obtain ⟨h1, h2, h3, h4, ⟨h5, h6, h7⟩, h8⟩ := kx h
  exact ⟨h1, h2, h3, (gD _).1 h4, h5, h6, h7, fun i hi => (nb c me c.pending 0 rfl).1 h8 i (Nat.zero_le _) hi⟩
 ·intro h
  obtain ⟨m1, m2⟩ := h.num
  obtain ⟨r1, r2, r3, r4, r5, r6, r7, r8⟩ := h.rng
  have h3 := h.few
  have h7 := h.pseq
  unfold bH
  rw [je (by decide)]
  refine ⟨by simp only [Bool.or_eq_false_iff, decide_eq_false_iff_not]; omega, ?_⟩
  rw [je (by decide)]
  refine ⟨by simp only [Bool.or_eq_false_iff, decide_eq_false_iff_not]; omega, ?_⟩
  rw [je (by decide)]
  refine ⟨by simp only [decide_eq_false_iff_not]; omega, ?_⟩
  rw [(gD _).2 h.view, bne_self_eq_false, cond_false, je (by decide)]
  refine ⟨?_, (nb c me c.pending 0 rfl).2 fun i _ hi => h.pend i hi⟩
  simp only [Bool.or_eq_false_iff, decide_eq_false_iff_not, Bool.and_eq_false_iff, beq_eq_false_iff_ne, bne_eq_false_iff_eq]
  refine ⟨⟨?_, ?_⟩, by omega⟩
  ·by_cases hl : c.life = 0
   ·right; have := h.new hl; omega
   ·exact .inl hl
  ·by_cases hv : c.version = 0
   ·right; rw [h.vers hv]; simp
   ·exact .inl hv
theorem p7 {v : View} {d : Delta} (h : (cU v d).2 = 0) : sw (cU v d).1 := by
 unfold cU at h ⊢
 cases h1 : (cG v != 0) with
 | true => rw [h1, cond_true] at h; simp only at h; rw [h] at h1; cases h1
 | false =>
 rw [h1, cond_false] at h
 rw [cond_false]
 cases h2 : (cg d != 0) with
 | true => rw [h2, cond_true] at h; simp only at h; rw [h] at h2; cases h2
 | false =>
 rw [h2, cond_false] at h
 rw [cond_false]
 cases h3 : (cG (⟨v.roots, (cf v.known d.gone d.here), (cf v.way d.wayGone d.wayHere)⟩ : View) != 0) with
 | true => rw [h3, cond_true] at h; simp only at h; rw [h] at h3; cases h3
 | false => exact (gD _).1 (ai h3)
def pe (m : Mail) : Bool := (((((((((decide (m.life < 1) || decide (m.life > 50)) || decide (m.seq < 0)) || decide (m.seq > 30)) || decide (m.time < 0)) || decide (m.time > 10000)) || decide (m.version < 1)) || decide (m.version > 60)) || decide (m.frm < 0)) || decide (m.frm ≥ m.version))
def want1 (m : Mail) : Mail := ⟨m.kind, m.who, 0, 0, 0, 0, 0, m.o, ⟨[], [], []⟩, ⟨[], [], [], []⟩⟩
def want2 (m : Mail) : Mail := ⟨m.kind, m.who, m.life, m.seq, m.time, m.version, 0, ⟨0, 0, 0, 0, 0, 0, 0⟩, m.v, ⟨[], [], [], []⟩⟩
def want3 (m : Mail) : Mail := ⟨m.kind, m.who, m.life, m.seq, m.time, m.version, m.frm, ⟨0, 0, 0, 0, 0, 0, 0⟩, ⟨[], [], []⟩, m.d⟩
theorem pu (m : Mail) : cr m = bif (decide (m.kind < 1) || decide (m.kind > 3)) then 4 else bif (decide (m.who < 0) || decide (m.who ≥ 3)) then 5 else
  bif m.kind == 1 then (bif !(gK m (want1 m)) then 4 else bif m.o.who != m.who then 4 else chkO m.o) else
  bif m.kind == 2 then (bif !(gK m (want2 m)) then 4 else bif pe m then 3 else cG m.v) else
  bif !(gK m (want3 m)) then 4 else bif pe m then 3 else cg m.d := by
 unfold cr
 cases h0 : (decide (m.kind < 1) || decide (m.kind > 3)) with
 | true => rfl
 | false =>
  cases h1 : (m.kind == 1) with
  | true => rfl
  | false =>
   cases h2 : (m.kind == 2) with
   | true => rfl
   | false =>
    have h3 : (m.kind == 3) = true := by
     simp only [Bool.or_eq_false_iff, decide_eq_false_iff_not, beq_eq_false_iff_ne] at h0 h1 h2
     simp only [beq_iff_eq]; omega
    rw [h3]; rfl
theorem oa (m : Mail) : cj [m] = cr m := by
 show (bif (cr m != 0) then cr m else 0) = cr m
 cases h : (cr m != 0) with
 | true => rfl
 | false => exact (ai h).symm
structure yo (m : Mail) : Prop where
 kind : m.kind = 2 ∨ m.kind = 3
 rng : 1 ≤ m.life ∧ m.life ≤ 50 ∧ 0 ≤ m.seq ∧ m.seq ≤ 30 ∧ 0 ≤ m.time ∧ m.time ≤ 10000 ∧ 1 ≤ m.version ∧ m.version ≤ 60 ∧ 0 ≤ m.frm ∧ m.frm < m.version
 view : m.kind = 2 → sw m.v
theorem qP (m : Mail) : pe m = false ↔ (1 ≤ m.life ∧ m.life ≤ 50 ∧ 0 ≤ m.seq ∧ m.seq ≤ 30 ∧ 0 ≤ m.time ∧ m.time ≤ 10000 ∧ 1 ≤ m.version ∧ m.version ≤ 60 ∧ 0 ≤ m.frm ∧ m.frm < m.version) := by
 simp only [pe, Bool.or_eq_false_iff, decide_eq_false_iff_not]; omega
theorem Aj {m : Mail} (h : cr m = 0) (h1 : m.kind ≠ 1) : yo m := by
 rw [pu, je (by decide), je (by decide), show (m.kind == 1) = false from beq_eq_false_iff_ne.2 h1, cond_false] at h
 obtain ⟨h2, _, h3⟩ := h
 simp only [Bool.or_eq_false_iff, decide_eq_false_iff_not] at h2
 cases h4 : (m.kind == 2) with
 | true =>
  rw [h4, cond_true, je (by decide), je (by decide)] at h3
  exact ⟨.inl (eq_of_beq h4), (qP m).1 h3.2.1, fun _ => (gD _).1 h3.2.2⟩
 | false =>
  rw [h4, cond_false, je (by decide), je (by decide)] at h3
  have h4 := beq_eq_false_iff_ne.1 h4
  exact ⟨.inr (by omega), (qP m).1 h3.2.1, fun h5 => absurd h5 h4⟩
def iH (c : Client) (m : Mail) (v : View) : Client := ⟨c.life, (if m.time > c.time then m.time else c.time), c.seq, c.pending.filter (fun o => !decide (o.seq ≤ m.seq)), m.version, v⟩
def stale (c : Client) (m : Mail) : Bool := ((m.life != c.life) || decide (m.version ≤ c.version)) || decide (m.seq > c.seq)
def cli0 : Client := ⟨0, 0, 0, [], 0, ⟨[], [], []⟩⟩
theorem AW (c : Client) (me : Int) (m : Mail) : bz c me m = bif bH c me != 0 then (cli0, bH c me) else bif cr m != 0 then (cli0, cr m) else
  bif (m.kind == 1) || (m.who != me) then (cli0, 4) else bif stale c m then (c, 0) else
  bif m.kind == 3 then (bif m.frm != c.version then (c, 0) else bif (cU c.v m.d).2 != 0 then (cli0, (cU c.v m.d).2) else (iH c m (cU c.v m.d).1, 0)) else (iH c m m.v, 0) := by
 unfold bz
 rw [oa]
 rfl
theorem zE {c : Client} {me : Int} {m : Mail} (h : (bz c me m).2 = 0) : IsCli c me ∧ yo m ∧ cr m = 0 ∧ (m.kind == 1 || m.who != me) = false ∧
  ((bz c me m).1 = c ∨ ∃ v, sw v ∧ stale c m = false ∧ (bz c me m).1 = iH c m v) := by
 rw [AW] at h ⊢
 cases h1 : (bH c me != 0) with
 | true => rw [h1, cond_true] at h; simp only at h; rw [h] at h1; cases h1
 | false =>
 rw [h1, cond_false] at h
 rw [cond_false]
 cases h2 : (cr m != 0) with
 | true => rw [h2, cond_true] at h; simp only at h; rw [h] at h2; cases h2
 | false =>
 rw [h2, cond_false] at h
 rw [cond_false]
 cases h3 : (m.kind == 1 || m.who != me) with
 | true => rw [h3, cond_true] at h; cases h
 | false =>
 rw [h3, cond_false] at h
 rw [cond_false]
 have hk := (Bool.or_eq_false_iff.1 h3).1
 have hs := Aj (ai h2) (beq_eq_false_iff_ne.1 hk)
 refine ⟨(fg _ _).1 (ai h1), hs, ai h2, rfl, ?_⟩
 cases h4 : stale c m with
 | true => exact .inl rfl
 | false =>
 rw [h4, cond_false] at h
 rw [cond_false]
 cases h5 : (m.kind == 3) with
 | false =>
  refine .inr ⟨m.v, hs.view ?_, rfl, rfl⟩
  have := beq_eq_false_iff_ne.1 h5
  have := hs.kind; omega
 | true =>
  rw [h5, cond_true] at h
  rw [cond_true]
  cases h6 : (m.frm != c.version) with
  | true => exact .inl rfl
  | false =>
   rw [h6, cond_false] at h
   rw [cond_false]
   cases h7 : ((cU c.v m.d).2 != 0) with
   | true => rw [h7, cond_true] at h; simp only at h; rw [h] at h7; cases h7
   | false => exact .inr ⟨_, p7 (ai h7), rfl, rfl⟩
theorem qZ : ∀ (l : List Op) (a s : Int), (∀ i, i < l.length → (gt l i).seq = a + (i : Int)) → ∃ n, n ≤ l.length ∧ (∀ o ∈ l.take n, o.seq ≤ s) ∧ l.filter (fun o => !decide (o.seq ≤ s)) = l.drop n ∧ (n < l.length → s - a + 1 ≤ n)
 | [], a, s, _ => ⟨0, Nat.le_refl _, (by simp), rfl, by simp⟩
 | o :: l, a, s, h => by
  have h0 := h 0 (by simp)
  simp only [gt, List.getD_cons_zero] at h0
  have hl : ∀ i, i < l.length → (gt l i).seq = (a + 1) + (i : Int) := fun i hi => by
   have := h (i + 1) (by simp; omega)
   simp only [gt, List.getD_cons_succ] at this ⊢
   omega
  obtain ⟨n, hn, h1, h2, h3⟩ := qZ l (a + 1) s hl
  by_cases hs : o.seq ≤ s
  ·refine ⟨n + 1, by simp; omega, fun p hp => ?_, ?_, fun hlt => by simp at hlt; have := h3 hlt; omega⟩
   ·rw [List.take_succ_cons] at hp
    rcases List.mem_cons.1 hp with rfl | hp
    ·exact hs
    ·exact h1 p hp
   ·rw [List.filter_cons_of_neg (by simp [hs]), h2]; rfl
  ·refine ⟨0, Nat.zero_le _, by simp, ?_, fun _ => by omega⟩
   rw [List.drop_zero, List.filter_eq_self]
   intro p hp
   obtain ⟨i, hi, rfl⟩ := List.getElem_of_mem hp
   have := h i hi
   rw [gt_eq hi] at this
   simp only [Bool.not_eq_true', decide_eq_false_iff_not]; omega
theorem vI (l : List Op) (n i : Nat) : gt (l.drop n) i = gt l (n + i) := by simp [gt, List.getD_eq_getElem?_getD]
theorem xV {c : Client} {me : Int} {m : Mail} {v : View} (h : IsCli c me) (hm : yo m) (hst : stale c m = false) (hv : sw v) : IsCli (iH c m v) me ∧ ∃ n, n ≤ c.pending.length ∧ (∀ o ∈ c.pending.take n, o.seq ≤ m.seq) ∧ (iH c m v).pending = c.pending.drop n := by
 obtain ⟨n, hn, h1, h2, h3⟩ := qZ c.pending (c.seq - (c.pending.length : Int) + 1) m.seq fun i hi => (h.pend i hi).seq
 have hp : (iH c m v).pending = c.pending.drop n := h2
 have hlen : (iH c m v).pending.length = c.pending.length - n := by rw [hp]; simp
 have hr := h.rng
 have hmr := hm.rng
 have hps := h.pseq
 have hfew := h.few
 simp only [stale, Bool.or_eq_false_iff, bne_eq_false_iff_eq, decide_eq_false_iff_not] at hst
 refine ⟨⟨h.num, ?_, by omega, hv, fun hl => ?_, fun hl => ?_, ?_, fun i hi => ?_⟩, n, hn, h1, hp⟩
 ·simp only [iH]; split <;> omega
 ·simp only [iH] at hl; omega
 ·simp only [iH] at hl; omega
 ·rw [hlen]; simp only [iH]; omega
 ·rw [hlen] at hi
  have hq := h.pend (n + i) (by omega)
  have hg : gt (iH c m v).pending i = gt c.pending (n + i) := by rw [hp, vI]
  have htm := hq.time
  refine ⟨by rw [hg]; exact hq.ok, by rw [hg]; exact hq.who, by rw [hg]; exact hq.life, ?_, ?_, fun h0 => ?_⟩
  ·rw [hg, hq.seq, hlen]; simp only [iH]; omega
  ·rw [hg]; simp only [iH]; split <;> omega
  ·rw [hg, show gt (iH c m v).pending (i - 1) = gt c.pending (n + i - 1) by rw [hp, vI]; congr 1; omega]
   exact hq.up (by omega)
theorem IsCli.ops {c : Client} {me : Int} (h : IsCli c me) : ∀ o ∈ c.pending, chkO o = 0 := fun o ho => by
 obtain ⟨i, hi, rfl⟩ := List.getElem_of_mem ho
 have := (h.pend i hi).ok
 rwa [gt_eq hi] at this
def ja (c : Client) (o : Op) : Client := ⟨c.life, o.time, o.seq, c.pending ++ [o], c.version, c.v⟩
theorem wj {c : Client} {me node parent name : Int} (h : (dq c me node parent name).2.2 = 0) : IsCli c me ∧ c.life ≠ 0 ∧ c.pending.length ≠ 8 ∧ c.time ≠ 10000 ∧ c.seq ≠ 30 ∧ chkO ⟨c.time + 1, me, node, parent, name, c.life, c.seq + 1⟩ = 0 ∧
  dq c me node parent name = (ja c ⟨c.time + 1, me, node, parent, name, c.life, c.seq + 1⟩, ⟨c.time + 1, me, node, parent, name, c.life, c.seq + 1⟩, 0) := by
 unfold dq at h ⊢
 cases h1 : (bH c me != 0) with
 | true => rw [h1, cond_true] at h; simp only at h; rw [h] at h1; cases h1
 | false =>
 rw [h1, cond_false] at h
 cases h2 : (c.life == 0) with
 | true => rw [h2, cond_true] at h; cases h
 | false =>
 rw [h2, cond_false] at h
 cases h3 : ((((c.pending.length : Int) == 8) || (c.time == 10000)) || (c.seq == 30)) with
 | true => rw [h3, cond_true] at h; cases h
 | false =>
 rw [h3, cond_false] at h
 cases h4 : (c8 (⟨(c.time + 1), me, node, parent, name, c.life, (c.seq + 1)⟩ : Op) != 0) with
 | true => rw [h4, cond_true] at h; simp only at h; rw [h] at h4; cases h4
 | false =>
 simp only [Bool.or_eq_false_iff, beq_eq_false_iff_ne] at h2 h3
 exact ⟨(fg _ _).1 (ai h1), h2, by omega, h3.1.2, h3.2, ai h4, rfl⟩
theorem ph {l : List Op} {o : Op} {i : Nat} (h : i < l.length) : gt (l ++ [o]) i = gt l i := by
 simp [gt, List.getD_eq_getElem?_getD, List.getElem?_append_left h]
theorem t6 {c : Client} {me node parent name : Int} (h : IsCli c me) (h1 : c.life ≠ 0) (h2 : c.pending.length ≠ 8) (h3 : c.time ≠ 10000) (h4 : c.seq ≠ 30) (ho : chkO ⟨c.time + 1, me, node, parent, name, c.life, c.seq + 1⟩ = 0) : IsCli (ja c ⟨c.time + 1, me, node, parent, name, c.life, c.seq + 1⟩) me := by
 have hr := h.rng
 have hf := h.few
 have hp := h.pseq
 have hlen : (ja c ⟨c.time + 1, me, node, parent, name, c.life, c.seq + 1⟩).pending.length = c.pending.length + 1 := by simp [ja]
 refine ⟨h.num, by simp only [ja]; omega, by omega, h.view, fun hl => absurd hl h1, h.vers, by rw [hlen]; simp only [ja]; omega, fun i hi => ?_⟩
 rw [hlen] at hi
 rcases Nat.lt_or_ge i c.pending.length with hlt | hge
 ·have hq := h.pend i hlt
  have hg : gt (ja c ⟨c.time + 1, me, node, parent, name, c.life, c.seq + 1⟩).pending i = gt c.pending i := ph hlt
  have hs := hq.seq
  have ht := hq.time
  refine ⟨by rw [hg]; exact hq.ok, by rw [hg]; exact hq.who, by rw [hg]; exact hq.life, ?_, ?_, fun h0 => ?_⟩
  ·rw [hg, hs, hlen]; simp only [ja]; omega
  ·rw [hg]; simp only [ja]; omega
  ·rw [hg, show gt (ja c ⟨c.time + 1, me, node, parent, name, c.life, c.seq + 1⟩).pending (i - 1) = gt c.pending (i - 1) from ph (by omega)]
   exact hq.up h0
 ·have hi' : i = c.pending.length := by omega
  have hg : gt (ja c ⟨c.time + 1, me, node, parent, name, c.life, c.seq + 1⟩).pending i = ⟨c.time + 1, me, node, parent, name, c.life, c.seq + 1⟩ := lp _ _ [] _ hi'
  refine ⟨by rw [hg]; exact ho, by rw [hg], by rw [hg]; rfl, ?_, ?_, fun h0 => ?_⟩
  ·rw [hg, hlen]; simp only [ja]; omega
  ·rw [hg]; simp only [ja]; omega
  ·rw [hg, show gt (ja c ⟨c.time + 1, me, node, parent, name, c.life, c.seq + 1⟩).pending (i - 1) = gt c.pending (i - 1) from ph (by omega)]
   have := (h.pend (i - 1) (by omega)).time
   show _ < c.time + 1
   omega
theorem rK (a b : Delta) : lv a b = true ↔ a = b := by
 obtain ⟨a1, a2, a3, a4⟩ := a; obtain ⟨b1, b2, b3, b4⟩ := b
 simp [lv, and_assoc]
theorem mG (a b : Mail) : gK a b = true ↔ a = b := by
 obtain ⟨a1, a2, a3, a4, a5, a6, a7, a8, a9, a10⟩ := a
 obtain ⟨b1, b2, b3, b4, b5, b6, b7, b8, b9, b10⟩ := b
 simp only [gK, Bool.and_eq_true, beq_iff_eq, decide_eq_true_eq, v7, rK, Mail.mk.injEq, and_assoc]
theorem hl_e (gone : List Int) (l : List Place) (e : Int) : ∀ (r : List Place) (k : Nat), hl gone l e r k = bif hl gone l 0 r k != 0 then hl gone l 0 r k else e
 | [], _ => rfl
 | p :: r, k => by
  rw [hl, hl]
  cases plcB p with
  | true => rfl
  | false =>
   cases ((decide ((k : Int) > 0) && decide ((gt l (k - 1)).node ≥ p.node)) || decide (p.node ∈ gone)) with
   | true => rfl
   | false => exact hl_e gone l e r (k + 1)
theorem gl_e (l : List Int) (e : Int) : ∀ (r : List Int) (k : Nat), gl l e r k = bif gl l 0 r k != 0 then gl l 0 r k else e
 | [], _ => rfl
 | p :: r, k => by
  rw [gl, gl]
  cases (decide (p < 1) || decide (p ≥ 16)) with
  | true => rfl
  | false =>
   cases (decide ((k : Int) > 0) && decide (gt l (k - 1) ≥ p)) with
   | true => rfl
   | false => exact gl_e l e r (k + 1)
theorem half_e (g : List Int) (h : List Place) (e : Int) : half g h e = bif half g h 0 != 0 then half g h 0 else e := by
 unfold half
 cases (decide ((g.length : Int) > 16) || decide ((h.length : Int) > 16)) with
 | true => rfl
 | false =>
  simp only [cond_false]
  rw [gl_e g (hl g h e h 0), gl_e g (hl g h 0 h 0), hl_e g h e]
  cases h1 : (gl g 0 g 0 != 0) with
  | true => simp [h1]
  | false => simp
theorem sf (gone : List Int) (l : List Place) : ∀ (r : List Place) (k : Nat) (last : Int), r = l.drop k → last = (if k = 0 then 0 else (gt l (k - 1)).node) → dL gone r last = hl gone l 0 r k
 | [], _, _, _, _ => rfl
 | p :: r, k, last, hr, hl' => by
  have hk : k < l.length := by have := congrArg List.length hr; simp at this; omega
  rw [aU hk] at hr
  obtain ⟨hn, hr'⟩ := List.cons.inj hr
  rw [dL, hl, o5, rZ]
  cases h1 : plcB p with
  | true => rfl
  | false =>
   have hp := jC ((sZ p).1 h1)
   have h3 : decide (p.node ≤ last) = (decide ((k : Int) > 0) && decide ((gt l (k - 1)).node ≥ p.node)) := by
    rw [Bool.eq_iff_iff]
    simp only [Bool.and_eq_true, decide_eq_true_eq]
    rw [hl']
    by_cases hz : k = 0
    ·subst hz; simp; omega
    ·simp [hz]; omega
   rw [h3, sf gone l r (k + 1) p.node hr' (by simp [hn])]
   rfl
theorem sg (gone : List Int) (here : List Place) : ∀ (r : List Int) (k : Nat) (last : Int), r = gone.drop k → last = (if k = 0 then 0 else gt gone (k - 1)) → er gone here r last = gl gone (dL gone here 0) r k
 | [], _, _, _, _ => rfl
 | n :: r, k, last, hr, hl' => by
  have hk : k < gone.length := by have := congrArg List.length hr; simp at this; omega
  rw [aU hk] at hr
  obtain ⟨hn, hr'⟩ := List.cons.inj hr
  rw [er, gl]
  have h0 : (!(ap n 1 15)) = (decide (n < 1) || decide (n ≥ 16)) := by
   unfold ap
   rw [Bool.eq_iff_iff]
   simp only [Bool.or_eq_true, Bool.not_eq_true', Bool.and_eq_false_iff, decide_eq_false_iff_not, decide_eq_true_eq]
   omega
  rw [h0]
  cases h1 : (decide (n < 1) || decide (n ≥ 16)) with
  | true => rfl
  | false =>
   simp at h1
   have h3 : decide (n ≤ last) = (decide ((k : Int) > 0) && decide (gt gone (k - 1) ≥ n)) := by
    rw [Bool.eq_iff_iff]
    simp only [Bool.and_eq_true, decide_eq_true_eq]
    rw [hl']
    by_cases hz : k = 0
    ·subst hz; simp; omega
    ·simp [hz]; omega
   rw [h3, cond_false, cond_false, sg gone here r (k + 1) n hr' (by simp [hn])]
theorem vx (g : List Int) (h : List Place) : ec g h = half g h 0 := by
 unfold ec half
 rw [sg g h g 0 0 rfl rfl, sf g h h 0 0 rfl rfl]
theorem tD (d : Delta) : ei d = cg d := by
 unfold ei
 rw [vx, vx, nK, half_e d.gone d.here (half d.wayGone d.wayHere 0)]
theorem ly (c : Client) (me : Int) (ht : ∀ o ∈ c.pending, chkO o = 0 → 0 < o.time) : ∀ (r : List Op) (k : Nat) (seq last : Int), r = c.pending.drop k → seq = c.seq - (c.pending.length : Int) + (k : Int) → last = (if k = 0 then 0 else (gt c.pending (k - 1)).time) → de c me r seq last = el c me r k
 | [], k, _, _, _, _, _ => rfl
 | p :: r, k, seq, last, h, hs, hl => by
  have hk : k < c.pending.length := by
   rcases Nat.lt_or_ge k c.pending.length with h' | h'
   ·exact h'
   ·rw [List.drop_of_length_le h'] at h; cases h
  rw [aU hk] at h
  obtain ⟨rfl, h'⟩ := List.cons.inj h
  rw [de, el, gf, eA]
  cases h1 : (chkO (gt c.pending k) != 0) with
  | true => rfl
  | false =>
   rw [cond_false, cond_false]
   have h2 := ht _ (im hk) (ai h1)
   have h3 := ly c me ht r (k + 1) (seq + 1) (gt c.pending k).time h' (by omega) (by simp)
   rw [h3]
   congr 1
   rw [Bool.eq_iff_iff]
   simp only [Bool.or_eq_true, bne_iff_ne, decide_eq_true_eq, Bool.and_eq_true]
   rcases Nat.eq_zero_or_pos k with h4 | h4
   ·rw [if_pos h4] at hl
    subst hl hs; omega
   ·rw [if_neg (by omega)] at hl
    subst hl hs; omega
theorem rN (c : Client) (me : Int) : cq c me = bH c me := by
 unfold cq bH
 refine eZ ?_ (fun _ => rfl) fun _ => eZ ?_ (fun _ => rfl) fun h2 => eZ rfl (fun _ => rfl) fun _ => ?_
 ·rw [Bool.eq_iff_iff]
  simp only [Bool.not_eq_true', nT, Bool.or_eq_true, decide_eq_true_eq]; omega
 ·rw [Bool.eq_iff_iff]
  simp only [Bool.not_eq_true', nT, Bool.or_eq_true, decide_eq_true_eq]; omega
 rw [pX]
 refine eZ rfl (fun _ => rfl) fun _ => eZ ?_ (fun _ => rfl) fun _ => ?_
 ·simp only [Bool.or_eq_false_iff, decide_eq_false_iff_not] at h2
  rw [Bool.eq_iff_iff]
  simp only [Bool.or_eq_true, decide_eq_true_eq, Bool.and_eq_true, beq_iff_eq, bne_iff_ne]; omega
 ·exact ly c me (fun o _ ho => by have := ky ho; omega) c.pending 0 _ 0 rfl (by simp) rfl
theorem yW (a b c : Nat) : decide ((a : Int) + (b : Int) + (c : Int) > 0) = false ↔ a = 0 ∧ b = 0 ∧ c = 0 := by
 rw [decide_eq_false_iff_not]; omega
theorem yU (a b c d : Nat) : decide ((a : Int) + (b : Int) + (c : Int) + (d : Int) > 0) = false ↔ a = 0 ∧ b = 0 ∧ c = 0 ∧ d = 0 := by
 rw [decide_eq_false_iff_not]; omega
theorem tC (m : Mail) : cy [m] = cr m := by
 show bj [m] = cr m
 rw [bj, bj, pu]
 obtain ⟨kind, who, life, seq, time, version, frm, o, v, d⟩ := m
 simp only [gf, tD, pX]
 have one : ∀ x : Int, (bif x != 0 then x else 0) = x := fun x => by
  cases h : (x != 0) with
  | true => rfl
  | false => exact (ai h).symm
 simp only [one]
 have hv : decide ((v.roots.length : Int) + (v.known.length : Int) + (v.way.length : Int) > 0) = !decide (v = ⟨[], [], []⟩) := by
  rw [Bool.eq_iff_iff, ← Bool.not_eq_false, yW]
  obtain ⟨a, b, c⟩ := v
  simp only [List.length_eq_zero_iff, Bool.not_eq_true', decide_eq_false_iff_not, View.mk.injEq]
 have hd : decide ((d.gone.length : Int) + (d.here.length : Int) + (d.wayGone.length : Int) + (d.wayHere.length : Int) > 0) = !decide (d = ⟨[], [], [], []⟩) := by
  rw [Bool.eq_iff_iff, ← Bool.not_eq_false, yU]
  obtain ⟨a, b, c, e⟩ := d
  simp only [List.length_eq_zero_iff, Bool.not_eq_true', decide_eq_false_iff_not, Delta.mk.injEq]
 rw [hv, hd]
 refine eZ ?_ (fun _ => rfl) fun h1 => eZ ?_ (fun _ => rfl) fun h2 => ?_
 ·rw [Bool.eq_iff_iff]
  simp only [Bool.not_eq_true', nT, Bool.or_eq_true, decide_eq_true_eq]; omega
 ·rw [Bool.eq_iff_iff]
  simp only [Bool.not_eq_true', nT, Bool.or_eq_true, decide_eq_true_eq]; omega
 have hbad : ((((!ap life 1 50 || !ap seq 0 30) || !ap time 0 10000) || !ap version 1 60) || !ap frm 0 (version - 1)) = pe ⟨kind, who, life, seq, time, version, frm, o, v, d⟩ := by
  rw [Bool.eq_iff_iff]
  simp only [pe, Bool.not_eq_true', nT, Bool.or_eq_true, decide_eq_true_eq]; omega
 cases h3 : (kind == 1) with
 | true =>
  simp only [Bool.true_and, cond_true]
  have hw : gK ⟨kind, who, life, seq, time, version, frm, o, v, d⟩ (want1 ⟨kind, who, life, seq, time, version, frm, o, v, d⟩) = !((((((life != 0 || seq != 0) || time != 0) || version != 0) || frm != 0) || !decide (v = ⟨[], [], []⟩)) || !decide (d = ⟨[], [], [], []⟩)) := by
   rw [Bool.eq_iff_iff, mG]
   simp only [want1, Mail.mk.injEq, Bool.not_eq_true', Bool.or_eq_false_iff, bne_eq_false_iff_eq, Bool.not_eq_false', decide_eq_true_eq]
   simp only [true_and, and_assoc]
  rw [hw, Bool.not_not]
  cases ((((((life != 0 || seq != 0) || time != 0) || version != 0) || frm != 0) || !decide (v = ⟨[], [], []⟩)) || !decide (d = ⟨[], [], [], []⟩)) <;> rfl
 | false =>
  simp only [Bool.false_and, cond_false]
  rw [hbad]
  cases h4 : (kind == 2) with
  | true =>
   have h5 : (kind == 3) = false := by have := eq_of_beq h4; subst this; rfl
   rw [h5]
   simp only [Bool.true_and, Bool.false_and, cond_true, cond_false]
   have hw : gK ⟨kind, who, life, seq, time, version, frm, o, v, d⟩ (want2 ⟨kind, who, life, seq, time, version, frm, o, v, d⟩) = !((!decide (o = ⟨0, 0, 0, 0, 0, 0, 0⟩)) || (frm != 0 || !decide (d = ⟨[], [], [], []⟩))) := by
    rw [Bool.eq_iff_iff, mG]
    simp only [want2, Mail.mk.injEq, Bool.not_eq_true', Bool.or_eq_false_iff, bne_eq_false_iff_eq, Bool.not_eq_false', decide_eq_true_eq, true_and, and_true]
    constructor <;> exact fun ⟨x, y, z⟩ => ⟨y, x, z⟩
   rw [hw, Bool.not_not]
   cases (!decide (o = ⟨0, 0, 0, 0, 0, 0, 0⟩)) <;> cases (frm != 0 || !decide (d = ⟨[], [], [], []⟩)) <;> rfl
  | false =>
   have h5 : (kind == 3) = true := by
    simp only [Bool.or_eq_false_iff, decide_eq_false_iff_not] at h1
    have := beq_eq_false_iff_ne.1 h3; have := beq_eq_false_iff_ne.1 h4
    simp only [beq_iff_eq]; omega
   rw [h5]
   simp only [Bool.true_and, Bool.false_and, cond_true, cond_false]
   have hw : gK ⟨kind, who, life, seq, time, version, frm, o, v, d⟩ (want3 ⟨kind, who, life, seq, time, version, frm, o, v, d⟩) = !((!decide (o = ⟨0, 0, 0, 0, 0, 0, 0⟩)) || !decide (v = ⟨[], [], []⟩)) := by
    rw [Bool.eq_iff_iff, mG]
    simp only [want3, Mail.mk.injEq, Bool.not_eq_true', Bool.or_eq_false_iff, Bool.not_eq_false', decide_eq_true_eq, true_and, and_true]
   rw [hw, Bool.not_not]
   cases (!decide (o = ⟨0, 0, 0, 0, 0, 0, 0⟩)) <;> cases (!decide (v = ⟨[], [], []⟩)) <;> rfl
def TL (f : Int → Int) : Prop := ∀ t, f t = bif f 0 != 0 then f 0 else t
theorem TL.const {n : Int} (h : (n != 0) = true) : TL (fun _ => n) := fun t => by rw [h]; rfl
theorem TL.last (e : Int) : TL (fun t => bif e != 0 then e else t) := fun t => by
 cases h : (e != 0) with
 | true => simp only [cond_true, h]
 | false => rfl
theorem TL.bif {f g : Int → Int} (c : Bool) (hf : TL f) (hg : TL g) : TL (fun t => bif c then f t else g t) := fun t => by
 cases c with
 | true => exact hf t
 | false => exact hg t
theorem rM (m : Mail) (r : List Mail) : bj (m :: r) = bif cr m != 0 then cr m else bj r := by
 have h1 : bj [m] = cr m := tC m
 rw [← h1]
 exact (TL.bif _ (.const rfl) (.bif _ (.const rfl) (.bif _ (.const rfl) (.bif _ (.last _) (.bif _ (.const rfl) (.bif _ (.const rfl) (.bif _ (.const rfl) (.bif _ (.const rfl) (.bif _ (.last _) (.last _))))))))) ) (bj r)
theorem ne : ∀ l : List Mail, bj l = fm l
 | [] => rfl
 | m :: r => by rw [rM, fm, ne r]
theorem uy (l : List Mail) : cy l = cj l := by
 unfold cy cj
 rw [ne]
end Go.Proofs.YtkjccbdeaflekaaGreatDoor

namespace Go.Proofs.YtkjccbdeaflekaaGreatDoor.Fw
open Go Go.RowKit Go.ChangeShapes Go.WideShapes Go.Deep
section
variable {P : Program} {H : Type} {enc : TypeId × Value → H} {w : World}
theorem u7 {n : Int} (h : (Lit.int .u8 n).wf = true) : ∃ b : UInt8, yV b = .int .u8 n := by
 have hn : 0 ≤ n ∧ n < 256 := by
  simp [Lit.wf] at h
  have h1 : IntKind.u8.min = 0 := rfl
  have h2 : IntKind.u8.max = 255 := rfl
  omega
 refine ⟨UInt8.ofNat n.toNat, ?_⟩
 have : ((UInt8.ofNat n.toNat).toNat : Int) = n := by simp [UInt8.toNat_ofNat']; omega
 simp only [yV, this]
theorem wC {t e : TypeId} {fuel : Nat} {cs : List Value} {x : DataW H × List MemPlace} (ht : P.underlying t = some (.slice e)) (he : P.underlying e = some (.int .u8)) (hc : P.cellsOf e = 1) (hby : P.bytesOf e = 1)
  (h : DataW.trod enc P w 0 (fun _ => true) true fuel t cs = some x) (hsz : (x.1.weights P t).all (· ≤ reachBytes) = true) :
  ∃ (X : SlV) (l : List UInt8), cs = [X.val l.length] ∧ RdL EByte X l (fun _ => False) w := by
 rcases open_slice ht h with ⟨rfl, _⟩ | ⟨a, len, cap, m, n, D, Pl, rfl, _, hlc, hcm, hm, hx, hi⟩
 ·exact ⟨⟨none, 0⟩, [], rfl, RdL.nil EByte none 0 (by omega) _ _⟩
 ·simp only [if_true] at hm
  have hrow : ∀ i, i < len → ∃ a0 : UInt8, ∀ (j : Nat) (v : Value), (EByte.enc a0)[j]? = some v → w.cell? (a.add (i * 1 + j)) = some v := by
   intro i hil
   obtain ⟨cs', hcs, htr⟩ := hi i (by omega)
   obtain ⟨n0, rfl, _, hwf⟩ := DataW.trod_int he htr
   obtain ⟨b, hb⟩ := u7 hwf
   obtain ⟨_, hl, hat⟩ := World.cells?_some hcs
   refine ⟨b, fun j v hv => ?_⟩
   obtain ⟨hlt, _⟩ := List.getElem?_eq_some_iff.1 hv
   have hv' : ([yV b] : List Value)[j]? = some v := hv
   have hlt' : j < 1 := hlt
   have := hat j (by rw [hc]; exact hlt')
   rw [hc, hQ] at this
   rw [this, ← hv', hb]
  obtain ⟨l, hl, hp⟩ := nW hrow
  have hbound : l.length * 1 ≤ 140737488355328 := by
   subst hx
   rw [List.all_eq_true] at hsz
   have := hsz ((len + (m - len)) * 1) (by simp [DataW.weights, ht, hby])
   have h3 : reachBytes ≤ 140737488355328 := by decide
   simp at this
   omega
  refine ⟨⟨some a, cap⟩, l, by rw [hl]; rfl, ⟨by rw [hl]; exact hlc, by simpa [maxLen] using hcm, hbound, fun hpl => ⟨a, rfl, ?_, fun h => h, fun i hi j v hv => hp i hi j v hv⟩⟩⟩
  have h0 := hp 0 hpl
  have := h0 0 _ (List.getElem?_eq_getElem (show 0 < (EByte.enc l[0]).length from Nat.one_pos))
  have hcell := this
  unfold World.cell? at hcell
  rw [ke] at hcell
  cases hh : w.heap[a.block]? with
  | none => simp [hh] at hcell
  | some ob => exact jm hh
theorem uO {t e : TypeId} (ht : P.underlying t = some (.slice e)) (he : P.underlying e = some (.int .u8)) (hc : P.cellsOf e = 1) (hby : P.bytesOf e = 1) :
  Opens P t (fun (l : List UInt8) (X : SlV) => [X.val l.length]) (fun l X => [RdL EByte X l]) := .mk fun enc w fuel cs x hx hs => by
 obtain ⟨X, l, h1, h2⟩ := wC ht he hc hby hx hs
 exact ⟨l, X, h1, fun F hF => by rw [List.mem_singleton] at hF; subst hF; exact h2⟩
end
end Go.Proofs.YtkjccbdeaflekaaGreatDoor.Fw

namespace Go.Proofs.YtkjccbdeaflekaaGreatDoor.Fw
open Go Go.RowKit Go.ChangeShapes Go.WideShapes Go.Deep
section
variable {P : Program} {H : Type}
theorem nz {e : TypeId} : ∀ {ds : List (DataW H)} {d : DataW H}, d ∈ ds → ∀ {n : Nat}, n ∈ d.weights P e → n ∈ DataW.weightsAll P e ds
 | a :: r, d, h, n, hn => by
  rw [DataW.weightsAll, List.mem_append]
  rcases List.mem_cons.1 h with rfl | h
  ·exact .inl hn
  ·exact .inr (nz h hn)
theorem mX {α : Type} [Inhabited α] (EN : En α) {t e : TypeId} (ht : P.underlying t = some (.slice e)) (hO : Opens P e (fun (a : α) (g : EN.G) => EN.E.enc (g, a)) (fun a g => EN.facts (g, a))) (hc : P.cellsOf e = EN.E.esz) (hpos : Nat.blt 0 EN.E.esz = true) (hby : P.bytesOf e = EN.E.by_) :
  Opens P t (fun (l : List α) (X : SlV) => [X.val l.length]) (fun l X => [RdN EN X l]) := .mk fun {H} enc w fuel cs x hx hsz => by
 have hpos := Nat.le_of_ble_eq_true hpos
 rcases open_slice ht hx with ⟨rfl, _⟩ | ⟨a, len, cap, m, n, D, Pl, rfl, _, hlc, hcm, hm, hx, hi⟩
 ·exact ⟨[], ⟨none, 0⟩, rfl, fun F hF => by rw [List.mem_singleton] at hF; subst hF; exact RdN.nil EN _ _⟩
 ·simp only [if_true] at hm
  subst hx
  rw [List.all_eq_true] at hsz
  have hrow : ∀ i, i < len → ∃ p : EN.G × α, (∀ (j : Nat) (v : Value), (EN.E.enc p)[j]? = some v → w.cell? (a.add (i * EN.E.esz + j)) = some v) ∧ ∀ F ∈ EN.facts p, F (fun _ => False) w := by
   intro i hil
   obtain ⟨cs', hcs, htr⟩ := hi i (by omega)
   have hw : ((D i).weights P e).all (· ≤ reachBytes) = true := by
    rw [List.all_eq_true]
    intro k hk
    refine hsz k ?_
    simp only [DataW.weights, ht, List.mem_cons, List.mem_append]
    exact .inr (.inl (nz (List.mem_map.2 ⟨i, List.mem_range.2 hil, rfl⟩) hk))
   obtain ⟨a0, g0, rfl, hf⟩ := hO.op enc w n cs' (D i, Pl i) htr hw
   obtain ⟨_, hl, hat⟩ := World.cells?_some hcs
   refine ⟨(g0, a0), fun j v hv => ?_, hf⟩
   obtain ⟨hlt, _⟩ := List.getElem?_eq_some_iff.1 hv
   have := hat j (by omega)
   rw [hc, hQ] at this
   rw [this, hv]
  obtain ⟨hs, hl, hp⟩ := nW hrow
  have hbound : hs.length * EN.E.by_ ≤ 140737488355328 := by
   have := hsz ((len + (m - len)) * EN.E.by_) (by simp [DataW.weights, ht, hby])
   have h2 : hs.length * EN.E.by_ ≤ (len + (m - len)) * EN.E.by_ := Nat.mul_le_mul_right _ (by omega)
   have h3 : reachBytes ≤ 140737488355328 := by decide
   simp at this
   omega
  have hrd : RdL EN.E ⟨some a, cap⟩ hs (fun _ => False) w := ⟨by rw [hl]; exact hlc, by simpa [maxLen] using hcm, hbound, fun hpl => ⟨a, rfl, by
   have h0 := (hp 0 hpl).1
   have hle : (EN.E.enc hs[0]).length = EN.E.esz := EN.E.len _
   have hcell := h0 0 _ (List.getElem?_eq_getElem (by omega))
   unfold World.cell? at hcell
   rw [ke] at hcell
   cases hh : w.heap[a.block]? with
   | none => simp [hh] at hcell
   | some ob => exact jm hh, fun h => h, fun i hi j v hv => (hp i hi).1 j v hv⟩⟩
  refine ⟨hs.map (·.2), ⟨some a, cap⟩, by rw [List.length_map, hl]; rfl, fun F hF => ?_⟩
  rw [List.mem_singleton] at hF
  subst hF
  exact RdN.of EN rfl hrd fun p hp' => by
   obtain ⟨i, hi', rfl⟩ := List.getElem_of_mem hp'
   exact (hp i hi').2
end
end Go.Proofs.YtkjccbdeaflekaaGreatDoor.Fw
