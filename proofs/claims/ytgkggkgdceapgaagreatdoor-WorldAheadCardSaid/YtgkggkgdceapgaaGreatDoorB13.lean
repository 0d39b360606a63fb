/- Part of this claim. No condition. -/
import Derived.Test.YtgkggkgdceapgaaGreatDoorB12
import Derived.Test.YtgkggkgdceapgaaGreatDoorB9
import Derived.Test.YtgkggkgdceapgaaGreatDoorB4
import Derived.Test.YtgkggkgdceapgaaGreatDoorB11
import Derived.Test.YtgkggkgdceapgaaGreatDoorRows
import Derived.Stop.LaidErr
import Derived.Shelf.Vars
import Derived.LaidMore
import Derived.Lay
import Derived.Handed
import Derived.SizedLaws
import Derived.Stop.Joined
import Derived.ProofKit
import Derived.Test.YtgkggkgdceapgaaGreatDoorB2
set_option linter.unusedVariables false
set_option linter.unusedSimpArgs false
namespace Go.Proofs.YtgkggkgdceapgaaGreatDoor
open Go Go.Proofs.YtgkggkgdceapgaaGreatDoor.Fw Go.Proofs
theorem qR {c : UInt8} : ∀ {s : Str}, (cutc c s).2.2 = true → s = (cutc c s).1 ++ c :: (cutc c s).2.1
 | [], h => by simp [cutc] at h
 | b :: r, h => by
  rw [cutc] at h ⊢
  cases hb : (b == c) with
  | true => rw [cond_true, eq_of_beq hb]; rfl
  | false =>
   rw [hb, cond_false] at h
   rw [cond_false]
   simp only [List.cons_append]
   rw [← qR h]
theorem md (s0 : Str) (most : Int) : ∀ (f : Nat) (s : Str) (acc : List Rec), s.length < f → (acc.length : Int) ≤ most → ∃ m t, s = bz m ++ t ∧ AllR m ∧ ((acc ++ m).length : Int) ≤ most ∧
  (bP s0 most f s acc).1 = acc ++ m ∧ (bP s0 most f s acc).2.1 = (s0.length : Int) - (t.length : Int) ∧ ((bP s0 most f s acc).2.2 = 0 → t = [])
 | 0, s, acc, hf, _ => absurd hf (Nat.not_lt_zero _)
 | f + 1, s, acc, hf, ha => by
  rw [bP]
  cases h1 : (s != ([] : Str)) with
  | false =>
   have hs : s = [] := by simpa using h1
   subst hs
   exact ⟨[], [], rfl, (fun _ h => by cases h), by simpa using ha, by simp, by simp, fun _ => rfl⟩
  | true =>
   simp only [cond_true]
   cases h2 : (!(cutc 10 s).2.2) with
   | true => simp only [cond_true]; exact ⟨[], s, by simp [fN], (fun _ h => by cases h), by simpa using ha, by simp, rfl, fun h => absurd h (by decide)⟩
   | false =>
    have h2 : (cutc 10 s).2.2 = true := by simpa using h2
    simp only [cond_false]
    cases h3 : ((aW (cutc 10 s).1).2 != 0) with
    | true => simp only [cond_true]; exact ⟨[], s, by simp [fN], (fun _ h => by cases h), by simpa using ha, by simp, rfl, fun h => by rw [h] at h3; cases h3⟩
    | false =>
     simp only [cond_false]
     cases h4 : ((acc.length : Int) == most) with
     | true => simp only [cond_true]; exact ⟨[], s, by simp [fN], (fun _ h => by cases h), by simpa using ha, by simp, rfl, fun h => absurd h (by decide)⟩
     | false =>
      have h4 := beq_eq_false_iff_ne.1 h4
      simp only [cond_false]
      have hp := vW (s := (cutc 10 s).1) (x := (aW (cutc 10 s).1).1) (Prod.ext rfl (ag h3))
      have hlt := pU 10 s h2
      obtain ⟨m, t, g1, g2, g3, g4, g5, g6⟩ := md s0 most f (cutc 10 s).2.1 (acc ++ [(aW (cutc 10 s).1).1]) (by omega) (by simp only [List.length_append, List.length_cons, List.length_nil]; omega)
      refine ⟨(aW (cutc 10 s).1).1 :: m, t, ?_, ?_, ?_, ?_, g5, g6⟩
      ·have hj := qR h2
       rw [iG, hp.2, List.append_assoc, List.cons_append, ← g1]
       exact hj
      ·intro x hx
       rcases List.mem_cons.1 hx with rfl | hx
       ·exact hp.1
       ·exact g2 x hx
      ·simpa using g3
      ·rw [g4]; simp
theorem pb (s : Str) {most : Int} (h : 0 ≤ most) : ∃ m t, s = bz m ++ t ∧ AllR m ∧ (m.length : Int) ≤ most ∧ (aB s most).1 = m ∧ (aB s most).2.1 = ((bz m).length : Int) ∧ ((aB s most).2.2 = 0 → t = []) := by
 obtain ⟨m, t, g1, g2, g3, g4, g5, g6⟩ := md s most (s.length + 1) s [] (by omega) (by simpa using h)
 refine ⟨m, t, g1, g2, by simpa using g3, (by rw [List.nil_append] at g4; exact g4), ?_, g6⟩
 have : (aB s most).2.1 = (s.length : Int) - (t.length : Int) := g5
 rw [this, g1, List.length_append]; omega
theorem oW {d : Disk} (h : c8 d = 0) : ∃ l, AllR l ∧ l.length ≤ 60 ∧ d.safe = bz l := by
 unfold c8 at h
 cases h1 : (decide ((d.safe.length : Int) > 60000) || decide ((d.wait.length : Int) > (60000 - (d.safe.length : Int)))) with
 | true => rw [h1] at h; cases h
 | false =>
  rw [h1, cond_false] at h
  obtain ⟨m, t, g1, g2, g3, g4, g5, g6⟩ := pb d.safe (most := 60) (by decide)
  refine ⟨m, g2, by omega, ?_⟩
  rw [g1, g6 h, List.append_nil]
theorem rB {d : Disk} (h : (aH d).2.2 = 0) : ∃ l, AllR l ∧ l.length ≤ 60 ∧ aH d = (⟨bz l, []⟩, l, 0) ∧ (d.wait = [] → d = ⟨bz l, []⟩) := by
 unfold aH at h ⊢
 cases h1 : (c8 d != 0) with
 | true => rw [h1, cond_true] at h; simp only at h; rw [h] at h1; cases h1
 | false =>
  obtain ⟨l, a1, a2, a3⟩ := oW (ag h1)
  have e1 : aB d.safe 60 = (l, ((bz l).length : Int), 0) := by rw [a3]; exact od 60 a1 (by omega)
  obtain ⟨m, t, g1, g2, g3, g4, g5, g6⟩ := pb d.wait (most := 60 - (l.length : Int)) (by omega)
  have hall : AllR (l ++ m) := fun x hx => (List.mem_append.1 hx).elim (a1 x) (g2 x)
  refine ⟨l ++ m, hall, by rw [List.length_append]; omega, ?_, fun hw => ?_⟩
  ·simp only [cond_false, e1, g4, g5, Int.toNat_natCast]
   have e2 : d.wait.take (bz m).length = bz m := by rw [g1, List.take_left]
   rw [e2, a3, fO]
   simp
  ·have hm : bz m = [] := by
    have := congrArg List.length g1
    rw [hw] at this
    simp only [List.length_nil, List.length_append] at this
    exact List.eq_nil_of_length_eq_zero (by omega)
   obtain ⟨s, w⟩ := d
   simp only at a3 hw
   rw [a3, hw, fO, hm, List.append_nil]
theorem pk {l : List Rec} (ha : AllR l) (hn : l.length ≤ 60) : aH ⟨bz l, []⟩ = (⟨bz l, []⟩, l, 0) := by
 have := pS (a := l) (b := []) (t := []) ha (fun _ h => by cases h) (by simpa using hn) (by simp) (by have := iY ha; simp only [fN, List.nil_append, List.length_nil]; omega)
 simpa [fN] using this
theorem wj (f : Peer → Peer → Bool) (hf : ∀ a b, f a b = true → a = b) (s2 : List Peer) : ∀ (l : List Peer) (k : Nat), l.length + k = s2.length → bG s2 f l k = true → l = s2.drop k
 | [], k, h, _ => by
  simp only [List.length_nil, Nat.zero_add] at h
  rw [h, List.drop_length]
 | r :: l, k, h, h0 => by
  simp only [List.length_cons] at h
  rw [bG] at h0
  cases h1 : (!(f r (gt s2 k))) with
  | true => rw [h1] at h0; cases h0
  | false =>
   rw [h1, cond_false] at h0
   have h1 : f r (gt s2 k) = true := by simpa using h1
   rw [aI (by omega : k < s2.length), ← hf _ _ h1, ← wj f hf s2 l (k + 1) (by omega) h0]
theorem ri {a b : Hub} (h : fv a b = true) : a = b := by
 unfold fv bT at h
 cases h1 : ((a.peers.length : Int) != (b.peers.length : Int)) with
 | true => rw [h1] at h; simp at h
 | false =>
  rw [h1, cond_false] at h
  simp only [Bool.and_eq_true, beq_iff_eq] at h
  obtain ⟨⟨h2, h3⟩, h4⟩ := h
  have h5 := wj fX (fun x y hxy => by
   obtain ⟨x1, x2, x3⟩ := x; obtain ⟨y1, y2, y3⟩ := y
   simp only [fX, Bool.and_eq_true, beq_iff_eq, decide_eq_true_eq] at hxy
   obtain ⟨⟨rfl, rfl⟩, rfl⟩ := hxy; rfl) b.peers a.peers 0 (by simp only [bne_eq_false_iff_eq] at h1; omega) h4
  obtain ⟨a1, a2, a3⟩ := a; obtain ⟨b1, b2, b3⟩ := b
  simp only [List.drop_zero] at h2 h3 h5
  rw [(mn _ _).1 h2, h3, h5]
theorem gE (w : Wld) : ∀ (l : List Client) (k : Nat), l = w.c.drop k → (ct l k = 0 ↔ ∀ i, k ≤ i → i < w.c.length → aZ (gt w.c i) (i : Int) = 0)
 | [], k, h => by
  have : w.c.length ≤ k := by have := congrArg List.length h; simp at this; omega
  exact ⟨fun _ i h1 h2 => by omega, fun _ => rfl⟩
 | c :: l, k, h => by
  have hk : k < w.c.length := by
   rcases Nat.lt_or_ge k w.c.length with h' | h'
   ·exact h'
   ·rw [List.drop_of_length_le h'] at h; cases h
  rw [aI hk] at h
  obtain ⟨rfl, h'⟩ := List.cons.inj h
  rw [ct]
  cases h1 : (aZ (gt w.c k) (k : Int) != 0) with
  | true =>
   rw [cond_true]
   refine ⟨fun h2 => (by rw [h2] at h1; cases h1), fun h2 => h2 k (Nat.le_refl _) hk⟩
  | false =>
   rw [cond_false, gE w l (k + 1) h']
   constructor
   ·intro h2 i hi hl
    by_cases hik : i = k
    ·rw [hik]; exact ag h1
    ·exact h2 i (by omega) hl
   ·intro h2 i hi hl
    exact h2 i (by omega) hl
structure IsW (w : Wld) (l : List Rec) : Prop where
 three : w.c.length = 3
 mail : bM w.mail = 0
 all : AllR l
 sixty : l.length ≤ 60
 recd : aH w.d = (⟨bz l, []⟩, l, 0)
 up : w.up = true → w.d = ⟨bz l, []⟩ ∧ aN l = (w.h, 0)
 down : w.up = false → w.h = cq
 cli : ∀ k, k < 3 → aZ (gt w.c k) (k : Int) = 0
theorem pi : aN [] = (cq, 0) := rfl
theorem dV (w : Wld) : aF w = 0 ↔ ∃ l, IsW w l := by
 constructor
 ·intro h
  unfold aF at h
  rw [gO (by decide)] at h
  obtain ⟨h1, h⟩ := h
  have h1 : w.c.length = 3 := by simp only [bne_eq_false_iff_eq] at h1; omega
  cases h2 : (bM w.mail != 0) with
  | true => rw [h2, cond_true] at h; rw [h] at h2; cases h2
  | false =>
  rw [h2, cond_false] at h
  cases h3 : ((aH w.d).2.2 != 0) with
  | true => rw [h3, cond_true] at h; rw [h] at h3; cases h3
  | false =>
  rw [h3, cond_false, gO (by decide)] at h
  obtain ⟨h4, h⟩ := h
  obtain ⟨l, a1, a2, a3, a4⟩ := rB (ag h3)
  have key : ∀ r, (bif ((aN r).2 != 0) then (aN r).2 else (bif (!(fv (aN r).1 w.h)) then 4 else ct w.c 0)) = 0 → aN r = (w.h, 0) ∧ ∀ k, k < 3 → aZ (gt w.c k) (k : Int) = 0 := by
   intro r hr
   cases h5 : ((aN r).2 != 0) with
   | true => rw [h5, cond_true] at hr; rw [hr] at h5; cases h5
   | false =>
    rw [h5, cond_false, gO (by decide)] at hr
    obtain ⟨h6, h7⟩ := hr
    refine ⟨Prod.ext (ri (by simpa using h6)) (ag h5), fun k hk => ?_⟩
    exact (gE w w.c 0 rfl).1 h7 k (Nat.zero_le _) (by omega)
  refine ⟨l, ?_⟩
  rw [a3] at h
  cases hu : w.up with
  | false =>
   rw [hu] at h
   obtain ⟨b1, b2⟩ := key [] h
   rw [pi] at b1
   exact ⟨h1, ag h2, a1, a2, a3, fun hu2 => (by rw [hu] at hu2; cases hu2), fun _ => (congrArg Prod.fst b1).symm, b2⟩
  | true =>
   rw [hu] at h h4
   obtain ⟨b1, b2⟩ := key l h
   have hw : w.d.wait = [] := List.eq_nil_of_length_eq_zero (by simpa using h4)
   exact ⟨h1, ag h2, a1, a2, a3, fun _ => ⟨a4 hw, b1⟩, fun hu2 => (by rw [hu] at hu2; cases hu2), b2⟩
 ·rintro ⟨l, h⟩
  unfold aF
  have e1 : ((w.c.length : Int) != 3) = false := by rw [h.three]; rfl
  have e2 : (bM w.mail != 0) = false := by rw [h.mail]; rfl
  have e3 : ((aH w.d).2.2 != 0) = false := by rw [h.recd]; rfl
  have e4 : ct w.c 0 = 0 := (gE w w.c 0 rfl).2 fun i _ hi => h.cli i (by rw [h.three] at hi; exact hi)
  rw [e1, e2, e3, cond_false, cond_false, cond_false, h.recd]
  cases hu : w.up with
  | false =>
   have e5 : fv (aN []).1 w.h = true := by rw [pi, h.down hu]; exact iJ _
   simp only [Bool.false_and, cond_false, Bool.not_false, cond_true, e5, e4, Bool.not_true]
   rfl
  | true =>
   obtain ⟨f1, f2⟩ := h.up hu
   have e5 : w.d.wait = [] := by rw [f1]
   simp only [e5, f2, iJ, e4]
   rfl
theorem IsW.hub {w : Wld} {l : List Rec} (h : IsW w l) : IsHub w.h ∧ (w.up = true → w.h.version = (l.length : Int)) := by
 cases hu : w.up with
 | false => rw [h.down hu]; exact ⟨mQ, fun h => by cases h⟩
 | true =>
  have h1 := (h.up hu).2
  have h2 := pj (l := l) (by rw [h1])
  rw [h1] at h2
  exact ⟨h2.1, fun _ => h2.2.1⟩
theorem jE {w : Wld} (h : aF w = 0) : cN w.h = 0 ∧ w.c.length = 3 ∧ (w.up = true → w.h.version ≤ ((aH w.d).2.1.length : Int)) := by
 obtain ⟨l, h⟩ := (dV w).1 h
 have h1 := h.hub
 refine ⟨(gL _).2 h1.1, h.three, fun hu => ?_⟩
 rw [h1.2 hu, h.recd]; exact Int.le_refl _
theorem lL : ∀ (l : List Rec) (r : Rec) (h g : Hub), bW l h.h.l h.h.t h.version h.peers = (g, 0) → (aO g r).2 = 0 →
  bW (l ++ [r]) h.h.l h.h.t h.version h.peers = ((aO g r).1, 0)
 | [], r, h, g, h0, h1 => by
  rw [bW] at h0
  have he : (⟨⟨h.h.l, h.h.t⟩, h.version, h.peers⟩ : Hub) = h := rfl
  have hg : h = g := congrArg Prod.fst h0
  subst hg
  rw [List.nil_append, bW]
  simp only [he, h1, bne_self_eq_false, cond_false, bW]
 | q :: l, r, h, g, h0, h1 => by
  rw [bW] at h0
  rw [List.cons_append, bW]
  have he : (⟨⟨h.h.l, h.h.t⟩, h.version, h.peers⟩ : Hub) = h := rfl
  simp only [he] at h0 ⊢
  cases h2 : ((aO h q).2 != 0) with
  | true =>
   rw [h2, cond_true] at h0
   have h3 : (aO h q).2 = 0 := congrArg Prod.snd h0
   rw [h3] at h2; cases h2
  | false =>
   rw [h2, cond_false] at h0
   rw [cond_false]
   exact lL l r (aO h q).1 g h0 h1
theorem rz {l : List Rec} {r : Rec} {g : Hub} (h0 : aN l = (g, 0)) (h1 : (aO g r).2 = 0) (hn : l.length < 60) : aN (l ++ [r]) = ((aO g r).1, 0) := by
 have hr := qW (l := l) (by rw [h0])
 have e1 : aN l = bW l cq.h.l cq.h.t cq.version cq.peers := hr.2.2
 unfold aN
 have : decide (((l ++ [r]).length : Int) > 60) = false := by simp only [List.length_append, List.length_cons, List.length_nil, decide_eq_false_iff_not]; omega
 rw [this, cond_false]
 exact lL l r cq g (e1.symm.trans h0) h1
theorem rV {h : Hub} {r : Rec} (h0 : (aO h r).2 = 0) : h.version ≠ 60 := by
 intro hv
 have hn := ma h0
 unfold aO at h0
 have e1 : (aQ r != 0) = false := by rw [hn]; rfl
 have e2 : (h.version == 60) = true := by rw [hv]; rfl
 rw [e1, cond_false, e2, cond_true] at h0
 cases h0
theorem lp {w : Wld} {l : List Rec} (h : IsW w l) (hu : w.up = true) (r : Rec) : ba w r = if (aO w.h r).2 = 0 then (0, ⟨(aO w.h r).1, ⟨bz (l ++ [r]), []⟩, w.up, w.c, w.mail⟩) else ((aO w.h r).2, w) := by
 obtain ⟨f1, f2⟩ := h.up hu
 have hh := h.hub
 unfold ba
 rw [xr hh.1]
 by_cases h0 : (aO w.h r).2 = 0
 ·have hv := rV h0
  have hv2 := hh.2 hu
  have hs := h.sixty
  have hq := ma h0
  have hq1 : AllR [r] := fun x hx => by rw [List.mem_singleton] at hx; subst hx; exact hq
  rw [if_pos h0, f1, vU h.all hq (by omega)]
  simp only [h0, uV h.all hq1 (by simp only [List.length_cons, List.length_nil]; omega), bne_self_eq_false, cond_false]
 ·rw [if_neg h0]
  have : ((aO w.h r).2 != 0) = true := by simpa using h0
  rw [this, cond_true]
theorem pp {w : Wld} {l : List Rec} (h : IsW w l) (hu : w.up = true) {r : Rec} (h0 : (aO w.h r).2 = 0) : IsW ⟨(aO w.h r).1, ⟨bz (l ++ [r]), []⟩, w.up, w.c, w.mail⟩ (l ++ [r]) := by
 obtain ⟨f1, f2⟩ := h.up hu
 have hh := h.hub
 have hv := rV h0
 have hv2 := hh.2 hu
 have hs := h.sixty
 have hq := ma h0
 have hall : AllR (l ++ [r]) := fun x hx => (List.mem_append.1 hx).elim (h.all x) fun hx => by rw [List.mem_singleton] at hx; subst hx; exact hq
 have hl : (l ++ [r]).length ≤ 60 := by simp only [List.length_append, List.length_cons, List.length_nil]; omega
 exact ⟨h.three, h.mail, hall, hl, pk hall hl, fun _ => ⟨rfl, rz f2 h0 (by omega)⟩, fun hd => (by simp only at hd; rw [hu] at hd; cases hd), h.cli⟩
theorem xp (l : List Mail) (m : Mail) : es l m = bif bM l != 0 then ([], bM l) else bif bQ m != 0 then ([], bQ m) else bif decide ((l.length : Int) < 30) then (l ++ [m], 0) else (l, 0) := by
 unfold es fu fr fq
 rw [l3]
def posted (l : List Mail) (m : Mail) : List Mail := if bQ m = 0 ∧ l.length < 30 then l ++ [m] else l
theorem pM {w : Wld} {l : List Rec} (h : IsW w l) (m : Mail) : cn w m = ⟨w.h, w.d, w.up, w.c, posted w.mail m⟩ := by
 unfold cn posted
 rw [xp, h.mail, bne_self_eq_false, cond_false]
 by_cases h1 : bQ m = 0
 ·rw [h1, bne_self_eq_false, cond_false]
  by_cases h2 : w.mail.length < 30
  ·have : decide ((w.mail.length : Int) < 30) = true := by simp only [decide_eq_true_eq]; omega
   rw [this, if_pos ⟨rfl, h2⟩]; rfl
  ·have : decide ((w.mail.length : Int) < 30) = false := by simp only [decide_eq_false_iff_not]; omega
   rw [this, if_neg (fun h => h2 h.2)]; rfl
 ·have : (bQ m != 0) = true := by simpa using h1
  rw [this, cond_true, if_neg (fun h => h1 h.1)]
  have : (bQ m == 0) = false := by simpa using h1
  simp only [this, cond_false]
theorem nS {l : List Mail} (h : bM l = 0) (m : Mail) : bM (posted l m) = 0 := by
 unfold posted
 split
 ·rename_i h1
  obtain ⟨h2, h3⟩ := (eh l).1 h
  refine (eh _).2 ⟨by simp only [List.length_append, List.length_cons, List.length_nil]; omega, fun x hx => ?_⟩
  rcases List.mem_append.1 hx with hx | hx
  ·exact h3 x hx
  ·rw [List.mem_singleton] at hx; subst hx; exact h1.1
 ·exact h
theorem IsW.withMail {w : Wld} {l : List Rec} (h : IsW w l) {q : List Mail} (hq : bM q = 0) : IsW ⟨w.h, w.d, w.up, w.c, q⟩ l :=
 ⟨h.three, hq, h.all, h.sixty, h.recd, h.up, h.down, h.cli⟩
theorem IsW.withCli {w : Wld} {l : List Rec} (h : IsW w l) {k : Nat} {c : Client} (hk : k < 3) (hc : aZ c (k : Int) = 0) : IsW ⟨w.h, w.d, w.up, w.c.set k c, w.mail⟩ l :=
 ⟨by simp only [List.length_set]; exact h.three, h.mail, h.all, h.sixty, h.recd, h.up, h.down, fun j hj => by
  by_cases hjk : j = k
  ·subst hjk
   have : gt (w.c.set j c) j = c := by simp [gt, List.getD_eq_getElem?_getD, h.three, hj]
   simp only [this]; exact hc
  ·have : gt (w.c.set k c) j = gt w.c j := by simp [gt, List.getD_eq_getElem?_getD, List.getElem?_set_ne (Ne.symm hjk)]
   simp only [this]; exact h.cli j hj⟩
theorem xo {l : List Mail} {k : Int} {t : Bool} (h0 : (aC l k t).2.2 = 0) : bM (aC l k t).1 = 0 := by
 obtain ⟨h1, h2, h3, h4⟩ := iQ h0
 obtain ⟨h5, h6⟩ := (eh l).1 h1
 rw [h4]
 cases t with
 | true => exact h1
 | false =>
  refine (eh _).2 ⟨?_, fun x hx => ?_⟩
  ·simp only [cond_false, List.length_append, List.length_take, List.length_drop]; omega
  ·rcases List.mem_append.1 hx with hx | hx
   ·exact h6 x (List.mem_of_mem_take hx)
   ·exact h6 x (List.mem_of_mem_drop hx)
theorem vX {c : Client} {me : Int} {m : Mail} (h : (aL c me m).2 = 0) : aZ (aL c me m).1 me = 0 := by
 obtain ⟨hc, hs, _, _, h1⟩ := qd h
 rcases h1 with h1 | ⟨v, hv, hst, h1⟩
 ·rw [h1]; exact (dN _ _).2 hc
 ·rw [h1]; exact (dN _ _).2 (qI hc hs hst hv).1
theorem vf {life time : Int} {k : Nat} (hk : k < 3) (h : (bV life time).2 = 0) : aZ (bV life time).1 (k : Int) = 0 ∧ (bV life time).1 = ⟨life, time, 0, [], 0, ⟨[], [], []⟩⟩ := by
 unfold bV at h ⊢
 cases h1 : (((decide (life < 1) || decide (life > 50)) || decide (time < 0)) || decide (time > 10000)) with
 | true => rw [h1] at h; cases h
 | false =>
  simp only [Bool.or_eq_false_iff, decide_eq_false_iff_not] at h1
  rw [cond_false]
  refine ⟨(dN _ _).2 ⟨by omega, by simp only; omega, by simp, (fI (⟨[], [], []⟩ : View)).1 (by decide), fun h => by simp only at h; omega, fun _ => rfl, by simp, fun i hi => by simp at hi⟩, rfl⟩
abbrev opRec (o : Op) : Rec := ⟨1, 0, 0, [], o⟩
abbrev kl (w : Wld) (who : Int) : Rec := ⟨2, who, (gt w.h.peers who.toNat).life + 1, [], ⟨0, 0, 0, 0, 0, 0, 0⟩⟩
abbrev l8 (who : Int) (roots : List Int) : Rec := ⟨3, who, 0, roots, ⟨0, 0, 0, 0, 0, 0, 0⟩⟩
abbrev uh (who : Int) (o : Op) : Mail := ⟨1, who, 0, 0, 0, 0, 0, o, ⟨[], [], []⟩, ⟨[], [], [], []⟩⟩
def oe (l : List Mail) (x : Happening) : List Mail := bif x.kind == 8 then l else l.take x.n.toNat ++ l.drop (x.n + 1).toNat
structure Shown (w : Wld) (l : List Rec) (x : Happening) (m : Mail) : Prop where
 sees : (bH w.h x.who).2 = 0
 life : (gt w.h.peers x.who.toNat).life ≠ 0
 case : m = ⟨2, x.who, (gt w.h.peers x.who.toNat).life, (gt w.h.peers x.who.toNat).seq, ew w.h, w.h.version, 0, ⟨0, 0, 0, 0, 0, 0, 0⟩, (bH w.h x.who).1, ⟨[], [], [], []⟩⟩ ∨
  (0 ≤ x.n ∧ x.n < w.h.version ∧ ∃ g : Hub, aN (l.take x.n.toNat) = (g, 0) ∧ (gt g.peers x.who.toNat).life = (gt w.h.peers x.who.toNat).life ∧ (gt g.peers x.who.toNat).roots = (gt w.h.peers x.who.toNat).roots ∧ (bH g x.who).2 = 0 ∧
   (dI (bH g x.who).1 (bH w.h x.who).1).2 = 0 ∧
   m = ⟨3, x.who, (gt w.h.peers x.who.toNat).life, (gt w.h.peers x.who.toNat).seq, ew w.h, w.h.version, x.n, ⟨0, 0, 0, 0, 0, 0, 0⟩, ⟨[], [], []⟩, (dI (bH g x.who).1 (bH w.h x.who).1).1⟩)
inductive Hap (w : Wld) (l : List Rec) (x : Happening) : Wld → List Rec → Prop
 | hear (hx : x.kind = 7 ∨ x.kind = 8) (hn : 0 ≤ x.n ∧ x.n < (w.mail.length : Int)) (m : Mail) (hm : m = gt w.mail x.n.toNat) (hk : m.kind ≠ 1) (hh : (aL (gt w.c m.who.toNat) m.who m).2 = 0) :
   Hap w l x ⟨w.h, w.d, w.up, w.c.set m.who.toNat (aL (gt w.c m.who.toNat) m.who m).1, oe w.mail x⟩ l
 | got (hx : x.kind = 7 ∨ x.kind = 8) (hn : 0 ≤ x.n ∧ x.n < (w.mail.length : Int)) (m : Mail) (hm : m = gt w.mail x.n.toNat) (hk : m.kind = 1) (hu : w.up = true) (h0 : (aO w.h (opRec m.o)).2 = 0) :
   Hap w l x ⟨(aO w.h (opRec m.o)).1, ⟨bz (l ++ [opRec m.o]), []⟩, w.up, w.c, oe w.mail x⟩ (l ++ [opRec m.o])
 | late (hx : x.kind = 7 ∨ x.kind = 8) (hn : 0 ≤ x.n ∧ x.n < (w.mail.length : Int)) (m : Mail) (hm : m = gt w.mail x.n.toNat) (hk : m.kind = 1) (hu : w.up = true) (h0 : (aO w.h (opRec m.o)).2 ≠ 0) :
   Hap w l x ⟨w.h, w.d, w.up, w.c, oe w.mail x⟩ l
 | lose (hx : x.kind = 9) (hn : 0 ≤ x.n ∧ x.n < (w.mail.length : Int)) : Hap w l x ⟨w.h, w.d, w.up, w.c, w.mail.take x.n.toNat ++ w.mail.drop (x.n + 1).toNat⟩ l
 | crash (hx : x.kind = 10) (hu : w.up = true) : Hap w l x ⟨cq, w.d, false, w.c, w.mail⟩ l
 | boot (hx : x.kind = 11) (hu : w.up = false) (h0 : (aN l).2 = 0) : Hap w l x ⟨(aN l).1, ⟨bz l, []⟩, true, w.c, w.mail⟩ l
 | move (hx : x.kind = 1) (hw : 0 ≤ x.who ∧ x.who < 3) (h0 : (bs (gt w.c x.who.toNat) x.who x.node x.parent x.name).2.2 = 0) :
   Hap w l x ⟨w.h, w.d, w.up, w.c.set x.who.toNat (bs (gt w.c x.who.toNat) x.who x.node x.parent x.name).1, posted w.mail (uh x.who (bs (gt w.c x.who.toNat) x.who x.node x.parent x.name).2.1)⟩ l
 | again (hx : x.kind = 2) (hw : 0 ≤ x.who ∧ x.who < 3) (hn : 0 ≤ x.n ∧ x.n < ((gt w.c x.who.toNat).pending.length : Int)) :
   Hap w l x ⟨w.h, w.d, w.up, w.c, posted w.mail (uh x.who (gt (gt w.c x.who.toNat).pending x.n.toNat))⟩ l
 | began (hx : x.kind = 6) (hw : 0 ≤ x.who ∧ x.who < 3) (hu : w.up = true) (h0 : (aO w.h (kl w x.who)).2 = 0) (h1 : (bV ((gt w.h.peers x.who.toNat).life + 1) (ew (aO w.h (kl w x.who)).1)).2 = 0) :
   Hap w l x ⟨(aO w.h (kl w x.who)).1, ⟨bz (l ++ [kl w x.who]), []⟩, w.up, w.c.set x.who.toNat (bV ((gt w.h.peers x.who.toNat).life + 1) (ew (aO w.h (kl w x.who)).1)).1, w.mail⟩ (l ++ [kl w x.who])
 | roots (hx : x.kind = 5) (hw : 0 ≤ x.who ∧ x.who < 3) (hu : w.up = true) (h0 : (aO w.h (l8 x.who x.roots)).2 = 0) :
   Hap w l x ⟨(aO w.h (l8 x.who x.roots)).1, ⟨bz (l ++ [l8 x.who x.roots]), []⟩, w.up, w.c, w.mail⟩ (l ++ [l8 x.who x.roots])
 | shown (hx : x.kind = 3 ∨ x.kind = 4) (hw : 0 ≤ x.who ∧ x.who < 3) (hu : w.up = true) (m : Mail) (hm : Shown w l x m) : Hap w l x ⟨w.h, w.d, w.up, w.c, posted w.mail m⟩ l
theorem Hap.keeps {w w' : Wld} {l l' : List Rec} {x : Happening} (h : IsW w l) (hp : Hap w l x w' l') : IsW w' l' := by
 have hleft : ∀ (_ : x.kind = 7 ∨ x.kind = 8) (_ : 0 ≤ x.n ∧ x.n < (w.mail.length : Int)), bM (oe w.mail x) = 0 := fun _ hn => by
  obtain ⟨h5, h6⟩ := (eh _).1 h.mail
  unfold oe
  cases (x.kind == 8) with
  | true => exact h.mail
  | false =>
   refine (eh _).2 ⟨?_, fun y hy => ?_⟩
   ·simp only [cond_false, List.length_append, List.length_take, List.length_drop]; omega
   ·rcases List.mem_append.1 hy with hy | hy
    ·exact h6 y (List.mem_of_mem_take hy)
    ·exact h6 y (List.mem_of_mem_drop hy)
 cases hp with
 | hear hx hn m hm hk hh =>
  have hw : 0 ≤ m.who ∧ m.who < 3 := by rw [hm]; exact lZ (((eh _).1 h.mail).2 _ (i8 (by omega)))
  refine (h.withCli (k := m.who.toNat) (by omega) ?_).withMail (hleft hx hn)
  rw [Int.toNat_of_nonneg hw.1]; exact vX hh
 | got hx hn m hm hk hu h0 => exact pp (h.withMail (hleft hx hn)) hu h0
 | late hx hn m hm hk hu h0 => exact h.withMail (hleft hx hn)
 | lose hx hn =>
  obtain ⟨h5, h6⟩ := (eh _).1 h.mail
  refine h.withMail ((eh _).2 ⟨?_, fun y hy => ?_⟩)
  ·simp only [List.length_append, List.length_take, List.length_drop]; omega
  ·rcases List.mem_append.1 hy with hy | hy
   ·exact h6 y (List.mem_of_mem_take hy)
   ·exact h6 y (List.mem_of_mem_drop hy)
 | crash hx hu => exact ⟨h.three, h.mail, h.all, h.sixty, h.recd, fun hu => (by cases hu), fun _ => rfl, h.cli⟩
 | boot hx hu h0 => exact ⟨h.three, h.mail, h.all, h.sixty, pk h.all h.sixty, fun _ => ⟨rfl, Prod.ext rfl h0⟩, fun hu => (by cases hu), h.cli⟩
 | move hx hw h0 =>
  obtain ⟨a1, a2, a3, a4, a5, a6, a7⟩ := qc h0
  refine (h.withCli (k := x.who.toNat) (by omega) ?_).withMail (nS h.mail _)
  rw [a7, Int.toNat_of_nonneg hw.1]
  exact (dN _ _).2 (n9 a1 a2 a3 a4 a5 a6)
 | again hx hw hn => exact h.withMail (nS h.mail _)
 | began hx hw hu h0 h1 => exact (pp h hu h0).withCli (k := x.who.toNat) (by omega) (vf (by omega) h1).1
 | roots hx hw hu h0 => exact pp h hu h0
 | shown hx hw hu m hm => exact h.withMail (nS h.mail m)
theorem rZ {w : Wld} {l : List Rec} {x : Happening} (h : IsW w l) (hx : x.kind = 7 ∨ x.kind = 8) (h0 : (bR w x).1 = 0) : ∃ l', Hap w l x (bR w x).2 l' := by
 unfold bR at h0 ⊢
 cases h1 : ((aC w.mail x.n (x.kind == 8)).2.2 != 0) with
 | true => rw [h1, cond_true] at h0; simp only at h0; rw [h0] at h1; cases h1
 | false =>
 obtain ⟨_, t2, t3, t4⟩ := iQ (ag h1)
 rw [h1, cond_false] at h0
 rw [cond_false]
 rw [t4] at h0 ⊢
 cases h2 : ((gt w.mail x.n.toNat).kind != 1) with
 | true =>
  simp only [h2, cond_true] at h0 ⊢
  cases h3 : ((aL (gt w.c (gt w.mail x.n.toNat).who.toNat) (gt w.mail x.n.toNat).who (gt w.mail x.n.toNat)).2 == 0) with
  | false => rw [h3, cond_false] at h0; simp only at h0; rw [h0] at h3; cases h3
  | true => exact ⟨l, .hear hx ⟨t2, t3⟩ _ rfl (bne_iff_ne.1 h2) (eq_of_beq h3)⟩
 | false =>
  simp only [h2, cond_false] at h0 ⊢
  cases hu : w.up with
  | false => rw [hu] at h0; cases h0
  | true =>
   simp only [Bool.not_true, cond_false]
   have hT : bM (bif x.kind == 8 then w.mail else w.mail.take x.n.toNat ++ w.mail.drop (x.n + 1).toNat) = 0 := by
    have := xo (ag h1); rwa [t4] at this
   have hw := h.withMail hT
   rw [hu] at hw
   rw [lp hw rfl]
   by_cases hn : (aO w.h (opRec (gt w.mail x.n.toNat).o)).2 = 0
   ·rw [if_pos hn]
    have := Hap.got (l := l) hx ⟨t2, t3⟩ _ rfl (ag h2) hu hn
    rw [hu] at this
    exact ⟨_, this⟩
   ·rw [if_neg hn]
    have := Hap.late (l := l) hx ⟨t2, t3⟩ _ rfl (ag h2) hu hn
    rw [hu] at this
    exact ⟨_, this⟩
theorem qy {w : Wld} {l : List Rec} {x : Happening} (h : IsW w l) (hk : x.kind = 10 ∨ x.kind = 11) (h0 : (bI w x).1 = 0) : Hap w l x (bI w x).2 l := by
 unfold bI at h0 ⊢
 cases h1 : (w.up == (x.kind == 11)) with
 | true => rw [h1] at h0; cases h0
 | false =>
 rw [h1, cond_false] at h0
 rw [cond_false]
 rcases hk with hk | hk
 ·have e1 : (x.kind == 10) = true := by rw [hk]; rfl
  have e2 : (x.kind == 11) = false := by rw [hk]; rfl
  rw [e1, cond_true]
  refine .crash hk ?_
  rw [e2] at h1
  cases hu : w.up with
  | true => rfl
  | false => rw [hu] at h1; cases h1
 ·have e1 : (x.kind == 10) = false := by rw [hk]; rfl
  have e2 : (x.kind == 11) = true := by rw [hk]; rfl
  rw [e1, cond_false] at h0 ⊢
  simp only [h.recd, bne_self_eq_false, cond_false] at h0 ⊢
  cases h3 : ((aN l).2 == 0) with
  | false => rw [h3, cond_false] at h0; simp only at h0; rw [h0] at h3; cases h3
  | true =>
   refine .boot hk ?_ (eq_of_beq h3)
   rw [e2] at h1
   cases hu : w.up with
   | false => rfl
   | true => rw [hu] at h1; cases h1
theorem vm {w : Wld} {l : List Rec} {x : Happening} (h : IsW w l) (hx : x.kind = 3 ∨ x.kind = 4) (hw : 0 ≤ x.who ∧ x.who < 3) (hu : w.up = true) (h0 : (cf w x).1 = 0) : Hap w l x (cf w x).2 l := by
 unfold cf at h0 ⊢
 cases h1 : ((bH w.h x.who).2 != 0) with
 | true => rw [h1, cond_true] at h0; simp only at h0; rw [h0] at h1; cases h1
 | false =>
 rw [h1, cond_false] at h0
 rw [cond_false]
 cases h2 : ((gt w.h.peers x.who.toNat).life == 0) with
 | true => rw [h2] at h0; cases h0
 | false =>
 rw [h2, cond_false] at h0
 rw [cond_false]
 have hl := beq_eq_false_iff_ne.1 h2
 cases h3 : (x.kind == 4) with
 | false =>
  rw [cond_false]
  simp only
  rw [pM h]
  exact .shown hx hw hu _ ⟨ag h1, hl, .inl rfl⟩
 | true =>
  rw [h3, cond_true] at h0
  rw [cond_true]
  cases h4 : (decide (x.n < 0) || decide (x.n ≥ w.h.version)) with
  | true => rw [h4] at h0; cases h0
  | false =>
  rw [h4, cond_false] at h0
  rw [cond_false]
  simp only [Bool.or_eq_false_iff, decide_eq_false_iff_not] at h4
  simp only [h.recd, bne_self_eq_false, cond_false] at h0 ⊢
  cases h5 : ((aN (l.take x.n.toNat)).2 != 0) with
  | true => rw [h5, cond_true] at h0; simp only at h0; rw [h0] at h5; cases h5
  | false =>
  rw [h5, cond_false] at h0
  rw [cond_false]
  have h5 := ag h5
  generalize hG : aN (l.take x.n.toNat) = G at *
  obtain ⟨g, e⟩ := G
  simp only at h5
  subst h5
  simp only at h0 ⊢
  cases h6 : (((gt g.peers x.who.toNat).life != (gt w.h.peers x.who.toNat).life) || (!(decide ((gt g.peers x.who.toNat).roots = (gt w.h.peers x.who.toNat).roots)))) with
  | true => rw [h6] at h0; cases h0
  | false =>
  rw [h6, cond_false] at h0
  rw [cond_false]
  simp only [Bool.or_eq_false_iff, bne_eq_false_iff_eq, Bool.not_eq_false', decide_eq_true_eq] at h6
  cases h7 : ((bH g x.who).2 != 0) with
  | true => rw [h7, cond_true] at h0; simp only at h0; rw [h0] at h7; cases h7
  | false =>
  rw [h7, cond_false] at h0
  rw [cond_false]
  cases h8 : ((dI (bH g x.who).1 (bH w.h x.who).1).2 != 0) with
  | true => rw [h8, cond_true] at h0; simp only at h0; rw [h0] at h8; cases h8
  | false =>
  rw [cond_false]
  simp only
  rw [pM h]
  exact .shown hx hw hu _ ⟨ag h1, hl, .inr ⟨by omega, by omega, g, hG, h6.1, h6.2, ag h7, ag h8, rfl⟩⟩
theorem qD {w : Wld} {l : List Rec} {x : Happening} (h : IsW w l) (hx : 1 ≤ x.kind ∧ x.kind ≤ 6) (h0 : (aM w x).1 = 0) : ∃ l', Hap w l x (aM w x).2 l' := by
 unfold aM at h0 ⊢
 cases h1 : (decide (x.who < 0) || decide (x.who ≥ (w.c.length : Int))) with
 | true => rw [h1] at h0; cases h0
 | false =>
 have hw : 0 ≤ x.who ∧ x.who < 3 := by
  simp only [h.three, Bool.or_eq_false_iff, decide_eq_false_iff_not] at h1; omega
 rw [h1, cond_false] at h0
 rw [cond_false]
 cases h2 : (x.kind == 1) with
 | true =>
  rw [h2, cond_true] at h0
  rw [cond_true]
  cases h3 : ((bs (gt w.c x.who.toNat) x.who x.node x.parent x.name).2.2 != 0) with
  | true => rw [h3, cond_true] at h0; simp only at h0; rw [h0] at h3; cases h3
  | false =>
   rw [cond_false]
   obtain ⟨a1, a2, a3, a4, a5, a6, a7⟩ := qc (ag h3)
   have hc : aZ (bs (gt w.c x.who.toNat) x.who x.node x.parent x.name).1 ((x.who.toNat : Nat) : Int) = 0 := by
    rw [a7, Int.toNat_of_nonneg hw.1]; exact (dN _ _).2 (n9 a1 a2 a3 a4 a5 a6)
   simp only
   rw [pM (h.withCli (k := x.who.toNat) (by omega) hc)]
   exact ⟨l, .move (eq_of_beq h2) hw (ag h3)⟩
 | false =>
 rw [h2, cond_false] at h0
 rw [cond_false]
 cases h3 : (x.kind == 2) with
 | true =>
  rw [h3, cond_true] at h0
  rw [cond_true]
  cases h4 : (decide (x.n < 0) || decide (x.n ≥ ((gt w.c x.who.toNat).pending.length : Int))) with
  | true => rw [h4] at h0; cases h0
  | false =>
   simp only [Bool.or_eq_false_iff, decide_eq_false_iff_not] at h4
   rw [cond_false]
   simp only
   rw [pM h]
   exact ⟨l, .again (eq_of_beq h3) hw (by omega)⟩
 | false =>
 rw [h3, cond_false] at h0
 rw [cond_false]
 cases hu : w.up with
 | false => rw [hu] at h0; cases h0
 | true =>
 rw [hu, Bool.not_true, cond_false] at h0
 rw [Bool.not_true, cond_false]
 cases h4 : (x.kind == 6) with
 | true =>
  rw [h4, cond_true] at h0
  rw [cond_true]
  simp only at h0 ⊢
  unfold cP at h0 ⊢
  rw [lp h hu] at h0 ⊢
  by_cases hn : (aO w.h (kl w x.who)).2 = 0
  ·rw [if_pos hn] at h0 ⊢
   simp only [bne_self_eq_false, cond_false] at h0 ⊢
   cases h5 : ((bV ((gt w.h.peers x.who.toNat).life + 1) (ew (aO w.h (kl w x.who)).1)).2 == 0) with
   | false => rw [h5, cond_false] at h0; simp only at h0; rw [h0] at h5; cases h5
   | true => exact ⟨_, .began (eq_of_beq h4) hw hu hn (eq_of_beq h5)⟩
  ·rw [if_neg hn] at h0
   have : ((aO w.h (kl w x.who)).2 != 0) = true := by simpa using hn
   simp only [this, cond_true] at h0
   exact absurd h0 hn
 | false =>
 rw [h4, cond_false] at h0
 rw [cond_false]
 cases h5 : (x.kind == 5) with
 | true =>
  rw [h5, cond_true] at h0
  rw [cond_true]
  simp only at h0 ⊢
  rw [lp h hu] at h0 ⊢
  by_cases hn : (aO w.h (l8 x.who x.roots)).2 = 0
  ·rw [if_pos hn]; exact ⟨_, .roots (eq_of_beq h5) hw hu hn⟩
  ·rw [if_neg hn] at h0; exact absurd h0 hn
 | false =>
  rw [h5, cond_false] at h0
  rw [cond_false]
  simp only [beq_eq_false_iff_ne] at h2 h3 h4 h5
  exact ⟨l, vm h (by omega) hw hu h0⟩
theorem mU {w : Wld} {l : List Rec} {x : Happening} (h : IsW w l) (h0 : (aq w x).1 = 0) : ∃ l', Hap w l x (aq w x).2 l' := by
 have hc : ∀ (_ : 1 ≤ x.kind ∧ x.kind ≤ 6) (z : Int × Wld), z = ((aM w x).1, (aM w x).2) → z.1 = 0 → ∃ l', Hap w l x z.2 l' := fun hx z hz h0 => by
  subst hz; exact qD h hx h0
 unfold aq at h0 ⊢
 cases h1 : (x.kind == 7) with
 | true => rw [h1, cond_true] at h0; rw [cond_true]; exact rZ h (.inl (eq_of_beq h1)) h0
 | false =>
 rw [h1, cond_false] at h0; rw [cond_false]
 cases h2 : (x.kind == 8) with
 | true => rw [h2, cond_true] at h0; rw [cond_true]; exact rZ h (.inr (eq_of_beq h2)) h0
 | false =>
 rw [h2, cond_false] at h0; rw [cond_false]
 cases h3 : (x.kind == 9) with
 | true =>
  rw [h3, cond_true] at h0
  rw [cond_true]
  cases h4 : ((aC w.mail x.n false).2.2 == 0) with
  | true =>
   obtain ⟨_, t2, t3, t4⟩ := iQ (eq_of_beq h4)
   rw [cond_true, t4]
   exact ⟨l, .lose (eq_of_beq h3) ⟨t2, t3⟩⟩
  | false => rw [h4, cond_false] at h0; simp only at h0; rw [h0] at h4; cases h4
 | false =>
 rw [h3, cond_false] at h0; rw [cond_false]
 cases h4 : (x.kind == 10) with
 | true => rw [h4, cond_true] at h0; rw [cond_true]; exact ⟨l, qy h (.inl (eq_of_beq h4)) h0⟩
 | false =>
 rw [h4, cond_false] at h0; rw [cond_false]
 cases h5 : (x.kind == 11) with
 | true => rw [h5, cond_true] at h0; rw [cond_true]; exact ⟨l, qy h (.inr (eq_of_beq h5)) h0⟩
 | false =>
 rw [h5, cond_false] at h0; rw [cond_false]
 cases h6 : (x.kind == 1) with
 | true => rw [h6, cond_true] at h0; rw [cond_true]; exact hc (by rw [eq_of_beq h6]; decide) _ rfl h0
 | false =>
 rw [h6, cond_false] at h0; rw [cond_false]
 cases h7 : (x.kind == 2) with
 | true => rw [h7, cond_true] at h0; rw [cond_true]; exact hc (by rw [eq_of_beq h7]; decide) _ rfl h0
 | false =>
 rw [h7, cond_false] at h0; rw [cond_false]
 cases h8 : (x.kind == 3) with
 | true => rw [h8, cond_true] at h0; rw [cond_true]; exact hc (by rw [eq_of_beq h8]; decide) _ rfl h0
 | false =>
 rw [h8, cond_false] at h0; rw [cond_false]
 cases h9 : (x.kind == 4) with
 | true => rw [h9, cond_true] at h0; rw [cond_true]; exact hc (by rw [eq_of_beq h9]; decide) _ rfl h0
 | false =>
 rw [h9, cond_false] at h0; rw [cond_false]
 cases h10 : (x.kind == 5) with
 | true => rw [h10, cond_true] at h0; rw [cond_true]; exact hc (by rw [eq_of_beq h10]; decide) _ rfl h0
 | false =>
 rw [h10, cond_false] at h0; rw [cond_false]
 cases h11 : (x.kind == 6) with
 | true => rw [h11, cond_true] at h0; rw [cond_true]; exact hc (by rw [eq_of_beq h11]; decide) _ rfl h0
 | false => rw [h11] at h0; cases h0
theorem gB {w : Wld} {x : Happening} (h : aF w = 0) (h0 : (aq w x).1 = 0) : aF (aq w x).2 = 0 := by
 obtain ⟨l, hl⟩ := (dV w).1 h
 obtain ⟨l', hp⟩ := mU hl h0
 exact (dV _).2 ⟨l', hp.keeps hl⟩
end Go.Proofs.YtgkggkgdceapgaaGreatDoor

set_option maxHeartbeats 2000000
namespace Go.Proofs.YtgkggkgdceapgaaGreatDoor
open Go Go.Proofs.YtgkggkgdceapgaaGreatDoor.Fw Go.Proofs
attribute [local irreducible] RdL RdN VarP LibP RW CW
def aK (w1 : Wld) (x1 : Happening) : Wld × Int :=
 (bif ((aF w1) != 0) then ((⟨(⟨(⟨[], []⟩ : History), 0, ([] : List Peer)⟩ : Hub), (⟨[], []⟩ : Disk), false, ([] : List Client), ([] : List Mail)⟩ : Wld), (aF w1)) else (bif ((aq w1 x1).1 != 0) then ((⟨(⟨(⟨[], []⟩ : History), 0, ([] : List Peer)⟩ : Hub), (⟨[], []⟩ : Disk), false, ([] : List Client), ([] : List Mail)⟩ : Wld), (aq w1 x1).1) else ((aq w1 x1).2, 0)))
theorem fT (y1 : SlV) (y2 : SlV) (y3 : SlV) (y4 : SlV) (y5 : SlV) (y6 : SlV) (y7 : SlV) (w1 : Wld) (y8 : SlV) (x1 : Happening) : Does Tryz.prog 14 [.agg ⟨[y1.val w1.h.h.l.length, y2.val w1.h.h.t.length, .int .i64 w1.h.version, y3.val w1.h.peers.length, y4.val w1.d.safe.length, y5.val w1.d.wait.length, .bool w1.up, y6.val w1.c.length, y7.val w1.mail.length]⟩, .agg ⟨[.int .i64 x1.kind, .int .i64 x1.who, .int .i64 x1.n, .int .i64 x1.node, .int .i64 x1.parent, .int .i64 x1.name, y8.val x1.roots.length]⟩] [RdL EStep y1 w1.h.h.l, RdL EPlace y2 w1.h.h.t, RdN NPeer y3 w1.h.peers, RdL EByte y4 w1.d.safe, RdL EByte y5 w1.d.wait, RdN NClient y6 w1.c, RdN NMail y7 w1.mail, RdL EInt y8 x1.roots, LibP Tryz.prog] (fun (X : SlV × SlV × SlV × SlV × SlV × SlV × SlV) => .tuple #[.agg ⟨[X.1.val (aK w1 x1).1.h.h.l.length, X.2.1.val (aK w1 x1).1.h.h.t.length, .int .i64 (aK w1 x1).1.h.version, X.2.2.1.val (aK w1 x1).1.h.peers.length, X.2.2.2.1.val (aK w1 x1).1.d.safe.length, X.2.2.2.2.1.val (aK w1 x1).1.d.wait.length, .bool (aK w1 x1).1.up, X.2.2.2.2.2.1.val (aK w1 x1).1.c.length, X.2.2.2.2.2.2.val (aK w1 x1).1.mail.length]⟩, .int .i64 (aK w1 x1).2]) (fun X => [RdL EStep X.1 (aK w1 x1).1.h.h.l, RdL EPlace X.2.1 (aK w1 x1).1.h.h.t, RdN NPeer X.2.2.1 (aK w1 x1).1.h.peers, RdL EByte X.2.2.2.1 (aK w1 x1).1.d.safe, RdL EByte X.2.2.2.2.1 (aK w1 x1).1.d.wait, RdN NClient X.2.2.2.2.2.1 (aK w1 x1).1.c, RdN NMail X.2.2.2.2.2.2 (aK w1 x1).1.mail]) := by
 refine bd aV Tryz.func14 rfl Tryz.ntmps14 Tryz.results14 rfl inferInstance (fun _ => inferInstance) fun C => ?_
 refine Pc EStep y1 w1.h.h.l 88 fun hlen1 => ?_
 refine Pc EPlace y2 w1.h.h.t 24 fun hlen2 => ?_
 refine Pn NPeer y3 w1.h.peers 40 fun hlen3 => ?_
 refine Pc EByte y4 w1.d.safe 1 fun hlen4 => ?_
 refine Pc EByte y5 w1.d.wait 1 fun hlen5 => ?_
 refine Pn NClient y6 w1.c 128 fun hlen6 => ?_
 refine Pn NMail y7 w1.mail 280 fun hlen7 => ?_
 refine Pc EInt y8 x1.roots 8 fun hlen8 => ?_
 refine Tx ?_
 refine Bx fun g1 => ?_
 refine Bx fun g2 => ?_
 refine Al fun g3 => ?_
 refine Tx ?_
 refine Cl (fA y1 y2 y3 y4 y5 y6 y7 w1) fun _ => ?_
 refine Tx ?_
 refine Cd (b := ((aF w1) != 0)) (fun hc1 => ?_) fun hc1 => ?_
 ·have hc1p := bne_iff_ne.1 hc1
  refine Tx ?_
  refine Fc EStep ?_
  refine Fc EPlace ?_
  refine dj (F := RdN NPeer ⟨none, 0⟩ ([] : List Peer)) [] (.nil _) (fun M w _ => RdN.nil _ M w) ?_
  refine Fc EByte ?_
  refine dj (F := RdN NClient ⟨none, 0⟩ ([] : List Client)) [] (.nil _) (fun M w _ => RdN.nil _ M w) ?_
  refine dj (F := RdN NMail ⟨none, 0⟩ ([] : List Mail)) [] (.nil _) (fun M w _ => RdN.nil _ M w) ?_
  refine ak ?_; simp only [aK, hc1, Cf]; exact Re ⟨(⟨none, 0⟩ : SlV), (⟨none, 0⟩ : SlV), (⟨none, 0⟩ : SlV), (⟨none, 0⟩ : SlV), (⟨none, 0⟩ : SlV), (⟨none, 0⟩ : SlV), (⟨none, 0⟩ : SlV)⟩ (Va (Vt Vn))
 ·have hc1p := ag hc1
  refine Tx ?_
  refine Cg (ik y1 y2 y3 y4 y5 y6 y7 w1) fun x2 => ?_
  refine Tx ?_
  refine aX (jF g1 x2.1 x2.2.1 x2.2.2.1 x2.2.2.2.1 x2.2.2.2.2.1 x2.2.2.2.2.2.1 x2.2.2.2.2.2.2.1 x2.2.2.2.2.2.2.2.1 x2.2.2.2.2.2.2.2.2 w1 y8 x1 (jE (by first | assumption | exact hinv | exact ag hc1)).1 (jE (by first | assumption | exact hinv | exact ag hc1)).2.1 (jE (by first | assumption | exact hinv | exact ag hc1)).2.2) .sq (.inl ⟨_, rfl⟩) (ae rfl) rfl rfl rfl Kr rfl rfl Sm Tk Tk ?_
  intro x3
  refine Tx ?_
  refine Cd (b := ((aq w1 x1).1 != 0)) (fun hc2 => ?_) fun hc2 => ?_
  ·have hc2p := bne_iff_ne.1 hc2
   refine Tx ?_
   refine Fc EStep ?_
   refine Fc EPlace ?_
   refine dj (F := RdN NPeer ⟨none, 0⟩ ([] : List Peer)) [] (.nil _) (fun M w _ => RdN.nil _ M w) ?_
   refine Fc EByte ?_
   refine dj (F := RdN NClient ⟨none, 0⟩ ([] : List Client)) [] (.nil _) (fun M w _ => RdN.nil _ M w) ?_
   refine dj (F := RdN NMail ⟨none, 0⟩ ([] : List Mail)) [] (.nil _) (fun M w _ => RdN.nil _ M w) ?_
   refine ak ?_; simp only [aK, hc1, hc2, Cf]; exact Re ⟨(⟨none, 0⟩ : SlV), (⟨none, 0⟩ : SlV), (⟨none, 0⟩ : SlV), (⟨none, 0⟩ : SlV), (⟨none, 0⟩ : SlV), (⟨none, 0⟩ : SlV), (⟨none, 0⟩ : SlV)⟩ (Va (Vt Vn))
  ·have hc2p := ag hc2
   refine Tx ?_
   refine cw_le (aA NClient.E 60 x3.2.2.2.2.2.1 x3.2.2.2.2.2.2.1 (zipG x3.2.2.2.2.2.2.2.1 0 (aq w1 x1).2.c) Uo) ?_
   refine dj (F := RdN NClient x3.2.2.2.2.2.1 (aq w1 x1).2.c) [RdG NClient x3.2.2.2.2.2.1 x3.2.2.2.2.2.2.2.1 (aq w1 x1).2.c, ao NClient x3.2.2.2.2.2.2.2.1 (aq w1 x1).2.c] Sm (fun M w h => RdN.ofG NClient (h _ (.head _)) (h _ (.tail _ (.head _)))) ?_
   refine ak ?_; simp only [aK, hc1, hc2, Cf]; exact Re ⟨x3.1, x3.2.1, x3.2.2.1, x3.2.2.2.1, x3.2.2.2.2.1, x3.2.2.2.2.2.1, x3.2.2.2.2.2.2.2.2⟩ (Va (Vt Vn))
def bS  : List Happening → (List Int) → Wld → (Wld × (List Int) × Int)
 | [], said1, w2 => (w2, said1, 0)
 | pn1 :: rn1, said1, w2 => (bif ((aq w2 pn1).1 == 0) then (bS rn1 (said1 ++ [(aq w2 pn1).1]) (aq w2 pn1).2) else (bS rn1 (said1 ++ [(aq w2 pn1).1]) w2))
def ap (w1 : Wld) (l1 : List Happening) : Wld × (List Int) × Int :=
 (bif ((aF w1) != 0) then ((⟨(⟨(⟨[], []⟩ : History), 0, ([] : List Peer)⟩ : Hub), (⟨[], []⟩ : Disk), false, ([] : List Client), ([] : List Mail)⟩ : Wld), ([] : List Int), (aF w1)) else (bif decide ((l1.length : Int) > 100) then ((⟨(⟨(⟨[], []⟩ : History), 0, ([] : List Peer)⟩ : Hub), (⟨[], []⟩ : Disk), false, ([] : List Client), ([] : List Mail)⟩ : Wld), ([] : List Int), 2) else (bS l1 [] w1)))
theorem fH (y1 : SlV) (y2 : SlV) (y3 : SlV) (y4 : SlV) (y5 : SlV) (y6 : SlV) (y7 : SlV) (w1 : Wld) (y8 : SlV) (l1 : List Happening) : Does Tryz.prog 8 [.agg ⟨[y1.val w1.h.h.l.length, y2.val w1.h.h.t.length, .int .i64 w1.h.version, y3.val w1.h.peers.length, y4.val w1.d.safe.length, y5.val w1.d.wait.length, .bool w1.up, y6.val w1.c.length, y7.val w1.mail.length]⟩, y8.val l1.length] [RdL EStep y1 w1.h.h.l, RdL EPlace y2 w1.h.h.t, RdN NPeer y3 w1.h.peers, RdL EByte y4 w1.d.safe, RdL EByte y5 w1.d.wait, RdN NClient y6 w1.c, RdN NMail y7 w1.mail, RdN NHap y8 l1, LibP Tryz.prog] (fun (X : SlV × SlV × SlV × SlV × SlV × SlV × SlV × SlV) => .tuple #[.agg ⟨[X.1.val (ap w1 l1).1.h.h.l.length, X.2.1.val (ap w1 l1).1.h.h.t.length, .int .i64 (ap w1 l1).1.h.version, X.2.2.1.val (ap w1 l1).1.h.peers.length, X.2.2.2.1.val (ap w1 l1).1.d.safe.length, X.2.2.2.2.1.val (ap w1 l1).1.d.wait.length, .bool (ap w1 l1).1.up, X.2.2.2.2.2.1.val (ap w1 l1).1.c.length, X.2.2.2.2.2.2.1.val (ap w1 l1).1.mail.length]⟩, X.2.2.2.2.2.2.2.val (ap w1 l1).2.1.length, .int .i64 (ap w1 l1).2.2]) (fun X => [RdL EStep X.1 (ap w1 l1).1.h.h.l, RdL EPlace X.2.1 (ap w1 l1).1.h.h.t, RdN NPeer X.2.2.1 (ap w1 l1).1.h.peers, RdL EByte X.2.2.2.1 (ap w1 l1).1.d.safe, RdL EByte X.2.2.2.2.1 (ap w1 l1).1.d.wait, RdN NClient X.2.2.2.2.2.1 (ap w1 l1).1.c, RdN NMail X.2.2.2.2.2.2.1 (ap w1 l1).1.mail, RdL EInt X.2.2.2.2.2.2.2 (ap w1 l1).2.1]) := by
 refine bd aV Tryz.func8 rfl Tryz.ntmps8 Tryz.results8 rfl inferInstance (fun _ => inferInstance) fun C => ?_
 refine Pc EStep y1 w1.h.h.l 88 fun hlen1 => ?_
 refine Pc EPlace y2 w1.h.h.t 24 fun hlen2 => ?_
 refine Pn NPeer y3 w1.h.peers 40 fun hlen3 => ?_
 refine Pc EByte y4 w1.d.safe 1 fun hlen4 => ?_
 refine Pc EByte y5 w1.d.wait 1 fun hlen5 => ?_
 refine Pn NClient y6 w1.c 128 fun hlen6 => ?_
 refine Pn NMail y7 w1.mail 280 fun hlen7 => ?_
 refine Pn NHap y8 l1 72 fun hlen8 => ?_
 refine Tx ?_
 refine Bx fun g1 => ?_
 refine Al fun g2 => ?_
 refine Tx ?_
 refine Cl (fA y1 y2 y3 y4 y5 y6 y7 w1) fun _ => ?_
 refine Tx ?_
 refine Cd (b := ((aF w1) != 0)) (fun hc1 => ?_) fun hc1 => ?_
 ·have hc1p := bne_iff_ne.1 hc1
  refine Tx ?_
  refine Fc EStep ?_
  refine Fc EPlace ?_
  refine dj (F := RdN NPeer ⟨none, 0⟩ ([] : List Peer)) [] (.nil _) (fun M w _ => RdN.nil _ M w) ?_
  refine Fc EByte ?_
  refine dj (F := RdN NClient ⟨none, 0⟩ ([] : List Client)) [] (.nil _) (fun M w _ => RdN.nil _ M w) ?_
  refine dj (F := RdN NMail ⟨none, 0⟩ ([] : List Mail)) [] (.nil _) (fun M w _ => RdN.nil _ M w) ?_
  refine Fc EInt ?_
  refine ak ?_; simp only [ap, hc1, Cf]; exact Re ⟨(⟨none, 0⟩ : SlV), (⟨none, 0⟩ : SlV), (⟨none, 0⟩ : SlV), (⟨none, 0⟩ : SlV), (⟨none, 0⟩ : SlV), (⟨none, 0⟩ : SlV), (⟨none, 0⟩ : SlV), (⟨none, 0⟩ : SlV)⟩ (Va (Vt (Vt Vn)))
 ·have hc1p := ag hc1
  refine Tx ?_
  refine Cd (b := decide ((l1.length : Int) > 100)) (fun hc2 => ?_) fun hc2 => ?_
  ·have hc2p := of_decide_eq_true hc2
   refine Tx ?_
   refine Fc EStep ?_
   refine Fc EPlace ?_
   refine dj (F := RdN NPeer ⟨none, 0⟩ ([] : List Peer)) [] (.nil _) (fun M w _ => RdN.nil _ M w) ?_
   refine Fc EByte ?_
   refine dj (F := RdN NClient ⟨none, 0⟩ ([] : List Client)) [] (.nil _) (fun M w _ => RdN.nil _ M w) ?_
   refine dj (F := RdN NMail ⟨none, 0⟩ ([] : List Mail)) [] (.nil _) (fun M w _ => RdN.nil _ M w) ?_
   refine Fc EInt ?_
   refine ak ?_; simp only [ap, hc1, hc2, Cf]; exact Re ⟨(⟨none, 0⟩ : SlV), (⟨none, 0⟩ : SlV), (⟨none, 0⟩ : SlV), (⟨none, 0⟩ : SlV), (⟨none, 0⟩ : SlV), (⟨none, 0⟩ : SlV), (⟨none, 0⟩ : SlV), (⟨none, 0⟩ : SlV)⟩ (Va (Vt (Vt Vn)))
  ·have hc2p := of_decide_eq_false hc2
   refine Tx ?_
   refine Cg (ik y1 y2 y3 y4 y5 y6 y7 w1) fun x1 => ?_
   refine rw_le (aA NClient.E 60 x1.2.2.2.2.2.1 x1.2.2.2.2.2.2.1 (zipG x1.2.2.2.2.2.2.2.1 0 w1.c) Uo) ?_
   refine ay (F := RdN NClient x1.2.2.2.2.2.1 w1.c) [RdG NClient x1.2.2.2.2.2.1 x1.2.2.2.2.2.2.2.1 w1.c, ao NClient x1.2.2.2.2.2.2.2.1 w1.c] Sm (fun M w h => RdN.ofG NClient (h _ (.head _)) (h _ (.tail _ (.head _)))) ?_
   refine Tx ?_
   (repeat refine ar ?_); refine Lp [2,4,5,6,25,26] [true, false] (fun (i_ : List Int × SlV × Option Nat × Nat × Wld × SlV × SlV × SlV × SlV × SlV × SlV × SlV) => match i_ with | ⟨said1, x2, x2b, n1, w2, x3, x4, x5, x6, x7, x8, x9⟩ => (⟨[(8, .v (x2.val said1.length)), (27, .v (.int .i64 (n1 : Int)))], [⟨g1, 37, [x3.val w2.h.h.l.length, x4.val w2.h.h.t.length, .int .i64 w2.h.version, x5.val w2.h.peers.length, x6.val w2.d.safe.length, x7.val w2.d.wait.length, .bool w2.up, x8.val w2.c.length, x9.val w2.mail.length]⟩], [ownL EInt 40 x2 x2b said1], [RdL EStep x3 w2.h.h.l, RdL EPlace x4 w2.h.h.t, RdN NPeer x5 w2.h.peers, RdL EByte x6 w2.d.safe, RdL EByte x7 w2.d.wait, RdN NClient x8 w2.c, RdN NMail x9 w2.mail], (n1 ≤ l1.length) ∧ (said1.length ≤ n1) ∧ (aF w2 = 0) ∧ (bS (l1.drop n1) said1 w2) = (ap w1 l1), l1.length - n1⟩ : Ls)) ⟨[], ⟨none, 0⟩, none, 0, w1, x1.1, x1.2.1, x1.2.2.1, x1.2.2.2.1, x1.2.2.2.2.1, x1.2.2.2.2.2.1, x1.2.2.2.2.2.2.2.2⟩ (Sc (Sc (Sc (Sc (Sc (Sc Sn)))))) (.keep (.drop (.nil))) ⟨Nat.zero_le _, (by first | exact Nat.le_refl _ | exact Nat.zero_le _ | omega), (ag (by assumption)), (by simp only [ap, hc1, hc2, Cf] : (ap w1 l1) = (bS l1 [] w1)).symm⟩ (Le.trans (fk EInt 40) Le4) ?_
   rintro ⟨said1, x2, x2b, n1, w2, x3, x4, x5, x6, x7, x8, x9⟩ ⟨hkn1, hsaid1, hinv, hf1⟩
   simp only [List.cons_append, List.nil_append]
   refine Tx ?_
   refine Cd (b := decide ((n1 : Int) < (l1.length : Int))) (fun hc3 => ?_) fun hc3 => ?_
   ·have hlt0 : n1 < l1.length := Int.ofNat_lt.1 (of_decide_eq_true hc3)
    refine Tx ?_
    refine eY NHap (X := y8) (l := l1) Mm fun (γ1 : Nat → SlV) => ?_
    refine rw_q rfl rfl rfl (dv NHap γ1 n1 rfl rfl Zf rfl Zf rfl rfl rfl Mm rfl Zf (fun _ => by first | assumption | omega)) ?_
    refine rw_q rfl rfl rfl (q_is (v' := .agg ⟨[.int .i64 (gt l1 n1).kind, .int .i64 (gt l1 n1).who, .int .i64 (gt l1 n1).n, .int .i64 (gt l1 n1).node, .int .i64 (gt l1 n1).parent, .int .i64 (gt l1 n1).name, (γ1 n1).val (gt l1 n1).roots.length]⟩) (fK NHap γ1 rfl rfl Zf rfl rfl Mm (fun _ => by first | assumption | omega)) rfl) ?_
    refine ay (F := RdL EInt (γ1 n1) (gt l1 n1).roots) [ao NHap γ1 l1] Sm (fun M w h => (allF1 h) n1 Zc _ (.head _)) ?_
    refine Al fun g3 => ?_
    refine Tx ?_
    refine Cg (ik x3 x4 x5 x6 x7 x8 x9 w2) fun x10 => ?_
    refine Al fun g4 => ?_
    refine Tx ?_
    refine aX (jF g4 x10.1 x10.2.1 x10.2.2.1 x10.2.2.2.1 x10.2.2.2.2.1 x10.2.2.2.2.2.1 x10.2.2.2.2.2.2.1 x10.2.2.2.2.2.2.2.1 x10.2.2.2.2.2.2.2.2 w2 (γ1 n1) (gt l1 n1) (jE (by first | assumption | exact hinv | exact ag hc1)).1 (jE (by first | assumption | exact hinv | exact ag hc1)).2.1 (jE (by first | assumption | exact hinv | exact ag hc1)).2.2) .sq (.inl ⟨_, rfl⟩) (ae rfl) rfl rfl rfl Kr rfl rfl Sm Tk Tk ?_
    intro x11
    refine rw_le (aA NClient.E 60 x11.2.2.2.2.2.1 x11.2.2.2.2.2.2.1 (zipG x11.2.2.2.2.2.2.2.1 0 (aq w2 (gt l1 n1)).2.c) Uo) ?_
    refine ay (F := RdN NClient x11.2.2.2.2.2.1 (aq w2 (gt l1 n1)).2.c) [RdG NClient x11.2.2.2.2.2.1 x11.2.2.2.2.2.2.2.1 (aq w2 (gt l1 n1)).2.c, ao NClient x11.2.2.2.2.2.2.2.1 (aq w2 (gt l1 n1)).2.c] Sm (fun M w h => RdN.ofG NClient (h _ (.head _)) (h _ (.tail _ (.head _)))) ?_
    refine Tx ?_
    refine Cd (b := ((aq w2 (gt l1 n1)).1 == 0)) (fun hc4 => ?_) fun hc4 => ?_
    ·have hc4p := eq_of_beq hc4
     refine Tx ?_
     refine bA EInt [(aq w2 (gt l1 n1)).1] .sq (ae rfl) rfl rfl rfl rfl rfl rfl rfl rfl rfl rfl rfl rfl rfl rfl rfl fun x12 x12b => ?_
     refine cg EInt said1 [(aq w2 (gt l1 n1)).1] (b := x2b) .sq (fun _ _ => .inl ⟨_, rfl⟩) (ae rfl) rfl rfl rfl rfl rfl rfl rfl (fun _ _ => Uo) rfl rfl rfl rfl rfl rfl rfl (dC (e := 40) (b := x12b) Mm) (by show (said1.length + 1) * 8 ≤ 140737488355328; (try simp only [List.length_append, List.length_cons, List.length_nil]); omega) fun x13 x13b => ?_
     refine Tx ?_
     refine rw_q rfl rfl rfl (q_add rfl rfl Zf rfl Zf Zo) ?_
     refine Tx ?_
     refine ⟨⟨(said1 ++ [(aq w2 (gt l1 n1)).1]), x13, x13b, (n1 + 1), (aq w2 (gt l1 n1)).2, x11.1, x11.2.1, x11.2.2.1, x11.2.2.2.1, x11.2.2.2.2.1, x11.2.2.2.2.2.1, x11.2.2.2.2.2.2.2.2⟩, ⟨hlt0, Zl, (by first | exact hinv | exact gB hinv (eq_of_beq (by assumption))), (by rw [← hf1, aI hlt0]; simp only [bS, hc4, Cf] : (ap w1 l1) = (bS (l1.drop (n1 + 1)) (said1 ++ [(aq w2 (gt l1 n1)).1]) (aq w2 (gt l1 n1)).2)).symm⟩, (by simp only []; omega), Le4⟩
    ·have hc4p := ne_of_beq_false hc4
     refine Tx ?_
     refine bA EInt [(aq w2 (gt l1 n1)).1] .sq (ae rfl) rfl rfl rfl rfl rfl rfl rfl rfl rfl rfl rfl rfl rfl rfl rfl fun x14 x14b => ?_
     refine cg EInt said1 [(aq w2 (gt l1 n1)).1] (b := x2b) .sq (fun _ _ => .inl ⟨_, rfl⟩) (ae rfl) rfl rfl rfl rfl rfl rfl rfl (fun _ _ => Uo) rfl rfl rfl rfl rfl rfl rfl (dC (e := 40) (b := x14b) Mm) (by show (said1.length + 1) * 8 ≤ 140737488355328; (try simp only [List.length_append, List.length_cons, List.length_nil]); omega) fun x15 x15b => ?_
     refine Tx ?_
     refine rw_q rfl rfl rfl (q_add rfl rfl Zf rfl Zf Zo) ?_
     refine Tx ?_
     refine ⟨⟨(said1 ++ [(aq w2 (gt l1 n1)).1]), x15, x15b, (n1 + 1), w2, x3, x4, x5, x6, x7, x8, x9⟩, ⟨hlt0, Zl, (by first | exact hinv | exact gB hinv (eq_of_beq (by assumption))), (by rw [← hf1, aI hlt0]; simp only [bS, hc4, Cf] : (ap w1 l1) = (bS (l1.drop (n1 + 1)) (said1 ++ [(aq w2 (gt l1 n1)).1]) w2)).symm⟩, (by simp only []; omega), Le4⟩
   ·have hge0 : l1.length ≤ n1 := by have := of_decide_eq_false hc3; omega
    refine Tx ?_
    refine cw_le (aA EInt 40 x2 x2b said1 Uo) ?_
    refine ak ?_; rw [show (ap w1 l1) = (w2, said1, 0) by rw [← hf1, List.drop_of_length_le hge0]; simp only [bS, Cf]]; exact Re ⟨x3, x4, x5, x6, x7, x8, x9, x2⟩ (Va (Vt (Vt Vn)))
end Go.Proofs.YtgkggkgdceapgaaGreatDoor

namespace Go.Proofs.YtgkggkgdceapgaaGreatDoor
open Go Go.Proofs.YtgkggkgdceapgaaGreatDoor.Fw Go.Proofs
theorem mA : ∀ (l : List Happening) (said : List Int) (w : Wld), aF w = 0 → aF (bS l said w).1 = 0 ∧ (bS l said w).2.1.length = said.length + l.length ∧ (bS l said w).2.2 = 0
 | [], said, w, h => ⟨h, rfl, rfl⟩
 | x :: l, said, w, h => by
  rw [bS]
  cases h1 : ((aq w x).1 == 0) with
  | true =>
   obtain ⟨a, b, c⟩ := mA l (said ++ [(aq w x).1]) _ (gB h (eq_of_beq h1))
   exact ⟨a, by rw [cond_true, b]; simp only [List.length_append, List.length_cons, List.length_nil]; omega, c⟩
  | false =>
   obtain ⟨a, b, c⟩ := mA l (said ++ [(aq w x).1]) w h
   exact ⟨a, by rw [cond_false, b]; simp only [List.length_append, List.length_cons, List.length_nil]; omega, c⟩
theorem sG {w : Wld} {l : List Happening} (h : aF w = 0) (hl : l.length ≤ 100) : ap w l = bS l [] w := by
 unfold ap
 have : decide ((l.length : Int) > 100) = false := by simp only [decide_eq_false_iff_not]; omega
 rw [h, bne_self_eq_false, cond_false, this, cond_false]
theorem u0 {w : Wld} {l : List Happening} (h : aF w = 0) (hl : l.length ≤ 100) : (ap w l).2.2 = 0 ∧ aF (ap w l).1 = 0 ∧ (ap w l).2.1.length = l.length := by
 rw [sG h hl]
 obtain ⟨a, b, c⟩ := mA l [] w h
 exact ⟨c, a, by rw [b]; simp⟩
theorem uZ {w : Wld} {l : List Happening} {S : Wld × List Int × Int} (hS : ap w l = S) (h : aF w = 0) (hl : l.length ≤ 100) : S.2.2 = 0 ∧ aF S.1 = 0 ∧ S.2.1.length = l.length := by
 subst hS; exact u0 h hl
theorem sF {w : Wld} {l : List Happening} {S : Wld × List Int × Int} (hS : ap w l = S) : S.2.1.length ≤ 100 := by
 subst hS
 unfold ap
 cases h1 : (aF w != 0) with
 | true => simp
 | false =>
  rw [cond_false]
  cases h2 : decide ((l.length : Int) > 100) with
  | true => simp
  | false =>
   have h2 := of_decide_eq_false h2
   rw [cond_false, (mA l [] w (ag h1)).2.1]
   simp only [List.length_nil]; omega
theorem tv {w : Wld} (h : aF w = 0) {k : Nat} (hk : k < 3) : (gt w.c k).pending.length ≤ 8 := by
 obtain ⟨l, h⟩ := (dV w).1 h
 exact ((dN _ _).1 (h.cli k hk)).few
theorem xq {w : Wld} {l : List Happening} (h : (ap w l).2.2 = 0) : aF w = 0 ∧ l.length ≤ 100 := by
 unfold ap at h
 cases h1 : (aF w != 0) with
 | true => rw [h1, cond_true] at h; simp only at h; rw [h] at h1; cases h1
 | false =>
  rw [h1, cond_false] at h
  cases h2 : decide ((l.length : Int) > 100) with
  | true => rw [h2] at h; cases h
  | false => have := of_decide_eq_false h2; exact ⟨ag h1, by omega⟩
theorem wB : aF cy = 0 := by decide +kernel
theorem iL {w : Wld} (h : aF w = 0) : w.c.length = 3 := by
 obtain ⟨l, h⟩ := (dV w).1 h
 exact h.three
theorem sN {w : Wld} (h : aF w = 0) : bM w.mail = 0 := by
 obtain ⟨l, h⟩ := (dV w).1 h
 exact h.mail
theorem ku : ∀ (a b : List Happening) (said : List Int) (w : Wld), bS (a ++ b) said w = bS b (bS a said w).2.1 (bS a said w).1
 | [], b, said, w => rfl
 | x :: a, b, said, w => by
  rw [List.cons_append, bS, bS]
  cases ((aq w x).1 == 0) with
  | true => exact ku a b _ _
  | false => exact ku a b _ _
theorem jd : ∀ (l : List Happening) (said : List Int) (w : Wld), bS l said w = ((bS l [] w).1, said ++ (bS l [] w).2.1, 0)
 | [], said, w => by simp [bS]
 | x :: l, said, w => by
  rw [bS, bS]
  cases ((aq w x).1 == 0) with
  | true => rw [cond_true, cond_true, jd l (said ++ _), jd l ([] ++ _)]; simp
  | false => rw [cond_false, cond_false, jd l (said ++ _), jd l ([] ++ _)]; simp
theorem pg (eq : Client → Client → Bool) (he : ∀ a, eq a a = true) (s : List Client) : ∀ (r : List Client) (n : Nat), r = s.drop n → bL s eq r n = true
 | [], n, _ => by simp [bL]
 | p :: r, n, h => by
  have hn : n < s.length := by
   rcases Nat.lt_or_ge n s.length with h1 | h1
   ·exact h1
   ·rw [List.drop_of_length_le h1] at h; cases h
  rw [aI hn] at h
  obtain ⟨rfl, h'⟩ := List.cons.inj h
  rw [bL, he]
  exact pg eq he s r (n + 1) h'
theorem sh (eq : Mail → Mail → Bool) (he : ∀ a, eq a a = true) (s : List Mail) : ∀ (r : List Mail) (n : Nat), r = s.drop n → bU s eq r n = true
 | [], n, _ => by simp [bU]
 | p :: r, n, h => by
  have hn : n < s.length := by
   rcases Nat.lt_or_ge n s.length with h1 | h1
   ·exact h1
   ·rw [List.drop_of_length_le h1] at h; cases h
  rw [aI hn] at h
  obtain ⟨rfl, h'⟩ := List.cons.inj h
  rw [bU, he]
  exact sh eq he s r (n + 1) h'
theorem jY (l : List Mail) : gY l l = true := by
 unfold gY cD
 rw [bne_self_eq_false, cond_false]
 exact sh eX (fun a => (qg a a).2 rfl) l l 0 rfl
theorem iP (w : Wld) : fS w w = true := by
 unfold fS cd
 rw [bne_self_eq_false, cond_false, iJ, jY, pg eW (fun a => (ld a a).2 rfl) w.c w.c 0 rfl]
 simp [mr]
theorem qY {w : Wld} {x : Happening} (h : (aK w x).2 = 0) : aF w = 0 ∧ (aq w x).1 = 0 ∧ aK w x = ((aq w x).2, 0) := by
 unfold aK at h ⊢
 cases h1 : (aF w != 0) with
 | true => rw [h1, cond_true] at h; simp only at h; rw [h] at h1; cases h1
 | false =>
  rw [h1, cond_false] at h
  rw [cond_false]
  cases h2 : ((aq w x).1 != 0) with
  | true => rw [h2, cond_true] at h; simp only at h; rw [h] at h2; cases h2
  | false => exact ⟨ag h1, ag h2, rfl⟩
theorem Do_of {w : Wld} {x : Happening} (h : aF w = 0) (h0 : (aq w x).1 = 0) : aK w x = ((aq w x).2, 0) := by
 unfold aK
 rw [h, h0]; rfl
theorem Do_ok {w : Wld} {x : Happening} (h : (aK w x).2 = 0) : aF w = 0 ∧ aF (aK w x).1 = 0 := by
 obtain ⟨h1, h2, h3⟩ := qY h
 exact ⟨h1, by rw [h3]; exact gB h1 h2⟩
theorem Do_okS {w : Wld} {x : Happening} {S : Wld × Int} (hS : aK w x = S) (h : S.2 = 0) : aF w = 0 ∧ aF S.1 = 0 := by
 subst hS; exact Do_ok h
theorem xt {w : Wld} {x : Happening} (h : (aK w x).2 = 0) (hk : ((x.kind == 7) || (x.kind == 9)) = true) : 0 ≤ x.n ∧ x.n < (w.mail.length : Int) := by
 obtain ⟨_, h0, _⟩ := qY h
 unfold aq at h0
 cases h1 : (x.kind == 7) with
 | true =>
  rw [h1, cond_true] at h0
  simp only at h0
  unfold bR at h0
  cases h2 : ((aC w.mail x.n (x.kind == 8)).2.2 != 0) with
  | true => rw [h2, cond_true] at h0; simp only at h0; rw [h0] at h2; cases h2
  | false => have := lM (ag h2); exact ⟨this.2.1, this.2.2⟩
 | false =>
  rw [h1, Bool.false_or] at hk
  have h8 : (x.kind == 8) = false := by rw [eq_of_beq hk]; rfl
  rw [h1, cond_false, h8, cond_false, hk, cond_true] at h0
  cases h2 : ((aC w.mail x.n false).2.2 == 0) with
  | true => have := lM (eq_of_beq h2); exact ⟨this.2.1, this.2.2⟩
  | false => rw [h2, cond_false] at h0; simp only at h0; rw [h0] at h2; cases h2
end Go.Proofs.YtgkggkgdceapgaaGreatDoor

set_option maxHeartbeats 2000000
namespace Go.Proofs.YtgkggkgdceapgaaGreatDoor
open Go Go.Proofs.YtgkggkgdceapgaaGreatDoor.Fw Go.Proofs
attribute [local irreducible] RdL RdN VarP LibP RW CW
def aa (kind1 : Int) (who1 : Int) (n1 : Int) : Happening :=
 (⟨kind1, who1, n1, 0, 0, 0, ([] : List Int)⟩ : Happening)
theorem cb (kind1 : Int) (who1 : Int) (n1 : Int) : Does Tryz.prog 27 [.int .i64 kind1, .int .i64 who1, .int .i64 n1] [] (fun (X : SlV) => .agg ⟨[.int .i64 (aa kind1 who1 n1).kind, .int .i64 (aa kind1 who1 n1).who, .int .i64 (aa kind1 who1 n1).n, .int .i64 (aa kind1 who1 n1).node, .int .i64 (aa kind1 who1 n1).parent, .int .i64 (aa kind1 who1 n1).name, X.val (aa kind1 who1 n1).roots.length]⟩) (fun X => [RdL EInt X (aa kind1 who1 n1).roots]) := by
 refine bd aV Tryz.func27 rfl Tryz.ntmps27 Tryz.results27 rfl inferInstance (fun _ => inferInstance) fun C => ?_
 refine Tx ?_
 refine Al fun g1 => ?_
 refine Tx ?_
 refine Fc EInt ?_
 refine ak ?_; simp only [aa, Cf]; exact Re (⟨none, 0⟩ : SlV) (Va Vn)
def bB (e1 : Int) : Bool :=
 (e1 != 0)
theorem jB (e1 : Int) : Does Tryz.prog 31 [.int .i64 e1] [] (fun (_ : Unit) => .bool (bB e1)) (fun _ => []) := by
 refine bd aV Tryz.func31 rfl Tryz.ntmps31 Tryz.results31 rfl inferInstance (fun _ => inferInstance) fun C => ?_
 refine Tx ?_
 refine ak ?_; simp only [bB, Cf]; exact Re () (Vt Vn)
def bD  : Bool :=
 (bif (((((ap cy [(aa 1 0 0), (aa 6 0 0), (⟨1, 0, 0, 3, 0, 7, ([] : List Int)⟩ : Happening), (aa 6 1 0), (⟨5, 1, 0, 0, 0, 0, [0]⟩ : Happening), (aa 7 0 0), (aa 3 1 0), (aa 7 0 0), (aa 3 0 0), (aa 7 0 0), (aa 4 1 3), (aa 7 0 0)]).2.2 == 0) && ((bu (ap cy [(aa 1 0 0), (aa 6 0 0), (⟨1, 0, 0, 3, 0, 7, ([] : List Int)⟩ : Happening), (aa 6 1 0), (⟨5, 1, 0, 0, 0, 0, [0]⟩ : Happening), (aa 7 0 0), (aa 3 1 0), (aa 7 0 0), (aa 3 0 0), (aa 7 0 0), (aa 4 1 3), (aa 7 0 0)]).2.1 7) == 0)) && (!(aY ((ap cy [(aa 1 0 0), (aa 6 0 0), (⟨1, 0, 0, 3, 0, 7, ([] : List Int)⟩ : Happening), (aa 6 1 0), (⟨5, 1, 0, 0, 0, 0, [0]⟩ : Happening), (aa 7 0 0), (aa 3 1 0), (aa 7 0 0), (aa 3 0 0), (aa 7 0 0), (aa 4 1 3), (aa 7 0 0)]).2.1.drop 1) bB))) && ((ap cy [(aa 1 0 0), (aa 6 0 0), (⟨1, 0, 0, 3, 0, 7, ([] : List Int)⟩ : Happening), (aa 6 1 0), (⟨5, 1, 0, 0, 0, 0, [0]⟩ : Happening), (aa 7 0 0), (aa 3 1 0), (aa 7 0 0), (aa 3 0 0), (aa 7 0 0), (aa 4 1 3), (aa 7 0 0)]).1.h.version == 4)) then ((((((((ap cy [(aa 1 0 0), (aa 6 0 0), (⟨1, 0, 0, 3, 0, 7, ([] : List Int)⟩ : Happening), (aa 6 1 0), (⟨5, 1, 0, 0, 0, 0, [0]⟩ : Happening), (aa 7 0 0), (aa 3 1 0), (aa 7 0 0), (aa 3 0 0), (aa 7 0 0), (aa 4 1 3), (aa 7 0 0)]).2.2 == 0) && ((bu (ap cy [(aa 1 0 0), (aa 6 0 0), (⟨1, 0, 0, 3, 0, 7, ([] : List Int)⟩ : Happening), (aa 6 1 0), (⟨5, 1, 0, 0, 0, 0, [0]⟩ : Happening), (aa 7 0 0), (aa 3 1 0), (aa 7 0 0), (aa 3 0 0), (aa 7 0 0), (aa 4 1 3), (aa 7 0 0)]).2.1 7) == 0)) && (!(aY ((ap cy [(aa 1 0 0), (aa 6 0 0), (⟨1, 0, 0, 3, 0, 7, ([] : List Int)⟩ : Happening), (aa 6 1 0), (⟨5, 1, 0, 0, 0, 0, [0]⟩ : Happening), (aa 7 0 0), (aa 3 1 0), (aa 7 0 0), (aa 3 0 0), (aa 7 0 0), (aa 4 1 3), (aa 7 0 0)]).2.1.drop 1) bB))) && ((ap cy [(aa 1 0 0), (aa 6 0 0), (⟨1, 0, 0, 3, 0, 7, ([] : List Int)⟩ : Happening), (aa 6 1 0), (⟨5, 1, 0, 0, 0, 0, [0]⟩ : Happening), (aa 7 0 0), (aa 3 1 0), (aa 7 0 0), (aa 3 0 0), (aa 7 0 0), (aa 4 1 3), (aa 7 0 0)]).1.h.version == 4)) && (decide ((gt (ap cy [(aa 1 0 0), (aa 6 0 0), (⟨1, 0, 0, 3, 0, 7, ([] : List Int)⟩ : Happening), (aa 6 1 0), (⟨5, 1, 0, 0, 0, 0, [0]⟩ : Happening), (aa 7 0 0), (aa 3 1 0), (aa 7 0 0), (aa 3 0 0), (aa 7 0 0), (aa 4 1 3), (aa 7 0 0)]).1.c 1).v.known = [(⟨3, 0, 7⟩ : Place)]))) && (((gt (ap cy [(aa 1 0 0), (aa 6 0 0), (⟨1, 0, 0, 3, 0, 7, ([] : List Int)⟩ : Happening), (aa 6 1 0), (⟨5, 1, 0, 0, 0, 0, [0]⟩ : Happening), (aa 7 0 0), (aa 3 1 0), (aa 7 0 0), (aa 3 0 0), (aa 7 0 0), (aa 4 1 3), (aa 7 0 0)]).1.c 0).pending.length : Int) == 0)) && (((ap cy [(aa 1 0 0), (aa 6 0 0), (⟨1, 0, 0, 3, 0, 7, ([] : List Int)⟩ : Happening), (aa 6 1 0), (⟨5, 1, 0, 0, 0, 0, [0]⟩ : Happening), (aa 7 0 0), (aa 3 1 0), (aa 7 0 0), (aa 3 0 0), (aa 7 0 0), (aa 4 1 3), (aa 7 0 0)]).1.mail.length : Int) == 0)) else ((((((((ap cy [(aa 1 0 0), (aa 6 0 0), (⟨1, 0, 0, 3, 0, 7, ([] : List Int)⟩ : Happening), (aa 6 1 0), (⟨5, 1, 0, 0, 0, 0, [0]⟩ : Happening), (aa 7 0 0), (aa 3 1 0), (aa 7 0 0), (aa 3 0 0), (aa 7 0 0), (aa 4 1 3), (aa 7 0 0)]).2.2 == 0) && ((bu (ap cy [(aa 1 0 0), (aa 6 0 0), (⟨1, 0, 0, 3, 0, 7, ([] : List Int)⟩ : Happening), (aa 6 1 0), (⟨5, 1, 0, 0, 0, 0, [0]⟩ : Happening), (aa 7 0 0), (aa 3 1 0), (aa 7 0 0), (aa 3 0 0), (aa 7 0 0), (aa 4 1 3), (aa 7 0 0)]).2.1 7) == 0)) && (!(aY ((ap cy [(aa 1 0 0), (aa 6 0 0), (⟨1, 0, 0, 3, 0, 7, ([] : List Int)⟩ : Happening), (aa 6 1 0), (⟨5, 1, 0, 0, 0, 0, [0]⟩ : Happening), (aa 7 0 0), (aa 3 1 0), (aa 7 0 0), (aa 3 0 0), (aa 7 0 0), (aa 4 1 3), (aa 7 0 0)]).2.1.drop 1) bB))) && ((ap cy [(aa 1 0 0), (aa 6 0 0), (⟨1, 0, 0, 3, 0, 7, ([] : List Int)⟩ : Happening), (aa 6 1 0), (⟨5, 1, 0, 0, 0, 0, [0]⟩ : Happening), (aa 7 0 0), (aa 3 1 0), (aa 7 0 0), (aa 3 0 0), (aa 7 0 0), (aa 4 1 3), (aa 7 0 0)]).1.h.version == 4)) && false) && false) && false))
theorem cv  : Does Tryz.prog 9 [] [LibP Tryz.prog] (fun (_ : Unit) => .bool bD) (fun _ => []) := by
 refine bd aV Tryz.func9 rfl Tryz.ntmps9 Tryz.results9 rfl inferInstance (fun _ => inferInstance) fun C => ?_
 refine Tx ?_
 refine Cl (oP ) fun x1 => ?_
 refine Rp rfl rfl rfl rfl ?_
 refine em (cb 1 0 0) .sq (ae rfl) rfl rfl rfl rfl rfl Kr rfl rfl rfl Sm ?_
 intro x2
 refine Rp rfl rfl rfl rfl ?_
 refine em (cb 6 0 0) .sq (ae rfl) rfl rfl rfl rfl rfl Kr rfl rfl rfl Sm ?_
 intro x3
 refine Tx ?_
 refine em (cb 6 1 0) .sq (ae rfl) rfl rfl rfl rfl rfl Kr rfl rfl rfl Sm ?_
 intro x4
 refine bA EInt [0] .sq (ae rfl) rfl rfl rfl rfl rfl rfl rfl rfl rfl rfl rfl rfl rfl rfl rfl fun x5 x5b => ?_
 refine Tx ?_
 refine em (cb 7 0 0) .sq (ae rfl) rfl rfl rfl rfl rfl Kr rfl rfl rfl Sm ?_
 intro x6
 refine Rp rfl rfl rfl rfl ?_
 refine em (cb 3 1 0) .sq (ae rfl) rfl rfl rfl rfl rfl Kr rfl rfl rfl Sm ?_
 intro x7
 refine Rp rfl rfl rfl rfl ?_
 refine em (cb 7 0 0) .sq (ae rfl) rfl rfl rfl rfl rfl Kr rfl rfl rfl Sm ?_
 intro x8
 refine Rp rfl rfl rfl rfl ?_
 refine em (cb 3 0 0) .sq (ae rfl) rfl rfl rfl rfl rfl Kr rfl rfl rfl Sm ?_
 intro x9
 refine Rp rfl rfl rfl rfl ?_
 refine em (cb 7 0 0) .sq (ae rfl) rfl rfl rfl rfl rfl Kr rfl rfl rfl Sm ?_
 intro x10
 refine Rp rfl rfl rfl rfl ?_
 refine em (cb 4 1 3) .sq (ae rfl) rfl rfl rfl rfl rfl Kr rfl rfl rfl Sm ?_
 intro x11
 refine Rp rfl rfl rfl rfl ?_
 refine em (cb 7 0 0) .sq (ae rfl) rfl rfl rfl rfl rfl Kr rfl rfl rfl Sm ?_
 intro x12
 refine Fr EInt ?_
 refine rw_le (aA EInt 3 x5 x5b [0] Uo) ?_
 refine bA NHap.E [(x2, (aa 1 0 0)), (x3, (aa 6 0 0)), ((⟨none, 0⟩ : SlV), (⟨1, 0, 0, 3, 0, 7, ([] : List Int)⟩ : Happening)), (x4, (aa 6 1 0)), (x5, (⟨5, 1, 0, 0, 0, 0, [0]⟩ : Happening)), (x6, (aa 7 0 0)), (x7, (aa 3 1 0)), (x8, (aa 7 0 0)), (x9, (aa 3 0 0)), (x10, (aa 7 0 0)), (x11, (aa 4 1 3)), (x12, (aa 7 0 0))] .sq (ae rfl) rfl rfl rfl rfl rfl rfl rfl rfl rfl rfl rfl rfl rfl (td [.agg ⟨[.int .i64 (aa 1 0 0).kind, .int .i64 (aa 1 0 0).who, .int .i64 (aa 1 0 0).n, .int .i64 (aa 1 0 0).node, .int .i64 (aa 1 0 0).parent, .int .i64 (aa 1 0 0).name, x2.val (aa 1 0 0).roots.length]⟩, .agg ⟨[.int .i64 (aa 6 0 0).kind, .int .i64 (aa 6 0 0).who, .int .i64 (aa 6 0 0).n, .int .i64 (aa 6 0 0).node, .int .i64 (aa 6 0 0).parent, .int .i64 (aa 6 0 0).name, x3.val (aa 6 0 0).roots.length]⟩, .agg ⟨[.int .i64 1, .int .i64 0, .int .i64 0, .int .i64 3, .int .i64 0, .int .i64 7, .slice none 0 0]⟩, .agg ⟨[.int .i64 (aa 6 1 0).kind, .int .i64 (aa 6 1 0).who, .int .i64 (aa 6 1 0).n, .int .i64 (aa 6 1 0).node, .int .i64 (aa 6 1 0).parent, .int .i64 (aa 6 1 0).name, x4.val (aa 6 1 0).roots.length]⟩, .agg ⟨[.int .i64 5, .int .i64 1, .int .i64 0, .int .i64 0, .int .i64 0, .int .i64 0, x5.val [0].length]⟩, .agg ⟨[.int .i64 (aa 7 0 0).kind, .int .i64 (aa 7 0 0).who, .int .i64 (aa 7 0 0).n, .int .i64 (aa 7 0 0).node, .int .i64 (aa 7 0 0).parent, .int .i64 (aa 7 0 0).name, x6.val (aa 7 0 0).roots.length]⟩, .agg ⟨[.int .i64 (aa 3 1 0).kind, .int .i64 (aa 3 1 0).who, .int .i64 (aa 3 1 0).n, .int .i64 (aa 3 1 0).node, .int .i64 (aa 3 1 0).parent, .int .i64 (aa 3 1 0).name, x7.val (aa 3 1 0).roots.length]⟩, .agg ⟨[.int .i64 (aa 7 0 0).kind, .int .i64 (aa 7 0 0).who, .int .i64 (aa 7 0 0).n, .int .i64 (aa 7 0 0).node, .int .i64 (aa 7 0 0).parent, .int .i64 (aa 7 0 0).name, x8.val (aa 7 0 0).roots.length]⟩, .agg ⟨[.int .i64 (aa 3 0 0).kind, .int .i64 (aa 3 0 0).who, .int .i64 (aa 3 0 0).n, .int .i64 (aa 3 0 0).node, .int .i64 (aa 3 0 0).parent, .int .i64 (aa 3 0 0).name, x9.val (aa 3 0 0).roots.length]⟩, .agg ⟨[.int .i64 (aa 7 0 0).kind, .int .i64 (aa 7 0 0).who, .int .i64 (aa 7 0 0).n, .int .i64 (aa 7 0 0).node, .int .i64 (aa 7 0 0).parent, .int .i64 (aa 7 0 0).name, x10.val (aa 7 0 0).roots.length]⟩, .agg ⟨[.int .i64 (aa 4 1 3).kind, .int .i64 (aa 4 1 3).who, .int .i64 (aa 4 1 3).n, .int .i64 (aa 4 1 3).node, .int .i64 (aa 4 1 3).parent, .int .i64 (aa 4 1 3).name, x11.val (aa 4 1 3).roots.length]⟩, .agg ⟨[.int .i64 (aa 7 0 0).kind, .int .i64 (aa 7 0 0).who, .int .i64 (aa 7 0 0).n, .int .i64 (aa 7 0 0).node, .int .i64 (aa 7 0 0).parent, .int .i64 (aa 7 0 0).name, x12.val (aa 7 0 0).roots.length]⟩] rfl (by intro v hv; simp only [List.mem_cons, List.not_mem_nil, or_false] at hv; rcases hv with rfl | rfl | rfl | rfl | rfl | rfl | rfl | rfl | rfl | rfl | rfl | rfl <;> rfl) rfl rfl) rfl fun x13 x13b => ?_
 refine rw_le (aA NHap.E 51 x13 x13b [(x2, (aa 1 0 0)), (x3, (aa 6 0 0)), ((⟨none, 0⟩ : SlV), (⟨1, 0, 0, 3, 0, 7, ([] : List Int)⟩ : Happening)), (x4, (aa 6 1 0)), (x5, (⟨5, 1, 0, 0, 0, 0, [0]⟩ : Happening)), (x6, (aa 7 0 0)), (x7, (aa 3 1 0)), (x8, (aa 7 0 0)), (x9, (aa 3 0 0)), (x10, (aa 7 0 0)), (x11, (aa 4 1 3)), (x12, (aa 7 0 0))] Uo) ?_
 refine ay (F := RdN NHap x13 [(aa 1 0 0), (aa 6 0 0), (⟨1, 0, 0, 3, 0, 7, ([] : List Int)⟩ : Happening), (aa 6 1 0), (⟨5, 1, 0, 0, 0, 0, [0]⟩ : Happening), (aa 7 0 0), (aa 3 1 0), (aa 7 0 0), (aa 3 0 0), (aa 7 0 0), (aa 4 1 3), (aa 7 0 0)]) [RdL NHap.E x13 [(x2, (aa 1 0 0)), (x3, (aa 6 0 0)), ((⟨none, 0⟩ : SlV), (⟨1, 0, 0, 3, 0, 7, ([] : List Int)⟩ : Happening)), (x4, (aa 6 1 0)), (x5, (⟨5, 1, 0, 0, 0, 0, [0]⟩ : Happening)), (x6, (aa 7 0 0)), (x7, (aa 3 1 0)), (x8, (aa 7 0 0)), (x9, (aa 3 0 0)), (x10, (aa 7 0 0)), (x11, (aa 4 1 3)), (x12, (aa 7 0 0))], RdL EInt x2 (aa 1 0 0).roots, RdL EInt x3 (aa 6 0 0).roots, RdL EInt (⟨none, 0⟩ : SlV) ([] : List Int), RdL EInt x4 (aa 6 1 0).roots, RdL EInt x5 [0], RdL EInt x6 (aa 7 0 0).roots, RdL EInt x7 (aa 3 1 0).roots, RdL EInt x8 (aa 7 0 0).roots, RdL EInt x9 (aa 3 0 0).roots, RdL EInt x10 (aa 7 0 0).roots, RdL EInt x11 (aa 4 1 3).roots, RdL EInt x12 (aa 7 0 0).roots] Sm (fun M w h => RdN.of NHap (hs := [(x2, (aa 1 0 0)), (x3, (aa 6 0 0)), ((⟨none, 0⟩ : SlV), (⟨1, 0, 0, 3, 0, 7, ([] : List Int)⟩ : Happening)), (x4, (aa 6 1 0)), (x5, (⟨5, 1, 0, 0, 0, 0, [0]⟩ : Happening)), (x6, (aa 7 0 0)), (x7, (aa 3 1 0)), (x8, (aa 7 0 0)), (x9, (aa 3 0 0)), (x10, (aa 7 0 0)), (x11, (aa 4 1 3)), (x12, (aa 7 0 0))]) rfl (h _ (.head _)) (aP (cL Sm h) (aP (cL Sm h) (aP (cL Sm h) (aP (cL Sm h) (aP (cL Sm h) (aP (cL Sm h) (aP (cL Sm h) (aP (cL Sm h) (aP (cL Sm h) (aP (cL Sm h) (aP (cL Sm h) (aP (cL Sm h) (fun p hp => by cases hp)))))))))))))) ?_
 refine Cl (fH x1.1 x1.2.1 x1.2.2.1 x1.2.2.2.1 x1.2.2.2.2.1 x1.2.2.2.2.2.1 x1.2.2.2.2.2.2 cy x13 [(aa 1 0 0), (aa 6 0 0), (⟨1, 0, 0, 3, 0, 7, ([] : List Int)⟩ : Happening), (aa 6 1 0), (⟨5, 1, 0, 0, 0, 0, [0]⟩ : Happening), (aa 7 0 0), (aa 3 1 0), (aa 7 0 0), (aa 3 0 0), (aa 7 0 0), (aa 4 1 3), (aa 7 0 0)]) fun x14 => ?_
 generalize hS1 : (ap cy [(aa 1 0 0), (aa 6 0 0), (⟨1, 0, 0, 3, 0, 7, ([] : List Int)⟩ : Happening), (aa 6 1 0), (⟨5, 1, 0, 0, 0, 0, [0]⟩ : Happening), (aa 7 0 0), (aa 3 1 0), (aa 7 0 0), (aa 3 0 0), (aa 7 0 0), (aa 4 1 3), (aa 7 0 0)]) = S1
 have hsh3 := iL (uZ hS1 wB (by decide)).2.1
 have hshl : S1.2.1.length = 12 := (uZ hS1 wB (by decide)).2.2
 refine Tx ?_
 refine Al fun g1 => ?_
 refine Tx ?_
 refine Cl (j4 x14.2.2.2.2.2.2.2 S1.2.1 7) fun _ => ?_
 refine Tx ?_
 refine rw_qg (au rfl rfl rfl) rfl rfl (o7 EInt 1 rfl rfl Bt rfl Bt rfl rfl (by intro h; first | omega | (simp at h; omega)) (by intro h; first | omega | (simp at h; omega))) ?_
 refine ay (F := RdL EInt (⟨slA x14.2.2.2.2.2.2.2.a x14.2.2.2.2.2.2.2.c 1 EInt.esz, x14.2.2.2.2.2.2.2.c - 1⟩ : SlV) (S1.2.1.drop 1)) [RdL EInt x14.2.2.2.2.2.2.2 S1.2.1] Sm (fun M w h => (allF1 h).drop _ (by omega)) ?_
 refine c6 (fun hG_ => ia (⟨slA x14.2.2.2.2.2.2.2.a x14.2.2.2.2.2.2.2.c 1 EInt.esz, x14.2.2.2.2.2.2.2.c - 1⟩ : SlV) (S1.2.1.drop 1) _ _ _ bB Kr (fun a0_ => jB a0_)) Zf .sq (au rfl rfl rfl) rfl rfl rfl Kr rfl Bt Sm ?_
 refine Tx ?_
 refine eY NClient (X := x14.2.2.2.2.2.1) (l := S1.1.c) Mm fun (γ1 : Nat → SlV × SlV × SlV × SlV) => ?_
 refine rw_qg (au rfl rfl rfl) rfl rfl (dv NClient γ1 1 rfl rfl Bt rfl Bt rfl rfl rfl Mm rfl (by intro h; first | omega | rfl | (simp at h; omega)) (by first | (intro _; first | assumption | omega) | (intro h; simp at h; omega))) ?_
 refine rw_qg (au rfl rfl rfl) rfl rfl (q_fae rfl rfl Bt rfl rfl) ?_
 refine rw_qg (au rfl rfl rfl) rfl rfl (q_fae rfl rfl Bt rfl rfl) ?_
 refine rw_qg (au rfl rfl rfl) rfl rfl (iw NClient γ1 (v := (γ1 1).2.2.1.val (gt S1.1.c 1).v.known.length) rfl rfl Bt rfl rfl Mm (by first | (intro _; first | assumption | omega) | (intro h; simp at h; omega)) rfl) ?_
 refine ay (F := RdL EPlace (γ1 1).2.2.1 (gt S1.1.c 1).v.known) [ao NClient γ1 S1.1.c] Sm (fun M w h => (allF1 h) 1 Zc _ (.tail _ (.tail _ (.head _)))) ?_
 refine Tx ?_
 refine pF .sq (au rfl rfl rfl) (fun hg1 => ?_) (fun hg1 => ?_)
 ·refine bA EPlace [(⟨3, 0, 7⟩ : Place)] .sq (ly (au rfl rfl rfl) hg1) rfl rfl rfl rfl rfl rfl rfl rfl rfl rfl rfl (by first | rfl | assumption | (simp only [hg1, Bool.and_true, Bool.true_and, Bool.and_self, Bool.not_false, Bool.not_true]; done) | simp_all) rfl rfl rfl fun x15 x15b => ?_
  refine l6 ((fun y1 a y2 b => dm y1 y2 a b) (γ1 1).2.2.1 (gt S1.1.c 1).v.known x15 [(⟨3, 0, 7⟩ : Place)]) .sq (ly (au rfl rfl rfl) hg1) rfl rfl rfl Kr rfl (by first | rfl | assumption | (simp only [hg1, Bool.and_true, Bool.true_and, Bool.and_self, Bool.not_false, Bool.not_true]; done) | simp_all) (.fact Mm (.own Mm (.nil _ _))) ?_
  intro _
  refine Tx ?_
  refine rw_qg (au rfl rfl rfl) rfl rfl (dv NClient γ1 0 rfl rfl Bt rfl Bt rfl rfl rfl Mm rfl (by intro h; first | omega | rfl | (simp at h; omega)) (by first | (intro _; first | assumption | omega) | (intro h; simp at h; omega))) ?_
  refine rw_qg (au rfl rfl rfl) rfl rfl (q_fae rfl rfl Bt rfl rfl) ?_
  refine rw_qg (au rfl rfl rfl) rfl rfl (iw NClient γ1 (v := (γ1 0).1.val (gt S1.1.c 0).pending.length) rfl rfl Bt rfl rfl Mm (by first | (intro _; first | assumption | omega) | (intro h; simp at h; omega)) rfl) ?_
  refine ay (F := RdL EOp (γ1 0).1 (gt S1.1.c 0).pending) [ao NClient γ1 S1.1.c] Sm (fun M w h => (allF1 h) 0 Zc _ (.head _)) ?_
  refine Tx ?_
  refine ak ?_; simp only [bD, hS1, hg1, Cb, Cf]; exact Re () (Vt Vn)
 ·refine mJ .sq (au rfl rfl rfl) hg1 rfl rfl ?_
  refine mJ .sq (au rfl rfl rfl) hg1 rfl rfl ?_
  refine rw_q rfl rfl rfl (q_pev rfl Bt) ?_
  refine Rp rfl rfl rfl rfl ?_
  refine rw_qg (au rfl rfl rfl) rfl rfl (kC (v := .bool false) ((by simp only [hg1, Bool.and_false, Bool.false_and, Bool.or_true, Bool.true_or, Bool.or_false, Bool.false_or, Bool.and_true, Bool.true_and, Bool.not_true, Bool.not_false]) : (((((S1.2.2 == 0) && ((bu S1.2.1 7) == 0)) && (!(aY (S1.2.1.drop 1) bB))) && (S1.1.h.version == 4)) && false) = false)) ?_
  refine rw_qg (au rfl rfl rfl) rfl rfl (kC (v := .bool false) ((by simp only [hg1, Bool.and_false, Bool.false_and, Bool.or_true, Bool.true_or, Bool.or_false, Bool.false_or, Bool.and_true, Bool.true_and, Bool.not_true, Bool.not_false]) : (((((S1.2.2 == 0) && ((bu S1.2.1 7) == 0)) && (!(aY (S1.2.1.drop 1) bB))) && (S1.1.h.version == 4)) && false) = false)) ?_
  refine rw_qg (au rfl rfl rfl) rfl rfl (kC (v := .bool false) ((by simp only [hg1, Bool.and_false, Bool.false_and, Bool.or_true, Bool.true_or, Bool.or_false, Bool.false_or, Bool.and_true, Bool.true_and, Bool.not_true, Bool.not_false]) : (((((S1.2.2 == 0) && ((bu S1.2.1 7) == 0)) && (!(aY (S1.2.1.drop 1) bB))) && (S1.1.h.version == 4)) && false) = false)) ?_
  refine rw_qg (au rfl rfl rfl) rfl rfl (kC (v := .bool false) ((by simp only [hg1, Bool.and_false, Bool.false_and, Bool.or_true, Bool.true_or, Bool.or_false, Bool.false_or, Bool.and_true, Bool.true_and, Bool.not_true, Bool.not_false]) : (((((S1.2.2 == 0) && ((bu S1.2.1 7) == 0)) && (!(aY (S1.2.1.drop 1) bB))) && (S1.1.h.version == 4)) && false) = false)) ?_
  refine rw_qg (au rfl rfl rfl) rfl rfl (kC (v := .bool false) ((by simp only [hg1, Bool.and_false, Bool.false_and, Bool.or_true, Bool.true_or, Bool.or_false, Bool.false_or, Bool.and_true, Bool.true_and, Bool.not_true, Bool.not_false]) : (((((S1.2.2 == 0) && ((bu S1.2.1 7) == 0)) && (!(aY (S1.2.1.drop 1) bB))) && (S1.1.h.version == 4)) && false) = false)) ?_
  refine rw_qg (au rfl rfl rfl) rfl rfl (kC (v := .bool false) ((by simp only [hg1, Bool.and_false, Bool.false_and, Bool.or_true, Bool.true_or, Bool.or_false, Bool.false_or, Bool.and_true, Bool.true_and, Bool.not_true, Bool.not_false]) : (((((S1.2.2 == 0) && ((bu S1.2.1 7) == 0)) && (!(aY (S1.2.1.drop 1) bB))) && (S1.1.h.version == 4)) && false) = false)) ?_
  refine rw_qg (au rfl rfl rfl) rfl rfl (kC (v := .bool false) ((by simp only [hg1, Bool.and_false, Bool.false_and, Bool.or_true, Bool.true_or, Bool.or_false, Bool.false_or, Bool.and_true, Bool.true_and, Bool.not_true, Bool.not_false]) : (((((S1.2.2 == 0) && ((bu S1.2.1 7) == 0)) && (!(aY (S1.2.1.drop 1) bB))) && (S1.1.h.version == 4)) && false) = false)) ?_
  refine rw_q rfl rfl rfl (q_pev rfl Bt) ?_
  refine Rp rfl rfl rfl rfl ?_
  refine rw_qg (au rfl rfl rfl) rfl rfl (kC (v := .bool false) ((by simp only [hg1, Bool.and_false, Bool.false_and, Bool.or_true, Bool.true_or, Bool.or_false, Bool.false_or, Bool.and_true, Bool.true_and, Bool.not_true, Bool.not_false]) : ((((((S1.2.2 == 0) && ((bu S1.2.1 7) == 0)) && (!(aY (S1.2.1.drop 1) bB))) && (S1.1.h.version == 4)) && false) && false) = false)) ?_
  refine rw_qg (au rfl rfl rfl) rfl rfl (kC (v := .bool false) ((by simp only [hg1, Bool.and_false, Bool.false_and, Bool.or_true, Bool.true_or, Bool.or_false, Bool.false_or, Bool.and_true, Bool.true_and, Bool.not_true, Bool.not_false]) : ((((((S1.2.2 == 0) && ((bu S1.2.1 7) == 0)) && (!(aY (S1.2.1.drop 1) bB))) && (S1.1.h.version == 4)) && false) && false) = false)) ?_
  refine rw_qg (au rfl rfl rfl) rfl rfl (kC (v := .bool false) ((by simp only [hg1, Bool.and_false, Bool.false_and, Bool.or_true, Bool.true_or, Bool.or_false, Bool.false_or, Bool.and_true, Bool.true_and, Bool.not_true, Bool.not_false]) : ((((((S1.2.2 == 0) && ((bu S1.2.1 7) == 0)) && (!(aY (S1.2.1.drop 1) bB))) && (S1.1.h.version == 4)) && false) && false) = false)) ?_
  refine rw_qg (au rfl rfl rfl) rfl rfl (kC (v := .bool false) ((by simp only [hg1, Bool.and_false, Bool.false_and, Bool.or_true, Bool.true_or, Bool.or_false, Bool.false_or, Bool.and_true, Bool.true_and, Bool.not_true, Bool.not_false]) : ((((((S1.2.2 == 0) && ((bu S1.2.1 7) == 0)) && (!(aY (S1.2.1.drop 1) bB))) && (S1.1.h.version == 4)) && false) && false) = false)) ?_
  refine Tx ?_
  refine ak ?_; simp only [bD, hS1, hg1, Cb, Cf]; exact Re () (Vt Vn)
end Go.Proofs.YtgkggkgdceapgaaGreatDoor

namespace Go.Proofs.YtgkggkgdceapgaaGreatDoor
open Go Go.Proofs.YtgkggkgdceapgaaGreatDoor.Fw Go.Proofs
theorem iV : bD = true := by decide +kernel
end Go.Proofs.YtgkggkgdceapgaaGreatDoor

namespace Go.Proofs.YtgkggkgdceapgaaGreatDoor
open Go Go.Proofs.YtgkggkgdceapgaaGreatDoor.Fw Go.Proofs Go.Proofs.YtgkggkgdceapgaaGreatDoor Go.RowKit
theorem rJ : "*" ++ "errors.errorString" = "*errors.errorString" := by decide
theorem tJ (u : TypeId) (h : Tryz.prog.typeName? 3 u = some "*errors.errorString") : u = 259 :=
 typeName_ptr_named (nm := "errors.errorString") (by rw [rJ]; kernel_rfl) (by kernel_rfl) (by decide) u (by rw [rJ]; exact h)
theorem xa {W : World} (h : laidMetH Tryz.prog Rows.worldPartsRow.laid W) (hsh : W.ShapedOpen Tryz.prog) : LibP Tryz.prog (fun _ => False) W := by
 rw [MakeChecks.laidMetH_plain _ _ _ (by kernel_rfl)] at h
 have e1 : (Rows.laid_internal_strconv_uint64pow10 : DataW Unit) = Lib.tabData .u64 Lib.pow10Tab := by kernel_rfl
 have h2 : laidMet Tryz.prog [("internal/strconv.uint64pow10", Rows.laid_internal_strconv_uint64pow10), ("unicode/utf8.acceptRanges", Rows.laid_unicode_utf8_acceptRanges), ("strconv.ErrRange", Rows.laid_strconv_ErrRange), ("strconv.ErrSyntax", Rows.laid_strconv_ErrSyntax), ("unicode/utf8.first", Rows.laid_unicode_utf8_first)] W := (laidMet.tail (laidMet.tail h))
 have h4 := laidMet.tail (laidMet.tail h2)
 have h5 := laidMet.tail h4
 rw [e1] at h2
 refine w9 ⟨?_, ?_, ?_, ?_⟩
 ·obtain ⟨m, hm⟩ := cell_of_shapedOpen_int (g := 0) (zero := #[.int .i64 0]) (t := 3) hsh (of_decide_eq_true (by kernel_rfl)) (by kernel_rfl) rfl (by kernel_rfl) (by kernel_rfl) Tryz.underlying3
  exact ⟨0, m, by kernel_rfl, hm⟩
 ·exact Lib.tabIs_of_head (g := 3) (by kernel_rfl) (by kernel_rfl) Tryz.underlying263 Tryz.underlying242 (by kernel_rfl) (by kernel_rfl) h2
 ·obtain ⟨a, s, hv, _⟩ := laid_sentinel h5 (g := 1) (ti := 192) (tp := 259) (te := 261) (ts := 9) (by kernel_rfl) (by kernel_rfl) q8 tJ Tryz.underlying259 Tryz.underlying261 rfl rfl und_9 (by kernel_rfl) (by kernel_rfl)
  exact ⟨_, _, hv⟩
 ·obtain ⟨a, s, hv, _⟩ := laid_sentinel h4 (g := 2) (ti := 192) (tp := 259) (te := 261) (ts := 9) (by kernel_rfl) (by kernel_rfl) q8 tJ Tryz.underlying259 Tryz.underlying261 rfl rfl und_9 (by kernel_rfl) (by kernel_rfl)
  exact ⟨_, _, hv⟩
section
variable {H : Type} {enc : TypeId × Value → H}
theorem wrapped {a : Assume} {C : Checked} {os : Os} {f : FuncId} {fn : Func} {s : ChangeSpec} {conds : List PathCond} {apart fresh handsOn again : Bool} {laid : List (String × DataW Unit)}
  (own : ownKnob C.prog.godebug = none) (started : os.Started) (noInit : C.prog.inits.idxOf? f = none) (hfn : C.prog.funcs[f]? = some fn)
  (witness : ∃ (w : World) (tape : Tape) (i : Input), w.os = os ∧ (w.forCall tape i).Shaped C.prog ∧ i.vars = [] ∧ Input.okWide C.prog (w.forCall tape i) .any w.heap.size f i ∧
   ((s.pre enc C.prog fn conds apart (w.forCall tape i).memory i.args ∧ laidMetH C.prog laid (w.forCall tape i).memory) ∧ sizedMet enc C.prog fn (OpenSpec.ofChange s) apart (w.forCall tape i).memory i.args) ∧ a.holds C.prog (lone (Frame.enter C.prog f i.args .normal) [] (w.forCall tape i)))
  (contract : ∀ (W : World) (base : Nat) (args : Array Value) (ds gs : List (DataW H)) (before : List MemPlace),
   (∀ (j : Nat) t v, fn.params[j]? = some t → args[j]? = some v → Value.okWide C.prog W .any base t v) →
   DataW.Whole enc C.prog fn.params.toList s.vars apart W args.toList ds gs before →
   conds.all (PathCond.test C.prog ⟨fn.params.toList, ds, s.plain.varTypes C.prog, gs⟩) = true →
   (DataW.weightsEach C.prog (fn.params.toList ++ s.plain.varTypes C.prog) (ds ++ gs)).all (· ≤ reachBytes) = true → laidMetH C.prog laid W → W.ShapedOpen C.prog →
   Calls C.prog f args W fun e W' => ∃ v, e = .returned v ∧ s.post enc C.prog fn apart fresh handsOn again W args v W') :
  ReturnsInHanded a C os f .any (fun w args => (s.pre enc C.prog fn conds apart w args ∧ laidMetH C.prog laid w) ∧ sizedMet enc C.prog fn (OpenSpec.ofChange s) apart w args) (s.post enc C.prog fn apart fresh handsOn again) := by
 refine returnsInHanded_of_calls own started noInit witness ?_
 intro w tape i _ hsh _ hok hpre hholds
 obtain ⟨_, _, _, fn', hfn', _, _, _, _, hval⟩ := hok
 have e : fn' = fn := Option.some.inj (hfn'.symm.trans hfn)
 subst e
 obtain ⟨⟨⟨ds, gs, before, hw, hc⟩, hx⟩, hz⟩ := hpre
 have hw' := DataW.Whole.of_heap (w' := w.forCall tape i) (by rfl) hw
 refine (contract (w.forCall tape i) w.heap.size i.args ds gs before hval hw' hc (hz.weights hw) (hx.of_heap (by rfl)) hsh).mono fun e W' ⟨v, he, hp⟩ => ?_
 subst he
 exact ChangeSpec.post_blind hp
end
end Go.Proofs.YtgkggkgdceapgaaGreatDoor

namespace Go.Proofs.YtgkggkgdceapgaaGreatDoor
open Go Go.Proofs.YtgkggkgdceapgaaGreatDoor.Fw Go.Proofs
theorem uH : Tryz.prog.cellsOf 116 = 11 := by kernel_rfl
theorem uI : Tryz.prog.bytesOf 116 = 88 := by kernel_rfl
theorem xe : eqK Tryz.prog 20 116 = some [true, true, true, true, true, true, true, false, true, true, true] := by kernel_rfl
theorem uf : Opens Tryz.prog 22 (fun (a : List Step) (s : SlV) => [s.val a.length]) (fun (a : List Step) (s : SlV) => [RdL EStep s a]) :=
 kg EStep vw Tryz.underlying22 xe uH rfl uI
theorem vH : Tryz.prog.cellsOf 22 = 1 := by kernel_rfl
theorem vB : Tryz.prog.cellsOf 82 = 3 := by kernel_rfl
theorem vJ : Tryz.prog.bytesOf 82 = 24 := by kernel_rfl
theorem eqK_82 : eqK Tryz.prog 20 82 = some [true, true, true] := by kernel_rfl
theorem k7 : Opens Tryz.prog 23 (fun (a : List Place) (s : SlV) => [s.val a.length]) (fun (a : List Place) (s : SlV) => [RdL EPlace s a]) :=
 kg EPlace uA Tryz.underlying23 eqK_82 vB rfl vJ
theorem mx : Tryz.prog.cellsOf 23 = 1 := by kernel_rfl
theorem sy : Tryz.prog.cellsOf 25 = 1 := by kernel_rfl
theorem ue : Opens Tryz.prog 25 (fun (a : List Place) (s : SlV) => [s.val a.length]) (fun (a : List Place) (s : SlV) => [RdL EPlace s a]) :=
 (eB Tryz.underlying25 sy (bg k7 rfl rfl mx fj)).map (fun (a : List Place) (s : SlV) => [s.val a.length]) (fun (a : List Place) (s : SlV) => [RdL EPlace s a]) (fun a => a.1) (fun s => s.1) (fun _ _ => rfl) (fun _ _ => rfl)
theorem sx : Tryz.prog.cellsOf 27 = 2 := by kernel_rfl
theorem ud : Opens Tryz.prog 27 (fun (a : History) (s : SlV × SlV) => [s.1.val a.l.length, s.2.val a.t.length]) (fun (a : History) (s : SlV × SlV) => [RdL EStep s.1 a.l, RdL EPlace s.2 a.t]) :=
 (eB Tryz.underlying27 sx (bg uf rfl rfl vH (bg ue rfl rfl sy fj))).map (fun (a : History) (s : SlV × SlV) => [s.1.val a.l.length, s.2.val a.t.length]) (fun (a : History) (s : SlV × SlV) => [RdL EStep s.1 a.l, RdL EPlace s.2 a.t]) (fun a => (⟨a.1, a.2.1⟩ : History)) (fun s => (s.1, s.2.1)) (fun _ _ => rfl) (fun _ _ => rfl)
theorem eF : Opens Tryz.prog 3 (fun (a : Int) (s : Unit) => [.int .i64 a]) (fun (a : Int) (s : Unit) => []) :=
 ug Tryz.underlying3
theorem fg : Tryz.prog.cellsOf 3 = 1 := by kernel_rfl
theorem xm : Tryz.prog.bytesOf 3 = 8 := by kernel_rfl
theorem k6 : Opens Tryz.prog 49 (fun (a : List Int) (s : SlV) => [s.val a.length]) (fun (a : List Int) (s : SlV) => [RdL EInt s a]) :=
 oS EInt (fun _ => rfl) rfl Tryz.underlying49 Tryz.underlying3 fg xm
theorem mw : Tryz.prog.cellsOf 49 = 1 := by kernel_rfl
theorem qS : Tryz.prog.cellsOf 111 = 3 := by kernel_rfl
theorem uJ : Tryz.prog.bytesOf 111 = 40 := by kernel_rfl
theorem sX : Opens Tryz.prog 111 (fun (a : Peer) (s : SlV) => [.int .i64 a.life, .int .i64 a.seq, s.val a.roots.length]) (fun (a : Peer) (s : SlV) => [RdL EInt s a.roots]) :=
 (eB Tryz.underlying111 qS (bg eF rfl rfl fg (bg eF rfl rfl fg (bg k6 rfl rfl mw fj)))).map (fun (a : Peer) (s : SlV) => [.int .i64 a.life, .int .i64 a.seq, s.val a.roots.length]) (fun (a : Peer) (s : SlV) => [RdL EInt s a.roots]) (fun a => (⟨a.1, a.2.1, a.2.2.1⟩ : Peer)) (fun s => s.2.2.1) (fun _ _ => rfl) (fun _ _ => rfl)
theorem uc : Opens Tryz.prog 28 (fun (a : List Peer) (s : SlV) => [s.val a.length]) (fun (a : List Peer) (s : SlV) => [RdN NPeer s a]) :=
 jm NPeer Tryz.underlying28 sX qS rfl uJ
theorem vG : Tryz.prog.cellsOf 28 = 1 := by kernel_rfl
theorem sw : Tryz.prog.cellsOf 30 = 4 := by kernel_rfl
theorem ub : Opens Tryz.prog 30 (fun (a : Hub) (s : SlV × SlV × SlV) => [s.1.val a.h.l.length, s.2.1.val a.h.t.length, .int .i64 a.version, s.2.2.val a.peers.length]) (fun (a : Hub) (s : SlV × SlV × SlV) => [RdL EStep s.1 a.h.l, RdL EPlace s.2.1 a.h.t, RdN NPeer s.2.2 a.peers]) :=
 (eB Tryz.underlying30 sw (bg ud rfl rfl sx (bg eF rfl rfl fg (bg uc rfl rfl vG fj)))).map (fun (a : Hub) (s : SlV × SlV × SlV) => [s.1.val a.h.l.length, s.2.1.val a.h.t.length, .int .i64 a.version, s.2.2.val a.peers.length]) (fun (a : Hub) (s : SlV × SlV × SlV) => [RdL EStep s.1 a.h.l, RdL EPlace s.2.1 a.h.t, RdN NPeer s.2.2 a.peers]) (fun a => (⟨a.1, a.2.1, a.2.2.1⟩ : Hub)) (fun s => (s.1.1, s.1.2, s.2.2.1)) (fun _ _ => rfl) (fun _ _ => rfl)
theorem xj : Tryz.prog.cellsOf 5 = 1 := by kernel_rfl
theorem xl : Tryz.prog.bytesOf 5 = 1 := by kernel_rfl
theorem qC : Opens Tryz.prog 31 (fun (a : List UInt8) (s : SlV) => [s.val a.length]) (fun (a : List UInt8) (s : SlV) => [RdL EByte s a]) :=
 rf Tryz.underlying31 Tryz.underlying5 xj xl
theorem su : Tryz.prog.cellsOf 31 = 1 := by kernel_rfl
theorem ss : Tryz.prog.cellsOf 33 = 2 := by kernel_rfl
theorem ua : Opens Tryz.prog 33 (fun (a : Disk) (s : SlV × SlV) => [s.1.val a.safe.length, s.2.val a.wait.length]) (fun (a : Disk) (s : SlV × SlV) => [RdL EByte s.1 a.safe, RdL EByte s.2 a.wait]) :=
 (eB Tryz.underlying33 ss (bg qC rfl rfl su (bg qC rfl rfl su fj))).map (fun (a : Disk) (s : SlV × SlV) => [s.1.val a.safe.length, s.2.val a.wait.length]) (fun (a : Disk) (s : SlV × SlV) => [RdL EByte s.1 a.safe, RdL EByte s.2 a.wait]) (fun a => (⟨a.1, a.2.1⟩ : Disk)) (fun s => (s.1, s.2.1)) (fun _ _ => rfl) (fun _ _ => rfl)
theorem vq : Opens Tryz.prog 4 (fun (a : Bool) (s : Unit) => [.bool a]) (fun (a : Bool) (s : Unit) => []) :=
 sZ Tryz.underlying4
theorem xk : Tryz.prog.cellsOf 4 = 1 := by kernel_rfl
theorem pY : Tryz.prog.cellsOf 65 = 7 := by kernel_rfl
theorem vL : Tryz.prog.bytesOf 65 = 56 := by kernel_rfl
theorem wk : eqK Tryz.prog 20 65 = some [true, true, true, true, true, true, true] := by kernel_rfl
theorem tZ : Opens Tryz.prog 56 (fun (a : List Op) (s : SlV) => [s.val a.length]) (fun (a : List Op) (s : SlV) => [RdL EOp s a]) :=
 kg EOp wl Tryz.underlying56 wk pY rfl vL
theorem vC : Tryz.prog.cellsOf 56 = 1 := by kernel_rfl
theorem pZ : Tryz.prog.cellsOf 58 = 3 := by kernel_rfl
theorem qB : Opens Tryz.prog 58 (fun (a : View) (s : SlV × SlV × SlV) => [s.1.val a.roots.length, s.2.1.val a.known.length, s.2.2.val a.way.length]) (fun (a : View) (s : SlV × SlV × SlV) => [RdL EInt s.1 a.roots, RdL EPlace s.2.1 a.known, RdL EPlace s.2.2 a.way]) :=
 (eB Tryz.underlying58 pZ (bg k6 rfl rfl mw (bg k7 rfl rfl mx (bg k7 rfl rfl mx fj)))).map (fun (a : View) (s : SlV × SlV × SlV) => [s.1.val a.roots.length, s.2.1.val a.known.length, s.2.2.val a.way.length]) (fun (a : View) (s : SlV × SlV × SlV) => [RdL EInt s.1 a.roots, RdL EPlace s.2.1 a.known, RdL EPlace s.2.2 a.way]) (fun a => (⟨a.1, a.2.1, a.2.2.1⟩ : View)) (fun s => (s.1, s.2.1, s.2.2.1)) (fun _ _ => rfl) (fun _ _ => rfl)
theorem so : Tryz.prog.cellsOf 60 = 8 := by kernel_rfl
theorem vM : Tryz.prog.bytesOf 60 = 128 := by kernel_rfl
theorem tY : Opens Tryz.prog 60 (fun (a : Client) (s : SlV × SlV × SlV × SlV) => [.int .i64 a.life, .int .i64 a.time, .int .i64 a.seq, s.1.val a.pending.length, .int .i64 a.version, s.2.1.val a.v.roots.length, s.2.2.1.val a.v.known.length, s.2.2.2.val a.v.way.length]) (fun (a : Client) (s : SlV × SlV × SlV × SlV) => [RdL EOp s.1 a.pending, RdL EInt s.2.1 a.v.roots, RdL EPlace s.2.2.1 a.v.known, RdL EPlace s.2.2.2 a.v.way]) :=
 (eB Tryz.underlying60 so (bg eF rfl rfl fg (bg eF rfl rfl fg (bg eF rfl rfl fg (bg tZ rfl rfl vC (bg eF rfl rfl fg (bg qB rfl rfl pZ fj))))))).map (fun (a : Client) (s : SlV × SlV × SlV × SlV) => [.int .i64 a.life, .int .i64 a.time, .int .i64 a.seq, s.1.val a.pending.length, .int .i64 a.version, s.2.1.val a.v.roots.length, s.2.2.1.val a.v.known.length, s.2.2.2.val a.v.way.length]) (fun (a : Client) (s : SlV × SlV × SlV × SlV) => [RdL EOp s.1 a.pending, RdL EInt s.2.1 a.v.roots, RdL EPlace s.2.2.1 a.v.known, RdL EPlace s.2.2.2 a.v.way]) (fun a => (⟨a.1, a.2.1, a.2.2.1, a.2.2.2.1, a.2.2.2.2.1, a.2.2.2.2.2.1⟩ : Client)) (fun s => (s.2.2.2.1, s.2.2.2.2.2.1.1, s.2.2.2.2.2.1.2.1, s.2.2.2.2.2.1.2.2)) (fun _ _ => rfl) (fun _ _ => rfl)
theorem t8 : Opens Tryz.prog 34 (fun (a : List Client) (s : SlV) => [s.val a.length]) (fun (a : List Client) (s : SlV) => [RdN NClient s a]) :=
 jm NClient Tryz.underlying34 tY so rfl vM
theorem vF : Tryz.prog.cellsOf 34 = 1 := by kernel_rfl
theorem tX : Opens Tryz.prog 65 (fun (a : Op) (s : Unit) => [.int .i64 a.time, .int .i64 a.who, .int .i64 a.node, .int .i64 a.parent, .int .i64 a.name, .int .i64 a.life, .int .i64 a.seq]) (fun (a : Op) (s : Unit) => []) :=
 sY EOp wl wk pY
theorem sn : Tryz.prog.cellsOf 67 = 4 := by kernel_rfl
theorem tW : Opens Tryz.prog 67 (fun (a : Delta) (s : SlV × SlV × SlV × SlV) => [s.1.val a.gone.length, s.2.1.val a.here.length, s.2.2.1.val a.wayGone.length, s.2.2.2.val a.wayHere.length]) (fun (a : Delta) (s : SlV × SlV × SlV × SlV) => [RdL EInt s.1 a.gone, RdL EPlace s.2.1 a.here, RdL EInt s.2.2.1 a.wayGone, RdL EPlace s.2.2.2 a.wayHere]) :=
 (eB Tryz.underlying67 sn (bg k6 rfl rfl mw (bg k7 rfl rfl mx (bg k6 rfl rfl mw (bg k7 rfl rfl mx fj))))).map (fun (a : Delta) (s : SlV × SlV × SlV × SlV) => [s.1.val a.gone.length, s.2.1.val a.here.length, s.2.2.1.val a.wayGone.length, s.2.2.2.val a.wayHere.length]) (fun (a : Delta) (s : SlV × SlV × SlV × SlV) => [RdL EInt s.1 a.gone, RdL EPlace s.2.1 a.here, RdL EInt s.2.2.1 a.wayGone, RdL EPlace s.2.2.2 a.wayHere]) (fun a => (⟨a.1, a.2.1, a.2.2.1, a.2.2.2.1⟩ : Delta)) (fun s => (s.1, s.2.1, s.2.2.1, s.2.2.2.1)) (fun _ _ => rfl) (fun _ _ => rfl)
theorem sm : Tryz.prog.cellsOf 69 = 21 := by kernel_rfl
theorem vK : Tryz.prog.bytesOf 69 = 280 := by kernel_rfl
theorem tV : Opens Tryz.prog 69 (fun (a : Mail) (s : SlV × SlV × SlV × SlV × SlV × SlV × SlV) => [.int .i64 a.kind, .int .i64 a.who, .int .i64 a.life, .int .i64 a.seq, .int .i64 a.time, .int .i64 a.version, .int .i64 a.frm, .int .i64 a.o.time, .int .i64 a.o.who, .int .i64 a.o.node, .int .i64 a.o.parent, .int .i64 a.o.name, .int .i64 a.o.life, .int .i64 a.o.seq, s.1.val a.v.roots.length, s.2.1.val a.v.known.length, s.2.2.1.val a.v.way.length, s.2.2.2.1.val a.d.gone.length, s.2.2.2.2.1.val a.d.here.length, s.2.2.2.2.2.1.val a.d.wayGone.length, s.2.2.2.2.2.2.val a.d.wayHere.length]) (fun (a : Mail) (s : SlV × SlV × SlV × SlV × SlV × SlV × SlV) => [RdL EInt s.1 a.v.roots, RdL EPlace s.2.1 a.v.known, RdL EPlace s.2.2.1 a.v.way, RdL EInt s.2.2.2.1 a.d.gone, RdL EPlace s.2.2.2.2.1 a.d.here, RdL EInt s.2.2.2.2.2.1 a.d.wayGone, RdL EPlace s.2.2.2.2.2.2 a.d.wayHere]) :=
 (eB Tryz.underlying69 sm (bg eF rfl rfl fg (bg eF rfl rfl fg (bg eF rfl rfl fg (bg eF rfl rfl fg (bg eF rfl rfl fg (bg eF rfl rfl fg (bg eF rfl rfl fg (bg tX rfl rfl pY (bg qB rfl rfl pZ (bg tW rfl rfl sn fj))))))))))).map (fun (a : Mail) (s : SlV × SlV × SlV × SlV × SlV × SlV × SlV) => [.int .i64 a.kind, .int .i64 a.who, .int .i64 a.life, .int .i64 a.seq, .int .i64 a.time, .int .i64 a.version, .int .i64 a.frm, .int .i64 a.o.time, .int .i64 a.o.who, .int .i64 a.o.node, .int .i64 a.o.parent, .int .i64 a.o.name, .int .i64 a.o.life, .int .i64 a.o.seq, s.1.val a.v.roots.length, s.2.1.val a.v.known.length, s.2.2.1.val a.v.way.length, s.2.2.2.1.val a.d.gone.length, s.2.2.2.2.1.val a.d.here.length, s.2.2.2.2.2.1.val a.d.wayGone.length, s.2.2.2.2.2.2.val a.d.wayHere.length]) (fun (a : Mail) (s : SlV × SlV × SlV × SlV × SlV × SlV × SlV) => [RdL EInt s.1 a.v.roots, RdL EPlace s.2.1 a.v.known, RdL EPlace s.2.2.1 a.v.way, RdL EInt s.2.2.2.1 a.d.gone, RdL EPlace s.2.2.2.2.1 a.d.here, RdL EInt s.2.2.2.2.2.1 a.d.wayGone, RdL EPlace s.2.2.2.2.2.2 a.d.wayHere]) (fun a => (⟨a.1, a.2.1, a.2.2.1, a.2.2.2.1, a.2.2.2.2.1, a.2.2.2.2.2.1, a.2.2.2.2.2.2.1, a.2.2.2.2.2.2.2.1, a.2.2.2.2.2.2.2.2.1, a.2.2.2.2.2.2.2.2.2.1⟩ : Mail)) (fun s => (s.2.2.2.2.2.2.2.2.1.1, s.2.2.2.2.2.2.2.2.1.2.1, s.2.2.2.2.2.2.2.2.1.2.2, s.2.2.2.2.2.2.2.2.2.1.1, s.2.2.2.2.2.2.2.2.2.1.2.1, s.2.2.2.2.2.2.2.2.2.1.2.2.1, s.2.2.2.2.2.2.2.2.2.1.2.2.2)) (fun _ _ => rfl) (fun _ _ => rfl)
theorem t7 : Opens Tryz.prog 35 (fun (a : List Mail) (s : SlV) => [s.val a.length]) (fun (a : List Mail) (s : SlV) => [RdN NMail s a]) :=
 jm NMail Tryz.underlying35 tV sm rfl vK
theorem vE : Tryz.prog.cellsOf 35 = 1 := by kernel_rfl
theorem vD : Tryz.prog.cellsOf 37 = 9 := by kernel_rfl
theorem opens_t37 : Opens Tryz.prog 37 (fun (a : Wld) (s : SlV × SlV × SlV × SlV × SlV × SlV × SlV) => [s.1.val a.h.h.l.length, s.2.1.val a.h.h.t.length, .int .i64 a.h.version, s.2.2.1.val a.h.peers.length, s.2.2.2.1.val a.d.safe.length, s.2.2.2.2.1.val a.d.wait.length, .bool a.up, s.2.2.2.2.2.1.val a.c.length, s.2.2.2.2.2.2.val a.mail.length]) (fun (a : Wld) (s : SlV × SlV × SlV × SlV × SlV × SlV × SlV) => [RdL EStep s.1 a.h.h.l, RdL EPlace s.2.1 a.h.h.t, RdN NPeer s.2.2.1 a.h.peers, RdL EByte s.2.2.2.1 a.d.safe, RdL EByte s.2.2.2.2.1 a.d.wait, RdN NClient s.2.2.2.2.2.1 a.c, RdN NMail s.2.2.2.2.2.2 a.mail]) :=
 (eB Tryz.underlying37 vD (bg ub rfl rfl sw (bg ua rfl rfl ss (bg vq rfl rfl xk (bg t8 rfl rfl vF (bg t7 rfl rfl vE fj)))))).map (fun (a : Wld) (s : SlV × SlV × SlV × SlV × SlV × SlV × SlV) => [s.1.val a.h.h.l.length, s.2.1.val a.h.h.t.length, .int .i64 a.h.version, s.2.2.1.val a.h.peers.length, s.2.2.2.1.val a.d.safe.length, s.2.2.2.2.1.val a.d.wait.length, .bool a.up, s.2.2.2.2.2.1.val a.c.length, s.2.2.2.2.2.2.val a.mail.length]) (fun (a : Wld) (s : SlV × SlV × SlV × SlV × SlV × SlV × SlV) => [RdL EStep s.1 a.h.h.l, RdL EPlace s.2.1 a.h.h.t, RdN NPeer s.2.2.1 a.h.peers, RdL EByte s.2.2.2.1 a.d.safe, RdL EByte s.2.2.2.2.1 a.d.wait, RdN NClient s.2.2.2.2.2.1 a.c, RdN NMail s.2.2.2.2.2.2 a.mail]) (fun a => (⟨a.1, a.2.1, a.2.2.1, a.2.2.2.1, a.2.2.2.2.1⟩ : Wld)) (fun s => (s.1.1, s.1.2.1, s.1.2.2, s.2.1.1, s.2.1.2, s.2.2.2.1, s.2.2.2.2.1)) (fun _ _ => rfl) (fun _ _ => rfl)
theorem sr : Tryz.prog.cellsOf 51 = 7 := by kernel_rfl
theorem vN : Tryz.prog.bytesOf 51 = 72 := by kernel_rfl
theorem t6 : Opens Tryz.prog 51 (fun (a : Happening) (s : SlV) => [.int .i64 a.kind, .int .i64 a.who, .int .i64 a.n, .int .i64 a.node, .int .i64 a.parent, .int .i64 a.name, s.val a.roots.length]) (fun (a : Happening) (s : SlV) => [RdL EInt s a.roots]) :=
 (eB Tryz.underlying51 sr (bg eF rfl rfl fg (bg eF rfl rfl fg (bg eF rfl rfl fg (bg eF rfl rfl fg (bg eF rfl rfl fg (bg eF rfl rfl fg (bg k6 rfl rfl mw fj)))))))).map (fun (a : Happening) (s : SlV) => [.int .i64 a.kind, .int .i64 a.who, .int .i64 a.n, .int .i64 a.node, .int .i64 a.parent, .int .i64 a.name, s.val a.roots.length]) (fun (a : Happening) (s : SlV) => [RdL EInt s a.roots]) (fun a => (⟨a.1, a.2.1, a.2.2.1, a.2.2.2.1, a.2.2.2.2.1, a.2.2.2.2.2.1, a.2.2.2.2.2.2.1⟩ : Happening)) (fun s => s.2.2.2.2.2.2.1) (fun _ _ => rfl) (fun _ _ => rfl)
theorem opens_t38 : Opens Tryz.prog 38 (fun (a : List Happening) (s : SlV) => [s.val a.length]) (fun (a : List Happening) (s : SlV) => [RdN NHap s a]) :=
 jm NHap Tryz.underlying38 t6 sr rfl vN
end Go.Proofs.YtgkggkgdceapgaaGreatDoor
