/- Part of this claim. No condition. -/
import Derived.Test.YtkjccbdeaflekaaGreatDoorK11
import Derived.Test.YtkjccbdeaflekaaGreatDoorK8
import Derived.Test.YtkjccbdeaflekaaGreatDoorK10
import Derived.Test.YtkjccbdeaflekaaGreatDoorRows
import Derived.Stop.LaidErr
import Derived.Shelf.Vars
import Derived.LaidMore
import Derived.Lay
import Derived.Handed
import Derived.SizedLaws
import Derived.Stop.Joined
import Derived.ProofKit
import Derived.Test.YtkjccbdeaflekaaGreatDoorK2
import Derived.Test.YtkjccbdeaflekaaGreatDoorK3
set_option linter.unusedVariables false
set_option linter.unusedSimpArgs false
namespace Go.Proofs.YtkjccbdeaflekaaGreatDoor
open Go Go.Proofs.YtkjccbdeaflekaaGreatDoor.Fw Go.Proofs
def fZ (l : List Rec) (v : Int) (k : Nat) : Peer := peer (l.take v.toNat) k
theorem nZ (l : List Rec) (r : Rec) {v : Int} (h : v ≤ (l.length : Int)) (k : Nat) : fZ (l ++ [r]) v k = fZ l v k := by
 unfold fZ; rw [List.take_append_of_le_length (by omega)]
structure CliV (l : List Rec) (k : Nat) (c : Client) : Prop where
 le : c.version ≤ (l.length : Int)
 life : (fZ l c.version k).life = c.life
 seq : (fZ l c.version k).seq ≤ c.seq
 pend : ∀ q ∈ c.pending, (fZ l c.version k).seq < q.seq
theorem CliV.grow {l : List Rec} {k : Nat} {c : Client} (h : CliV l k c) (r : Rec) : CliV (l ++ [r]) k c := by
 have e := nZ l r h.le k
 exact ⟨by have := h.le; simp only [List.length_append]; omega, by rw [e]; exact h.life, by rw [e]; exact h.seq, fun q hq => by rw [e]; exact h.pend q hq⟩
structure MailV (l : List Rec) (m : Mail) : Prop where
 le : m.version ≤ (l.length : Int)
 life : (fZ l m.version m.who.toNat).life = m.life
 seq : (fZ l m.version m.who.toNat).seq = m.seq
theorem MailV.grow {l : List Rec} {m : Mail} (h : MailV l m) (r : Rec) : MailV (l ++ [r]) m := by
 have e := nZ l r h.le m.who.toNat
 exact ⟨by have := h.le; simp only [List.length_append]; omega, by rw [e]; exact h.life, by rw [e]; exact h.seq⟩
structure VerOk (w : Wld) (l : List Rec) : Prop where
 cli : ∀ k, k < 3 → (gt w.c k).version = 0 ∨ CliV l k (gt w.c k)
 mail : ∀ m ∈ w.mail, m.kind ≠ 1 → MailV l m
theorem VerOk.step {w w' : Wld} {l l' : List Rec} {x : Happening} (h : IsW w l) (hi : VerOk w l) (hp : Hap w l x w' l') : VerOk w' l' := by
 have grow : ∀ r k, k < 3 → (gt w.c k).version = 0 ∨ CliV (l ++ [r]) k (gt w.c k) := fun r k hk => (hi.cli k hk).imp id fun h => h.grow r
 cases hp with
 | hear hx hn m hm hk hh =>
  have hmem : m ∈ w.mail := by rw [hm]; exact eM (by omega)
  have hw : 0 ≤ m.who ∧ m.who < 3 := em (((cL _).1 h.mail).2 _ hmem)
  have hv := hi.mail m hmem hk
  refine ⟨fun k hk3 => ?_, fun q hq => hi.mail q (iB hq)⟩
  show (gt (w.c.set _ _) k).version = 0 ∨ CliV l k (gt (w.c.set _ _) k)
  rw [dS h (by omega)]
  by_cases hkm : k = m.who.toNat
  ·rw [if_pos hkm]
   obtain ⟨_, _, _, _, h1⟩ := mD hh
   rcases h1 with h1 | ⟨v, _, hst, h1⟩
   ·rw [h1, ← hkm]; exact hi.cli k hk3
   ·rw [h1]
    simp only [stale, Bool.or_eq_false_iff, bne_eq_false_iff_eq, decide_eq_false_iff_not] at hst
    refine .inr ⟨hv.le, ?_, ?_, fun q hq => ?_⟩
    ·show (fZ l m.version k).life = _
     rw [hkm, hv.life]; exact hst.1.1
    ·show (fZ l m.version k).seq ≤ _
     rw [hkm, hv.seq]; show m.seq ≤ (gt w.c m.who.toNat).seq; omega
    ·show (fZ l m.version k).seq < _
     rw [hkm, hv.seq]
     have := (List.mem_filter.1 hq).2
     simp only [Bool.not_eq_true', decide_eq_false_iff_not] at this
     omega
  ·rw [if_neg hkm]; exact hi.cli k hk3
 | got _ _ m _ _ _ _ => exact ⟨grow _, fun q hq hk => (hi.mail q (iB hq) hk).grow _⟩
 | late _ _ m _ _ _ _ => exact ⟨hi.cli, fun q hq => hi.mail q (iB hq)⟩
 | lose _ _ =>
  refine ⟨hi.cli, fun q hq => hi.mail q ?_⟩
  rcases List.mem_append.1 hq with hq | hq
  ·exact List.mem_of_mem_take hq
  ·exact List.mem_of_mem_drop hq
 | crash _ _ => exact ⟨hi.cli, hi.mail⟩
 | boot _ _ _ => exact ⟨hi.cli, hi.mail⟩
 | move _ hw h0 =>
  obtain ⟨_, _, _, _, _, _, a7⟩ := lA h0
  refine ⟨fun k hk3 => ?_, fun q hq hk => ?_⟩
  ·show (gt (w.c.set _ _) k).version = 0 ∨ CliV l k (gt (w.c.set _ _) k)
   rw [dS h (by omega)]
   by_cases hkm : k = x.who.toNat
   ·rw [if_pos hkm, a7, ← hkm]
    rcases hi.cli k hk3 with h1 | h1
    ·exact .inl h1
    ·refine .inr ⟨h1.le, h1.life, ?_, fun q hq => ?_⟩
     ·show _ ≤ (gt w.c k).seq + 1
      have := h1.seq; show (fZ l (gt w.c k).version k).seq ≤ _; omega
     ·show (fZ l (gt w.c k).version k).seq < _
      rcases List.mem_append.1 hq with hq | hq
      ·exact h1.pend q hq
      ·rw [List.mem_singleton] at hq
       subst hq
       have := h1.seq
       show _ < (gt w.c k).seq + 1; omega
   ·rw [if_neg hkm]; exact hi.cli k hk3
  ·rcases fJ hq with hq | rfl
   ·exact hi.mail q hq hk
   ·exact absurd rfl hk
 | again _ _ _ =>
  refine ⟨hi.cli, fun q hq hk => ?_⟩
  rcases fJ hq with hq | rfl
  ·exact hi.mail q hq hk
  ·exact absurd rfl hk
 | began _ hw hu _ h1 =>
  refine ⟨fun k hk3 => ?_, fun q hq hk => (hi.mail q hq hk).grow _⟩
  show (gt (w.c.set _ _) k).version = 0 ∨ CliV _ k (gt (w.c.set _ _) k)
  rw [dS h (by omega)]
  by_cases hkm : k = x.who.toNat
  ·rw [if_pos hkm, (li (k := 0) (by omega) h1).2]; exact .inl rfl
  ·rw [if_neg hkm]; exact grow _ k hk3
 | roots _ _ _ _ => exact ⟨grow _, fun q hq hk => (hi.mail q hq hk).grow _⟩
 | shown _ hw hu m hm =>
  refine ⟨hi.cli, fun q hq hk => ?_⟩
  rcases fJ hq with hq | rfl
  ·exact hi.mail q hq hk
  ·have hv := h.hub.2 hu
   have hpu := eR h hu x.who.toNat
   have e : fZ l w.h.version x.who.toNat = gt w.h.peers x.who.toNat := by
    unfold fZ; rw [hv, Int.toNat_natCast, List.take_length]; exact hpu
   rcases hm.case with rfl | ⟨_, _, _, _, _, _, _, _, rfl⟩
   ·exact ⟨by show w.h.version ≤ _; omega, by show (fZ l w.h.version x.who.toNat).life = _; rw [e], by show (fZ l w.h.version x.who.toNat).seq = _; rw [e]⟩
   ·exact ⟨by show w.h.version ≤ _; omega, by show (fZ l w.h.version x.who.toNat).life = _; rw [e], by show (fZ l w.h.version x.who.toNat).seq = _; rw [e]⟩
structure sR (w : Wld) (l : List Rec) : Prop where
 old : ∀ k : Nat, k < 3 → ∀ o ∈ opsOf l, o.who = (k : Int) → o.time ≤ (gt w.c k).time
 new : ∀ k : Nat, k < 3 → ∀ o ∈ opsOf l, o.who = (k : Int) → ∀ q ∈ (gt w.c k).pending, (peer l k).seq < q.seq → o.time < q.time
theorem qD {c : Client} {me : Int} (h : IsCli c me) : ∀ (d i : Nat), i + (d + 1) < c.pending.length → (gt c.pending i).time < (gt c.pending (i + (d + 1))).time
 | 0, i, hi => by
  have := (h.pend (i + 1) hi).up (by omega)
  rwa [Nat.add_sub_cancel] at this
 | d + 1, i, hi => by
  have h1 := qD h d i (by omega)
  have h2 := (h.pend (i + (d + 1 + 1)) hi).up (by omega)
  have e : i + (d + 1 + 1) - 1 = i + (d + 1) := by omega
  rw [e] at h2
  omega
theorem wX {c : Client} {me : Int} (h : IsCli c me) {o q : Op} (ho : o ∈ c.pending) (hq : q ∈ c.pending) (hs : o.seq < q.seq) : o.time < q.time := by
 obtain ⟨i, i1, i2, i3, _, _⟩ := j0 h ho
 obtain ⟨j, j1, j2, j3, _, _⟩ := j0 h hq
 have := qD h (j - i - 1) i (by omega)
 rw [show i + (j - i - 1 + 1) = j by omega, i2, j2] at this
 exact this
theorem tT {h : History} {S : List Op} (hh : fq h S) {o : Op} (ho : o ∈ S) : 0 < h.l.length ∧ o.time ≤ (gt h.l (h.l.length - 1)).o.time := by
 have hm := hh.ops
 have hl : h.l.length = S.length := by rw [← hm]; simp
 obtain ⟨i, hi, rfl⟩ := List.getElem_of_mem ho
 refine ⟨by omega, ?_⟩
 have e : (gt h.l (h.l.length - 1)).o = S[S.length - 1]'(by omega) := by
  rw [gt_eq (by omega)]
  have : (h.l.map (·.o))[h.l.length - 1]'(by simp; omega) = S[S.length - 1]'(by omega) := by
   simp only [hm, hl]
  rw [← this]; simp
 rw [e]
 by_cases hlt : i < S.length - 1
 ·have := (List.pairwise_iff_getElem.1 hh.rise) i (S.length - 1) hi (by omega) hlt
  have := (jN _ _).1 this
  omega
 ·have : i = S.length - 1 := by omega
  subst this; exact Int.le_refl _
theorem sR.step {w w' : Wld} {l l' : List Rec} {x : Happening} (h : IsW w l) (ho : rf w l) (hH : nl l) (hi : sR w l) (hp : Hap w l x w' l') : sR w' l' := by
 have hck : ∀ m ∈ w.mail, bI m = 0 := ((cL _).1 h.mail).2
 cases hp with
 | hear hx hn m hm hk hh =>
  have hmem : m ∈ w.mail := by rw [hm]; exact eM (by omega)
  have hw : 0 ≤ m.who ∧ m.who < 3 := em (hck _ hmem)
  obtain ⟨_, _, _, _, h1⟩ := mD hh
  have key : (gt w.c m.who.toNat).time ≤ (aC (gt w.c m.who.toNat) m.who m).1.time ∧ ∀ q ∈ (aC (gt w.c m.who.toNat) m.who m).1.pending, q ∈ (gt w.c m.who.toNat).pending := by
   rcases h1 with h1 | ⟨v, _, hst, h1⟩
   ·rw [h1]; exact ⟨Int.le_refl _, fun _ h => h⟩
   ·rw [h1]
    refine ⟨?_, fun q hq => (List.mem_filter.1 hq).1⟩
    show _ ≤ (if m.time > (gt w.c m.who.toNat).time then m.time else (gt w.c m.who.toNat).time)
    split <;> omega
  refine ⟨fun k hk3 o hol how => ?_, fun k hk3 o hol how q hq hs => ?_⟩
  ·show o.time ≤ (gt (w.c.set _ _) k).time
   rw [dS h (by omega)]
   by_cases hkm : k = m.who.toNat
   ·rw [if_pos hkm]; have := hi.old k hk3 o hol how; rw [hkm] at this; omega
   ·rw [if_neg hkm]; exact hi.old k hk3 o hol how
  ·have hq : q ∈ (gt (w.c.set m.who.toNat (aC (gt w.c m.who.toNat) m.who m).1) k).pending := hq
   rw [dS h (by omega)] at hq
   refine hi.new k hk3 o hol how q ?_ hs
   by_cases hkm : k = m.who.toNat
   ·rw [if_pos hkm] at hq; rw [hkm]; exact key.2 q hq
   ·rw [if_neg hkm] at hq; exact hq
 | got hx hn m hm hk hu h0 =>
  have hmem : m ∈ w.mail := by rw [hm]; exact eM (by omega)
  have hwm : 0 ≤ m.who ∧ m.who < 3 := em (hck _ hmem)
  have how := su (hck _ hmem) hk
  obtain ⟨g1, g2, g3⟩ := kU h hu h0
  have hK : m.who.toNat < 3 := by omega
  have hcl := ho.cli _ hK
  have hop : opsOf (l ++ [opRec m.o]) = opsOf l ++ [m.o] := by rw [ed]; rfl
  rcases iA h0 with ⟨_, a1, a2, a3, a4⟩ | ⟨hk2, _⟩ | ⟨hk2, _⟩
  ·simp only [how] at a1 a2 a4
   rw [← eR h hu] at a1 a2
   have hpk : ∀ k, (peer (l ++ [opRec m.o]) k).seq = if k = m.who.toNat then m.o.seq else (peer l k).seq := fun k => by
    rw [g3, a4]
    simp only
    rw [f3 (by rw [h.hub.1.three]; omega)]
    by_cases hkk : k = m.who.toNat
    ·rw [if_pos hkk, if_pos hkk]
    ·rw [if_neg hkk, if_neg hkk, eR h hu]
   have hpo := ((ho.mail m hmem).op hk).2 (by rw [hcl.life]; exact a1.symm)
   have hc := (bA _ _).1 (h.cli _ hK)
   have hlo := hcl.lo
   have hin := hpo.2 (by omega)
   refine ⟨fun k hk3 o hol hok => ?_, fun k hk3 o hol hok q hq hs => ?_⟩
   ·rw [hop] at hol
    rcases List.mem_append.1 hol with hol | hol
    ·exact hi.old k hk3 o hol hok
    ·rw [List.mem_singleton] at hol
     subst hol
     have hkk : k = m.who.toNat := by omega
     obtain ⟨i, i1, i2, _, _, _⟩ := j0 hc hin
     have := (hc.pend i i1).time
     rw [i2] at this
     rw [hkk]; exact this
   ·rw [hpk] at hs
    rw [hop] at hol
    rcases List.mem_append.1 hol with hol | hol
    ·refine hi.new k hk3 o hol hok q hq ?_
     by_cases hkk : k = m.who.toNat
     ·rw [if_pos hkk] at hs; rw [hkk]; omega
     ·rw [if_neg hkk] at hs; exact hs
    ·rw [List.mem_singleton] at hol
     subst hol
     have hkk : k = m.who.toNat := by omega
     rw [if_pos hkk] at hs
     rw [hkk] at hq
     exact wX hc hin hq hs
  ·exact absurd (show (1 : Int) = 2 from hk2) (by decide)
  ·exact absurd (show (1 : Int) = 3 from hk2) (by decide)
 | late _ _ m _ _ _ _ => exact ⟨hi.old, hi.new⟩
 | lose _ _ => exact ⟨hi.old, hi.new⟩
 | crash _ _ => exact ⟨hi.old, hi.new⟩
 | boot _ _ _ => exact ⟨hi.old, hi.new⟩
 | move _ hw h0 =>
  obtain ⟨_, _, _, _, _, _, a7⟩ := lA h0
  rw [a7]
  refine ⟨fun k hk3 o hol how => ?_, fun k hk3 o hol how q hq hs => ?_⟩
  ·show o.time ≤ (gt (w.c.set _ _) k).time
   rw [dS h (by omega)]
   by_cases hkm : k = x.who.toNat
   ·rw [if_pos hkm]; have := hi.old k hk3 o hol how; rw [hkm] at this; show _ ≤ (gt w.c x.who.toNat).time + 1; omega
   ·rw [if_neg hkm]; exact hi.old k hk3 o hol how
  ·have hq : q ∈ (gt (w.c.set x.who.toNat (fC (gt w.c x.who.toNat) ⟨(gt w.c x.who.toNat).time + 1, x.who, x.node, x.parent, x.name, (gt w.c x.who.toNat).life, (gt w.c x.who.toNat).seq + 1⟩)) k).pending := hq
   rw [dS h (by omega)] at hq
   by_cases hkm : k = x.who.toNat
   ·rw [if_pos hkm] at hq
    rcases List.mem_append.1 hq with hq | hq
    ·exact hi.new k hk3 o hol how q (by rw [hkm]; exact hq) hs
    ·rw [List.mem_singleton] at hq
     subst hq
     have := hi.old k hk3 o hol how
     rw [hkm] at this
     show _ < (gt w.c x.who.toNat).time + 1; omega
   ·rw [if_neg hkm] at hq; exact hi.new k hk3 o hol how q hq hs
 | again _ _ _ => exact ⟨hi.old, hi.new⟩
 | began _ hw hu h0 h1 =>
  obtain ⟨g1, g2, g3⟩ := kU h hu h0
  have hop : opsOf (l ++ [fD w x.who]) = opsOf l := by rw [ed]; simp [fD]
  rcases iA h0 with ⟨hk2, _⟩ | ⟨_, _, a4⟩ | ⟨hk2, _⟩
  ·exact absurd (show (2 : Int) = 1 from hk2) (by decide)
  ·have hpk : ∀ k, k ≠ x.who.toNat → peer (l ++ [fD w x.who]) k = peer l k := fun k hkk => by
    rw [g3, a4]
    simp only
    rw [f3 (by rw [h.hub.1.three]; omega), if_neg hkk, eR h hu]
   have hB := (li (k := 0) (by omega) h1).2
   rw [hB]
   refine ⟨fun k hk3 o hol how => ?_, fun k hk3 o hol how q hq hs => ?_⟩
   ·show o.time ≤ (gt (w.c.set _ _) k).time
    rw [dS h (by omega)]
    rw [hop] at hol
    by_cases hkm : k = x.who.toNat
    ·rw [if_pos hkm]
     obtain ⟨_, S, hS, hperm⟩ := hH
     obtain ⟨t1, t2⟩ := tT hS (hperm.mem_iff.2 hol)
     rw [(h.up hu).2] at t1 t2
     show o.time ≤ cZ (aB w.h (fD w x.who)).1
     rw [a4]
     unfold cZ
     have : decide ((w.h.h.l.length : Int) > 0) = true := by simp only [decide_eq_true_eq]; simp only at t1; omega
     simp only [this, cond_true]
     exact t2
    ·rw [if_neg hkm]; exact hi.old k hk3 o hol how
   ·rw [hop] at hol
    have hq : q ∈ (gt (w.c.set x.who.toNat ⟨(gt w.h.peers x.who.toNat).life + 1, cZ (aB w.h (fD w x.who)).1, 0, [], 0, ⟨[], [], []⟩⟩) k).pending := hq
    rw [dS h (by omega)] at hq
    by_cases hkm : k = x.who.toNat
    ·rw [if_pos hkm] at hq; cases hq
    ·rw [if_neg hkm] at hq
     rw [hpk k hkm] at hs
     exact hi.new k hk3 o hol how q hq hs
  ·exact absurd (show (2 : Int) = 3 from hk2) (by decide)
 | roots _ hw hu h0 =>
  obtain ⟨g1, g2, g3⟩ := kU h hu h0
  have hop : opsOf (l ++ [f7 x.who x.roots]) = opsOf l := by rw [ed]; simp [f7]
  have hpk : ∀ k, (peer (l ++ [f7 x.who x.roots]) k).seq = (peer l k).seq := fun k => by
   rcases iA h0 with ⟨hk2, _⟩ | ⟨hk2, _⟩ | ⟨_, a4⟩
   ·exact absurd (show (3 : Int) = 1 from hk2) (by decide)
   ·exact absurd (show (3 : Int) = 2 from hk2) (by decide)
   ·rw [g3, a4]
    simp only
    rw [f3 (by rw [h.hub.1.three]; omega), eR h hu]
    by_cases hkk : k = x.who.toNat
    ·rw [if_pos hkk, hkk]
    ·rw [if_neg hkk]
  exact ⟨fun k hk3 o hol how => hi.old k hk3 o (by rw [hop] at hol; exact hol) how, fun k hk3 o hol how q hq hs => hi.new k hk3 o (by rw [hop] at hol; exact hol) how q hq (by rw [hpk] at hs; exact hs)⟩
 | shown _ _ _ _ _ => exact ⟨hi.old, hi.new⟩
structure Calm (w : Wld) (l : List Rec) : Prop where
 is : IsW w l
 once : rf w l
 sees : sS w l
 hist : nl l
 ver : VerOk w l
 time : sR w l
theorem Calm.step {w w' : Wld} {l l' : List Rec} {x : Happening} (h : Calm w l) (hp : Hap w l x w' l') : Calm w' l' :=
 ⟨hp.keeps h.is, h.once.step h.is hp, h.sees.step h.is hp, h.hist.step h.is hp, h.ver.step h.is hp, h.time.step h.is h.once h.hist hp⟩
abbrev hapOf (k who n : Int) : Happening := ⟨k, who, n, 0, 0, 0, []⟩
theorem D_hap {w : Wld} {l : List Rec} (h : Calm w l) {x : Happening} (h1 : (aw w x).1 = 0) : ∃ w' l', ah x w = (true, w') ∧ Hap w l x w' l' ∧ Calm w' l' := by
 obtain ⟨l', hp⟩ := jH h.is h1
 refine ⟨_, l', ?_, hp, h.step hp⟩
 have e1 : (aR w != 0) = false := by rw [(cj w).2 ⟨l, h.is⟩]; rfl
 have e2 : ((aw w x).1 != 0) = false := by rw [h1]; rfl
 unfold ah bV
 rw [e1, cond_false, e2, cond_false]; rfl
theorem D_not {w : Wld} {x : Happening} (h : aR w = 0) (h1 : (aw w x).1 ≠ 0) : ah x w = (false, w) := by
 have e1 : (aR w != 0) = false := by rw [h]; rfl
 have e2 : ((aw w x).1 != 0) = true := by simpa using h1
 have e3 : ((aw w x).1 == 0) = false := by simpa using h1
 unfold ah bV
 rw [e1, cond_false, e2, cond_true]
 simp only [e3, cond_false]
theorem D_any {w : Wld} {l : List Rec} (h : Calm w l) (x : Happening) : ∃ l', Calm (ah x w).2 l' := by
 by_cases h1 : (aw w x).1 = 0
 ·obtain ⟨w', l', e, _, hc⟩ := D_hap h h1
  rw [e]; exact ⟨l', hc⟩
 ·rw [D_not ((cj w).2 ⟨l, h.is⟩) h1]; exact ⟨l, h⟩
theorem uN {w : Wld} (h : ∃ l, Calm w l) : ∃ l, Calm (ac w) l := q9 (fun w => ∃ l, Calm w l) (fun _ x ⟨_, h⟩ => D_any h x) h
theorem take0 {w : Wld} {l : List Rec} (h : IsW w l) {m : Mail} {ms : List Mail} (hm : w.mail = m :: ms) (t : Bool) : az w.mail 0 t = (bif t then w.mail else ms, m, 0) := by
 rw [qh h.mail (by omega) (by rw [hm]; simp), hm]; rfl
theorem uK {w : Wld} {l : List Rec} (h : IsW w l) (hu : w.up = true) {m : Mail} {ms : List Mail} (hm : w.mail = m :: ms) (hk : m.kind = 1) : (aw w (hapOf 7 0 0)).1 = 0 := by
 have e : (aw w (hapOf 7 0 0)).1 = (bE w (hapOf 7 0 0)).1 := rfl
 have e1 : (m.kind != 1) = false := by rw [hk]; rfl
 rw [e]; unfold bE
 rw [show (hapOf 7 0 0).n = 0 from rfl, take0 h hm]
 simp only [bne_self_eq_false, cond_false, e1, hu, Bool.not_true]
theorem rE {w : Wld} {l : List Rec} (h : IsW w l) {m : Mail} {ms : List Mail} (hm : w.mail = m :: ms) (hk : m.kind ≠ 1) (hh : (aC (gt w.c m.who.toNat) m.who m).2 = 0) : (aw w (hapOf 7 0 0)).1 = 0 := by
 have e : (aw w (hapOf 7 0 0)).1 = (bE w (hapOf 7 0 0)).1 := rfl
 have e1 : (m.kind != 1) = true := by simpa using hk
 rw [e]; unfold bE
 rw [show (hapOf 7 0 0).n = 0 from rfl, take0 h hm]
 simp only [bne_self_eq_false, cond_false, e1, cond_true, hh, beq_self_eq_true]
theorem rG {w : Wld} {l : List Rec} (h : IsW w l) {m : Mail} {ms : List Mail} (hm : w.mail = m :: ms) : (aw w (hapOf 9 0 0)).1 = 0 := by
 have e : (aw w (hapOf 9 0 0)).1 = (bif ((az w.mail 0 false).2.2 == 0) then ((az w.mail 0 false).2.2, (⟨w.h, w.d, w.up, w.c, (az w.mail 0 false).1⟩ : Wld)) else ((az w.mail 0 false).2.2, w)).1 := rfl
 rw [e, take0 h hm]; rfl
theorem qQ {w : Wld} {l : List Rec} (h : IsW w l) {k n : Nat} (hk : k < 3) (hn : n < (gt w.c k).pending.length) : (aw w (hapOf 2 k n)).1 = 0 := by
 have e : (aw w (hapOf 2 k n)).1 = (aA w (hapOf 2 k n)).1 := rfl
 have e1 : (decide ((k : Int) < 0) || decide ((k : Int) ≥ (w.c.length : Int))) = false := by rw [h.three]; simp only [Bool.or_eq_false_iff, decide_eq_false_iff_not]; omega
 have e2 : (decide ((n : Int) < 0) || decide ((n : Int) ≥ ((gt w.c k).pending.length : Int))) = false := by simp only [Bool.or_eq_false_iff, decide_eq_false_iff_not]; omega
 rw [e]; unfold aA
 simp only [e1, cond_false, show ((2 : Int) == 1) = false from rfl, show ((2 : Int) == 2) = true from rfl, cond_true, Int.toNat_natCast, e2]
theorem rF {w : Wld} {l : List Rec} (h : IsW w l) (hu : w.up = true) {k : Nat} (hk : k < 3) (hs : (aV w.h k).2 = 0) (hl : (gt w.h.peers k).life ≠ 0) : (aw w (hapOf 3 k 0)).1 = 0 := by
 have e : (aw w (hapOf 3 k 0)).1 = (aA w (hapOf 3 k 0)).1 := rfl
 have e1 : (decide ((k : Int) < 0) || decide ((k : Int) ≥ (w.c.length : Int))) = false := by rw [h.three]; simp only [Bool.or_eq_false_iff, decide_eq_false_iff_not]; omega
 have e3 : ((gt w.h.peers k).life == 0) = false := by simpa using hl
 rw [e]; unfold aA
 simp only [e1, cond_false, show ((3 : Int) == 1) = false from rfl, show ((3 : Int) == 2) = false from rfl, show ((3 : Int) == 6) = false from rfl, show ((3 : Int) == 5) = false from rfl, hu, Bool.not_true]
 unfold dk
 simp only [hs, bne_self_eq_false, cond_false, Int.toNat_natCast, e3, show ((3 : Int) == 4) = false from rfl]
theorem rH {w : Wld} {l : List Rec} (h : IsW w l) (hl : LogOk l) (hu : w.up = false) : (aw w (hapOf 11 0 0)).1 = 0 := by
 have e : (aw w (hapOf 11 0 0)).1 = (bS w (hapOf 11 0 0)).1 := rfl
 have hl' : (aq l).2 = 0 := hl
 rw [e]; unfold bS
 simp only [hu, h.recd, hl', show ((11 : Int) == 11) = true from rfl, show ((11 : Int) == 10) = false from rfl, show (false == true) = false from rfl, cond_false, bne_self_eq_false, beq_self_eq_true, cond_true]
theorem D_boot {w : Wld} {l : List Rec} (h : Calm w l) : (ah (hapOf 11 0 0) w).2.up = true := by
 cases hu : w.up with
 | true =>
  have : (aw w (hapOf 11 0 0)).1 ≠ 0 := by
   have e : (aw w (hapOf 11 0 0)).1 = (bS w (hapOf 11 0 0)).1 := rfl
   rw [e]; unfold bS
   rw [hu]; show (7 : Int) ≠ 0; decide
  rw [D_not ((cj w).2 ⟨l, h.is⟩) this]; exact hu
 | false =>
  obtain ⟨w', l', e, hp, _⟩ := D_hap h (rH h.is h.sees.log hu)
  rw [e]
  cases hp with
  | boot _ _ _ => rfl
  | hear hx => exact absurd hx (by decide)
  | got hx => exact absurd hx (by decide)
  | late hx => exact absurd hx (by decide)
  | lose hx => exact absurd hx (by decide)
  | crash hx => exact absurd hx (by decide)
  | move hx => exact absurd hx (by decide)
  | again hx => exact absurd hx (by decide)
  | began hx => exact absurd hx (by decide)
  | roots hx => exact absurd hx (by decide)
  | shown hx => exact absurd hx (by decide)
theorem xc {w : Wld} {l : List Rec} (h : Calm w l) (hu : w.up = true) {o : Op} {k : Nat} (how : o.who = (k : Int)) (hc : chkO o = 0) (h1 : (peer l k).life = o.life) (h2 : (peer l k).seq + 1 = o.seq)
  (h3 : l.length < 60) (h4 : (opsOf l).length < 30) (h5 : ∀ q ∈ opsOf l, q.who = (k : Int) → q.time ≠ o.time) : (aB w.h (opRec o)).2 = 0 := by
 have hv := h.is.hub.2 hu
 obtain ⟨_, S, hS, hperm⟩ := h.hist
 rw [(h.is.up hu).2] at hS
 have hS : fq w.h.h S := hS
 rw [eR h.is hu] at h1 h2
 have e1 : (aH (opRec o) != 0) = false := by
  have : aH (opRec o) = co o := rfl
  rw [this, dI, hc]; rfl
 have e2 : (w.h.version == 60) = false := by rw [hv, beq_eq_false_iff_ne]; omega
 have e6 : (((gt w.h.peers o.who.toNat).life != o.life) || ((gt w.h.peers o.who.toNat).seq + 1 != o.seq)) = false := by
  rw [how, Int.toNat_natCast, h1, h2]; simp
 have e7 : (aZ w.h.h o).2 = 0 := by
  have a1 : (chkO o != 0) = false := by rw [hc]; rfl
  have a2 : S.any (fun q => decide (stamp q = stamp o)) = false := by
   rw [List.any_eq_false]
   intro q hq
   simp only [decide_eq_true_eq]
   intro e
   have : q.time = o.time ∧ q.who = o.who := by simpa [stamp] using e
   exact h5 q (hperm.mem_iff.1 hq) (this.2.trans how) this.1
  have a3 : (S.length == 30) = false := by have := hperm.length_eq; rw [beq_eq_false_iff_ne]; omega
  rw [vb hS, a1, cond_false, a2, cond_false, a3, cond_false]
 unfold aB
 rw [e1, cond_false, e2, cond_false, show ((opRec o).kind == 1) = true from rfl, cond_true]
 unfold ck
 simp only [e6, cond_false, e7, beq_self_eq_true, cond_true, bne_self_eq_false]
theorem mq {w : Wld} (h : w.mail = []) (f : Nat) : au (f + 1) w = w := by
 rw [au, h]; rfl
theorem mU {w w' : Wld} (h : w.mail ≠ []) (h7 : ah (hapOf 7 0 0) w = (true, w')) (f : Nat) : au (f + 1) w = au f w' := by
 have : decide ((w.mail.length : Int) > 0) = true := by
  have := List.length_pos_iff.2 h
  simp only [decide_eq_true_eq]; omega
 rw [au, this, cond_true]
 have h7' : ah ⟨7, 0, 0, 0, 0, 0, []⟩ w = (true, w') := h7
 rw [h7']; rfl
theorem vE {w w' : Wld} {l l' : List Rec} {m : Mail} {ms : List Mail} (hm : w.mail = m :: ms) (hk : m.kind = 1) (hp : Hap w l (hapOf 7 0 0) w' l') :
  w'.up = w.up ∧ w'.mail = ms ∧ w'.c = w.c ∧ w.up = true ∧ (((aB w.h (opRec m.o)).2 = 0 ∧ l' = l ++ [opRec m.o] ∧ w'.h = (aB w.h (opRec m.o)).1) ∨ ((aB w.h (opRec m.o)).2 ≠ 0 ∧ l' = l ∧ w'.h = w.h)) := by
 have hl : kV w.mail (hapOf 7 0 0) = ms := by rw [hm]; rfl
 have hg : gt w.mail (hapOf 7 0 0).n.toNat = m := by rw [hm]; rfl
 cases hp with
 | hear hx hn m' hm' hk' => rw [hm', hg] at hk'; exact absurd hk hk'
 | got hx hn m' hm' hk' hu h0 =>
  rw [hg] at hm'; subst hm'
  exact ⟨rfl, hl, rfl, hu, .inl ⟨h0, rfl, rfl⟩⟩
 | late hx hn m' hm' hk' hu h0 =>
  rw [hg] at hm'; subst hm'
  exact ⟨rfl, hl, rfl, hu, .inr ⟨h0, rfl, rfl⟩⟩
 | lose hx => exact absurd hx (by decide)
 | crash hx => exact absurd hx (by decide)
 | boot hx => exact absurd hx (by decide)
 | move hx => exact absurd hx (by decide)
 | again hx => exact absurd hx (by decide)
 | began hx => exact absurd hx (by decide)
 | roots hx => exact absurd hx (by decide)
 | shown hx => exact absurd hx (by decide)
theorem qY {k : Nat} (hk : k < 3) : ∀ (q : List Op) (i f : Nat) (w : Wld) (l : List Rec), Calm w l → w.up = true → w.mail = q.map (fA (k : Int)) → q.length < f →
  q = (gt w.c k).pending.drop i → i + q.length = (gt w.c k).pending.length → (gt w.c k).seq - ((gt w.c k).pending.length : Int) + (i : Int) ≤ (peer l k).seq → l.length + q.length ≤ 60 → (opsOf l).length + q.length ≤ 30 →
  ∃ l', Calm (au f w) l' ∧ (au f w).up = true ∧ (au f w).mail = [] ∧ (au f w).c = w.c ∧ (gt w.c k).seq ≤ (peer l' k).seq ∧
   (∀ j, j < 3 → (peer l j).seq ≤ (peer l' j).seq) ∧ l'.length ≤ l.length + q.length ∧ (opsOf l').length ≤ (opsOf l).length + q.length
 | _, _, 0, _, _, _, _, _, hf, _, _, _, _, _ => absurd hf (Nat.not_lt_zero _)
 | [], i, f + 1, w, l, h, hu, hm, _, _, hi, hs, _, _ => by
  rw [mq hm]
  simp only [List.length_nil, Nat.add_zero] at hi
  refine ⟨l, h, hu, hm, rfl, ?_, fun _ _ => Int.le_refl _, by simp, by simp⟩
  rw [hi] at hs; omega
 | o :: q, i, f + 1, w, l, h, hu, hm, hf, hq, hi, hs, hb1, hb2 => by
  have hmm : w.mail = fA (k : Int) o :: q.map (fA (k : Int)) := hm
  have hlt : i < (gt w.c k).pending.length := by simp only [List.length_cons] at hi; omega
  have hc := (bA _ _).1 (h.is.cli k hk)
  have hcl := h.once.cli k hk
  rw [bd hlt] at hq
  obtain ⟨ho, hq'⟩ := List.cons.inj hq
  have hP := hc.pend i hlt
  obtain ⟨Pok, Pwho, Plife, Pseq⟩ : chkO o = 0 ∧ o.who = (k : Int) ∧ o.life = (gt w.c k).life ∧ o.seq = (gt w.c k).seq - ((gt w.c k).pending.length : Int) + 1 + (i : Int) := by rw [ho]; exact ⟨hP.ok, hP.who, hP.life, hP.seq⟩
  have hoin : o ∈ (gt w.c k).pending := by rw [ho]; exact eM hlt
  obtain ⟨w1, l1, e7, hp, hc1⟩ := D_hap h (uK h.is hu hmm rfl)
  obtain ⟨u1, u2, u3, _, u4⟩ := vE hmm rfl hp
  rw [mU (by rw [hmm]; exact List.cons_ne_nil _ _) e7]
  have ho2 : (fA (k : Int) o).o = o := rfl
  rw [ho2] at u4
  simp only [List.length_cons] at hf hi hb1 hb2
  have key : l1.length ≤ l.length + 1 ∧ (opsOf l1).length ≤ (opsOf l).length + 1 ∧ (∀ j, j < 3 → (peer l j).seq ≤ (peer l1 j).seq) ∧ (gt w.c k).seq - ((gt w.c k).pending.length : Int) + ((i + 1 : Nat) : Int) ≤ (peer l1 k).seq := by
   rcases u4 with ⟨h0, e, _⟩ | ⟨h0, e, _⟩
   ·subst e
    obtain ⟨g1, g2, g3⟩ := kU h.is hu h0
    have hop : opsOf (l ++ [opRec o]) = opsOf l ++ [o] := by rw [ed]; rfl
    rcases iA h0 with ⟨_, a1, a2, a3, a4⟩ | ⟨hk2, _⟩ | ⟨hk2, _⟩
    ·have hw2 : (opRec o).o.who.toNat = k := by show o.who.toNat = k; rw [Pwho, Int.toNat_natCast]
     rw [hw2] at a1 a2 a4
     have a2 : (gt w.h.peers k).seq + 1 = o.seq := a2
     have hpk : ∀ j, (peer (l ++ [opRec o]) j).seq = if j = k then o.seq else (peer l j).seq := fun j => by
      rw [g3, a4]
      simp only
      rw [f3 (by rw [h.is.hub.1.three]; omega)]
      by_cases hj : j = k
      ·rw [if_pos hj, if_pos hj]
      ·rw [if_neg hj, if_neg hj, eR h.is hu]
     refine ⟨by simp, by rw [hop]; simp, fun j hj => ?_, ?_⟩
     ·rw [hpk]
      by_cases hj2 : j = k
      ·rw [if_pos hj2, hj2, eR h.is hu]; omega
      ·rw [if_neg hj2]; exact Int.le_refl _
     ·rw [hpk, if_pos rfl]; omega
    ·exact absurd (show (1 : Int) = 2 from hk2) (by decide)
    ·exact absurd (show (1 : Int) = 3 from hk2) (by decide)
   ·rw [e]
    refine ⟨Nat.le_succ _, Nat.le_succ _, fun _ _ => Int.le_refl _, ?_⟩
    by_cases hle : o.seq ≤ (peer l k).seq
    ·omega
    ·exact absurd (xc h hu Pwho Pok (by rw [← hcl.life]; exact Plife.symm) (by omega) (by omega) (by omega) (fun q hq hqw => by
      have := h.time.new k hk q hq hqw o hoin (by omega); omega)) h0
  obtain ⟨k1, k2, k3, k4⟩ := key
  have hcc : gt w1.c k = gt w.c k := by rw [u3]
  obtain ⟨l', r1, r2, r3, r4, r5, r6, r7, r8⟩ := qY hk q (i + 1) f w1 l1 hc1 (u1.trans hu) u2 (by omega) (by rw [hcc]; exact hq') (by rw [hcc]; omega) (by rw [hcc]; exact k4) (by omega) (by omega)
  refine ⟨l', r1, r2, r3, r4.trans u3, by rw [hcc] at r5; exact r5, fun j hj => Int.le_trans (k3 j hj) (r6 j hj), by simp only [List.length_cons]; omega, by simp only [List.length_cons]; omega⟩
end Go.Proofs.YtkjccbdeaflekaaGreatDoor

set_option maxHeartbeats 2000000
namespace Go.Proofs.YtkjccbdeaflekaaGreatDoor
open Go Go.Proofs.YtkjccbdeaflekaaGreatDoor.Fw Go.Proofs
attribute [local irreducible] RdL RdN VarP LibP RW CW
def bP (w3 : Wld) : List Client → Nat → Bool
 | [], n5 => true
 | pn5 :: rn5, n5 => (bif (pn5.life == 0) then (bP w3 rn5 (n5 + 1)) else (bif ((((en w3 w3.h.version (n5 : Int)).2 != 0) || decide ((pn5.pending.length : Int) > 0)) || (!(eW (en w3 w3.h.version (n5 : Int)).1 pn5.v))) then false else (bP w3 rn5 (n5 + 1))))
def ba (S2 : Bool × Wld) (pending1 : Nat) : List Client → Nat → Wld → Bool
 | [], n4, w3 => (bif (!(decide (((ac S2.2).h.version + (pending1 : Int)) ≤ 60) && decide ((((ac S2.2).h.h.l.length : Int) + (pending1 : Int)) ≤ 30))) then true else (bP w3 w3.c 0))
 | pn4 :: rn4, n4, w3 => (ba S2 pending1 rn4 (n4 + 1) (ac (ah (⟨3, (n4 : Int), 0, 0, 0, 0, ([] : List Int)⟩ : Happening) w3).2))
def bq (n2 : Nat) (κ_ : Wld → Bool) : List Op → Nat → Wld → Bool
 | [], n3, w2 => κ_ w2
 | pn3 :: rn3, n3, w2 => (bq n2 κ_ rn3 (n3 + 1) (ah (⟨2, (n2 : Int), (n3 : Int), 0, 0, 0, ([] : List Int)⟩ : Happening) w2).2)
def aG (S2 : Bool × Wld) (pending1 : Nat) : List Client → Nat → Wld → Bool
 | [], n2, w1 => (ba S2 pending1 w1.c 0 w1)
 | pn2 :: rn2, n2, w1 => (bq n2 (fun (w2 : Wld) => (aG S2 pending1 rn2 (n2 + 1) (ac w2))) pn2.pending 0 w1)
def bQ (S2 : Bool × Wld) : List Client → Nat → Bool
 | [], pending1 => (aG S2 pending1 (ac S2.2).c 0 (ac S2.2))
 | pn1 :: rn1, pending1 => (bQ S2 rn1 (pending1 + pn1.pending.length))
def bi (l1 : List Happening) : Bool :=
 (bif ((!f8) || (!(aQ l1 bC).2)) then false else (bQ (ah (⟨11, 0, 0, 0, 0, 0, ([] : List Int)⟩ : Happening) (aQ l1 bC).1) (ac (ah (⟨11, 0, 0, 0, 0, 0, ([] : List Int)⟩ : Happening) (aQ l1 bC).1).2).c 0))
theorem oL (y1 : SlV) (l1 : List Happening) : Does Tryz.prog 5 [y1.val l1.length] [RdN NHap y1 l1, LibP Tryz.prog] (fun (_ : Unit) => .bool (bi l1)) (fun _ => []) := by
 refine Dp aK Tryz.func5 Tryz.ntmps5 Tryz.results5 fun C => ?_
 refine Pn NHap y1 l1 72 fun hlen1 => ?_
 refine Ck (j7 y1 l1 _ _ _ bC Kr (fun z0a_ z0b_ z0c_ z0d_ z0e_ z0f_ z0g_ a0_ => iy z0a_ z0b_ z0c_ z0d_ z0e_ z0f_ z0g_ a0_)) fun x1 => ?_
 generalize hS1 : (aQ l1 bC) = S1
 have hf := Ri (bi.eq_1 l1)
 try rw [hS1] at hf
 refine AlT fun g1 => ?_
 refine Ck (kT ) fun _ => ?_
 refine Ch hf (fun hc1 hf => ?_) fun hc1 hf => ?_
 ·exact Ru
 ·have hw0 := tn hS1
  refine AlT fun g2 => ?_
  refine Tx ?_
  refine Fr EInt ?_
  refine gY (cQ Z0 (⟨11, 0, 0, 0, 0, 0, ([] : List Int)⟩ : Happening) g1 x1.1 x1.2.1 x1.2.2.1 x1.2.2.2.1 x1.2.2.2.2.1 x1.2.2.2.2.2.1 x1.2.2.2.2.2.2 S1.1) .sq (.inl ⟨_, rfl⟩) (al rfl) rfl rfl rfl rfl rfl Kr rfl rfl rfl Sm Tk (.nil _) ?_
  intro x2
  generalize hS2 : (ah (⟨11, 0, 0, 0, 0, 0, ([] : List Int)⟩ : Happening) S1.1) = S2
  try rw [hS2] at hf
  refine Tx ?_
  refine gY (dY g1 x2.1 x2.2.1 x2.2.2.1 x2.2.2.2.1 x2.2.2.2.2.1 x2.2.2.2.2.2.1 x2.2.2.2.2.2.2 S2.2 g2) .sq (.inl ⟨_, rfl⟩) (al rfl) rfl rfl rfl rfl rfl Kr rfl rfl rfl Sm (.cons Pk (.cons Pk (.nil _))) (.nil _) ?_
  intro x3
  refine Tx ?_
  refine Pn NClient x3.2.2.2.2.2.1 (ac S2.2).c 128 fun hlen2 => ?_
  refine Lq (Nat × Nat) [2,3,5,6,38,39] [true, true] (fun ⟨pending1, n1⟩ => ⟨[(7, .v (.int .i64 (pending1 : Int))), (40, .v (.int .i64 (n1 : Int)))], [], [], [], (n1 ≤ (ac S2.2).c.length) ∧ (pending1 ≤ 8 * n1) ∧ (bQ S2 ((ac S2.2).c.drop n1) pending1) = (bi l1), (ac S2.2).c.length - n1⟩) ⟨0, 0⟩ ⟨Nat.zero_le _, (by omega), hf.symm⟩ ?_
  rintro ⟨pending1, n1⟩ ⟨hkn1, hpb, hf1⟩
  simp only [Lc]
  refine Cu (fun hlt0 => ?_) fun hge0 => ?_
  ·have hpl := tP (nD (mx hS2 hw0)) (k := n1) (by have := nI (nD (mx hS2 hw0)); omega)
   refine Tx ?_
   refine fl NClient (X := x3.2.2.2.2.2.1) (l := (ac S2.2).c) Mm fun (γ1 : Nat → SlV × SlV × SlV × SlV) => ?_
   refine Sq (Xn NClient n1) ?_
   refine Sq (q_is (v' := .agg ⟨cC (γ1 n1).1 (γ1 n1).2.1 (γ1 n1).2.2.1 (γ1 n1).2.2.2 (gt (ac S2.2).c n1)⟩) (fY NClient γ1 rfl rfl Zf rfl rfl Mm (fun _ => by first | assumption | omega)) rfl) ?_
   refine Fg NClient γ1 (ac S2.2).c n1 0 ?_
   refine Fg NClient γ1 (ac S2.2).c n1 1 ?_
   refine Fg NClient γ1 (ac S2.2).c n1 2 ?_
   refine Fg NClient γ1 (ac S2.2).c n1 3 ?_
   refine AlT fun g3 => ?_
   refine Tt ?_
   refine ⟨⟨(pending1 + (gt (ac S2.2).c n1).pending.length), (n1 + 1)⟩, ⟨hlt0, (by omega), (by rw [← hf1, bd hlt0]; simp only [bQ, Cb, Cf] : (bi l1) = (bQ S2 ((ac S2.2).c.drop (n1 + 1)) (pending1 + (gt (ac S2.2).c n1).pending.length))).symm⟩, Oo, Le4⟩
  ·have hvr := eT (iG (nD (mx hS2 hw0))).1
   have hw3 := nI (nD (mx hS2 hw0))
   have hfw := vD hvr.1
   refine Lq (Nat × Wld × SlV × SlV × SlV × SlV × SlV × SlV × SlV) [2,3,5,6,10,67,68] [false, true] (fun ⟨n2, w1, x4, x5, x6, x7, x8, x9, x10⟩ => ⟨[(69, .v (.int .i64 (n2 : Int)))], [⟨g1, 37, cW x4 x5 x6 x7 x8 x9 x10 w1⟩], [], [RdL EStep x4 w1.h.h.l, RdL EPlace x5 w1.h.h.t, RdN NPeer x6 w1.h.peers, RdL EByte x7 w1.d.safe, RdL EByte x8 w1.d.wait, RdN NClient x9 w1.c, RdN NMail x10 w1.mail], (n2 ≤ (ac S2.2).c.length) ∧ (aG S2 pending1 ((ac S2.2).c.drop n2) n2 w1) = (bi l1), (ac S2.2).c.length - n2⟩) ⟨0, (ac S2.2), x3.1, x3.2.1, x3.2.2.1, x3.2.2.2.1, x3.2.2.2.2.1, x3.2.2.2.2.2.1, x3.2.2.2.2.2.2⟩ ⟨Nat.zero_le _, (by rw [← hf1, List.drop_of_length_le hge0]; simp only [bQ, Cb, Cf] : (bi l1) = (aG S2 pending1 (ac S2.2).c 0 (ac S2.2))).symm⟩ ?_
   rintro ⟨n2, w1, x4, x5, x6, x7, x8, x9, x10⟩ ⟨hkn2, hf2⟩
   simp only [Lc]
   refine Cu (fun hlt1 => ?_) fun hge1 => ?_
   ·refine Tx ?_
    refine fl NClient (X := x3.2.2.2.2.2.1) (l := (ac S2.2).c) Mm fun (γ2 : Nat → SlV × SlV × SlV × SlV) => ?_
    refine Sq (Xn NClient n2) ?_
    refine Sq (q_is (v' := .agg ⟨cC (γ2 n2).1 (γ2 n2).2.1 (γ2 n2).2.2.1 (γ2 n2).2.2.2 (gt (ac S2.2).c n2)⟩) (fY NClient γ2 rfl rfl Zf rfl rfl Mm (fun _ => by first | assumption | omega)) rfl) ?_
    refine Fg NClient γ2 (ac S2.2).c n2 0 ?_
    refine Fg NClient γ2 (ac S2.2).c n2 1 ?_
    refine Fg NClient γ2 (ac S2.2).c n2 2 ?_
    refine Fg NClient γ2 (ac S2.2).c n2 3 ?_
    refine AlT fun g4 => ?_
    refine Tx ?_
    refine Pc EOp (γ2 n2).1 (gt (ac S2.2).c n2).pending 56 fun hlen3 => ?_
    refine Lq (Nat × Wld × SlV × SlV × SlV × SlV × SlV × SlV × SlV) [2,3,5,6,10,11,12,67,68,69,70,71,72,73,74,75,76] [true, false, true] (fun ⟨n3, w2, x11, x12, x13, x14, x15, x16, x17⟩ => ⟨[(77, .v (.int .i64 (n3 : Int)))], [⟨g1, 37, cW x11 x12 x13 x14 x15 x16 x17 w2⟩], [], [RdL EStep x11 w2.h.h.l, RdL EPlace x12 w2.h.h.t, RdN NPeer x13 w2.h.peers, RdL EByte x14 w2.d.safe, RdL EByte x15 w2.d.wait, RdN NClient x16 w2.c, RdN NMail x17 w2.mail], (n3 ≤ (gt (ac S2.2).c n2).pending.length) ∧ (bq n2 (fun (w2 : Wld) => (aG S2 pending1 ((ac S2.2).c.drop (n2 + 1)) (n2 + 1) (ac w2))) ((gt (ac S2.2).c n2).pending.drop n3) n3 w2) = (bi l1), (gt (ac S2.2).c n2).pending.length - n3⟩) ⟨0, w1, x4, x5, x6, x7, x8, x9, x10⟩ ⟨Nat.zero_le _, (by rw [← hf2, bd hlt1]; simp only [aG, Cb, Cf] : (bi l1) = (bq n2 (fun (w2 : Wld) => (aG S2 pending1 ((ac S2.2).c.drop (n2 + 1)) (n2 + 1) (ac w2))) (gt (ac S2.2).c n2).pending 0 w1)).symm⟩ ?_
    rintro ⟨n3, w2, x11, x12, x13, x14, x15, x16, x17⟩ ⟨hkn3, hf3⟩
    simp only [Lc]
    refine Cu (fun hlt2 => ?_) fun hge2 => ?_
    ·refine Tx ?_
     refine gY (cQ Z0 (⟨2, (n2 : Int), (n3 : Int), 0, 0, 0, ([] : List Int)⟩ : Happening) g1 x11 x12 x13 x14 x15 x16 x17 w2) .sq (.inl ⟨_, rfl⟩) (al rfl) rfl rfl rfl rfl rfl Kr rfl rfl rfl Sm Tk (.nil _) ?_
     intro x18
     generalize hS3 : (ah (⟨2, (n2 : Int), (n3 : Int), 0, 0, 0, ([] : List Int)⟩ : Happening) w2) = S3
     have hf := Ri hf3.symm
     rw [bd hlt2, bq] at hf
     try rw [hS3] at hf
     refine Tt ?_
     refine ⟨⟨(n3 + 1), S3.2, x18.1, x18.2.1, x18.2.2.1, x18.2.2.2.1, x18.2.2.2.2.1, x18.2.2.2.2.2.1, x18.2.2.2.2.2.2⟩, ⟨hlt2, hf.symm⟩, Oo, Le4⟩
    ·refine Tx ?_
     refine gY (dY g1 x11 x12 x13 x14 x15 x16 x17 w2 g2) .sq (.inl ⟨_, rfl⟩) (al rfl) rfl rfl rfl rfl rfl Kr rfl rfl rfl Sm (.cons Pk (.cons Pk (.nil _))) (.nil _) ?_
     intro x19
     refine Tt ?_
     refine ⟨⟨(n2 + 1), (ac w2), x19.1, x19.2.1, x19.2.2.1, x19.2.2.2.1, x19.2.2.2.2.1, x19.2.2.2.2.2.1, x19.2.2.2.2.2.2⟩, ⟨hlt1, (by rw [← hf3, List.drop_of_length_le hge2]; simp only [bq, Cb, Cf] : (bi l1) = (aG S2 pending1 ((ac S2.2).c.drop (n2 + 1)) (n2 + 1) (ac w2))).symm⟩, Oo, Le4⟩
   ·refine Tx ?_
    refine Pn NClient x9 w1.c 128 fun hlen4 => ?_
    refine Lq (Nat × Wld × SlV × SlV × SlV × SlV × SlV × SlV × SlV) [2,3,5,6,10,91] [false, true] (fun ⟨n4, w3, x20, x21, x22, x23, x24, x25, x26⟩ => ⟨[(92, .v (.int .i64 (n4 : Int)))], [⟨g1, 37, cW x20 x21 x22 x23 x24 x25 x26 w3⟩], [], [RdL EStep x20 w3.h.h.l, RdL EPlace x21 w3.h.h.t, RdN NPeer x22 w3.h.peers, RdL EByte x23 w3.d.safe, RdL EByte x24 w3.d.wait, RdN NClient x25 w3.c, RdN NMail x26 w3.mail], (n4 ≤ w1.c.length) ∧ (ba S2 pending1 (w1.c.drop n4) n4 w3) = (bi l1), w1.c.length - n4⟩) ⟨0, w1, x4, x5, x6, x7, x8, x9, x10⟩ ⟨Nat.zero_le _, (by rw [← hf2, List.drop_of_length_le hge1]; simp only [aG, Cb, Cf] : (bi l1) = (ba S2 pending1 w1.c 0 w1)).symm⟩ ?_
    rintro ⟨n4, w3, x20, x21, x22, x23, x24, x25, x26⟩ ⟨hkn4, hf4⟩
    simp only [Lc]
    refine Cu (fun hlt3 => ?_) fun hge3 => ?_
    ·refine Tx ?_
     refine gY (cQ Z0 (⟨3, (n4 : Int), 0, 0, 0, 0, ([] : List Int)⟩ : Happening) g1 x20 x21 x22 x23 x24 x25 x26 w3) .sq (.inl ⟨_, rfl⟩) (al rfl) rfl rfl rfl rfl rfl Kr rfl rfl rfl Sm Tk (.nil _) ?_
     intro x27
     generalize hS4 : (ah (⟨3, (n4 : Int), 0, 0, 0, 0, ([] : List Int)⟩ : Happening) w3) = S4
     have hf := Ri hf4.symm
     rw [bd hlt3, ba] at hf
     try rw [hS4] at hf
     refine Tx ?_
     refine gY (dY g1 x27.1 x27.2.1 x27.2.2.1 x27.2.2.2.1 x27.2.2.2.2.1 x27.2.2.2.2.2.1 x27.2.2.2.2.2.2 S4.2 g2) .sq (.inl ⟨_, rfl⟩) (al rfl) rfl rfl rfl rfl rfl Kr rfl rfl rfl Sm (.cons Pk (.cons Pk (.nil _))) (.nil _) ?_
     intro x28
     refine Tt ?_
     refine ⟨⟨(n4 + 1), (ac S4.2), x28.1, x28.2.1, x28.2.2.1, x28.2.2.2.1, x28.2.2.2.2.1, x28.2.2.2.2.2.1, x28.2.2.2.2.2.2⟩, ⟨hlt3, hf.symm⟩, Oo, Le4⟩
    ·have hf := Ri hf4.symm
     rw [List.drop_of_length_le hge3, ba] at hf
     refine Ch hf (fun hc6 hf => ?_) fun hc6 hf => ?_
     ·exact Ru
     ·refine Tx ?_
      refine Pn NClient x25 w3.c 128 fun hlen5 => ?_
      refine Lq Nat [2,3,105,106] [true, true] (fun n5 => ⟨[(107, .v (.int .i64 (n5 : Int)))], [], [], [], (n5 ≤ w3.c.length) ∧ (bP w3 (w3.c.drop n5) n5) = (bi l1), w3.c.length - n5⟩) 0 ⟨Nat.zero_le _, hf.symm⟩ ?_
      rintro n5 ⟨hkn5, hf5⟩
      simp only [Lc]
      refine Cu (fun hlt4 => ?_) fun hge4 => ?_
      ·refine Tx ?_
       refine fl NClient (X := x25) (l := w3.c) Mm fun (γ3 : Nat → SlV × SlV × SlV × SlV) => ?_
       refine Sq (Xn NClient n5) ?_
       refine Sq (q_is (v' := .agg ⟨cC (γ3 n5).1 (γ3 n5).2.1 (γ3 n5).2.2.1 (γ3 n5).2.2.2 (gt w3.c n5)⟩) (fY NClient γ3 rfl rfl Zf rfl rfl Mm (fun _ => by first | assumption | omega)) rfl) ?_
       refine Fg NClient γ3 w3.c n5 0 ?_
       refine Fg NClient γ3 w3.c n5 1 ?_
       refine Fg NClient γ3 w3.c n5 2 ?_
       refine Fg NClient γ3 w3.c n5 3 ?_
       refine AlT fun g5 => ?_
       have hf := Ri hf5.symm
       rw [bd hlt4, bP] at hf
       refine Ce hf (fun hc8 hc8p hf => ?_) fun hc8 hc8p hf => ?_
       ·refine Tt ?_
        refine ⟨(n5 + 1), ⟨hlt4, hf.symm⟩, Oo, Le4⟩
       ·refine Ck (iq x20 x21 x22 x23 x24 x25 x26 w3 w3.h.version (n5 : Int)) fun x29 => ?_
        generalize hS5 : (en w3 w3.h.version (n5 : Int)) = S5
        try rw [hS5] at hf
        refine AlT fun g6 => ?_
        refine Cy (fun hG_ => jk x29.1 x29.2.1 x29.2.2 S5.1 (γ3 n5).2.1 (γ3 n5).2.2.1 (γ3 n5).2.2.2 (gt w3.c n5).v) ?_
        refine Ch hf (fun hc9 hf => ?_) fun hc9 hf => ?_
        ·exact Ru
        ·refine Tt ?_
         refine ⟨(n5 + 1), ⟨hlt4, hf.symm⟩, Oo, Le4⟩
      ·have hf := Ri hf5.symm
       rw [List.drop_of_length_le hge4, bP] at hf
       exact Ru
end Go.Proofs.YtkjccbdeaflekaaGreatDoor

namespace Go.Proofs.YtkjccbdeaflekaaGreatDoor
open Go Go.Proofs.YtkjccbdeaflekaaGreatDoor.Fw Go.Proofs
theorem uv {k : Nat} (hk : k < 3) {o : Op} (how : o.who = (k : Int)) (hc : chkO o = 0) : bI (fA (k : Int) o) = 0 := by
 rw [ja]
 have e1 : (decide ((fA (k : Int) o).kind < 1) || decide ((fA (k : Int) o).kind > 3)) = false := rfl
 have e2 : (decide ((fA (k : Int) o).who < 0) || decide ((fA (k : Int) o).who ≥ 3)) = false := by
  show (decide ((k : Int) < 0) || decide ((k : Int) ≥ 3)) = false
  simp only [Bool.or_eq_false_iff, decide_eq_false_iff_not]; omega
 have e3 : fF (fA (k : Int) o) (want1 (fA (k : Int) o)) = true := (m0 _ _).2 rfl
 have e4 : ((fA (k : Int) o).o.who != (fA (k : Int) o).who) = false := by show (o.who != (k : Int)) = false; rw [how]; simp
 rw [e1, cond_false, e2, cond_false, show ((fA (k : Int) o).kind == 1) = true from rfl, cond_true, e3, Bool.not_true, cond_false, e4, cond_false]
 exact hc
theorem Hap.again_inv {w w' : Wld} {l l' : List Rec} {x : Happening} (hp : Hap w l x w' l') (hx : x.kind = 2) : l' = l ∧ w' = ⟨w.h, w.d, w.up, w.c, posted w.mail (fA x.who (gt (gt w.c x.who.toNat).pending x.n.toNat))⟩ := by
 cases hp with
 | again _ _ _ => exact ⟨rfl, rfl⟩
 | hear hy => omega
 | got hy => omega
 | late hy => omega
 | lose hy => omega
 | crash hy => omega
 | boot hy => omega
 | move hy => omega
 | began hy => omega
 | roots hy => omega
 | shown hy => omega
theorem Hap.shown_inv {w w' : Wld} {l l' : List Rec} {x : Happening} (hp : Hap w l x w' l') (hx : x.kind = 3) : ∃ m, Shown w l x m ∧ l' = l ∧ w' = ⟨w.h, w.d, w.up, w.c, posted w.mail m⟩ := by
 cases hp with
 | shown _ _ _ m hm => exact ⟨m, hm, rfl, rfl⟩
 | hear hy => omega
 | got hy => omega
 | late hy => omega
 | lose hy => omega
 | crash hy => omega
 | boot hy => omega
 | move hy => omega
 | began hy => omega
 | roots hy => omega
 | again hy => omega
theorem resend {k : Nat} (hk : k < 3) (κ : Wld → Bool) : ∀ (r : List Op) (n : Nat) (w : Wld) (l : List Rec), Calm w l → w.up = true → w.mail = ((gt w.c k).pending.take n).map (fA (k : Int)) → n + r.length = (gt w.c k).pending.length →
  ∃ w', bq k κ r n w = κ w' ∧ Calm w' l ∧ w'.up = true ∧ w'.c = w.c ∧ w'.mail = (gt w.c k).pending.map (fA (k : Int))
 | [], n, w, l, h, hu, hm, hn => by
  rw [List.length_nil, Nat.add_zero] at hn
  refine ⟨w, rfl, h, hu, rfl, ?_⟩
  rw [hm, hn, List.take_length]
 | o :: r, n, w, l, h, hu, hm, hn => by
  rw [List.length_cons] at hn
  have hlt : n < (gt w.c k).pending.length := by omega
  have hc := (bA _ _).1 (h.is.cli k hk)
  have hP := hc.pend n hlt
  have hfew := hc.few
  obtain ⟨w1, l1, e1, hp, hc1⟩ := D_hap h (qQ h.is hk hlt)
  have hpo : posted w.mail (fA (k : Int) (gt (gt w.c k).pending n)) = ((gt w.c k).pending.take (n + 1)).map (fA (k : Int)) := by
   unfold posted
   rw [if_pos ⟨uv hk hP.who hP.ok, by rw [hm]; simp only [List.length_map, List.length_take]; omega⟩, hm, List.take_succ_eq_append_getElem hlt, List.map_append, gt_eq hlt]; rfl
  have key : l1 = l ∧ w1.up = w.up ∧ w1.c = w.c ∧ w1.mail = ((gt w.c k).pending.take (n + 1)).map (fA (k : Int)) := by
   obtain ⟨q1, q2⟩ := hp.again_inv rfl
   rw [q2]; exact ⟨q1, rfl, rfl, hpo⟩
  obtain ⟨k1, k2, k3, k4⟩ := key
  rw [k1] at hc1
  have hcc : gt w1.c k = gt w.c k := by rw [k3]
  obtain ⟨w', r1, r2, r3, r4, r5⟩ := resend hk κ r (n + 1) w1 l hc1 (k2.trans hu) (by rw [hcc]; exact k4) (by rw [hcc]; omega)
  refine ⟨w', ?_, r2, r3, r4.trans k3, by rw [hcc] at r5; exact r5⟩
  rw [bq]
  have e1' : ah ⟨2, (k : Int), (n : Int), 0, 0, 0, []⟩ w = (true, w1) := e1
  rw [e1']
  exact r1
def j4 (r : List Client) : Nat := (r.map (·.pending.length)).sum
theorem m7 (c : Client) (r : List Client) : j4 (c :: r) = c.pending.length + j4 r := by simp [j4]
def AllIn (w : Wld) (l : List Rec) (n : Nat) : Prop := ∀ j, j < n → (gt w.c j).seq ≤ (peer l j).seq
theorem phase1 (S2 : Bool × Wld) (P : Nat) : ∀ (r : List Client) (n : Nat) (w : Wld) (l : List Rec), Calm w l → w.up = true → w.mail = [] → r = w.c.drop n → n + r.length = 3 → AllIn w l n → l.length + j4 r ≤ 60 → (opsOf l).length + j4 r ≤ 30 →
  ∃ w' l', aG S2 P r n w = ba S2 P w'.c 0 w' ∧ Calm w' l' ∧ w'.up = true ∧ w'.mail = [] ∧ AllIn w' l' 3
 | [], n, w, l, h, hu, hm, _, hn, hi, _, _ => by
  rw [List.length_nil, Nat.add_zero] at hn
  subst hn
  exact ⟨w, l, rfl, h, hu, hm, hi⟩
 | c :: r, n, w, l, h, hu, hm, hr, hn, hi, hb1, hb2 => by
  rw [List.length_cons] at hn
  have hk : n < 3 := by omega
  rw [bd (by rw [h.is.three]; exact hk)] at hr
  obtain ⟨hc, hr'⟩ := List.cons.inj hr
  rw [m7] at hb1 hb2
  rw [aG, hc]
  rw [hc] at hb1 hb2
  obtain ⟨w1, e1, h1, u1, c1, m1⟩ := resend hk (fun w2 => aG S2 P r (n + 1) (ac w2)) (gt w.c n).pending 0 w l h hu (by rw [hm]; rfl) (by omega)
  rw [e1]
  have hcc : gt w1.c n = gt w.c n := by rw [c1]
  have hcl := h.once.cli n hk
  have hlo := hcl.lo
  obtain ⟨l2, h2, u2, m2, c2, s2, s3, b1, b2⟩ := qY hk (gt w.c n).pending 0 (w1.mail.length + 1) w1 l h1 u1 m1 (by rw [m1, List.length_map]; omega) (by rw [hcc]; rfl) (by rw [hcc]; omega) (by rw [hcc]; omega) (by omega) (by omega)
  show ∃ w' l', aG S2 P r (n + 1) (au (w1.mail.length + 1) w1) = _ ∧ _
  generalize au (w1.mail.length + 1) w1 = w2 at *
  have c3 : w2.c = w.c := c2.trans c1
  refine phase1 S2 P r (n + 1) w2 l2 h2 u2 m2 (by rw [c3]; exact hr') (by omega) (fun j hj => ?_) (by omega) (by omega)
  rw [c3]
  by_cases hjn : j = n
  ·rw [hjn]; rw [hcc] at s2; exact s2
  ·exact Int.le_trans (hi j (by omega)) (s3 j (by omega))
theorem rg (S2 : Bool × Wld) (P : Nat) (hr : (!(decide (((ac S2.2).h.version + (P : Int)) ≤ 60) && decide ((((ac S2.2).h.h.l.length : Int) + (P : Int)) ≤ 30))) = true) : ∀ (r : List Client) (n : Nat) (w : Wld), ba S2 P r n w = true
 | [], n, w => by rw [ba, hr]; rfl
 | _ :: r, n, w => by rw [ba]; exact rg S2 P hr r _ _
theorem wG {n2 : Nat} {κ : Wld → Bool} (h : ∀ w, κ w = true) : ∀ (r : List Op) (n : Nat) (w : Wld), bq n2 κ r n w = true
 | [], n, w => by rw [bq]; exact h w
 | _ :: r, n, w => by rw [bq]; exact wG h r _ _
theorem rh (S2 : Bool × Wld) (P : Nat) (hr : (!(decide (((ac S2.2).h.version + (P : Int)) ≤ 60) && decide ((((ac S2.2).h.h.l.length : Int) + (P : Int)) ≤ 30))) = true) : ∀ (r : List Client) (n : Nat) (w : Wld), aG S2 P r n w = true
 | [], n, w => by rw [aG]; exact rg S2 P hr _ _ _
 | _ :: r, n, w => by rw [aG]; exact wG (fun w => rh S2 P hr r _ _) _ _ _
theorem L0_eq (S2 : Bool × Wld) : ∀ (r : List Client) (P : Nat), bQ S2 r P = aG S2 (P + j4 r) (ac S2.2).c 0 (ac S2.2)
 | [], P => rfl
 | c :: r, P => by rw [bQ, L0_eq S2 r, m7, Nat.add_assoc]
theorem vq {h : History} {S : List Op} (hh : fq h S) : 0 ≤ (bif decide ((h.l.length : Int) > 0) then (gt h.l (h.l.length - 1)).o.time else 0) ∧ (bif decide ((h.l.length : Int) > 0) then (gt h.l (h.l.length - 1)).o.time else 0) ≤ 10000 := by
 cases hd : decide ((h.l.length : Int) > 0) with
 | false => exact ⟨Int.le_refl _, by show (0 : Int) ≤ 10000; decide⟩
 | true =>
  have hp := of_decide_eq_true hd
  rw [cond_true]
  have hm : (gt h.l (h.l.length - 1)).o ∈ S := by
   rw [← hh.ops]; exact List.mem_map_of_mem (eM (by omega))
  have := hh.ok _ hm
  have hb : (decide ((gt h.l (h.l.length - 1)).o.time < 1) || decide ((gt h.l (h.l.length - 1)).o.time > 10000)) = false := by
   cases hb : (decide ((gt h.l (h.l.length - 1)).o.time < 1) || decide ((gt h.l (h.l.length - 1)).o.time > 10000)) with
   | false => rfl
   | true => unfold chkO at this; rw [hb] at this; simp at this
  simp only [Bool.or_eq_false_iff, decide_eq_false_iff_not] at hb
  omega
theorem tU {w : Wld} {l : List Rec} (h : Calm w l) (hu : w.up = true) {k : Nat} (hk : k < 3) : (aV w.h (k : Int)).2 = 0 := by
 have hH := h.is.hub.1
 have hc := (eU _).2 hH
 obtain ⟨S, hS⟩ : ∃ S, fq w.h.h S := by
  obtain ⟨_, S, hS, _⟩ := h.hist
  rw [(h.is.up hu).2] at hS; exact ⟨S, hS⟩
 have hp := (jE hc (gt w.h.peers k) (eM (by rw [hH.three]; exact hk))).2.2
 have ht : db w.h.h.t = 0 := by rw [hS.eq]; exact nv S e0 rfl hS.ok
 have e1 : (c8 w.h != 0) = false := by rw [hc]; rfl
 have e2 : (decide ((k : Int) < 0) || decide ((k : Int) ≥ 3)) = false := by simp only [Bool.or_eq_false_iff, decide_eq_false_iff_not]; omega
 have e3 : (db w.h.h.t != 0) = false := by rw [ht]; rfl
 have e4 : (bF (gt w.h.peers k).roots != 0) = false := by rw [hp]; rfl
 unfold aV
 rw [e1, cond_false, e2, cond_false, Int.toNat_natCast, Of_eq, e3, cond_false, e4, cond_false]
abbrev cN (w : Wld) (k : Nat) : Mail := ⟨2, (k : Int), (gt w.h.peers k).life, (gt w.h.peers k).seq, cZ w.h, w.h.version, 0, ⟨0, 0, 0, 0, 0, 0, 0⟩, (aV w.h k).1, ⟨[], [], [], []⟩⟩
theorem sw {w : Wld} {l : List Rec} (h : Calm w l) (hu : w.up = true) {k : Nat} (hk : k < 3) (hl : (gt w.h.peers k).life ≠ 0) : 1 ≤ l.length := by
 rcases l with _ | ⟨a, l⟩
 ·exfalso
  rw [← eR h.is hu] at hl
  apply hl
  rcases (by omega : k = 0 ∨ k = 1 ∨ k = 2) with e | e | e <;> rw [e] <;> rfl
 ·simp
theorem rn {w : Wld} {l : List Rec} (h : Calm w l) (hu : w.up = true) {k : Nat} (hk : k < 3) (hl : (gt w.h.peers k).life ≠ 0) : bI (cN w k) = 0 := by
 have hH := h.is.hub.1
 have hv := h.is.hub.2 hu
 have hc := (eU _).2 hH
 have hp := (jE hc (gt w.h.peers k) (eM (by rw [hH.three]; exact hk))).1
 have h1 := sw h hu hk hl
 have h60 := h.is.sixty
 obtain ⟨S, hS⟩ : ∃ S, fq w.h.h S := by
  obtain ⟨_, S, hS, _⟩ := h.hist
  rw [(h.is.up hu).2] at hS; exact ⟨S, hS⟩
 have ht : 0 ≤ cZ w.h ∧ cZ w.h ≤ 10000 := vq hS
 have hview : bz (aV w.h k).1 = 0 := by
  have hs := tU h hu hk
  exact (cy _).2 (lV (tV h.is hu hs))
 rw [ja]
 have e2 : (decide ((cN w k).who < 0) || decide ((cN w k).who ≥ 3)) = false := by
  show (decide ((k : Int) < 0) || decide ((k : Int) ≥ 3)) = false
  simp only [Bool.or_eq_false_iff, decide_eq_false_iff_not]; omega
 have e3 : fF (cN w k) (want2 (cN w k)) = true := (m0 _ _).2 rfl
 have e4 : oa (cN w k) = false := by
  rw [lQ]
  show 1 ≤ (gt w.h.peers k).life ∧ (gt w.h.peers k).life ≤ 50 ∧ 0 ≤ (gt w.h.peers k).seq ∧ (gt w.h.peers k).seq ≤ 30 ∧ 0 ≤ cZ w.h ∧ cZ w.h ≤ 10000 ∧ 1 ≤ w.h.version ∧ w.h.version ≤ 60 ∧ (0 : Int) ≤ 0 ∧ (0 : Int) < w.h.version
  omega
 rw [show (decide ((cN w k).kind < 1) || decide ((cN w k).kind > 3)) = false from rfl, cond_false, e2, cond_false, show ((cN w k).kind == 1) = false from rfl, cond_false, show ((cN w k).kind == 2) = true from rfl, cond_true, e3, Bool.not_true, cond_false, e4, cond_false]
 exact hview
def Told (w : Wld) (k : Nat) : Prop := (gt w.c k).life = 0 ∨ ((gt w.c k).pending = [] ∧ (gt w.c k).version = w.h.version ∧ w.h.version ≠ 0)
theorem vF {w w' : Wld} {l l' : List Rec} {m : Mail} {ms : List Mail} (hm : w.mail = m :: ms) (hk : m.kind ≠ 1) (hp : Hap w l (hapOf 7 0 0) w' l') :
  l' = l ∧ w' = ⟨w.h, w.d, w.up, w.c.set m.who.toNat (aC (gt w.c m.who.toNat) m.who m).1, ms⟩ := by
 have hl : kV w.mail (hapOf 7 0 0) = ms := by rw [hm]; rfl
 have hg : gt w.mail (hapOf 7 0 0).n.toNat = m := by rw [hm]; rfl
 cases hp with
 | hear hx hn m' hm' hk' => rw [hg] at hm'; subst hm'; rw [hl]; exact ⟨rfl, rfl⟩
 | got hx hn m' hm' hk' => rw [hm', hg] at hk'; exact absurd hk' hk
 | late hx hn m' hm' hk' => rw [hm', hg] at hk'; exact absurd hk' hk
 | lose hx => exact absurd hx (by decide)
 | crash hx => exact absurd hx (by decide)
 | boot hx => exact absurd hx (by decide)
 | move hx => exact absurd hx (by decide)
 | again hx => exact absurd hx (by decide)
 | began hx => exact absurd hx (by decide)
 | roots hx => exact absurd hx (by decide)
 | shown hx => exact absurd hx (by decide)
theorem vu {w : Wld} {l : List Rec} (h : Calm w l) (hu : w.up = true) (hm : w.mail = []) {k : Nat} (hk : k < 3) (hi : AllIn w l 3) :
  ∃ w', ac (ah (hapOf 3 k 0) w).2 = w' ∧ Calm w' l ∧ w'.up = true ∧ w'.mail = [] ∧ AllIn w' l 3 ∧ w'.h = w.h ∧ Told w' k ∧ ∀ j, j < 3 → j ≠ k → gt w'.c j = gt w.c j := by
 have hcl := h.once.cli k hk
 have hpu := eR h.is hu k
 have hv := h.is.hub.2 hu
 by_cases hl : (gt w.h.peers k).life = 0
 ·
  have h0 : (aw w (hapOf 3 k 0)).1 ≠ 0 := fun h1 => by
   obtain ⟨w1, l1, _, hp, _⟩ := D_hap h h1
   obtain ⟨m, hs, _⟩ := hp.shown_inv rfl
   exact hs.life hl
  rw [D_not ((cj w).2 ⟨l, h.is⟩) h0]
  refine ⟨w, mq hm _, h, hu, hm, hi, rfl, .inl ?_, fun _ _ _ => rfl⟩
  rw [hcl.life, hpu]; exact hl
 ·have hS := tU h hu hk
  obtain ⟨w1, l1, e1, hp, hc1⟩ := D_hap h (rF h.is hu hk hS hl)
  obtain ⟨m, hs, q1, q2⟩ := hp.shown_inv rfl
  subst q1
  have hmm : m = cN w k := by
   rcases hs.case with e | ⟨_, _, g, g1, g2, _⟩
   ·exact e
   ·exfalso
    have : g = bH := (congrArg Prod.fst g1).symm
    rw [this] at g2
    apply hl
    have g2 : (gt bH.peers k).life = (gt w.h.peers k).life := g2
    rw [← g2]
    rcases (by omega : k = 0 ∨ k = 1 ∨ k = 2) with e | e | e <;> rw [e] <;> rfl
  have hok := rn h hu hk hl
  have hpost : posted w.mail m = [cN w k] := by
   unfold posted; rw [hmm, hm, if_pos ⟨hok, by simp⟩]; rfl
  rw [hpost] at q2
  have hm1 : w1.mail = cN w k :: [] := by rw [q2]
  have hw1c : w1.c = w.c := by rw [q2]
  have hw1h : w1.h = w.h := by rw [q2]
  have hu1 : w1.up = true := by rw [q2]; exact hu
  rw [e1]
  have hkk : (cN w k).who.toNat = k := Int.toNat_natCast k
  have hcc := (bA _ _).1 (h.is.cli k hk)
  have hst : stale (gt w.c k) (cN w k) = decide (w.h.version ≤ (gt w.c k).version) := by
   have a1 : ((cN w k).life != (gt w.c k).life) = false := by show ((gt w.h.peers k).life != (gt w.c k).life) = false; rw [hcl.life, hpu]; simp
   have a3 : decide ((cN w k).seq > (gt w.c k).seq) = false := by
    have := hcl.hi; rw [hpu] at this
    show decide ((gt w.h.peers k).seq > (gt w.c k).seq) = false
    simp only [decide_eq_false_iff_not]; omega
   unfold stale
   rw [a1, a3, Bool.false_or, Bool.or_false]
  have hhe : aC (gt w.c k) (k : Int) (cN w k) = bif decide (w.h.version ≤ (gt w.c k).version) then (gt w.c k, 0) else (fj (gt w.c k) (cN w k) (aV w.h k).1, 0) := by
   have a1 : (bm (gt w.c k) (k : Int) != 0) = false := by rw [h.is.cli k hk]; rfl
   have a2 : (bI (cN w k) != 0) = false := by rw [hok]; rfl
   have a3 : (((cN w k).kind == 1) || ((cN w k).who != (k : Int))) = false := by show (((2 : Int) == 1) || ((k : Int) != (k : Int))) = false; simp
   rw [qf, a1, cond_false, a2, cond_false, a3, cond_false, hst, show ((cN w k).kind == 3) = false from rfl, cond_false]
  have h2 : (aC (gt w1.c (cN w k).who.toNat) (cN w k).who (cN w k)).2 = 0 := by
   rw [hkk, hw1c]
   show (aC (gt w.c k) (k : Int) (cN w k)).2 = 0
   rw [hhe]; cases decide (w.h.version ≤ (gt w.c k).version) <;> rfl
  obtain ⟨w2, l2, e2, hp2, hc2⟩ := D_hap hc1 (rE hc1.is hm1 (show (2 : Int) ≠ 1 by decide) h2)
  obtain ⟨r1, r2⟩ := vF hm1 (show (2 : Int) ≠ 1 by decide) hp2
  rw [r1] at hc2
  rw [hkk, hw1c, hw1h] at r2
  have hm2 : w2.mail = [] := by rw [r2]
  have hc2c : w2.c = w.c.set k (aC (gt w.c k) (k : Int) (cN w k)).1 := by rw [r2]
  have hdr : ac w1 = w2 := by
   unfold ac
   rw [hm1]
   show au (1 + 1) w1 = w2
   rw [mU (by rw [hm1]; exact List.cons_ne_nil _ _) e2, mq hm2]
  have hgk : gt w2.c k = (aC (gt w.c k) (k : Int) (cN w k)).1 := by rw [hc2c, dS h.is hk, if_pos rfl]
  have hgj : ∀ j, j ≠ k → gt w2.c j = gt w.c j := fun j hj => by rw [hc2c, dS h.is hk, if_neg hj]
  have hall := hi k hk
  refine ⟨w2, hdr, hc2, by rw [r2]; exact hu1, hm2, fun j hj => ?_, by rw [r2], .inr ?_, fun j _ hjk => hgj j hjk⟩
  ·by_cases hjk : j = k
   ·rw [hjk, hgk, hhe]
    cases decide (w.h.version ≤ (gt w.c k).version) <;> exact hall
   ·rw [hgj j hjk]; exact hi j hj
  ·have hlen := sw h hu hk hl
   have hwh : w2.h = w.h := by rw [r2]
   rw [hgk, hhe, hwh]
   cases hd : decide (w.h.version ≤ (gt w.c k).version) with
   | true =>
    have hd := of_decide_eq_true hd
    rw [cond_true]
    rcases h.ver.cli k hk with hz | hz
    ·omega
    ·have he : (gt w.c k).version = w.h.version := by have := hz.le; omega
     refine ⟨?_, he, by omega⟩
     rw [List.eq_nil_iff_forall_not_mem]
     intro q hq
     have := hz.pend q hq
     rw [he, hv] at this
     have e : fZ l1 (l1.length : Int) k = peer l1 k := by unfold fZ; rw [Int.toNat_natCast, List.take_length]
     rw [e] at this
     obtain ⟨i, i1, _, i3, _, _⟩ := j0 hcc hq
     omega
   | false =>
    rw [cond_false]
    refine ⟨?_, rfl, by omega⟩
    show (gt w.c k).pending.filter (fun o => !decide (o.seq ≤ (gt w.h.peers k).seq)) = []
    rw [List.filter_eq_nil_iff]
    intro q hq
    obtain ⟨i, i1, _, i3, _, _⟩ := j0 hcc hq
    rw [hpu] at hall
    simp only [Bool.not_eq_true', decide_eq_false_iff_not]
    omega
theorem rY {w : Wld} {l : List Rec} (h : Calm w l) (hu : w.up = true) (ht : ∀ j, j < 3 → Told w j) : ∀ (r : List Client) (n : Nat), r = w.c.drop n → bP w r n = true
 | [], n, _ => rfl
 | c :: r, n, hr => by
  have hlt : n < w.c.length := by
   rcases Nat.lt_or_ge n w.c.length with h' | h'
   ·exact h'
   ·rw [List.drop_of_length_le h'] at hr; cases hr
  rw [bd hlt] at hr
  obtain ⟨hc, hr'⟩ := List.cons.inj hr
  have hk : n < 3 := by rw [← h.is.three]; exact hlt
  rw [bP, hc]
  cases hl : ((gt w.c n).life == 0) with
  | true => exact rY h hu ht r (n + 1) hr'
  | false =>
   have hl := beq_eq_false_iff_ne.1 hl
   rcases ht n hk with hz | ⟨h1, h2, h3⟩
   ·exact absurd hz hl
   ·have hv := h.is.hub.2 hu
    rcases h.sees.cli n hk with hz | ⟨h4, h5⟩
    ·exact absurd (h2.symm.trans hz) h3
    ·have e : en w w.h.version (n : Int) = ((gt w.c n).v, 0) := by
      rw [← h2, At_eq h.is h.sees.log hk ⟨by omega, h4⟩, h5]
     have hs : eW (gt w.c n).v (gt w.c n).v = true := (p6 _ _).2 rfl
     rw [e, h1]
     simp only [hs, cond_false, bne_self_eq_false, List.length_nil, Bool.not_true, Bool.or_false, Bool.false_or, show decide (((0 : Nat) : Int) > 0) = false from rfl]
     exact rY h hu ht r (n + 1) hr'
theorem phase2 (S2 : Bool × Wld) (P : Nat) : ∀ (r : List Client) (n : Nat) (w : Wld) (l : List Rec), Calm w l → w.up = true → w.mail = [] → n + r.length = 3 → AllIn w l 3 → (∀ j, j < n → Told w j) → ba S2 P r n w = true
 | [], n, w, l, h, hu, hm, hn, hi, ht => by
  rw [List.length_nil, Nat.add_zero] at hn
  subst hn
  rw [ba]
  cases (!(decide (((ac S2.2).h.version + (P : Int)) ≤ 60) && decide ((((ac S2.2).h.h.l.length : Int) + (P : Int)) ≤ 30))) with
  | true => rfl
  | false => exact rY h hu ht w.c 0 rfl
 | _ :: r, n, w, l, h, hu, hm, hn, hi, ht => by
  rw [List.length_cons] at hn
  obtain ⟨w', e, h', hu', hm', hi', hh', ht', hj'⟩ := vu h hu hm (k := n) (by omega) hi
  rw [ba]
  have e' : ac (ah ⟨3, (n : Int), 0, 0, 0, 0, []⟩ w).2 = w' := e
  rw [e']
  refine phase2 S2 P r (n + 1) w' l h' hu' hm' (by omega) hi' fun j hj => ?_
  by_cases hjn : j = n
  ·rw [hjn]; exact ht'
  ·have := ht j (by omega)
   unfold Told at this ⊢
   rw [hj' j (by omega) hjn, hh']; exact this
theorem jq (ok : Wld → Bool) : ∀ (r : List Happening) (w : Wld), (∃ l, Calm w l) → ∃ l, Calm (bp ok r w).1 l
 | [], w, h => h
 | x :: r, w, ⟨l, h⟩ => by
  rw [bp]
  cases h1 : ((bV w x).2 == 0) with
  | false => exact jq ok r w ⟨l, h⟩
  | true =>
   obtain ⟨b1, b2, b3⟩ := ta (eq_of_beq h1)
   obtain ⟨l', hp⟩ := jH h.is b2
   have h2 : ∃ l, Calm (bV w x).1 l := ⟨l', by rw [b3]; exact h.step hp⟩
   rw [cond_true]
   cases (!(ok (bV w x).1)) with
   | true => exact h2
   | false => exact jq ok r _ h2
theorem vZ : Calm bU [] := by
 have hp0 : ∀ k, k < 3 → peer [] k = ⟨0, 0, []⟩ ∧ gt bU.c k = ⟨0, 0, 0, [], 0, ⟨[], [], []⟩⟩ := fun k hk => by
  rcases (by omega : k = 0 ∨ k = 1 ∨ k = 2) with rfl | rfl | rfl <;> exact ⟨rfl, rfl⟩
 refine ⟨New_W, ⟨⟨rfl, fun k hk => ⟨0, ?_, .nil 0⟩, fun o ho => by cases ho⟩, fun k hk => ?_, fun m hm => by cases hm⟩, ⟨rfl, fun k hk => .inl ?_, fun m hm => by cases hm⟩, ⟨rfl, [], (lg _).1 lu.hist, .refl _⟩, ⟨fun k hk => .inl ?_, fun m hm => by cases hm⟩, ⟨(fun _ _ o ho => by cases ho), (fun _ _ o ho => by cases ho)⟩⟩
 ·rw [(hp0 k hk).1]; rfl
 ·have e := hp0 k hk
  rw [e.2]
  refine ⟨by rw [e.1], by rw [e.1]; exact Int.le_refl _, by rw [e.1]; simp, fun o ho => by cases ho⟩
 ·rw [(hp0 k hk).2]
 ·rw [(hp0 k hk).2]
theorem vH {w : Wld} (hw : ∃ l, Calm w l) (hu : w.up = true) : (ac w).up = true ∧ (ac w).mail = [] := by
 have up_of : ∀ {w w' : Wld} {l l' : List Rec} {x : Happening}, Hap w l x w' l' → (x.kind = 7 ∨ x.kind = 9) → w'.up = w.up := fun hp hx => by
  cases hp with
  | crash hy => omega
  | boot hy => omega
  | hear _ => rfl
  | got _ => rfl
  | late _ => rfl
  | lose _ => rfl
  | move _ => rfl
  | again _ => rfl
  | began _ => rfl
  | roots _ => rfl
  | shown _ => rfl
 have key : ∀ (f : Nat) (w : Wld), w.mail.length < f → (∃ l, Calm w l) → w.up = true → (au f w).up = true ∧ (au f w).mail = [] := by
  intro f
  induction f with
  | zero => intro w h; exact absurd h (Nat.not_lt_zero _)
  | succ f ih =>
   intro w hf ⟨l, h⟩ hu
   rcases hm : w.mail with _ | ⟨m, ms⟩
   ·rw [mq hm]; exact ⟨hu, hm⟩
   ·have hne : w.mail ≠ [] := by rw [hm]; exact List.cons_ne_nil _ _
    by_cases h7 : (aw w (hapOf 7 0 0)).1 = 0
    ·obtain ⟨w1, l1, e1, hp, hc1⟩ := D_hap h h7
     rw [mU hne e1]
     have hl := hJ (x := hapOf 7 0 0) e1 (.inl rfl) rfl
     exact ih w1 (by simp only at hl; omega) ⟨l1, hc1⟩ ((up_of hp (.inl rfl)).trans hu)
    ·have e7 : ah ⟨7, 0, 0, 0, 0, 0, []⟩ w = (false, w) := D_not ((cj w).2 ⟨l, h.is⟩) h7
     obtain ⟨w1, l1, e1, hp, hc1⟩ := D_hap h (rG h.is hm)
     have e9 : ah ⟨9, 0, 0, 0, 0, 0, []⟩ w = (true, w1) := e1
     have hl := hJ (x := hapOf 9 0 0) e1 (.inr rfl) rfl
     have hd : decide ((w.mail.length : Int) > 0) = true := by rw [hm]; simp
     rw [au, hd, cond_true, e7]
     simp only [cond_false, e9, Bool.true_and, Bool.false_or, cond_true]
     exact ih w1 (by simp only at hl; omega) ⟨l1, hc1⟩ ((up_of hp (.inr rfl)).trans hu)
 exact key _ w (Nat.lt_succ_self _) hw hu
theorem vk (l : List Happening) : bi l = true := by
 unfold bi
 have hpl : (aQ l bC).2 = true := rz (fun _ _ => True) trivial (fun _ _ _ _ _ _ _ _ => trivial) (fun _ _ _ _ => rfl) l
 obtain ⟨l0, h0⟩ : ∃ l0, Calm (aQ l bC).1 l0 := jq _ _ _ ⟨[], vZ⟩
 rw [tS, hpl, Bool.not_true, Bool.or_false, cond_false, L0_eq]
 generalize (aQ l bC).1 = w0 at *
 have hb := D_boot h0
 have h1 := D_any h0 (hapOf 11 0 0)
 have hS : ah (hapOf 11 0 0) w0 = ah ⟨11, 0, 0, 0, 0, 0, []⟩ w0 := rfl
 rw [hS] at hb h1
 generalize ah ⟨11, 0, 0, 0, 0, 0, []⟩ w0 = S2 at *
 obtain ⟨hu, hm⟩ := vH h1 hb
 obtain ⟨l1, h1⟩ := uN h1
 cases hr : (!(decide (((ac S2.2).h.version + ((0 + j4 (ac S2.2).c : Nat) : Int)) ≤ 60) && decide ((((ac S2.2).h.h.l.length : Int) + ((0 + j4 (ac S2.2).c : Nat) : Int)) ≤ 30))) with
 | true => exact rh S2 _ hr _ _ _
 | false =>
  simp only [Bool.not_eq_false', Bool.and_eq_true, decide_eq_true_eq] at hr
  have hv := h1.is.hub.2 hu
  have hlen : (ac S2.2).h.h.l.length = (opsOf l1).length := by
   obtain ⟨_, S, hS, hperm⟩ := h1.hist
   rw [(h1.is.up hu).2] at hS
   have hS : fq (ac S2.2).h.h S := hS
   rw [← hperm.length_eq, ← hS.ops]; simp
  obtain ⟨w', l', e, h2, hu2, hm2, hi2⟩ := phase1 S2 (0 + j4 (ac S2.2).c) (ac S2.2).c 0 (ac S2.2) l1 h1 hu hm rfl (by rw [h1.is.three]) (fun j hj => absurd hj (Nat.not_lt_zero _)) (by omega) (by omega)
  rw [e]
  exact phase2 S2 _ w'.c 0 w' l' h2 hu2 hm2 (by rw [h2.is.three]) hi2 (fun j hj => absurd hj (Nat.not_lt_zero _))
end Go.Proofs.YtkjccbdeaflekaaGreatDoor

namespace Go.Proofs.YtkjccbdeaflekaaGreatDoor
open Go Go.Proofs.YtkjccbdeaflekaaGreatDoor.Fw Go.Proofs Go.Proofs.YtkjccbdeaflekaaGreatDoor Go.RowKit
theorem sc : "*" ++ "errors.errorString" = "*errors.errorString" := by decide
theorem uf (u : TypeId) (h : Tryz.prog.typeName? 3 u = some "*errors.errorString") : u = 301 :=
 typeName_ptr_named (nm := "errors.errorString") (by rw [sc]; kernel_rfl) (by kernel_rfl) (by decide) u (by rw [sc]; exact h)
theorem xf {W : World} (h : laidMetH Tryz.prog Rows.storySaysRow.laid W) (hsh : W.ShapedOpen Tryz.prog) : LibP Tryz.prog (fun _ => False) W := by
 rw [MakeChecks.laidMetH_plain _ _ _ (by kernel_rfl)] at h
 have e1 : (Rows.laid_internal_strconv_uint64pow10 : DataW Unit) = Lib.tabData .u64 Lib.pow10Tab := by kernel_rfl
 have h2 : laidMet Tryz.prog [("internal/strconv.uint64pow10", Rows.laid_internal_strconv_uint64pow10), ("unicode/utf8.acceptRanges", Rows.laid_unicode_utf8_acceptRanges), ("strconv.ErrRange", Rows.laid_strconv_ErrRange), ("strconv.ErrSyntax", Rows.laid_strconv_ErrSyntax), ("unicode/utf8.first", Rows.laid_unicode_utf8_first)] W := (laidMet.tail (laidMet.tail h))
 have h4 := laidMet.tail (laidMet.tail h2)
 have h5 := laidMet.tail h4
 rw [e1] at h2
 refine xe ⟨?_, ?_, ?_, ?_⟩
 ·obtain ⟨m, hm⟩ := cell_of_shapedOpen_int (g := 0) (zero := #[.int .i64 0]) (t := 3) hsh (of_decide_eq_true (by kernel_rfl)) (by kernel_rfl) rfl (by kernel_rfl) (by kernel_rfl) Tryz.underlying3
  exact ⟨0, m, by kernel_rfl, hm⟩
 ·exact Lib.tabIs_of_head (g := 3) (by kernel_rfl) (by kernel_rfl) Tryz.underlying291 Tryz.underlying266 (by kernel_rfl) (by kernel_rfl) h2
 ·obtain ⟨a, s, hv, _⟩ := laid_sentinel h5 (g := 1) (ti := 215) (tp := 301) (te := 303) (ts := 9) (by kernel_rfl) (by kernel_rfl) ro uf Tryz.underlying301 Tryz.underlying303 rfl rfl und_9 (by kernel_rfl) (by kernel_rfl)
  exact ⟨_, _, hv⟩
 ·obtain ⟨a, s, hv, _⟩ := laid_sentinel h4 (g := 2) (ti := 215) (tp := 301) (te := 303) (ts := 9) (by kernel_rfl) (by kernel_rfl) ro uf Tryz.underlying301 Tryz.underlying303 rfl rfl und_9 (by kernel_rfl) (by kernel_rfl)
  exact ⟨_, _, hv⟩
section
variable {H : Type} {enc : TypeId × Value → H}
theorem wrapped {a : Assume} {C : Checked} {os : Os} {f : FuncId} {fn : Func} {s : ChangeSpec} {conds : List PathCond} {apart fresh handsOn again : Bool} {laid : List (String × DataW Unit)}
  (own : ownKnob C.prog.godebug = none) (started : os.Started) (noInit : C.prog.inits.idxOf? f = none) (hfn : C.prog.funcs[f]? = some fn)
  (witness : ∃ (w : World) (tape : Tape) (i : Input), w.os = os ∧ (w.forCall tape i).Shaped C.prog ∧ i.vars = [] ∧ Input.okWide C.prog (w.forCall tape i) .any w.heap.size f i ∧
   ((s.pre enc C.prog fn conds apart (w.forCall tape i).memory i.args ∧ laidMetH C.prog laid (w.forCall tape i).memory) ∧ sizedMet enc C.prog fn (OpenSpec.ofChange s) apart (w.forCall tape i).memory i.args) ∧ a.holds C.prog (lone (Frame.enter C.prog f i.args .normal) [] (w.forCall tape i)))
  (contract : ∀ (W : World) (base : Nat) (args : Array Value) (ds gs : List (DataW H)) (before : List MemPlace),
   (∀ (j : Nat) t v, fn.params[j]? = some t → args[j]? = some v → Value.okWide C.prog W .any base t v) →
   DataW.Whole enc C.prog fn.params.toList s.vars apart W args.toList ds gs before →
   conds.all (PathCond.test C.prog ⟨fn.params.toList, ds, s.plain.varTypes C.prog, gs⟩) = true →
   (DataW.weightsEach C.prog (fn.params.toList ++ s.plain.varTypes C.prog) (ds ++ gs)).all (· ≤ reachBytes) = true → laidMetH C.prog laid W → W.ShapedOpen C.prog →
   Calls C.prog f args W fun e W' => ∃ v, e = .returned v ∧ s.post enc C.prog fn apart fresh handsOn again W args v W') :
  ReturnsInHanded a C os f .any (fun w args => (s.pre enc C.prog fn conds apart w args ∧ laidMetH C.prog laid w) ∧ sizedMet enc C.prog fn (OpenSpec.ofChange s) apart w args) (s.post enc C.prog fn apart fresh handsOn again) := by
 refine returnsInHanded_of_calls own started noInit witness ?_
 intro w tape i _ hsh _ hok hpre hholds
 obtain ⟨_, _, _, fn', hfn', _, _, _, _, hval⟩ := hok
 have e : fn' = fn := Option.some.inj (hfn'.symm.trans hfn)
 subst e
 obtain ⟨⟨⟨ds, gs, before, hw, hc⟩, hx⟩, hz⟩ := hpre
 have hw' := DataW.Whole.of_heap (w' := w.forCall tape i) (by rfl) hw
 refine (contract (w.forCall tape i) w.heap.size i.args ds gs before hval hw' hc (hz.weights hw) (hx.of_heap (by rfl)) hsh).mono fun e W' ⟨v, he, hp⟩ => ?_
 subst he
 exact ChangeSpec.post_blind hp
end
end Go.Proofs.YtkjccbdeaflekaaGreatDoor

namespace Go.Proofs.YtkjccbdeaflekaaGreatDoor
open Go Go.Proofs.YtkjccbdeaflekaaGreatDoor.Fw Go.Proofs
theorem lp : Opens Tryz.prog 3 (fun (a : Int) (s : Unit) => [.int .i64 a]) (fun (a : Int) (s : Unit) => []) :=
 uu Tryz.underlying3
theorem lU : Tryz.prog.cellsOf 3 = 1 := by kernel_rfl
theorem xn : Tryz.prog.bytesOf 3 = 8 := by kernel_rfl
theorem ut : Opens Tryz.prog 46 (fun (a : List Int) (s : SlV) => [s.val a.length]) (fun (a : List Int) (s : SlV) => [RdL EInt s a]) :=
 oP EInt (fun _ => rfl) rfl Tryz.underlying46 Tryz.underlying3 lU xn
theorem vM : Tryz.prog.cellsOf 46 = 1 := by kernel_rfl
theorem sO : Tryz.prog.cellsOf 48 = 7 := by kernel_rfl
theorem vO : Tryz.prog.bytesOf 48 = 72 := by kernel_rfl
theorem ur : Opens Tryz.prog 48 (fun (a : Happening) (s : SlV) => [.int .i64 a.kind, .int .i64 a.who, .int .i64 a.n, .int .i64 a.node, .int .i64 a.parent, .int .i64 a.name, s.val a.roots.length]) (fun (a : Happening) (s : SlV) => [RdL EInt s a.roots]) :=
 (qG Tryz.underlying48 sO (gb lp rfl rfl lU (gb lp rfl rfl lU (gb lp rfl rfl lU (gb lp rfl rfl lU (gb lp rfl rfl lU (gb lp rfl rfl lU (gb ut rfl rfl vM tr)))))))).map (fun (a : Happening) (s : SlV) => [.int .i64 a.kind, .int .i64 a.who, .int .i64 a.n, .int .i64 a.node, .int .i64 a.parent, .int .i64 a.name, s.val a.roots.length]) (fun (a : Happening) (s : SlV) => [RdL EInt s a.roots]) (fun a => (⟨a.1, a.2.1, a.2.2.1, a.2.2.2.1, a.2.2.2.2.1, a.2.2.2.2.2.1, a.2.2.2.2.2.2.1⟩ : Happening)) (fun s => s.2.2.2.2.2.2.1) (fun _ _ => rfl) (fun _ _ => rfl)
theorem opens_t38 : Opens Tryz.prog 38 (fun (a : List Happening) (s : SlV) => [s.val a.length]) (fun (a : List Happening) (s : SlV) => [RdN NHap s a]) :=
 qH NHap Tryz.underlying38 ur sO rfl vO
end Go.Proofs.YtkjccbdeaflekaaGreatDoor
