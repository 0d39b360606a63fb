/- Part of this claim. No condition. -/
import Derived.Test.YtkjccbdeaflekaaGreatDoorK7
import Derived.Test.YtkjccbdeaflekaaGreatDoorK5
import Derived.Test.YtkjccbdeaflekaaGreatDoorK4
import Derived.Test.YtkjccbdeaflekaaGreatDoorK3
import Derived.Test.YtkjccbdeaflekaaGreatDoorK2
set_option linter.unusedVariables false
set_option linter.unusedSimpArgs false
namespace Go.Proofs.YtkjccbdeaflekaaGreatDoor
open Go Go.Proofs.YtkjccbdeaflekaaGreatDoor.Fw Go.Proofs
theorem IsCli.ops {c : Client} {me : Int} (h : IsCli c me) : ∀ o ∈ c.pending, chkO o = 0 := fun o ho => by
 obtain ⟨i, hi, rfl⟩ := List.getElem_of_mem ho
 have := (h.pend i hi).ok
 rwa [gt_eq hi] at this
def fC (c : Client) (o : Op) : Client := ⟨c.life, o.time, o.seq, c.pending ++ [o], c.version, c.v⟩
theorem lA {c : Client} {me node parent name : Int} (h : (cd c me node parent name).2.2 = 0) : IsCli c me ∧ c.life ≠ 0 ∧ c.pending.length ≠ 8 ∧ c.time ≠ 10000 ∧ c.seq ≠ 30 ∧ chkO ⟨c.time + 1, me, node, parent, name, c.life, c.seq + 1⟩ = 0 ∧
  cd c me node parent name = (fC c ⟨c.time + 1, me, node, parent, name, c.life, c.seq + 1⟩, ⟨c.time + 1, me, node, parent, name, c.life, c.seq + 1⟩, 0) := by
 unfold cd at h ⊢
 cases h1 : (bm c me != 0) with
 | true => rw [h1, cond_true] at h; simp only at h; rw [h] at h1; cases h1
 | false =>
 rw [h1, cond_false] at h
 cases h2 : (c.life == 0) with
 | true => rw [h2, cond_true] at h; cases h
 | false =>
 rw [h2, cond_false] at h
 cases h3 : ((((c.pending.length : Int) == 8) || (c.time == 10000)) || (c.seq == 30)) with
 | true => rw [h3, cond_true] at h; cases h
 | false =>
 rw [h3, cond_false] at h
 cases h4 : (co (⟨(c.time + 1), me, node, parent, name, c.life, (c.seq + 1)⟩ : Op) != 0) with
 | true => rw [h4, cond_true] at h; simp only at h; rw [h] at h4; cases h4
 | false =>
 simp only [Bool.or_eq_false_iff, beq_eq_false_iff_ne] at h2 h3
 exact ⟨(bA _ _).1 (ai h1), h2, by omega, h3.1.2, h3.2, ai h4, rfl⟩
theorem mP {l : List Op} {o : Op} {i : Nat} (h : i < l.length) : gt (l ++ [o]) i = gt l i := by
 simp [gt, List.getD_eq_getElem?_getD, List.getElem?_append_left h]
theorem qJ {c : Client} {me node parent name : Int} (h : IsCli c me) (h1 : c.life ≠ 0) (h2 : c.pending.length ≠ 8) (h3 : c.time ≠ 10000) (h4 : c.seq ≠ 30) (ho : chkO ⟨c.time + 1, me, node, parent, name, c.life, c.seq + 1⟩ = 0) : IsCli (fC c ⟨c.time + 1, me, node, parent, name, c.life, c.seq + 1⟩) me := by
 have hr := h.rng
 have hf := h.few
 have hp := h.pseq
 have hlen : (fC c ⟨c.time + 1, me, node, parent, name, c.life, c.seq + 1⟩).pending.length = c.pending.length + 1 := by simp [fC]
 refine ⟨h.num, by simp only [fC]; omega, by omega, h.view, fun hl => absurd hl h1, h.vers, by rw [hlen]; simp only [fC]; omega, fun i hi => ?_⟩
 rw [hlen] at hi
 rcases Nat.lt_or_ge i c.pending.length with hlt | hge
 ·have hq := h.pend i hlt
  have hg : gt (fC c ⟨c.time + 1, me, node, parent, name, c.life, c.seq + 1⟩).pending i = gt c.pending i := mP hlt
  have hs := hq.seq
  have ht := hq.time
  refine ⟨by rw [hg]; exact hq.ok, by rw [hg]; exact hq.who, by rw [hg]; exact hq.life, ?_, ?_, fun h0 => ?_⟩
  ·rw [hg, hs, hlen]; simp only [fC]; omega
  ·rw [hg]; simp only [fC]; omega
  ·rw [hg, show gt (fC c ⟨c.time + 1, me, node, parent, name, c.life, c.seq + 1⟩).pending (i - 1) = gt c.pending (i - 1) from mP (by omega)]
   exact hq.up h0
 ·have hi' : i = c.pending.length := by omega
  have hg : gt (fC c ⟨c.time + 1, me, node, parent, name, c.life, c.seq + 1⟩).pending i = ⟨c.time + 1, me, node, parent, name, c.life, c.seq + 1⟩ := jI _ _ [] _ hi'
  refine ⟨by rw [hg]; exact ho, by rw [hg], by rw [hg]; rfl, ?_, ?_, fun h0 => ?_⟩
  ·rw [hg, hlen]; simp only [fC]; omega
  ·rw [hg]; simp only [fC]; omega
  ·rw [hg, show gt (fC c ⟨c.time + 1, me, node, parent, name, c.life, c.seq + 1⟩).pending (i - 1) = gt c.pending (i - 1) from mP (by omega)]
   have := (h.pend (i - 1) (by omega)).time
   show _ < c.time + 1
   omega
theorem oV (a b : Delta) : jM a b = true ↔ a = b := by
 obtain ⟨a1, a2, a3, a4⟩ := a; obtain ⟨b1, b2, b3, b4⟩ := b
 simp [jM, and_assoc]
theorem m0 (a b : Mail) : fF a b = true ↔ a = b := by
 obtain ⟨a1, a2, a3, a4, a5, a6, a7, a8, a9, a10⟩ := a
 obtain ⟨b1, b2, b3, b4, b5, b6, b7, b8, b9, b10⟩ := b
 simp only [fF, Bool.and_eq_true, beq_iff_eq, decide_eq_true_eq, p6, oV, Mail.mk.injEq, and_assoc]
theorem f3 {α : Type} [Inhabited α] {l : List α} {i : Nat} (h : i < l.length) (a : α) (j : Nat) : gt (l.set i a) j = if j = i then a else gt l j := by
  by_cases hj : j = i
  · subst hj; simp [gt, List.getD_eq_getElem?_getD, h]
  · rw [if_neg hj]; simp [gt, List.getD_eq_getElem?_getD, List.getElem?_set_ne (Ne.symm hj)]
theorem iA {h : Hub} {r : Rec} (h0 : (aB h r).2 = 0) :
    ((r.kind = 1 ∧ (gt h.peers r.o.who.toNat).life = r.o.life ∧ (gt h.peers r.o.who.toNat).seq + 1 = r.o.seq ∧ (aZ h.h r.o).2 = 0 ∧ (aB h r).1 = ⟨(aZ h.h r.o).1, h.version + 1, h.peers.set r.o.who.toNat ⟨(gt h.peers r.o.who.toNat).life, r.o.seq, (gt h.peers r.o.who.toNat).roots⟩⟩) ∨
     (r.kind = 2 ∧ r.life = (gt h.peers r.who.toNat).life + 1 ∧ (aB h r).1 = ⟨h.h, h.version + 1, h.peers.set r.who.toNat ⟨r.life, 0, []⟩⟩) ∨
     (r.kind = 3 ∧ (aB h r).1 = ⟨h.h, h.version + 1, h.peers.set r.who.toNat ⟨(gt h.peers r.who.toNat).life, (gt h.peers r.who.toNat).seq, r.roots⟩⟩)) := by
  have hn := lq h0
  have hw := nx hn
  unfold aB at h0 ⊢
  have e1 : (aH r != 0) = false := by rw [hn]; rfl
  rw [e1, cond_false] at h0
  rw [e1, cond_false]
  cases h2 : (h.version == 60) with
  | true => rw [h2, cond_true] at h0; cases h0
  | false =>
  rw [h2, cond_false] at h0
  rw [cond_false]
  cases h3 : (r.kind == 1) with
  | true =>
    left
    rw [h3, cond_true] at h0
    rw [cond_true]
    cases h4 : ((ck ⟨h.h, h.version + 1, h.peers⟩ r.o).1 != 0) with
    | true => rw [h4, cond_true] at h0; simp only at h0; rw [h0] at h4; cases h4
    | false =>
      rw [cond_false]
      have h5 := ai h4
      unfold ck at h5 ⊢
      cases h6 : (((gt h.peers r.o.who.toNat).life != r.o.life) || ((gt h.peers r.o.who.toNat).seq + 1 != r.o.seq)) with
      | true => rw [h6, cond_true] at h5; cases h5
      | false =>
        rw [h6, cond_false] at h5
        rw [cond_false]
        cases h7 : ((aZ h.h r.o).2 == 0) with
        | false => rw [h7, cond_false] at h5; simp only at h5; rw [h5] at h7; cases h7
        | true =>
          simp only [Bool.or_eq_false_iff, bne_eq_false_iff_eq] at h6
          exact ⟨eq_of_beq h3, h6.1, h6.2, eq_of_beq h7, rfl⟩
  | false =>
  right
  rw [h3, cond_false] at h0
  rw [cond_false]
  cases h4 : (r.kind == 2) with
  | true =>
    left
    rw [h4, cond_true] at h0
    rw [cond_true]
    cases h5 : (r.life != (gt h.peers r.who.toNat).life + 1) with
    | true => rw [h5, cond_true] at h0; cases h0
    | false => exact ⟨eq_of_beq h4, ai h5, rfl⟩
  | false =>
  right
  rw [h4, cond_false] at h0
  rw [cond_false]
  have h3 := beq_eq_false_iff_ne.1 h3
  have h4 := beq_eq_false_iff_ne.1 h4
  have hk : r.kind = 3 := by omega
  have h5 : (r.kind == 3) = true := by rw [hk]; rfl
  rw [h5, cond_true] at h0
  rw [h5, cond_true]
  cases h6 : ((gt h.peers r.who.toNat).life == 0) with
  | true => rw [h6, cond_true] at h0; cases h0
  | false => exact ⟨hk, rfl⟩
theorem vX {h : History} {S : List Op} (hh : fq h S) {o : Op} (ho : chkO o = 0) (h0 : (aZ h o).2 = 0) : fq (aZ h o).1 (eE (S ++ [o])) ∧ (eE (S ++ [o])).Perm (S ++ [o]) := by
  rw [vb hh] at h0 ⊢
  have e1 : (chkO o != 0) = false := by rw [ho]; rfl
  rw [e1, cond_false] at h0
  rw [e1, cond_false]
  cases h2 : S.any (fun q => decide (stamp q = stamp o)) with
  | true => rw [h2, cond_true] at h0; cases h0
  | false =>
  rw [h2, cond_false] at h0
  rw [cond_false]
  cases h3 : S.length == 30 with
  | true => rw [h3, cond_true] at h0; cases h0
  | false =>
    rw [cond_false]
    have h3 : S.length ≠ 30 := by simpa using h3
    have hl := hh.len
    have hl2 : (S ++ [o]).length ≤ 30 := by simp only [List.length_append, List.length_cons, List.length_nil]; omega
    refine ⟨fq.run (by rw [(dz hl2).length_eq]; exact hl2) (jv hl2 fun q hq => ?_) (ql hl2 (qZ hh.rise.dist (ux h2))), dz hl2⟩
    rcases List.mem_append.1 hq with hq | hq
    · exact hh.ok q hq
    · rw [List.mem_singleton] at hq; rw [hq]; exact ho
theorem xa {r : Rec} (hn : aH r = 0) (hk : r.kind = 1) : chkO r.o = 0 := by
  unfold aH at hn
  have e : (r.kind == 1) = true := by rw [hk]; rfl
  have e2 : (decide (r.kind < 1) || decide (r.kind > 3)) = false := by rw [hk]; rfl
  rw [e2, e, cond_false, cond_true] at hn
  cases h6 : (((r.who != 0) || (r.life != 0)) || decide ((r.roots.length : Int) > 0)) with
  | true => rw [h6, cond_true] at hn; cases hn
  | false => rw [h6, cond_false, dI] at hn; exact hn
def dropN (t : List Place) (n : Int) : List Place := putT t ⟨n, -1, 0⟩
theorem oZ : ∀ (m l : List Place), d4 m l = m.foldl putT l
 | [], _ => rfl
 | p :: r, l => by rw [d4, iH, oZ r]; rfl
theorem o0 (here : List Place) : ∀ (g : List Int) (l : List Place), d5 here g l = here.foldl putT (g.foldl dropN l)
 | [], l => oZ _ _
 | n :: r, l => by rw [d5, iH, o0 here r]; rfl
theorem wM (l : List Place) (g : List Int) (h : List Place) : bu l g h = h.foldl putT (g.foldl dropN l) := o0 h g l
theorem Rising.drops : ∀ (g : List Int) {l : List Place}, Rising l → (∀ n ∈ g, 1 ≤ n ∧ n < 16) → Rising (g.foldl dropN l)
 | [], _, h, _ => h
 | n :: r, _, h, hg => Rising.drops r (h.put (p := ⟨n, -1, 0⟩) (hg n (.head _))) fun m hm => hg m (.tail _ hm)
theorem pj (m : Int) : ∀ (g : List Int) (l : List Place), find (g.foldl dropN l) m = bif decide (m ∈ g) then ⟨0, 0, 0⟩ else find l m
 | [], l => by simp
 | n :: r, l => by
  rw [List.foldl_cons, pj m r]
  unfold dropN
  rw [e8]
  by_cases h1 : m = n
  ·subst h1; simp
  ·have : (m == n) = false := by simpa using h1
   simp [h1, this]
theorem k7 (a : List Place) (gone : List Int) : ∀ (l here : List Place), dg a gone l here = (gone, here ++ l.filter (fun p => !decide (cm a p.node = p)))
 | [], here => by simp [dg]
 | p :: r, here => by
  rw [dg, k7 a gone r, k7 a gone r, List.filter_cons]
  cases h : (!decide (cm a p.node = p)) <;> simp
theorem k8 (a b : List Place) : ∀ (l : List Place) (gone : List Int), dh a b l gone = (gone ++ (l.filter (fun p => (cm b p.node).node == 0)).map Place.node, b.filter (fun p => !decide (cm a p.node = p)))
 | [], gone => by rw [dh, k7]; simp
 | p :: r, gone => by
  rw [dh, k8 a b r, k8 a b r, List.filter_cons]
  cases h : ((cm b p.node).node == 0) <;> simp
def jJ (a b : List Place) : List Int := (a.filter (fun p => (find b p.node).node == 0)).map Place.node
def lK (a b : List Place) : List Place := b.filter (fun p => !decide (find a p.node = p))
theorem q8 (a b : List Place) : bZ a b = (jJ a b, lK a b) := by
 unfold bZ jJ lK
 rw [k8]
 simp only [gR, List.nil_append]
theorem pN {a b : List Place} (ha : Rising a) {n : Int} : n ∈ jJ a b ↔ (find a n).node ≠ 0 ∧ (find b n).node = 0 := by
 unfold jJ
 rw [List.mem_map]
 constructor
 ·rintro ⟨p, h1, rfl⟩
  obtain ⟨h2, h3⟩ := List.mem_filter.1 h1
  rw [lw ha.up p h2]
  have := ha.rng p h2
  exact ⟨by omega, by simpa using h3⟩
 ·rintro ⟨h1, h2⟩
  obtain ⟨h3, h4⟩ := jK h1
  exact ⟨_, List.mem_filter.2 ⟨h4, by rw [h3]; simpa using h2⟩, h3⟩
theorem uM {a b : List Place} (ha : Rising a) (hb : Rising b) (n : Int) : find (lK a b) n = bif ((find b n).node != 0 && !decide (find a n = find b n)) then find b n else ⟨0, 0, 0⟩ := by
 unfold lK
 rw [gf _ n hb]
 cases h : ((find b n).node != 0) with
 | false => rfl
 | true =>
  have := (jK (by simpa using h)).1
  rw [this]
theorem rI {a b : List Place} (ha : gF a) (hb : gF b) : Half (jJ a b) (lK a b) := by
 have hla := ly ((el _).2 ha)
 have hlb := ly ((el _).2 hb)
 refine ⟨?_, ?_, fun n hn => ?_, ?_, fun p hp => hb.ok p (List.mem_filter.1 hp).1, fun p hp hg => ?_, hb.up.filter _⟩
 ·unfold jJ
  rw [List.length_map]
  have := List.length_filter_le (fun p : Place => (find b p.node).node == 0) a
  omega
 ·unfold lK
  have := List.length_filter_le (fun p : Place => !decide (find a p.node = p)) b
  omega
 ·unfold jJ at hn
  obtain ⟨p, hp, rfl⟩ := List.mem_map.1 hn
  exact ha.rising.rng p (List.mem_filter.1 hp).1
 ·unfold jJ
  exact List.pairwise_map.2 (ha.up.filter _)
 ·have h1 := (pN ha.rising).1 hg
  have h2 := lw hb.up p (List.mem_filter.1 hp).1
  have h3 := hb.rising.rng p (List.mem_filter.1 hp).1
  rw [h2] at h1
  omega
theorem nP {a b : List Place} (ha : gF a) (hb : gF b) : bu a (jJ a b) (lK a b) = b := by
 have hh := rI ha hb
 have hr : Rising (lK a b) := hb.rising.filter _
 rw [wM]
 refine Rising.ext (Rising.puts _ (Rising.drops _ ha.rising hh.rng) hr.rng) hb.rising fun n h1 h2 => ?_
 rw [om h1 hr, pj, uM ha.rising hb.rising]
 cases hz : ((find b n).node != 0) with
 | false =>
  have hz' : (find b n).node = 0 := ai hz
  have hn := hb.rising.none hz'
  simp only [Bool.false_and, cond_false]
  rw [hn]
  by_cases hg : n ∈ jJ a b
  ·simp [hg]
  ·simp only [hg, decide_false, cond_false]
   have : ¬ (find a n).node ≠ 0 := fun h => hg ((pN ha.rising).2 ⟨h, hz'⟩)
   have := ha.rising.none (by simpa using this)
   rw [this]; rfl
 | true =>
  have hz' : (find b n).node ≠ 0 := by simpa using hz
  by_cases he : find a n = find b n
  ·have hg : n ∉ jJ a b := fun h => hz' ((pN ha.rising).1 h).2
   simp [he, hg]
  ·simp only [he, decide_false, Bool.not_false, Bool.and_self, cond_true, hz]
def iW (v w : View) : Delta := ⟨jJ v.known w.known, lK v.known w.known, jJ v.way w.way, lK v.way w.way⟩
theorem ou (v w : View) : du v w = bif bz v != 0 then (⟨[], [], [], []⟩, bz v) else bif bz w != 0 then (⟨[], [], [], []⟩, bz w) else bif !(decide (v.roots = w.roots)) then (⟨[], [], [], []⟩, 4) else (iW v w, 0) := by
 unfold du fM gD gC iW
 rw [q8, q8]
theorem rL {v w : View} (hv : jj v) (hw : jj w) (hr : v.roots = w.roots) : du v w = (iW v w, 0) := by
 rw [ou, (cy v).2 hv, (cy w).2 hw]
 simp [hr]
theorem oU {v w : View} (hv : jj v) (hw : jj w) : bG (iW v w) = 0 :=
 (k5 _).2 ⟨rI hv.known hw.known, rI hv.way hw.way⟩
theorem oX {v w : View} (hv : jj v) (hw : jj w) (hr : v.roots = w.roots) : bv v (iW v w) = (w, 0) := by
 have h1 : (⟨v.roots, bu v.known (iW v w).gone (iW v w).here, bu v.way (iW v w).wayGone (iW v w).wayHere⟩ : View) = w := by
  simp only [iW]
  rw [nP hv.known hw.known, nP hv.way hw.way, hr]
 unfold bv
 rw [h1, (cy v).2 hv, (cy w).2 hw, oU hv hw]
 rfl
theorem qh {l : List Mail} {k : Int} {t : Bool} (h1 : bJ l = 0) (h2 : 0 ≤ k) (h3 : k < (l.length : Int)) : az l k t = (bif t then l else l.take k.toNat ++ l.drop (k.toNat + 1), gt l k.toNat, 0) := by
 unfold az
 have e1 : (bJ l != 0) = false := by rw [h1]; rfl
 have e2 : (decide (k < 0) || decide (k ≥ (l.length : Int))) = false := by simp only [Bool.or_eq_false_iff, decide_eq_false_iff_not]; omega
 have e3 : (k + 1).toNat = k.toNat + 1 := by omega
 have e4 : gt ((l.drop k.toNat).take (k.toNat + 1 - k.toNat)) 0 = gt l k.toNat := by
  rw [bd (show k.toNat < l.length by omega), show k.toNat + 1 - k.toNat = 1 by omega]; rfl
 rw [e1, e2, e3, e4]
 cases t <;> rfl
end Go.Proofs.YtkjccbdeaflekaaGreatDoor

namespace Go.Proofs.YtkjccbdeaflekaaGreatDoor.Fw
open Go Go.RowKit Go.ChangeShapes Go.WideShapes Go.Deep
section
variable {P : Program} {H : Type}
theorem lD {e : TypeId} : ∀ {ds : List (DataW H)} {d : DataW H}, d ∈ ds → ∀ {n : Nat}, n ∈ d.weights P e → n ∈ DataW.weightsAll P e ds
 | a :: r, d, h, n, hn => by
  rw [DataW.weightsAll, List.mem_append]
  rcases List.mem_cons.1 h with rfl | h
  ·exact .inl hn
  ·exact .inr (lD h hn)
theorem qH {α : Type} [Inhabited α] (EN : En α) {t e : TypeId} (ht : P.underlying t = some (.slice e)) (hO : Opens P e (fun (a : α) (g : EN.G) => EN.E.enc (g, a)) (fun a g => EN.facts (g, a))) (hc : P.cellsOf e = EN.E.esz) (hpos : Nat.blt 0 EN.E.esz = true) (hby : P.bytesOf e = EN.E.by_) :
  Opens P t (fun (l : List α) (X : SlV) => [X.val l.length]) (fun l X => [RdN EN X l]) := .mk fun {H} enc w fuel cs x hx hsz => by
 have hpos := Nat.le_of_ble_eq_true hpos
 rcases open_slice ht hx with ⟨rfl, _⟩ | ⟨a, len, cap, m, n, D, Pl, rfl, _, hlc, hcm, hm, hx, hi⟩
 ·exact ⟨[], ⟨none, 0⟩, rfl, fun F hF => by rw [List.mem_singleton] at hF; subst hF; exact RdN.nil EN _ _⟩
 ·simp only [if_true] at hm
  subst hx
  rw [List.all_eq_true] at hsz
  have hrow : ∀ i, i < len → ∃ p : EN.G × α, (∀ (j : Nat) (v : Value), (EN.E.enc p)[j]? = some v → w.cell? (a.add (i * EN.E.esz + j)) = some v) ∧ ∀ F ∈ EN.facts p, F (fun _ => False) w := by
   intro i hil
   obtain ⟨cs', hcs, htr⟩ := hi i (by omega)
   have hw : ((D i).weights P e).all (· ≤ reachBytes) = true := by
    rw [List.all_eq_true]
    intro k hk
    refine hsz k ?_
    simp only [DataW.weights, ht, List.mem_cons, List.mem_append]
    exact .inr (.inl (lD (List.mem_map.2 ⟨i, List.mem_range.2 hil, rfl⟩) hk))
   obtain ⟨a0, g0, rfl, hf⟩ := hO.op enc w n cs' (D i, Pl i) htr hw
   obtain ⟨_, hl, hat⟩ := World.cells?_some hcs
   refine ⟨(g0, a0), fun j v hv => ?_, hf⟩
   obtain ⟨hlt, _⟩ := List.getElem?_eq_some_iff.1 hv
   have := hat j (by omega)
   rw [hc, gk] at this
   rw [this, hv]
  obtain ⟨hs, hl, hp⟩ := ox hrow
  have hbound : hs.length * EN.E.by_ ≤ 140737488355328 := by
   have := hsz ((len + (m - len)) * EN.E.by_) (by simp [DataW.weights, ht, hby])
   have h2 : hs.length * EN.E.by_ ≤ (len + (m - len)) * EN.E.by_ := Nat.mul_le_mul_right _ (by omega)
   have h3 : reachBytes ≤ 140737488355328 := by decide
   simp at this
   omega
  have hrd : RdL EN.E ⟨some a, cap⟩ hs (fun _ => False) w := ⟨by rw [hl]; exact hlc, by simpa [maxLen] using hcm, hbound, fun hpl => ⟨a, rfl, by
   have h0 := (hp 0 hpl).1
   have hle : (EN.E.enc hs[0]).length = EN.E.esz := EN.E.len _
   have hcell := h0 0 _ (List.getElem?_eq_getElem (by omega))
   unfold World.cell? at hcell
   rw [jO] at hcell
   cases hh : w.heap[a.block]? with
   | none => simp [hh] at hcell
   | some ob => exact ig hh, fun h => h, fun i hi j v hv => (hp i hi).1 j v hv⟩⟩
  refine ⟨hs.map (·.2), ⟨some a, cap⟩, by rw [List.length_map, hl]; rfl, fun F hF => ?_⟩
  rw [List.mem_singleton] at hF
  subst hF
  exact RdN.of EN rfl hrd fun p hp' => by
   obtain ⟨i, hi', rfl⟩ := List.getElem_of_mem hp'
   exact (hp i hi').2
end
end Go.Proofs.YtkjccbdeaflekaaGreatDoor.Fw
