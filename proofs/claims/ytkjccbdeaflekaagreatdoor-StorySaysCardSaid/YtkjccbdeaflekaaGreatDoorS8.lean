/- Part of this claim. No condition. -/
import Derived.Test.YtkjccbdeaflekaaGreatDoorS7
import Derived.Test.YtkjccbdeaflekaaGreatDoorS4
import Derived.Test.YtkjccbdeaflekaaGreatDoorS3
import Derived.Test.YtkjccbdeaflekaaGreatDoorS5
set_option linter.unusedVariables false
set_option linter.unusedSimpArgs false
set_option maxHeartbeats 2000000
namespace Go.Proofs.YtkjccbdeaflekaaGreatDoor
open Go Go.Proofs.YtkjccbdeaflekaaGreatDoor.Fw Go.Proofs
attribute [local irreducible] RdL RdN VarP RW CW
def bL (r1 : Rec) : Int :=
 (bif (r1.kind == 1) then (bif (((r1.who != 0) || (r1.life != 0)) || ((r1.roots.length : Int) != 0)) then 4 else (aJ r1.o)) else (bif (r1.kind == 2) then (bif ((!(decide (r1.o = (⟨0, 0, 0, 0, 0, 0, 0⟩ : Op)))) || ((r1.roots.length : Int) != 0)) then 4 else (bif ((!(ap r1.who 0 2)) || (!(ap r1.life 1 50))) then 3 else 0)) else (bif (r1.kind == 3) then (bif ((!(decide (r1.o = (⟨0, 0, 0, 0, 0, 0, 0⟩ : Op)))) || (r1.life != 0)) then 4 else (bif (!(ap r1.who 0 2)) then 3 else (bs r1.roots))) else 4)))
theorem eR (y1 : SlV) (r1 : Rec) : Does Tryz.prog 49 [.agg ⟨cR y1 r1⟩] [RdL EInt y1 r1.roots] (fun (_ : Unit) => .int .i64 (bL r1)) (fun _ => []) := by
 refine Dp aH Tryz.func49 Tryz.ntmps49 Tryz.results49 fun C => ?_
 refine Pc EInt y1 r1.roots 8 fun hlen1 => ?_
 refine BxT fun g1 => ?_
 have hf := Ri (bL.eq_1 r1)
 refine Ce hf (fun hc1 hc1p hf => ?_) fun hc1 hc1p hf => ?_
 ·refine Ch hf (fun hc2 hf => ?_) fun hc2 hf => ?_
  ·exact Ru
  ·refine Ck (e9 r1.o) fun _ => ?_
   exact Ru
 ·refine Ce hf (fun hc3 hc3p hf => ?_) fun hc3 hc3p hf => ?_
  ·refine Sy Tz (q_neE sk (lq r1.o (⟨0, 0, 0, 0, 0, 0, 0⟩ : Op)) rfl rfl Zf rfl Zf rfl rfl) ?_
   refine Ch hf (fun hc4 hf => ?_) fun hc4 hf => ?_
   ·exact Ru
   ·refine Ck (aP r1.who 0 2) fun _ => ?_
    refine Cy (fun hG_ => aP r1.life 1 50) ?_
    refine Ch hf (fun hc5 hf => ?_) fun hc5 hf => ?_
    ·exact Ru
    ·exact Ru
  ·refine Ce hf (fun hc6 hc6p hf => ?_) fun hc6 hc6p hf => ?_
   ·refine Sy Tz (q_neE sk (lq r1.o (⟨0, 0, 0, 0, 0, 0, 0⟩ : Op)) rfl rfl Zf rfl Zf rfl rfl) ?_
    refine Ch hf (fun hc7 hf => ?_) fun hc7 hf => ?_
    ·exact Ru
    ·refine Ck (aP r1.who 0 2) fun _ => ?_
     refine Ch hf (fun hc8 hf => ?_) fun hc8 hf => ?_
     ·exact Ru
     ·refine Ck (fA y1 r1.roots) fun _ => ?_
      exact Ru
   ·exact Ru
def fS (x1 : Peer) (y1 : Peer) : Bool :=
 (((x1.life == y1.life) && (x1.seq == y1.seq)) && (decide (x1.roots = y1.roots)))
theorem kE (y2 : SlV) (x1 : Peer) (y3 : SlV) (y1 : Peer) : Does Tryz.prog 94 [.agg ⟨cE y2 x1⟩, .agg ⟨cE y3 y1⟩] [RdL EInt y2 x1.roots, RdL EInt y3 y1.roots] (fun (_ : Unit) => .bool (fS x1 y1)) (fun _ => []) := by
 refine Dp aH Tryz.func94 Tryz.ntmps94 Tryz.results94 fun C => ?_
 refine Pc EInt y2 x1.roots 8 fun hlen1 => ?_
 refine Pc EInt y3 y1.roots 8 fun hlen2 => ?_
 refine BxT fun g1 => ?_
 refine BxT fun g2 => ?_
 refine Cy (fun hG_ => (fun y1 a y2 b => du y1 y2 a b) y2 x1.roots y3 y1.roots) ?_
 have hf := Ri (fS.eq_1 x1 y1)
 exact Ru
def es (a1 : Hub) (b1 : Hub) : Bool :=
 (((fj a1.h b1.h) && (a1.version == b1.version)) && (dF a1.peers b1.peers fS))
theorem iR (y1 : SlV) (y2 : SlV) (y3 : SlV) (a1 : Hub) (y4 : SlV) (y5 : SlV) (y6 : SlV) (b1 : Hub) : Does Tryz.prog 35 [.agg ⟨cB y1 y2 y3 a1⟩, .agg ⟨cB y4 y5 y6 b1⟩] [RdL EStep y1 a1.h.l, RdL EPlace y2 a1.h.t, RdN NPeer y3 a1.peers, RdL EStep y4 b1.h.l, RdL EPlace y5 b1.h.t, RdN NPeer y6 b1.peers] (fun (_ : Unit) => .bool (es a1 b1)) (fun _ => []) := by
 refine Dp aH Tryz.func35 Tryz.ntmps35 Tryz.results35 fun C => ?_
 refine Pc EStep y1 a1.h.l 88 fun hlen1 => ?_
 refine Pc EPlace y2 a1.h.t 24 fun hlen2 => ?_
 refine Pn NPeer y3 a1.peers 40 fun hlen3 => ?_
 refine Pc EStep y4 b1.h.l 88 fun hlen4 => ?_
 refine Pc EPlace y5 b1.h.t 24 fun hlen5 => ?_
 refine Pn NPeer y6 b1.peers 40 fun hlen6 => ?_
 refine BxT fun g1 => ?_
 refine BxT fun g2 => ?_
 refine Ck (j4 y1 y2 a1.h y4 y5 b1.h) fun _ => ?_
 refine Cy (fun hG_ => ig y3 a1.peers y6 b1.peers _ _ _ fS Kr (fun z0a_ a0_ z1a_ a1_ => kE z0a_ a0_ z1a_ a1_)) ?_
 have hf := Ri (es.eq_1 a1 b1)
 exact Ru
def bw  : Hub :=
 (⟨(⟨[], []⟩ : History), 0, [(⟨0, 0, ([] : List Int)⟩ : Peer), (⟨0, 0, ([] : List Int)⟩ : Peer), (⟨0, 0, ([] : List Int)⟩ : Peer)]⟩ : Hub)
theorem k5  : Does Tryz.prog 56 [] [] (fun (X : SlV × SlV × SlV) => .agg ⟨cB X.1 X.2.1 X.2.2 bw⟩) (fun X => [RdL EStep X.1 bw.h.l, RdL EPlace X.2.1 bw.h.t, RdN NPeer X.2.2 bw.peers]) := by
 refine Dp aH Tryz.func56 Tryz.ntmps56 Tryz.results56 fun C => ?_
 refine AlT fun g1 => ?_
 refine Tx ?_
 refine lH NPeer.E (zipG (fun _ => Z0) 0 [(⟨0, 0, ([] : List Int)⟩ : Peer), (⟨0, 0, ([] : List Int)⟩ : Peer), (⟨0, 0, ([] : List Int)⟩ : Peer)]) .sq (am rfl) rfl rfl rfl rfl rfl rfl rfl rfl rfl rfl rfl rfl rfl rfl rfl rfl rfl fun x1 x1b => ?_
 refine Fr EInt ?_
 refine dC (F := FactsG NPeer (fun _ => Z0) [(⟨0, 0, ([] : List Int)⟩ : Peer), (⟨0, 0, ([] : List Int)⟩ : Peer), (⟨0, 0, ([] : List Int)⟩ : Peer)]) [RdL EInt Z0 ([] : List Int)] Sm (fun M w h => FactsG.const NPeer (by intro a ha; simp only [List.mem_cons, List.not_mem_nil, or_false, or_self] at ha; subst ha; exact dA Sm h)) ?_
 refine Tx ?_
 refine Fc EStep ?_
 refine Fc EPlace ?_
 refine cw_le (ao NPeer.E 84 x1 x1b (zipG (fun _ => Z0) 0 [(⟨0, 0, ([] : List Int)⟩ : Peer), (⟨0, 0, ([] : List Int)⟩ : Peer), (⟨0, 0, ([] : List Int)⟩ : Peer)]) Uo) ?_
 refine Fj NPeer x1 (fun _ => Z0) [(⟨0, 0, ([] : List Int)⟩ : Peer), (⟨0, 0, ([] : List Int)⟩ : Peer), (⟨0, 0, ([] : List Int)⟩ : Peer)] ?_
 have hf := Ri bw.eq_1
 refine Rx ?_; exact Re ⟨Z0, Z0, x1⟩ Rv
end Go.Proofs.YtkjccbdeaflekaaGreatDoor

namespace Go.Proofs.YtkjccbdeaflekaaGreatDoor.Fw
open Go Go.Lib
theorem lQ {k : Nat} (h : k < 256) : (UInt8.ofNat k).toNat = k := by simp [UInt8.toNat_ofNat']; omega
theorem q9 : ∀ (u : Nat), ∀ c ∈ decDigits u, 48 ≤ c.toNat ∧ c.toNat ≤ 57 := by
 intro u
 induction u using Nat.strongRecOn with
 | _ u ih =>
  intro c hc
  rw [decDigits] at hc
  split at hc
  ·rename_i h
   simp only [List.mem_singleton] at hc
   subst hc
   rw [lQ (by omega)]; omega
  ·rename_i h
   rcases List.mem_append.1 hc with hc | hc
   ·exact ih _ (by omega) c hc
   ·simp only [List.mem_singleton] at hc
    subst hc
    rw [lQ (by omega)]; omega
theorem ya (u : Nat) : decDigits u ≠ [] := by
 rw [decDigits]; split <;> simp
theorem tV : ∀ (l : Str) (acc v : Nat) (r : Str), parseUint10 acc l = .ok v → parseUint10 acc (l ++ r) = parseUint10 v r
 | [], acc, v, r, h => by simp only [parseUint10, NumEnd.ok.injEq] at h; subst h; rfl
 | c :: l, acc, v, r, h => by
  rw [List.cons_append]
  rw [parseUint10] at h ⊢
  split at h
  ·rename_i h1
   rw [if_pos h1]
   split at h
   ·cases h
   ·rename_i h2
    rw [if_neg h2]
    split at h
    ·cases h
    ·rename_i h3
     rw [if_neg h3]
     exact tV l _ v r h
  ·cases h
theorem tU : ∀ (u : Nat), u < 18446744073709551616 → parseUint10 0 (decDigits u) = .ok u := by
 intro u
 induction u using Nat.strongRecOn with
 | _ u ih =>
  intro hu
  rw [decDigits]
  split
  ·rename_i h
   rw [parseUint10, lQ (by omega), if_pos (by omega), if_neg (by omega), if_neg (by omega), parseUint10]
   congr 1; omega
  ·rename_i h
   rw [tV _ _ _ _ (ih (u / 10) (by omega) (by omega)), parseUint10, lQ (by omega), if_pos (by omega), if_neg (by omega), if_neg (by omega), parseUint10]
   congr 1; omega
theorem ut {n : Int} (h : -9223372036854775808 ≤ n ∧ n ≤ 9223372036854775807) : atoiAll (itoa n) = .ok n := by
 unfold itoa
 split
 ·rename_i hn
  have hp := tU n.natAbs (by omega)
  have hm : parseMag (decDigits n.natAbs) = .ok n.natAbs := by rw [parseMag, if_neg (ya _)]; exact hp
  rw [atoiAll_minus, hm]
  simp only [signed]
  rw [if_neg (by omega)]
  congr 1; omega
 ·rename_i hn
  have hp := tU n.toNat (by omega)
  have hd := q9 n.toNat
  have hm : parseMag (decDigits n.toNat) = .ok n.toNat := by rw [parseMag, if_neg (ya _)]; exact hp
  cases hc : decDigits n.toNat with
  | nil => exact absurd hc (ya _)
  | cons c r =>
   have hcd := hd c (by rw [hc]; exact .head _)
   rw [hc] at hm
   rw [atoiAll_plain c r (by omega) (by omega), hm]
   simp only [signless]
   rw [if_neg (by omega)]
   congr 1; omega
theorem zw {n : Int} (h : -9223372036854775808 ≤ n ∧ n ≤ 9223372036854775807) : ate (itoa n) = false := by rw [ate, ut h]
theorem zu {n : Int} (h : -9223372036854775808 ≤ n ∧ n ≤ 9223372036854775807) : atv (itoa n) = n := by rw [atv, ut h]
theorem xS {n : Int} {c : UInt8} (h : c.toNat < 45) : c ∉ itoa n := by
 unfold itoa
 intro hc
 split at hc
 ·rcases List.mem_cons.1 hc with rfl | hc
  ·exact absurd h (by decide)
  ·have := q9 _ c hc; omega
 ·have := q9 _ c hc; omega
def glue (c : UInt8) (l : List Str) : Str := l.flatMap (fun t => c :: t)
theorem vo {c : UInt8} : ∀ (w : Str) (l : List Str), c ∉ w → (∀ t ∈ l, c ∉ t) → spl c (w ++ glue c l) = w :: l
 | w, [], hw, _ => by simp only [glue, List.flatMap_nil, List.append_nil]; exact rR hw
 | w, t :: l, hw, hl => by
  have e : w ++ glue c (t :: l) = w ++ c :: (t ++ glue c l) := by simp [glue]
  rw [e, o9 _ hw, vo t l (hl t (.head _)) (fun u hu => hl u (.tail _ hu))]
theorem vJ (c : UInt8) : ∀ (n : Nat) (s : Str), s.length ≤ n → ∃ w l, spl c s = w :: l ∧ s = w ++ glue c l
 | n, s, hn => by
  rcases at_c c s with h | ⟨p, r, h1, h2⟩
  ·exact ⟨s, [], rR h, by simp [glue]⟩
  ·cases n with
   | zero => rw [h1] at hn; simp at hn
   | succ n =>
    obtain ⟨w, l, h3, h4⟩ := vJ c n r (by rw [h1] at hn; simp at hn; omega)
    refine ⟨p, w :: l, by rw [h1, o9 r h2, h3], ?_⟩
    rw [h1]
    conv => lhs; rw [h4]
    simp [glue]
end Go.Proofs.YtkjccbdeaflekaaGreatDoor.Fw

set_option maxHeartbeats 2000000
namespace Go.Proofs.YtkjccbdeaflekaaGreatDoor
open Go Go.Proofs.YtkjccbdeaflekaaGreatDoor.Fw Go.Proofs
attribute [local irreducible] RdL RdN VarP RW CW
theorem ud : ∀ {l : List Peer}, fV l = 0 → ∀ p ∈ l, (0 ≤ p.life ∧ p.life ≤ 50 ∧ 0 ≤ p.seq ∧ p.seq ≤ 30) ∧ (p.life = 0 → p.seq = 0 ∧ p.roots = []) ∧ bT p.roots = 0
 | [], _ => by simp
 | q :: l, h => by
  rw [fV] at h
  cases h1 : (((decide (q.life < 0) || decide (q.life > 50)) || decide (q.seq < 0)) || decide (q.seq > 30)) with
  | true => rw [h1, cond_true] at h; cases h
  | false =>
  rw [h1, cond_false] at h
  cases h2 : ((q.life == 0) && (decide (q.seq > 0) || decide ((q.roots.length : Int) > 0))) with
  | true => rw [h2, cond_true] at h; cases h
  | false =>
  rw [h2, cond_false] at h
  cases h3 : (bT q.roots != 0) with
  | true => rw [h3, cond_true] at h; rw [h] at h3; cases h3
  | false =>
  rw [h3, cond_false] at h
  intro p hp
  rcases List.mem_cons.1 hp with rfl | hp
  ·simp only [Bool.or_eq_false_iff, decide_eq_false_iff_not] at h1
   refine ⟨by omega, fun hl => ?_, ai h3⟩
   simp only [Bool.and_eq_false_iff, beq_eq_false_iff_ne, Bool.or_eq_false_iff, decide_eq_false_iff_not] at h2
   rcases h2 with h2 | h2
   ·exact absurd hl h2
   ·exact ⟨by omega, List.length_eq_zero_iff.1 (by omega)⟩
  ·exact ud h p hp
theorem mZ {h : Hub} (hc : dt h = 0) : ∀ p ∈ h.peers, (0 ≤ p.life ∧ p.life ≤ 50 ∧ 0 ≤ p.seq ∧ p.seq ≤ 30) ∧ (p.life = 0 → p.seq = 0 ∧ p.roots = []) ∧ bT p.roots = 0 := by
 obtain ⟨h1, h2, h3, h4⟩ := go hc
 have e1 : (bq h.h != 0) = false := by rw [h1]; rfl
 have e2 : (decide (h.version < 0) || decide (h.version > 60)) = false := by simp; omega
 have e3 : ((h.peers.length : Int) != 3) = false := by rw [h4]; rfl
 unfold dt at hc
 rw [e1, cond_false, e2, cond_false, e3, cond_false] at hc
 exact ud hc
theorem AF {h : Hub} (hc : dt h = 0) : ∀ p ∈ h.peers, 0 ≤ p.seq ∧ p.seq ≤ 30 := fun p hp => by have := (mZ hc p hp).1; omega
theorem qf {r : Rec} (h : aK r = 0) : (r.kind = 1 → 0 ≤ r.o.who ∧ r.o.who < 3) ∧ (r.kind ≠ 1 → 0 ≤ r.who ∧ r.who < 3) ∧ 1 ≤ r.kind ∧ r.kind ≤ 3 ∧ (r.kind ≠ 1 → bT r.roots = 0) := by
 unfold aK at h
 cases h1 : (decide (r.kind < 1) || decide (r.kind > 3)) with
 | true => rw [h1, cond_true] at h; cases h
 | false =>
 rw [h1, cond_false] at h
 simp only [Bool.or_eq_false_iff, decide_eq_false_iff_not] at h1
 cases h2 : (r.kind == 1) with
 | true =>
  rw [h2, cond_true] at h
  have h2 := eq_of_beq h2
  cases h3 : (((r.who != 0) || (r.life != 0)) || decide ((r.roots.length : Int) > 0)) with
  | true => rw [h3, cond_true] at h; cases h
  | false =>
   rw [h3, cond_false, eA] at h
   have := ky h
   exact ⟨fun _ => by omega, fun hn => absurd h2 hn, by omega, by omega, fun hn => absurd h2 hn⟩
 | false =>
  rw [h2, cond_false] at h
  have h2 := beq_eq_false_iff_ne.1 h2
  cases h3 : (((!(decide (r.o = (⟨0, 0, 0, 0, 0, 0, 0⟩ : Op)))) || ((r.kind == 3) && (r.life != 0))) || ((r.kind == 2) && decide ((r.roots.length : Int) > 0))) with
  | true => rw [h3, cond_true] at h; cases h
  | false =>
   rw [h3, cond_false] at h
   cases h4 : ((decide (r.who < 0) || decide (r.who ≥ 3)) || ((r.kind == 2) && (decide (r.life < 1) || decide (r.life > 50)))) with
   | true => rw [h4, cond_true] at h; cases h
   | false =>
    rw [h4, cond_false] at h
    simp only [Bool.or_eq_false_iff, decide_eq_false_iff_not] at h4
    exact ⟨fun he => absurd he h2, fun _ => by omega, by omega, by omega, fun _ => h⟩
def dS (h1 : Hub) (o1 : Op) : Int × Hub :=
 (bif (((gt h1.peers o1.who.toNat).life != o1.life) || (((gt h1.peers o1.who.toNat).seq + 1) != o1.seq)) then (7, h1) else (bif ((bE h1.h o1).2 == 0) then ((bE h1.h o1).2, (⟨(bE h1.h o1).1, h1.version, (h1.peers.set o1.who.toNat (⟨(gt h1.peers o1.who.toNat).life, o1.seq, (gt h1.peers o1.who.toNat).roots⟩ : Peer))⟩ : Hub)) else ((bE h1.h o1).2, h1)))
theorem qS (c1 : Nat) (y1 : SlV) (y2 : SlV) (y3 : SlV) (y3b : Option Nat) (γ1 : Nat → SlV) (h1 : Hub) (o1 : Op) (hp : h1.peers.length = 3) (hw : 0 ≤ o1.who ∧ o1.who < 3) (hl : h1.h.l.length ≤ 1000) (hs : ∀ p ∈ h1.peers, 0 ≤ p.seq ∧ p.seq ≤ 30) : DoesG Tryz.prog 156 [.pointer (some ⟨c1, 0, none⟩), .agg ⟨cO o1⟩] [RdL EStep y1 h1.h.l, RdL EPlace y2 h1.h.t, FactsG NPeer γ1 h1.peers] ⟨[⟨c1, 30, [y1.val h1.h.l.length, y2.val h1.h.t.length, .int .i64 h1.version, y3.val h1.peers.length]⟩], [ownL NPeer.E 84 y3 y3b (zipG γ1 0 h1.peers)]⟩ (fun (X : SlV × SlV × SlV × Option Nat × (Nat → SlV)) => .int .i64 (dS h1 o1).1) (fun X => [RdL EStep X.1 (dS h1 o1).2.h.l, RdL EPlace X.2.1 (dS h1 o1).2.h.t, FactsG NPeer X.2.2.2.2 (dS h1 o1).2.peers]) (fun X => ⟨[⟨c1, 30, [X.1.val (dS h1 o1).2.h.l.length, X.2.1.val (dS h1 o1).2.h.t.length, .int .i64 (dS h1 o1).2.version, X.2.2.1.val (dS h1 o1).2.peers.length]⟩], [ownL NPeer.E 84 X.2.2.1 X.2.2.2.1 (zipG X.2.2.2.2 0 (dS h1 o1).2.peers)]⟩) := by
 refine Dq aH Tryz.func156 Tryz.ntmps156 Tryz.results156 fun C => ?_
 refine BxT fun g1 => ?_
 refine Tx ?_
 have hsb := hs (gt h1.peers o1.who.toNat) (im (by omega))
 (repeat refine aI ?_); refine aq (fun _ => some []) ?_
 refine Dx (.range 7) ?_
 refine Oq NPeer.E y3 (zipG γ1 0 h1.peers) (Fa 7 []) (fQ NPeer γ1 o1.who.toNat rfl rfl Zf rfl Zf rfl rfl rfl (.head _) rfl Zo Za) ?_
 refine Ra 8 rfl Qp ?_
 refine Re0 ?_
 (repeat refine aI ?_); refine aq (fun _ => some []) ?_
 refine Dx [0,1,2] ?_
 refine Oq NPeer.E y3 (zipG γ1 0 h1.peers) (Fb 3 [4,5]) (iy NPeer γ1 (v := .int .i64 (gt h1.peers o1.who.toNat).life) rfl rfl Zf rfl rfl (.head _) Za rfl) ?_
 refine Dx (.range' 4 7) ?_
 refine pC NPeer.E (e := 84) (X := y3) (b := y3b) (l := zipG γ1 0 h1.peers) Mm (.ab (i := 11) (js := [13, 14]) [12, 15, 16] rfl Kr Kr Kr Kr Kr) (eC rfl rfl rfl) rfl rfl (iy NPeer γ1 (v := .int .i64 (gt h1.peers o1.who.toNat).seq) rfl rfl Bt rfl rfl (.head _) (by first | (intro _; first | assumption | omega | (simp only [List.length_set]; omega)) | (intro h; simp at h; omega)) rfl) ?_
 refine Dx [12,13,14,15,16] ?_
 refine Re0 ?_
 have hf := Ri (dS.eq_1 h1 o1)
 refine Ch hf (fun hc1 hf => ?_) fun hc1 hf => ?_
 ·refine Rx ?_; exact Re ⟨y1, y2, y3, y3b, γ1⟩ Rv
 ·refine Tx ?_
  refine Jn (Nat × SlV × SlV) [0, 3, 4, 5] [true, true] (fun ⟨g2, x1, x2⟩ => ⟨[(6, .v (.pointer (some ⟨g2, 0, none⟩))), (7, .v (.int .i64 (bE h1.h o1).2))], [⟨g2, 27, [x1.val (bE h1.h o1).1.l.length, x2.val (bE h1.h o1).1.t.length]⟩], [ownL NPeer.E 84 y3 y3b (zipG γ1 0 h1.peers)], [RdL EStep x1 (bE h1.h o1).1.l, RdL EPlace x2 (bE h1.h o1).1.t], True, 0⟩) ?_ ?_
  ·refine aq (fun j => match j with | 10 => none | _ => some []) ?_
   refine Dx [0,1,2,3,4] ?_
   refine Rw 5 9 ?_ ?_
   ·refine Ck (mg y1 y2 h1.h o1 Zc) fun x3 => ?_
    refine Pr EStep x3.1 (bE h1.h o1).1.l 88 fun hlen1 => ?_
    refine Pr EPlace x3.2 (bE h1.h o1).1.t 24 fun hlen2 => ?_
    refine Dx [6,7] ?_
    refine ra_p (Fa 8 [9,10]) rfl rfl rfl Xv ?_
    refine Rn 9 ?_
    refine bP (.an rfl rfl) (am rfl) rfl rfl rfl rfl fun g3 => ?_
    refine Rn 10 ?_
    refine Wa ?_
    refine Ra 11 rfl Qp ?_
    refine Re0 ?_
    refine ⟨⟨g3, x3.1, x3.2⟩, trivial, Le4⟩
   ·refine bP (.an rfl rfl) (am rfl) rfl rfl rfl rfl fun g4 => ?_
    refine Rn 5 ?_
    refine Ck (mg y1 y2 h1.h o1 Zc) fun x4 => ?_
    refine Pr EStep x4.1 (bE h1.h o1).1.l 88 fun hlen3 => ?_
    refine Pr EPlace x4.2 (bE h1.h o1).1.t 24 fun hlen4 => ?_
    refine Dx [6,7] ?_
    refine ra_p (Fa 8 [10]) rfl rfl rfl Xv ?_
    refine Rn 10 ?_
    refine Wa ?_
    refine Ra 11 rfl Qp ?_
    refine Re0 ?_
    refine ⟨⟨g4, x4.1, x4.2⟩, trivial, Le4⟩
  ·rintro ⟨g2, x1, x2⟩ -
   simp only [Lc]
   refine Ce hf (fun hc2 hc2p hf => ?_) fun hc2 hc2p hf => ?_
   ·(repeat refine aI ?_); refine aq (fun j => match j with | 7 => none | 10 => none | _ => some []) ?_
    refine Ra 0 rfl Qp ?_
    refine ra_p (Fa 1 [2,3,4,5,6,7]) rfl rfl rfl Xv ?_
    refine Ra 2 rfl XA ?_
    refine ra_p (Fa 3 [5,6,7]) rfl rfl rfl Xv ?_
    refine Dx [5,6] ?_
    refine Rw 4 7 ?_ ?_
    ·refine xn rfl rfl rfl rfl (q_ld1 rfl rfl Zf rfl Mm rfl) ?_
     refine Rn 7 ?_
     refine Wp ?_
     refine Dx [8,9] ?_
     refine Rn 10 ?_
     refine Wn NPeer γ1 h1.peers o1.who.toNat 1 (γ1 o1.who.toNat) (⟨(gt h1.peers o1.who.toNat).life, o1.seq, (gt h1.peers o1.who.toNat).roots⟩ : Peer) y3b ?_
     refine Fg NPeer γ1 h1.peers o1.who.toNat 0 ?_
     refine Fu NPeer γ1 h1.peers o1.who.toNat (γ1 o1.who.toNat) (⟨(gt h1.peers o1.who.toNat).life, o1.seq, (gt h1.peers o1.who.toNat).roots⟩ : Peer) ?_
     have hv1 : y3.val h1.peers.length = y3.val (h1.peers.set o1.who.toNat (⟨(gt h1.peers o1.who.toNat).life, o1.seq, (gt h1.peers o1.who.toNat).roots⟩ : Peer)).length := congrArg (SlV.val y3) List.length_set.symm
     (try simp only [cB, cC, cW]); try rw [hv1]
     refine Re0 ?_
     refine Rx ?_; exact Re ⟨x1, x2, y3, y3b, (updG γ1 o1.who.toNat (γ1 o1.who.toNat))⟩ Rv
    ·refine Wp ?_
     refine Dx [4,8,9] ?_
     refine Rn 10 ?_
     refine Wn NPeer γ1 h1.peers o1.who.toNat 1 (γ1 o1.who.toNat) (⟨(gt h1.peers o1.who.toNat).life, o1.seq, (gt h1.peers o1.who.toNat).roots⟩ : Peer) y3b ?_
     refine Fg NPeer γ1 h1.peers o1.who.toNat 0 ?_
     refine Fu NPeer γ1 h1.peers o1.who.toNat (γ1 o1.who.toNat) (⟨(gt h1.peers o1.who.toNat).life, o1.seq, (gt h1.peers o1.who.toNat).roots⟩ : Peer) ?_
     have hv2 : y3.val h1.peers.length = y3.val (h1.peers.set o1.who.toNat (⟨(gt h1.peers o1.who.toNat).life, o1.seq, (gt h1.peers o1.who.toNat).roots⟩ : Peer)).length := congrArg (SlV.val y3) List.length_set.symm
     (try simp only [cB, cC, cW]); try rw [hv2]
     refine Re0 ?_
     refine Rx ?_; exact Re ⟨x1, x2, y3, y3b, (updG γ1 o1.who.toNat (γ1 o1.who.toNat))⟩ Rv
   ·refine Rx ?_; exact Re ⟨y1, y2, y3, y3b, γ1⟩ Rv
def bi (h1 : Hub) (r1 : Rec) : Hub × Int :=
 (bif ((aK r1) != 0) then ((⟨(⟨[], []⟩ : History), 0, ([] : List Peer)⟩ : Hub), (aK r1)) else (bif (h1.version == 60) then ((⟨(⟨[], []⟩ : History), 0, ([] : List Peer)⟩ : Hub), 2) else (bif (r1.kind == 1) then (bif ((dS (⟨h1.h, (h1.version + 1), h1.peers⟩ : Hub) r1.o).1 != 0) then ((⟨(⟨[], []⟩ : History), 0, ([] : List Peer)⟩ : Hub), (dS (⟨h1.h, (h1.version + 1), h1.peers⟩ : Hub) r1.o).1) else ((dS (⟨h1.h, (h1.version + 1), h1.peers⟩ : Hub) r1.o).2, 0)) else (bif (r1.kind == 2) then (bif (r1.life != ((gt h1.peers r1.who.toNat).life + 1)) then ((⟨(⟨[], []⟩ : History), 0, ([] : List Peer)⟩ : Hub), 7) else ((⟨h1.h, (h1.version + 1), (h1.peers.set r1.who.toNat (⟨r1.life, 0, ([] : List Int)⟩ : Peer))⟩ : Hub), 0)) else (bif (r1.kind == 3) then (bif ((gt h1.peers r1.who.toNat).life == 0) then ((⟨(⟨[], []⟩ : History), 0, ([] : List Peer)⟩ : Hub), 5) else ((⟨h1.h, (h1.version + 1), (h1.peers.set r1.who.toNat (⟨(gt h1.peers r1.who.toNat).life, (gt h1.peers r1.who.toNat).seq, r1.roots⟩ : Peer))⟩ : Hub), 0)) else ((⟨h1.h, (h1.version + 1), h1.peers⟩ : Hub), 0))))))
theorem oE (y1 : SlV) (y2 : SlV) (y3 : SlV) (h1 : Hub) (y4 : SlV) (r1 : Rec) (hk : dt h1 = 0) : Does Tryz.prog 109 [.agg ⟨cB y1 y2 y3 h1⟩, .agg ⟨cR y4 r1⟩] [RdL EStep y1 h1.h.l, RdL EPlace y2 h1.h.t, RdN NPeer y3 h1.peers, RdL EInt y4 r1.roots] (fun (X : SlV × SlV × SlV) => .tuple #[.agg ⟨cB X.1 X.2.1 X.2.2 (bi h1 r1).1⟩, .int .i64 (bi h1 r1).2]) (fun X => [RdL EStep X.1 (bi h1 r1).1.h.l, RdL EPlace X.2.1 (bi h1 r1).1.h.t, RdN NPeer X.2.2 (bi h1 r1).1.peers]) := by
 refine Dp aH Tryz.func109 Tryz.ntmps109 Tryz.results109 fun C => ?_
 refine Pc EStep y1 h1.h.l 88 fun hlen1 => ?_
 refine Pc EPlace y2 h1.h.t 24 fun hlen2 => ?_
 refine Pn NPeer y3 h1.peers 40 fun hlen3 => ?_
 refine Pc EInt y4 r1.roots 8 fun hlen4 => ?_
 refine BxT fun g1 => ?_
 refine BxT fun g2 => ?_
 refine AlT fun g3 => ?_
 refine Ck (hC y4 r1) fun _ => ?_
 have hf := Ri (bi.eq_1 h1 r1)
 refine Cn hf (fun hc1 hc1p hf => ?_) fun hc1 hc1p hf => ?_
 ·refine Tx ?_
  refine Fc EStep ?_
  refine Fc EPlace ?_
  refine Ft NPeer ?_
  refine Rx ?_; exact Re ⟨Z0, Z0, Z0⟩ Rv
 ·have hnw := qf (ai hc1)
  have hcl := go hk
  have hcq := ln hcl.1
  have hsq := AF hk
  refine Ce hf (fun hc2 hc2p hf => ?_) fun hc2 hc2p hf => ?_
  ·refine Tx ?_
   refine Fc EStep ?_
   refine Fc EPlace ?_
   refine Ft NPeer ?_
   refine Rx ?_; exact Re ⟨Z0, Z0, Z0⟩ Rv
  ·refine Cm (nH y1 y2 y3 h1) fun x1 => ?_
   refine Pr EStep x1.1 h1.h.l 88 fun hlen5 => ?_
   refine Pr EPlace x1.2.1 h1.h.t 24 fun hlen6 => ?_
   refine Ce hf (fun hc3 hc3p hf => ?_) fun hc3 hc3p hf => ?_
   ·refine Cm (qS g1 x1.1 x1.2.1 x1.2.2.1 x1.2.2.2.1 x1.2.2.2.2 (⟨h1.h, (h1.version + 1), h1.peers⟩ : Hub) r1.o hcl.2.2.2 (hnw.1 (by assumption)) (Nat.le_trans hcq (by omega)) hsq) fun x2 => ?_
    refine Cn hf (fun hc4 hc4p hf => ?_) fun hc4 hc4p hf => ?_
    ·refine Tx ?_
     refine Fc EStep ?_
     refine Fc EPlace ?_
     refine Ft NPeer ?_
     refine Rx ?_; exact Re ⟨Z0, Z0, Z0⟩ Rv
    ·refine Tx ?_
     refine cw_le (ao NPeer.E 84 x2.2.2.1 x2.2.2.2.1 (zipG x2.2.2.2.2 0 (dS (⟨h1.h, (h1.version + 1), h1.peers⟩ : Hub) r1.o).2.peers) Uo) ?_
     refine Fj NPeer x2.2.2.1 x2.2.2.2.2 (dS (⟨h1.h, (h1.version + 1), h1.peers⟩ : Hub) r1.o).2.peers ?_
     refine Rx ?_; exact Re ⟨x2.1, x2.2.1, x2.2.2.1⟩ Rv
   ·refine Ce hf (fun hc5 hc5p hf => ?_) fun hc5 hc5p hf => ?_
    ·have hlb := (mZ hk (gt h1.peers r1.who.toNat) (im (by omega))).1
     (repeat refine aI ?_); refine aq (fun _ => some []) ?_
     refine Dx (.range 6) ?_
     refine Oq NPeer.E x1.2.2.1 (zipG x1.2.2.2.2 0 h1.peers) (Fb 6 []) (fQ NPeer x1.2.2.2.2 r1.who.toNat rfl rfl Zf rfl Zf rfl rfl rfl (.head _) rfl Zo Za) ?_
     refine Rb 7 rfl Xf ?_
     refine Oq NPeer.E x1.2.2.1 (zipG x1.2.2.2.2 0 h1.peers) (Fb 8 []) (iy NPeer x1.2.2.2.2 (v := .int .i64 (gt h1.peers r1.who.toNat).life) rfl rfl Zf rfl rfl (.head _) Za rfl) ?_
     refine Dx [9,10] ?_
     refine Re0 ?_
     refine Cn hf (fun hc6 hc6p hf => ?_) fun hc6 hc6p hf => ?_
     ·refine Tx ?_
      refine Oq NPeer.E x1.2.2.1 (zipG x1.2.2.2.2 0 h1.peers) .sq (fQ NPeer x1.2.2.2.2 r1.who.toNat rfl rfl Zf rfl Zf rfl rfl rfl (.head _) rfl Zo Za) ?_
      refine Fr EInt ?_
      refine Wn NPeer x1.2.2.2.2 h1.peers r1.who.toNat 0 Z0 (⟨r1.life, 0, ([] : List Int)⟩ : Peer) x1.2.2.2.1 ?_
      refine Fu NPeer x1.2.2.2.2 h1.peers r1.who.toNat Z0 (⟨r1.life, 0, ([] : List Int)⟩ : Peer) ?_
      have hv1 : x1.2.2.1.val h1.peers.length = x1.2.2.1.val (h1.peers.set r1.who.toNat (⟨r1.life, 0, ([] : List Int)⟩ : Peer)).length := congrArg (SlV.val x1.2.2.1) List.length_set.symm
      (try simp only [cB, cC, cW]); try rw [hv1]
      refine Cd' (fun hc7 => ?_) fun hc7 => ?_
      ·refine Tx ?_
       refine Fc EStep ?_
       refine Fc EPlace ?_
       refine Ft NPeer ?_
       refine Rx ?_; exact Re ⟨Z0, Z0, Z0⟩ Rv
      ·exact Bool.noConfusion (hc7.symm.trans (show ((7 : Int) != 0) = true by decide))
     ·refine Tx ?_
      refine Oq NPeer.E x1.2.2.1 (zipG x1.2.2.2.2 0 h1.peers) .sq (fQ NPeer x1.2.2.2.2 r1.who.toNat rfl rfl Zf rfl Zf rfl rfl rfl (.head _) rfl Zo Za) ?_
      refine Fr EInt ?_
      refine Wn NPeer x1.2.2.2.2 h1.peers r1.who.toNat 0 Z0 (⟨r1.life, 0, ([] : List Int)⟩ : Peer) x1.2.2.2.1 ?_
      refine Fu NPeer x1.2.2.2.2 h1.peers r1.who.toNat Z0 (⟨r1.life, 0, ([] : List Int)⟩ : Peer) ?_
      have hv2 : x1.2.2.1.val h1.peers.length = x1.2.2.1.val (h1.peers.set r1.who.toNat (⟨r1.life, 0, ([] : List Int)⟩ : Peer)).length := congrArg (SlV.val x1.2.2.1) List.length_set.symm
      (try simp only [cB, cC, cW]); try rw [hv2]
      refine Cd' (fun hc8 => ?_) fun hc8 => ?_
      ·exact Bool.noConfusion (hc8.symm.trans (show ((0 : Int) != 0) = false by decide))
      ·refine Tx ?_
       refine cw_le (ao NPeer.E 84 x1.2.2.1 x1.2.2.2.1 (zipG (updG x1.2.2.2.2 r1.who.toNat Z0) 0 (h1.peers.set r1.who.toNat (⟨r1.life, 0, ([] : List Int)⟩ : Peer))) Uo) ?_
       refine Fj NPeer x1.2.2.1 (updG x1.2.2.2.2 r1.who.toNat Z0) (h1.peers.set r1.who.toNat (⟨r1.life, 0, ([] : List Int)⟩ : Peer)) ?_
       refine Rx ?_; exact Re ⟨x1.1, x1.2.1, x1.2.2.1⟩ Rv
    ·refine Ce hf (fun hc9 hc9p hf => ?_) fun hc9 hc9p hf => ?_
     ·refine Tx ?_
      refine Oq NPeer.E x1.2.2.1 (zipG x1.2.2.2.2 0 h1.peers) .sq (fQ NPeer x1.2.2.2.2 r1.who.toNat rfl rfl Zf rfl Zf rfl rfl rfl (.head _) rfl Zo Za) ?_
      refine Sq Xf ?_
      refine Oq NPeer.E x1.2.2.1 (zipG x1.2.2.2.2 0 h1.peers) .sq (iy NPeer x1.2.2.2.2 (v := .int .i64 (gt h1.peers r1.who.toNat).life) rfl rfl Zf rfl rfl (.head _) Za rfl) ?_
      refine Ce hf (fun hc10 hc10p hf => ?_) fun hc10 hc10p hf => ?_
      ·refine Tx ?_
       (repeat refine aI ?_); refine aq (fun j => match j with | 9 => some x1.2.2.2.1.toList | _ => some []) ?_
       refine Dx (.range 6) ?_
       refine Rn 6 ?_
       refine Cm (dh y4 r1.roots) fun x3 => ?_
       refine Oq NPeer.E x1.2.2.1 (zipG x1.2.2.2.2 0 h1.peers) (Fb 7 []) (fQ NPeer x1.2.2.2.2 r1.who.toNat rfl rfl Zf rfl Zf rfl rfl rfl (.head _) rfl Zo Za) ?_
       refine Ra 8 rfl Xf ?_
       refine Rn 9 ?_
       refine rw_le (ao EInt 3 x3.1 x3.2 r1.roots Uo) ?_
       refine Wn NPeer x1.2.2.2.2 h1.peers r1.who.toNat 2 x3.1 (⟨(gt h1.peers r1.who.toNat).life, (gt h1.peers r1.who.toNat).seq, r1.roots⟩ : Peer) x1.2.2.2.1 ?_
       refine Fu NPeer x1.2.2.2.2 h1.peers r1.who.toNat x3.1 (⟨(gt h1.peers r1.who.toNat).life, (gt h1.peers r1.who.toNat).seq, r1.roots⟩ : Peer) ?_
       have hv3 : x1.2.2.1.val h1.peers.length = x1.2.2.1.val (h1.peers.set r1.who.toNat (⟨(gt h1.peers r1.who.toNat).life, (gt h1.peers r1.who.toNat).seq, r1.roots⟩ : Peer)).length := congrArg (SlV.val x1.2.2.1) List.length_set.symm
       (try simp only [cB, cC, cW]); try rw [hv3]
       refine Re0 ?_
       refine Cd' (fun hc11 => ?_) fun hc11 => ?_
       ·refine Tx ?_
        refine Fc EStep ?_
        refine Fc EPlace ?_
        refine Ft NPeer ?_
        refine Rx ?_; exact Re ⟨Z0, Z0, Z0⟩ Rv
       ·exact Bool.noConfusion (hc11.symm.trans (show ((5 : Int) != 0) = true by decide))
      ·refine Tx ?_
       (repeat refine aI ?_); refine aq (fun j => match j with | 9 => some x1.2.2.2.1.toList | _ => some []) ?_
       refine Dx (.range 6) ?_
       refine Rn 6 ?_
       refine Cm (dh y4 r1.roots) fun x4 => ?_
       refine Oq NPeer.E x1.2.2.1 (zipG x1.2.2.2.2 0 h1.peers) (Fb 7 []) (fQ NPeer x1.2.2.2.2 r1.who.toNat rfl rfl Zf rfl Zf rfl rfl rfl (.head _) rfl Zo Za) ?_
       refine Ra 8 rfl Xf ?_
       refine Rn 9 ?_
       refine rw_le (ao EInt 3 x4.1 x4.2 r1.roots Uo) ?_
       refine Wn NPeer x1.2.2.2.2 h1.peers r1.who.toNat 2 x4.1 (⟨(gt h1.peers r1.who.toNat).life, (gt h1.peers r1.who.toNat).seq, r1.roots⟩ : Peer) x1.2.2.2.1 ?_
       refine Fu NPeer x1.2.2.2.2 h1.peers r1.who.toNat x4.1 (⟨(gt h1.peers r1.who.toNat).life, (gt h1.peers r1.who.toNat).seq, r1.roots⟩ : Peer) ?_
       have hv4 : x1.2.2.1.val h1.peers.length = x1.2.2.1.val (h1.peers.set r1.who.toNat (⟨(gt h1.peers r1.who.toNat).life, (gt h1.peers r1.who.toNat).seq, r1.roots⟩ : Peer)).length := congrArg (SlV.val x1.2.2.1) List.length_set.symm
       (try simp only [cB, cC, cW]); try rw [hv4]
       refine Re0 ?_
       refine Cd' (fun hc12 => ?_) fun hc12 => ?_
       ·exact Bool.noConfusion (hc12.symm.trans (show ((0 : Int) != 0) = false by decide))
       ·refine Tx ?_
        refine cw_le (ao NPeer.E 84 x1.2.2.1 x1.2.2.2.1 (zipG (updG x1.2.2.2.2 r1.who.toNat x4.1) 0 (h1.peers.set r1.who.toNat (⟨(gt h1.peers r1.who.toNat).life, (gt h1.peers r1.who.toNat).seq, r1.roots⟩ : Peer))) Uo) ?_
        refine Fj NPeer x1.2.2.1 (updG x1.2.2.2.2 r1.who.toNat x4.1) (h1.peers.set r1.who.toNat (⟨(gt h1.peers r1.who.toNat).life, (gt h1.peers r1.who.toNat).seq, r1.roots⟩ : Peer)) ?_
        refine Rx ?_; exact Re ⟨x1.1, x1.2.1, x1.2.2.1⟩ Rv
     ·refine Cd' (fun hc13 => ?_) fun hc13 => ?_
      ·exact Bool.noConfusion (hc13.symm.trans (show ((0 : Int) != 0) = false by decide))
      ·refine Tx ?_
       refine cw_le (ao NPeer.E 84 x1.2.2.1 x1.2.2.2.1 (zipG x1.2.2.2.2 0 h1.peers) Uo) ?_
       refine Fj NPeer x1.2.2.1 x1.2.2.2.2 h1.peers ?_
       refine Rx ?_; exact Re ⟨x1.1, x1.2.1, x1.2.2.1⟩ Rv
def fU (h1 : Hub) (r1 : Rec) : Hub × Int :=
 (bif ((dt h1) != 0) then ((⟨(⟨[], []⟩ : History), 0, ([] : List Peer)⟩ : Hub), (dt h1)) else ((bi h1 r1).1, (bi h1 r1).2))
theorem oI (y1 : SlV) (y2 : SlV) (y3 : SlV) (h1 : Hub) (y4 : SlV) (r1 : Rec) : Does Tryz.prog 176 [.agg ⟨cB y1 y2 y3 h1⟩, .agg ⟨cR y4 r1⟩] [RdL EStep y1 h1.h.l, RdL EPlace y2 h1.h.t, RdN NPeer y3 h1.peers, RdL EInt y4 r1.roots] (fun (X : SlV × SlV × SlV) => .tuple #[.agg ⟨cB X.1 X.2.1 X.2.2 (fU h1 r1).1⟩, .int .i64 (fU h1 r1).2]) (fun X => [RdL EStep X.1 (fU h1 r1).1.h.l, RdL EPlace X.2.1 (fU h1 r1).1.h.t, RdN NPeer X.2.2 (fU h1 r1).1.peers]) := by
 refine Dp aH Tryz.func176 Tryz.ntmps176 Tryz.results176 fun C => ?_
 refine Pc EStep y1 h1.h.l 88 fun hlen1 => ?_
 refine Pc EPlace y2 h1.h.t 24 fun hlen2 => ?_
 refine Pn NPeer y3 h1.peers 40 fun hlen3 => ?_
 refine Pc EInt y4 r1.roots 8 fun hlen4 => ?_
 refine BxT fun g1 => ?_
 refine BxT fun g2 => ?_
 refine AlT fun g3 => ?_
 refine Ck (nJ y1 y2 y3 h1) fun _ => ?_
 have hf := Ri (fU.eq_1 h1 r1)
 refine Cn hf (fun hc1 hc1p hf => ?_) fun hc1 hc1p hf => ?_
 ·refine Tx ?_
  refine Fc EStep ?_
  refine Fc EPlace ?_
  refine Ft NPeer ?_
  refine Rx ?_; exact Re ⟨Z0, Z0, Z0⟩ Rv
 ·refine Ck (oE y1 y2 y3 h1 y4 r1 (ai (by assumption))) fun x1 => ?_
  refine Pr EStep x1.1 (bi h1 r1).1.h.l 88 fun hlen5 => ?_
  refine Pr EPlace x1.2.1 (bi h1 r1).1.h.t 24 fun hlen6 => ?_
  refine Pm NPeer x1.2.2 (bi h1 r1).1.peers 40 fun hlen7 => ?_
  refine Rx ?_; exact Re ⟨x1.1, x1.2.1, x1.2.2⟩ Rv
end Go.Proofs.YtkjccbdeaflekaaGreatDoor

namespace Go.Proofs.YtkjccbdeaflekaaGreatDoor
open Go Go.Proofs.YtkjccbdeaflekaaGreatDoor.Fw Go.Proofs
structure wg (p : Peer) : Prop where
 rng : 0 ≤ p.life ∧ p.life ≤ 50 ∧ 0 ≤ p.seq ∧ p.seq ≤ 30
 new : p.life = 0 → p.seq = 0 ∧ p.roots = []
 roots : bT p.roots = 0
structure IsHub (h : Hub) : Prop where
 hist : bq h.h = 0
 vers : 0 ≤ h.version ∧ h.version ≤ 60
 three : h.peers.length = 3
 peers : ∀ p ∈ h.peers, wg p
theorem ue : ∀ {l : List Peer}, (∀ p ∈ l, wg p) → fV l = 0
 | [], _ => rfl
 | q :: l, h => by
  obtain ⟨h1, h2, h3⟩ := h q (.head _)
  have e1 : (((decide (q.life < 0) || decide (q.life > 50)) || decide (q.seq < 0)) || decide (q.seq > 30)) = false := by
   simp only [Bool.or_eq_false_iff, decide_eq_false_iff_not]; omega
  have e2 : ((q.life == 0) && (decide (q.seq > 0) || decide ((q.roots.length : Int) > 0))) = false := by
   cases hl : (q.life == 0) with
   | false => rfl
   | true =>
    obtain ⟨h4, h5⟩ := h2 (eq_of_beq hl)
    rw [h4, h5]; rfl
  rw [fV, e1, cond_false, e2, cond_false, h3]
  exact ue fun p hp => h p (.tail _ hp)
theorem en (h : Hub) : dt h = 0 ↔ IsHub h := by
 constructor
 ·intro hc
  obtain ⟨h1, h2, h3, h4⟩ := go hc
  exact ⟨h1, ⟨h2, h3⟩, h4, fun p hp => by obtain ⟨a, b, c⟩ := mZ hc p hp; exact ⟨a, b, c⟩⟩
 ·intro ⟨h1, h2, h3, h4⟩
  have e1 : (bq h.h != 0) = false := by rw [h1]; rfl
  have e2 : (decide (h.version < 0) || decide (h.version > 60)) = false := by simp only [Bool.or_eq_false_iff, decide_eq_false_iff_not]; omega
  have e3 : ((h.peers.length : Int) != 3) = false := by rw [h3]; rfl
  unfold dt
  rw [e1, cond_false, e2, cond_false, e3, cond_false]
  exact ue h4
theorem qI {h : Hub} (hh : IsHub h) {i : Nat} {q : Peer} (hq : wg q) : ∀ p ∈ h.peers.set i q, wg p := fun p hp => by
 rcases List.mem_or_eq_of_mem_set hp with h1 | h1
 ·exact hh.peers p h1
 ·rw [h1]; exact hq
theorem sy {h : History} (hc : bq h = 0) (o : Op) : ew h o = bE h o := by
 unfold ew
 have e1 : (bq h != 0) = false := by rw [hc]; rfl
 rw [e1, cond_false]
theorem yw {h : History} (hc : bq h = 0) {o : Op} (h0 : (bE h o).2 = 0) : bq (bE h o).1 = 0 := by
 rw [← sy hc] at h0 ⊢
 obtain ⟨S, h1, h2, h3, h4, h5, h6⟩ := wT h0
 rw [o4, h6.ops]
 exact h6
theorem yl {h : Hub} (hh : IsHub h) {o : Op} (ho : chkO o = 0) (h0 : (dS h o).1 = 0) : IsHub (dS h o).2 ∧ (dS h o).2.version = h.version := by
 unfold dS at h0 ⊢
 cases h1 : (((gt h.peers o.who.toNat).life != o.life) || ((gt h.peers o.who.toNat).seq + 1 != o.seq)) with
 | true => rw [h1, cond_true] at h0; cases h0
 | false =>
 rw [h1, cond_false] at h0
 rw [cond_false]
 cases h2 : ((bE h.h o).2 == 0) with
 | false =>
  rw [h2, cond_false] at h0
  simp only at h0
  rw [h0] at h2; cases h2
 | true =>
  rw [cond_true]
  have hc := ky ho
  have hm : gt h.peers o.who.toNat ∈ h.peers := im (by rw [hh.three]; omega)
  have hp := hh.peers _ hm
  simp only [Bool.or_eq_false_iff, bne_eq_false_iff_eq] at h1
  have hr := hp.rng
  refine ⟨⟨yw hh.hist (eq_of_beq h2), hh.vers, by rw [List.length_set]; exact hh.three, qI hh ⟨?_, ?_, hp.roots⟩⟩, rfl⟩
  ·simp only; omega
  ·simp only; intro hl; omega
theorem s6 {h : Hub} (hh : IsHub h) {r : Rec} (h0 : (bi h r).2 = 0) : IsHub (bi h r).1 ∧ (bi h r).1.version = h.version + 1 := by
 unfold bi at h0 ⊢
 cases h1 : (aK r != 0) with
 | true => rw [h1, cond_true] at h0; simp only at h0; rw [h0] at h1; cases h1
 | false =>
 rw [h1, cond_false] at h0
 rw [cond_false]
 obtain ⟨w1, w2, w3, w4, w5⟩ := qf (ai h1)
 cases h2 : (h.version == 60) with
 | true => rw [h2, cond_true] at h0; cases h0
 | false =>
 rw [h2, cond_false] at h0
 rw [cond_false]
 have hv := hh.vers
 have h2 := beq_eq_false_iff_ne.1 h2
 have hh' : IsHub ⟨h.h, h.version + 1, h.peers⟩ := ⟨hh.hist, by simp only; omega, hh.three, hh.peers⟩
 cases h3 : (r.kind == 1) with
 | true =>
  rw [h3, cond_true] at h0
  rw [cond_true]
  cases h4 : ((dS ⟨h.h, h.version + 1, h.peers⟩ r.o).1 != 0) with
  | true => rw [h4, cond_true] at h0; simp only at h0; rw [h0] at h4; cases h4
  | false =>
   have ho : chkO r.o = 0 := by
    have hn := ai h1
    unfold aK at hn
    rw [h3, cond_true] at hn
    cases h5 : (decide (r.kind < 1) || decide (r.kind > 3)) with
    | true => rw [h5, cond_true] at hn; cases hn
    | false =>
     rw [h5, cond_false] at hn
     cases h6 : (((r.who != 0) || (r.life != 0)) || decide ((r.roots.length : Int) > 0)) with
     | true => rw [h6, cond_true] at hn; cases hn
     | false => rw [h6, cond_false, eA] at hn; exact hn
   exact yl hh' ho (ai h4)
 | false =>
  rw [h3, cond_false] at h0
  rw [cond_false]
  have h3 := beq_eq_false_iff_ne.1 h3
  have hw := w2 h3
  have hm : gt h.peers r.who.toNat ∈ h.peers := im (by rw [hh.three]; omega)
  have hp := hh.peers _ hm
  have hr := hp.rng
  cases h4 : (r.kind == 2) with
  | true =>
   rw [h4, cond_true] at h0
   rw [cond_true]
   cases h5 : (r.life != (gt h.peers r.who.toNat).life + 1) with
   | true => rw [h5, cond_true] at h0; cases h0
   | false =>
    have h5 := ai h5
    rw [cond_false]
    have hl : 1 ≤ r.life ∧ r.life ≤ 50 := by
     have hn := ai h1
     unfold aK at hn
     have e1 : (r.kind == 1) = false := beq_eq_false_iff_ne.2 h3
     rw [e1, h4] at hn
     cases h6 : (decide (r.kind < 1) || decide (r.kind > 3)) with
     | true => rw [h6, cond_true] at hn; cases hn
     | false =>
      rw [h6, cond_false, cond_false] at hn
      simp only [Bool.true_and] at hn
      cases h7 : (((!(decide (r.o = (⟨0, 0, 0, 0, 0, 0, 0⟩ : Op)))) || ((r.kind == 3) && (r.life != 0))) || decide ((r.roots.length : Int) > 0)) with
      | true => rw [h7, cond_true] at hn; cases hn
      | false =>
       rw [h7, cond_false] at hn
       cases h8 : ((decide (r.who < 0) || decide (r.who ≥ 3)) || (decide (r.life < 1) || decide (r.life > 50))) with
       | true => rw [h8, cond_true] at hn; cases hn
       | false => simp only [Bool.or_eq_false_iff, decide_eq_false_iff_not] at h8; omega
    exact ⟨⟨hh.hist, by simp only; omega, by rw [List.length_set]; exact hh.three, qI hh ⟨by simp only; omega, fun hz => by simp only at hz; omega, rfl⟩⟩, rfl⟩
  | false =>
   rw [h4, cond_false] at h0
   rw [cond_false]
   cases h5 : (r.kind == 3) with
   | false => exact ⟨hh', rfl⟩
   | true =>
    rw [h5, cond_true] at h0
    rw [cond_true]
    cases h6 : ((gt h.peers r.who.toNat).life == 0) with
    | true => rw [h6, cond_true] at h0; cases h0
    | false =>
     have h6 := beq_eq_false_iff_ne.1 h6
     rw [cond_false]
     exact ⟨⟨hh.hist, by simp only; omega, by rw [List.length_set]; exact hh.three, qI hh ⟨hp.rng, fun hz => absurd hz h6, w5 h3⟩⟩, rfl⟩
theorem li : IsHub ⟨⟨[], []⟩, 0, [⟨0, 0, []⟩, ⟨0, 0, []⟩, ⟨0, 0, []⟩]⟩ :=
 ⟨by decide +kernel, by decide, rfl, fun p hp => by
  simp only [List.mem_cons, List.not_mem_nil, or_false, or_self] at hp
  subst hp
  exact ⟨by decide, fun _ => ⟨rfl, rfl⟩, by decide +kernel⟩⟩
end Go.Proofs.YtkjccbdeaflekaaGreatDoor

set_option maxHeartbeats 2000000
namespace Go.Proofs.YtkjccbdeaflekaaGreatDoor
open Go Go.Proofs.YtkjccbdeaflekaaGreatDoor.Fw Go.Proofs
attribute [local irreducible] RdL RdN VarP RW CW
def d6 (h1 : Hub) (r1 : Rec) : List Step → (Hub × Int)
 | [] => (bif ((au ((ak h1.h) ++ [r1.o])).2 != 0) then ((⟨(⟨[], []⟩ : History), 0, ([] : List Peer)⟩ : Hub), (au ((ak h1.h) ++ [r1.o])).2) else ((⟨(au ((ak h1.h) ++ [r1.o])).1, (h1.version + 1), (h1.peers.set r1.o.who.toNat (⟨(gt h1.peers r1.o.who.toNat).life, ((gt h1.peers r1.o.who.toNat).seq + 1), (gt h1.peers r1.o.who.toNat).roots⟩ : Peer))⟩ : Hub), 0))
 | pn1 :: rn1 => (bif decide ((⟨pn1.o.time, pn1.o.who⟩ : Stamp) = (⟨r1.o.time, r1.o.who⟩ : Stamp)) then ((⟨(⟨[], []⟩ : History), 0, ([] : List Peer)⟩ : Hub), 6) else (d6 h1 r1 rn1))
def aY (h1 : Hub) (r1 : Rec) : Hub × Int :=
 (bif (h1.version == 60) then ((⟨(⟨[], []⟩ : History), 0, ([] : List Peer)⟩ : Hub), 2) else (bif (r1.kind == 1) then (bif ((r1.o.life != (gt h1.peers r1.o.who.toNat).life) || (r1.o.seq != ((gt h1.peers r1.o.who.toNat).seq + 1))) then ((⟨(⟨[], []⟩ : History), 0, ([] : List Peer)⟩ : Hub), 7) else (d6 h1 r1 h1.h.l)) else (bif (r1.kind == 2) then (bif (((gt h1.peers r1.who.toNat).life + 1) != r1.life) then ((⟨(⟨[], []⟩ : History), 0, ([] : List Peer)⟩ : Hub), 7) else ((⟨h1.h, (h1.version + 1), (h1.peers.set r1.who.toNat (⟨r1.life, 0, ([] : List Int)⟩ : Peer))⟩ : Hub), 0)) else (bif (r1.kind == 3) then (bif decide ((gt h1.peers r1.who.toNat).life < 1) then ((⟨(⟨[], []⟩ : History), 0, ([] : List Peer)⟩ : Hub), 5) else ((⟨h1.h, (h1.version + 1), (h1.peers.set r1.who.toNat (⟨(gt h1.peers r1.who.toNat).life, (gt h1.peers r1.who.toNat).seq, r1.roots⟩ : Peer))⟩ : Hub), 0)) else ((⟨h1.h, (h1.version + 1), h1.peers⟩ : Hub), 0)))))
theorem lL (y1 : SlV) (y2 : SlV) (y3 : SlV) (h1 : Hub) (y4 : SlV) (r1 : Rec) (hk : dt h1 = 0) (hn : aK r1 = 0) : Does Tryz.prog 50 [.agg ⟨cB y1 y2 y3 h1⟩, .agg ⟨cR y4 r1⟩] [RdL EStep y1 h1.h.l, RdL EPlace y2 h1.h.t, RdN NPeer y3 h1.peers, RdL EInt y4 r1.roots] (fun (X : SlV × SlV × SlV) => .tuple #[.agg ⟨cB X.1 X.2.1 X.2.2 (aY h1 r1).1⟩, .int .i64 (aY h1 r1).2]) (fun X => [RdL EStep X.1 (aY h1 r1).1.h.l, RdL EPlace X.2.1 (aY h1 r1).1.h.t, RdN NPeer X.2.2 (aY h1 r1).1.peers]) := by
 refine Dp aH Tryz.func50 Tryz.ntmps50 Tryz.results50 fun C => ?_
 refine Pc EStep y1 h1.h.l 88 fun hlen1 => ?_
 refine Pc EPlace y2 h1.h.t 24 fun hlen2 => ?_
 refine Pn NPeer y3 h1.peers 40 fun hlen3 => ?_
 refine Pc EInt y4 r1.roots 8 fun hlen4 => ?_
 have hcl := go hk
 have hcq := ln hcl.1
 have hnw := qf hn
 have hpb := mZ hk
 have hpl := hcl.2.2.2
 have hol := mU h1.h
 refine BxT fun g1 => ?_
 refine BxT fun g2 => ?_
 refine AlT fun g3 => ?_
 have hf := Ri (aY.eq_1 h1 r1)
 refine Ce hf (fun hc1 hc1p hf => ?_) fun hc1 hc1p hf => ?_
 ·refine Tx ?_
  refine Fc EStep ?_
  refine Fc EPlace ?_
  refine Ft NPeer ?_
  refine Rx ?_; exact Re ⟨Z0, Z0, Z0⟩ Rv
 ·refine Bl NPeer.E [] fun x1 x1b => ?_
  refine Tx ?_
  refine e8 NPeer (X := y3) (l := h1.peers) Mm fun (γ1 : Nat → SlV) => ?_
  refine uJ NPeer γ1 h1.peers (b := x1b) .sq (fun _ _ => .inl ⟨_, rfl⟩) (am rfl) rfl rfl rfl rfl rfl rfl rfl (fun _ _ => Uo) rfl rfl rfl rfl rfl rfl rfl (mP (EN := NPeer) (X := y3) (γ := γ1) (l := h1.peers) Mm) (by show h1.peers.length * 40 ≤ 140737488355328; omega) fun x2 x2b => ?_
  refine AlT fun g4 => ?_
  refine Ce hf (fun hc2 hc2p hf => ?_) fun hc2 hc2p hf => ?_
  ·have hw1 := hnw.1 (eq_of_beq hc2)
   have hsb := (hpb (gt h1.peers r1.o.who.toNat) (im (by omega))).1
   refine Tx ?_
   refine Oq NPeer.E x2 (zipG γ1 0 h1.peers) .sq (fQ NPeer γ1 r1.o.who.toNat rfl rfl Zf rfl Zf rfl rfl rfl (.head _) rfl Zo Za) ?_
   refine Tx ?_
   (repeat refine aI ?_); refine aq (fun _ => some []) ?_
   refine Dx (.range 6) ?_
   refine Oq NPeer.E x2 (zipG γ1 0 h1.peers) (Fb 6 []) (iy NPeer γ1 (v := .int .i64 (gt h1.peers r1.o.who.toNat).life) rfl rfl Zf rfl rfl (.head _) Za rfl) ?_
   refine Dx (.range' 7 8) ?_
   refine pC NPeer.E (e := 84) (X := x2) (b := x2b) (l := zipG γ1 0 h1.peers) Mm (.ab (i := 15) (js := []) [16, 17, 18] rfl Kr Kr Kr Kr Kr) (eC rfl rfl rfl) rfl rfl (iy NPeer γ1 (v := .int .i64 (gt h1.peers r1.o.who.toNat).seq) rfl rfl Bt rfl rfl (.head _) (by first | (intro _; first | assumption | omega | (simp only [List.length_set]; omega)) | (intro h; simp at h; omega)) rfl) ?_
   refine Dx [16,17,18] ?_
   refine Re0 ?_
   refine Ch hf (fun hc3 hf => ?_) fun hc3 hf => ?_
   ·refine Tx ?_
    refine Fc EStep ?_
    refine Fc EPlace ?_
    refine Ft NPeer ?_
    refine Rx ?_; exact Re ⟨Z0, Z0, Z0⟩ Rv
   ·refine Lq Nat [2,3,4,5,7,8,60,61] [true, true, true, true] (fun n1 => ⟨[(62, .v (.int .i64 (n1 : Int)))], [], [ownL NPeer.E 84 x2 x2b (zipG γ1 0 h1.peers)], [], (n1 ≤ h1.h.l.length) ∧ (d6 h1 r1 (h1.h.l.drop n1)) = (aY h1 r1), h1.h.l.length - n1⟩) 0 ⟨Nat.zero_le _, hf.symm⟩ ?_
    rintro n1 ⟨hkn1, hf1⟩
    simp only [Lc]
    refine Cu (fun hlt0 => ?_) fun hge0 => ?_
    ·refine Sy Tz (Xi EStep n1) ?_
     refine Sq (Xa EStep) ?_
     refine AlT fun g5 => ?_
     refine Sy Tz (q_eqE q6 (m0 (⟨(gt h1.h.l n1).o.time, (gt h1.h.l n1).o.who⟩ : Stamp) (⟨r1.o.time, r1.o.who⟩ : Stamp)) rfl rfl Zf rfl Zf rfl rfl) ?_
     refine eo ?_
     have hf := Ri hf1.symm
     rw [aU hlt0, d6] at hf
     refine Cp hf (fun hc5 hc5p hf => ?_) fun hc5 hc5p hf => ?_
     ·refine Tx ?_
      refine Fc EStep ?_
      refine Fc EPlace ?_
      refine Ft NPeer ?_
      refine Rx ?_; exact Re ⟨Z0, Z0, Z0⟩ Rv
     ·refine Tt ?_
      refine ⟨(n1 + 1), ⟨hlt0, hf.symm⟩, Oo, Le4⟩
    ·refine Tx ?_
     refine Jn (Nat × SlV × SlV) [4, 5, 7, 8] [true, true, true, true] (fun ⟨g6, x3, x4⟩ => ⟨[(11, .v (.pointer (some ⟨g6, 0, none⟩))), (12, .v (.int .i64 (au ((ak h1.h) ++ [r1.o])).2))], [⟨g6, 27, [x3.val (au ((ak h1.h) ++ [r1.o])).1.l.length, x4.val (au ((ak h1.h) ++ [r1.o])).1.t.length]⟩], [ownL NPeer.E 84 x2 x2b (zipG γ1 0 h1.peers)], [RdL EStep x3 (au ((ak h1.h) ++ [r1.o])).1.l, RdL EPlace x4 (au ((ak h1.h) ++ [r1.o])).1.t], True, 0⟩) ?_ ?_
     ·refine aq (fun j => match j with | 6 => none | 12 => none | _ => some []) ?_
      refine Dx [0,1,3,4] ?_
      refine yR 2 5 11 Kr ?_ ?_ ?_
      ·refine Cm (eK y1 y2 h1.h) fun x5 => ?_
       refine Rw 5 11 ?_ ?_
       ·refine Bl EOp [r1.o] fun x6 x6b => ?_
        refine Rw 6 11 ?_ ?_
        ·refine Ap EOp 56 (ak h1.h) [r1.o] x5.2 fun x7 x7b => ?_
         refine Rw 7 11 ?_ ?_
         ·refine rw_le (ao EOp 76 x7 x7b ((ak h1.h) ++ [r1.o]) Uo) ?_
          refine Ck (ce x7 ((ak h1.h) ++ [r1.o])) fun x8 => ?_
          refine Pr EStep x8.1 (au ((ak h1.h) ++ [r1.o])).1.l 88 fun hlen5 => ?_
          refine Pr EPlace x8.2 (au ((ak h1.h) ++ [r1.o])).1.t 24 fun hlen6 => ?_
          refine Dx [8,9] ?_
          refine ra_p (Fa 10 [11,12]) rfl rfl rfl Xv ?_
          refine Rn 11 ?_
          refine bP (.an rfl rfl) (am rfl) rfl rfl rfl rfl fun g7 => ?_
          refine Rn 12 ?_
          refine Wa ?_
          refine Ra 13 rfl Qp ?_
          refine Re0 ?_
          refine ⟨⟨g7, x8.1, x8.2⟩, trivial, Le4⟩
         ·refine bP (.an rfl rfl) (am rfl) rfl rfl rfl rfl fun g8 => ?_
          refine Rn 7 ?_
          refine rw_le (ao EOp 76 x7 x7b ((ak h1.h) ++ [r1.o]) Uo) ?_
          refine Ck (ce x7 ((ak h1.h) ++ [r1.o])) fun x9 => ?_
          refine Pr EStep x9.1 (au ((ak h1.h) ++ [r1.o])).1.l 88 fun hlen7 => ?_
          refine Pr EPlace x9.2 (au ((ak h1.h) ++ [r1.o])).1.t 24 fun hlen8 => ?_
          refine Dx [8,9] ?_
          refine ra_p (Fa 10 [12]) rfl rfl rfl Xv ?_
          refine Rn 12 ?_
          refine Wa ?_
          refine Ra 13 rfl Qp ?_
          refine Re0 ?_
          refine ⟨⟨g8, x9.1, x9.2⟩, trivial, Le4⟩
        ·refine bP (.an rfl rfl) (am rfl) rfl rfl rfl rfl fun g9 => ?_
         refine Rn 6 ?_
         refine Ap EOp 56 (ak h1.h) [r1.o] x5.2 fun x10 x10b => ?_
         refine Rn 7 ?_
         refine rw_le (ao EOp 76 x10 x10b ((ak h1.h) ++ [r1.o]) Uo) ?_
         refine Ck (ce x10 ((ak h1.h) ++ [r1.o])) fun x11 => ?_
         refine Pr EStep x11.1 (au ((ak h1.h) ++ [r1.o])).1.l 88 fun hlen9 => ?_
         refine Pr EPlace x11.2 (au ((ak h1.h) ++ [r1.o])).1.t 24 fun hlen10 => ?_
         refine Dx [8,9] ?_
         refine ra_p (Fa 10 [12]) rfl rfl rfl Xv ?_
         refine Rn 12 ?_
         refine Wa ?_
         refine Ra 13 rfl Qp ?_
         refine Re0 ?_
         refine ⟨⟨g9, x11.1, x11.2⟩, trivial, Le4⟩
       ·refine bP (.an rfl rfl) (am rfl) rfl rfl rfl rfl fun g10 => ?_
        refine Rn 5 ?_
        refine Bl EOp [r1.o] fun x12 x12b => ?_
        refine Rn 6 ?_
        refine Ap EOp 56 (ak h1.h) [r1.o] x5.2 fun x13 x13b => ?_
        refine Rn 7 ?_
        refine rw_le (ao EOp 76 x13 x13b ((ak h1.h) ++ [r1.o]) Uo) ?_
        refine Ck (ce x13 ((ak h1.h) ++ [r1.o])) fun x14 => ?_
        refine Pr EStep x14.1 (au ((ak h1.h) ++ [r1.o])).1.l 88 fun hlen11 => ?_
        refine Pr EPlace x14.2 (au ((ak h1.h) ++ [r1.o])).1.t 24 fun hlen12 => ?_
        refine Dx [8,9] ?_
        refine ra_p (Fa 10 [12]) rfl rfl rfl Xv ?_
        refine Rn 12 ?_
        refine Wa ?_
        refine Ra 13 rfl Qp ?_
        refine Re0 ?_
        refine ⟨⟨g10, x14.1, x14.2⟩, trivial, Le4⟩
      ·refine Bl EOp [r1.o] fun x15 x15b => ?_
       refine Rw 2 11 ?_ ?_
       ·refine Cm (eK y1 y2 h1.h) fun x16 => ?_
        refine Rw 6 11 ?_ ?_
        ·refine Ap EOp 56 (ak h1.h) [r1.o] x16.2 fun x17 x17b => ?_
         refine Rw 7 11 ?_ ?_
         ·refine rw_le (ao EOp 76 x17 x17b ((ak h1.h) ++ [r1.o]) Uo) ?_
          refine Ck (ce x17 ((ak h1.h) ++ [r1.o])) fun x18 => ?_
          refine Pr EStep x18.1 (au ((ak h1.h) ++ [r1.o])).1.l 88 fun hlen13 => ?_
          refine Pr EPlace x18.2 (au ((ak h1.h) ++ [r1.o])).1.t 24 fun hlen14 => ?_
          refine Dx [8,9] ?_
          refine ra_p (Fa 10 [11,12]) rfl rfl rfl Xv ?_
          refine Rn 11 ?_
          refine bP (.an rfl rfl) (am rfl) rfl rfl rfl rfl fun g11 => ?_
          refine Rn 12 ?_
          refine Wa ?_
          refine Ra 13 rfl Qp ?_
          refine Re0 ?_
          refine ⟨⟨g11, x18.1, x18.2⟩, trivial, Le4⟩
         ·refine bP (.an rfl rfl) (am rfl) rfl rfl rfl rfl fun g12 => ?_
          refine Rn 7 ?_
          refine rw_le (ao EOp 76 x17 x17b ((ak h1.h) ++ [r1.o]) Uo) ?_
          refine Ck (ce x17 ((ak h1.h) ++ [r1.o])) fun x19 => ?_
          refine Pr EStep x19.1 (au ((ak h1.h) ++ [r1.o])).1.l 88 fun hlen15 => ?_
          refine Pr EPlace x19.2 (au ((ak h1.h) ++ [r1.o])).1.t 24 fun hlen16 => ?_
          refine Dx [8,9] ?_
          refine ra_p (Fa 10 [12]) rfl rfl rfl Xv ?_
          refine Rn 12 ?_
          refine Wa ?_
          refine Ra 13 rfl Qp ?_
          refine Re0 ?_
          refine ⟨⟨g12, x19.1, x19.2⟩, trivial, Le4⟩
        ·refine bP (.an rfl rfl) (am rfl) rfl rfl rfl rfl fun g13 => ?_
         refine Rn 6 ?_
         refine Ap EOp 56 (ak h1.h) [r1.o] x16.2 fun x20 x20b => ?_
         refine Rn 7 ?_
         refine rw_le (ao EOp 76 x20 x20b ((ak h1.h) ++ [r1.o]) Uo) ?_
         refine Ck (ce x20 ((ak h1.h) ++ [r1.o])) fun x21 => ?_
         refine Pr EStep x21.1 (au ((ak h1.h) ++ [r1.o])).1.l 88 fun hlen17 => ?_
         refine Pr EPlace x21.2 (au ((ak h1.h) ++ [r1.o])).1.t 24 fun hlen18 => ?_
         refine Dx [8,9] ?_
         refine ra_p (Fa 10 [12]) rfl rfl rfl Xv ?_
         refine Rn 12 ?_
         refine Wa ?_
         refine Ra 13 rfl Qp ?_
         refine Re0 ?_
         refine ⟨⟨g13, x21.1, x21.2⟩, trivial, Le4⟩
       ·refine bP (.an rfl rfl) (am rfl) rfl rfl rfl rfl fun g14 => ?_
        refine Rn 2 ?_
        refine Cm (eK y1 y2 h1.h) fun x22 => ?_
        refine Rn 6 ?_
        refine Ap EOp 56 (ak h1.h) [r1.o] x22.2 fun x23 x23b => ?_
        refine Rn 7 ?_
        refine rw_le (ao EOp 76 x23 x23b ((ak h1.h) ++ [r1.o]) Uo) ?_
        refine Ck (ce x23 ((ak h1.h) ++ [r1.o])) fun x24 => ?_
        refine Pr EStep x24.1 (au ((ak h1.h) ++ [r1.o])).1.l 88 fun hlen19 => ?_
        refine Pr EPlace x24.2 (au ((ak h1.h) ++ [r1.o])).1.t 24 fun hlen20 => ?_
        refine Dx [8,9] ?_
        refine ra_p (Fa 10 [12]) rfl rfl rfl Xv ?_
        refine Rn 12 ?_
        refine Wa ?_
        refine Ra 13 rfl Qp ?_
        refine Re0 ?_
        refine ⟨⟨g14, x24.1, x24.2⟩, trivial, Le4⟩
      ·refine bP (.an rfl rfl) (am rfl) rfl rfl rfl rfl fun g15 => ?_
       refine Rw 2 5 ?_ ?_
       ·refine Cm (eK y1 y2 h1.h) fun x25 => ?_
        refine Rn 5 ?_
        refine Bl EOp [r1.o] fun x26 x26b => ?_
        refine Rn 6 ?_
        refine Ap EOp 56 (ak h1.h) [r1.o] x25.2 fun x27 x27b => ?_
        refine Rn 7 ?_
        refine rw_le (ao EOp 76 x27 x27b ((ak h1.h) ++ [r1.o]) Uo) ?_
        refine Ck (ce x27 ((ak h1.h) ++ [r1.o])) fun x28 => ?_
        refine Pr EStep x28.1 (au ((ak h1.h) ++ [r1.o])).1.l 88 fun hlen21 => ?_
        refine Pr EPlace x28.2 (au ((ak h1.h) ++ [r1.o])).1.t 24 fun hlen22 => ?_
        refine Dx [8,9] ?_
        refine ra_p (Fa 10 [12]) rfl rfl rfl Xv ?_
        refine Rn 12 ?_
        refine Wa ?_
        refine Ra 13 rfl Qp ?_
        refine Re0 ?_
        refine ⟨⟨g15, x28.1, x28.2⟩, trivial, Le4⟩
       ·refine Bl EOp [r1.o] fun x29 x29b => ?_
        refine Rn 2 ?_
        refine Cm (eK y1 y2 h1.h) fun x30 => ?_
        refine Rn 6 ?_
        refine Ap EOp 56 (ak h1.h) [r1.o] x30.2 fun x31 x31b => ?_
        refine Rn 7 ?_
        refine rw_le (ao EOp 76 x31 x31b ((ak h1.h) ++ [r1.o]) Uo) ?_
        refine Ck (ce x31 ((ak h1.h) ++ [r1.o])) fun x32 => ?_
        refine Pr EStep x32.1 (au ((ak h1.h) ++ [r1.o])).1.l 88 fun hlen23 => ?_
        refine Pr EPlace x32.2 (au ((ak h1.h) ++ [r1.o])).1.t 24 fun hlen24 => ?_
        refine Dx [8,9] ?_
        refine ra_p (Fa 10 [12]) rfl rfl rfl Xv ?_
        refine Rn 12 ?_
        refine Wa ?_
        refine Ra 13 rfl Qp ?_
        refine Re0 ?_
        refine ⟨⟨g15, x32.1, x32.2⟩, trivial, Le4⟩
     ·rintro ⟨g6, x3, x4⟩ -
      simp only [Lc]
      have hf := Ri hf1.symm
      rw [List.drop_of_length_le hge0, d6] at hf
      refine Cn hf (fun hc6 hc6p hf => ?_) fun hc6 hc6p hf => ?_
      ·refine Tx ?_
       refine Fc EStep ?_
       refine Fc EPlace ?_
       refine Ft NPeer ?_
       refine Rx ?_; exact Re ⟨Z0, Z0, Z0⟩ Rv
      ·refine Tx ?_
       refine Wp ?_
       refine Sy Tz Xf ?_
       refine Oq NPeer.E x2 (zipG γ1 0 h1.peers) .sq (iy NPeer γ1 (v := .int .i64 (gt h1.peers r1.o.who.toNat).seq) rfl rfl Zf rfl rfl (.head _) Za rfl) ?_
       refine Sy Tz Xf ?_
       refine Wn NPeer γ1 h1.peers r1.o.who.toNat 1 (γ1 r1.o.who.toNat) (⟨(gt h1.peers r1.o.who.toNat).life, ((gt h1.peers r1.o.who.toNat).seq + 1), (gt h1.peers r1.o.who.toNat).roots⟩ : Peer) x2b ?_
       refine Fg NPeer γ1 h1.peers r1.o.who.toNat 0 ?_
       refine Fu NPeer γ1 h1.peers r1.o.who.toNat (γ1 r1.o.who.toNat) (⟨(gt h1.peers r1.o.who.toNat).life, ((gt h1.peers r1.o.who.toNat).seq + 1), (gt h1.peers r1.o.who.toNat).roots⟩ : Peer) ?_
       have hv1 : x2.val h1.peers.length = x2.val (h1.peers.set r1.o.who.toNat (⟨(gt h1.peers r1.o.who.toNat).life, ((gt h1.peers r1.o.who.toNat).seq + 1), (gt h1.peers r1.o.who.toNat).roots⟩ : Peer)).length := congrArg (SlV.val x2) List.length_set.symm
       try rw [hv1]
       refine Tx ?_
       refine cw_le (ao NPeer.E 84 x2 x2b (zipG (updG γ1 r1.o.who.toNat (γ1 r1.o.who.toNat)) 0 (h1.peers.set r1.o.who.toNat (⟨(gt h1.peers r1.o.who.toNat).life, ((gt h1.peers r1.o.who.toNat).seq + 1), (gt h1.peers r1.o.who.toNat).roots⟩ : Peer))) Uo) ?_
       refine Fj NPeer x2 (updG γ1 r1.o.who.toNat (γ1 r1.o.who.toNat)) (h1.peers.set r1.o.who.toNat (⟨(gt h1.peers r1.o.who.toNat).life, ((gt h1.peers r1.o.who.toNat).seq + 1), (gt h1.peers r1.o.who.toNat).roots⟩ : Peer)) ?_
       refine Rx ?_; exact Re ⟨x3, x4, x2⟩ Rv
  ·have hw2 := hnw.2.1 (ne_of_beq_false hc2)
   have hlb := (hpb (gt h1.peers r1.who.toNat) (im (by omega))).1
   refine Ce hf (fun hc7 hc7p hf => ?_) fun hc7 hc7p hf => ?_
   ·(repeat refine aI ?_); refine aq (fun _ => some []) ?_
    refine Dx [0,1,2] ?_
    refine Oq NPeer.E x2 (zipG γ1 0 h1.peers) (Fb 3 [7,8]) (fQ NPeer γ1 r1.who.toNat rfl rfl Zf rfl Zf rfl rfl rfl (.head _) rfl Zo Za) ?_
    refine Rb 4 rfl Xf ?_
    refine Oq NPeer.E x2 (zipG γ1 0 h1.peers) (Fb 5 [7,8]) (iy NPeer γ1 (v := .int .i64 (gt h1.peers r1.who.toNat).life) rfl rfl Zf rfl rfl (.head _) Za rfl) ?_
    refine Dx [6,7,8,9] ?_
    refine Re0 ?_
    refine Cn hf (fun hc8 hc8p hf => ?_) fun hc8 hc8p hf => ?_
    ·refine Tx ?_
     refine Fc EStep ?_
     refine Fc EPlace ?_
     refine Ft NPeer ?_
     refine Rx ?_; exact Re ⟨Z0, Z0, Z0⟩ Rv
    ·refine Tx ?_
     refine Oq NPeer.E x2 (zipG γ1 0 h1.peers) .sq (fQ NPeer γ1 r1.who.toNat rfl rfl Zf rfl Zf rfl rfl rfl (.head _) rfl Zo Za) ?_
     refine Fr EInt ?_
     refine Wn NPeer γ1 h1.peers r1.who.toNat 0 Z0 (⟨r1.life, 0, ([] : List Int)⟩ : Peer) x2b ?_
     refine Fu NPeer γ1 h1.peers r1.who.toNat Z0 (⟨r1.life, 0, ([] : List Int)⟩ : Peer) ?_
     have hv2 : x2.val h1.peers.length = x2.val (h1.peers.set r1.who.toNat (⟨r1.life, 0, ([] : List Int)⟩ : Peer)).length := congrArg (SlV.val x2) List.length_set.symm
     try rw [hv2]
     refine Tx ?_
     refine cw_le (ao NPeer.E 84 x2 x2b (zipG (updG γ1 r1.who.toNat Z0) 0 (h1.peers.set r1.who.toNat (⟨r1.life, 0, ([] : List Int)⟩ : Peer))) Uo) ?_
     refine Fj NPeer x2 (updG γ1 r1.who.toNat Z0) (h1.peers.set r1.who.toNat (⟨r1.life, 0, ([] : List Int)⟩ : Peer)) ?_
     refine Rx ?_; exact Re ⟨y1, y2, x2⟩ Rv
   ·refine Ce hf (fun hc9 hc9p hf => ?_) fun hc9 hc9p hf => ?_
    ·refine Tx ?_
     refine Oq NPeer.E x2 (zipG γ1 0 h1.peers) .sq (fQ NPeer γ1 r1.who.toNat rfl rfl Zf rfl Zf rfl rfl rfl (.head _) rfl Zo Za) ?_
     refine Sq Xf ?_
     refine Oq NPeer.E x2 (zipG γ1 0 h1.peers) .sq (iy NPeer γ1 (v := .int .i64 (gt h1.peers r1.who.toNat).life) rfl rfl Zf rfl rfl (.head _) Za rfl) ?_
     refine Cp hf (fun hc10 hc10p hf => ?_) fun hc10 hc10p hf => ?_
     ·refine Tx ?_
      refine Fc EStep ?_
      refine Fc EPlace ?_
      refine Ft NPeer ?_
      refine Rx ?_; exact Re ⟨Z0, Z0, Z0⟩ Rv
     ·refine Tx ?_
      refine Oq NPeer.E x2 (zipG γ1 0 h1.peers) .sq (fQ NPeer γ1 r1.who.toNat rfl rfl Zf rfl Zf rfl rfl rfl (.head _) rfl Zo Za) ?_
      refine Sq Xf ?_
      refine Wn NPeer γ1 h1.peers r1.who.toNat 2 y4 (⟨(gt h1.peers r1.who.toNat).life, (gt h1.peers r1.who.toNat).seq, r1.roots⟩ : Peer) x2b ?_
      refine Fu NPeer γ1 h1.peers r1.who.toNat y4 (⟨(gt h1.peers r1.who.toNat).life, (gt h1.peers r1.who.toNat).seq, r1.roots⟩ : Peer) ?_
      have hv3 : x2.val h1.peers.length = x2.val (h1.peers.set r1.who.toNat (⟨(gt h1.peers r1.who.toNat).life, (gt h1.peers r1.who.toNat).seq, r1.roots⟩ : Peer)).length := congrArg (SlV.val x2) List.length_set.symm
      try rw [hv3]
      refine Tx ?_
      refine cw_le (ao NPeer.E 84 x2 x2b (zipG (updG γ1 r1.who.toNat y4) 0 (h1.peers.set r1.who.toNat (⟨(gt h1.peers r1.who.toNat).life, (gt h1.peers r1.who.toNat).seq, r1.roots⟩ : Peer))) Uo) ?_
      refine Fj NPeer x2 (updG γ1 r1.who.toNat y4) (h1.peers.set r1.who.toNat (⟨(gt h1.peers r1.who.toNat).life, (gt h1.peers r1.who.toNat).seq, r1.roots⟩ : Peer)) ?_
      refine Rx ?_; exact Re ⟨y1, y2, x2⟩ Rv
    ·refine Tx ?_
     refine cw_le (ao NPeer.E 84 x2 x2b (zipG γ1 0 h1.peers) Uo) ?_
     refine Fj NPeer x2 γ1 h1.peers ?_
     refine Rx ?_; exact Re ⟨y1, y2, x2⟩ Rv
end Go.Proofs.YtkjccbdeaflekaaGreatDoor

namespace Go.Proofs.YtkjccbdeaflekaaGreatDoor
open Go Go.Proofs.YtkjccbdeaflekaaGreatDoor.Fw Go.Proofs
def fb (h1 : History) : Int :=
 (bif (((au (ak h1)).2 == 0) && (!(fj (au (ak h1)).1 h1))) then 4 else (au (ak h1)).2)
def co (h1 : History) (o1 : Op) : List Step → (History × Int)
 | [] => ((au ((ak h1) ++ [o1])).1, (au ((ak h1) ++ [o1])).2)
 | pn1 :: rn1 => (bif decide ((⟨pn1.o.time, pn1.o.who⟩ : Stamp) = (⟨o1.time, o1.who⟩ : Stamp)) then ((⟨([] : List Step), ([] : List Place)⟩ : History), 6) else (co h1 o1 rn1))
def iq (h1 : History) (o1 : Op) : History × Int :=
 (bif ((fb h1) != 0) then ((⟨([] : List Step), ([] : List Place)⟩ : History), (fb h1)) else (bif ((aJ o1) != 0) then ((⟨([] : List Step), ([] : List Place)⟩ : History), (aJ o1)) else (co h1 o1 h1.l)))
def rk (o : Op) : Int := d9 (⟨o.time, o.who⟩ : Stamp)
theorem rk_eq (o : Op) : rk o = o.time * 3 + o.who := rfl
theorem rk_lt {a b : Op} (ha : chkO a = 0) (hb : chkO b = 0) : rk a < rk b ↔ before a b = true := by
 have h1 := ky ha
 have h2 := ky hb
 rw [lx, rk_eq, rk_eq]; omega
theorem rk_inj {a b : Op} (ha : chkO a = 0) (hb : chkO b = 0) (h : rk a = rk b) : stamp a = stamp b := by
 have h1 := ky ha
 have h2 := ky hb
 rw [rk_eq, rk_eq] at h
 unfold stamp
 congr 1 <;> omega
theorem k7 (l : List Op) (last : Int) : ∀ (r : List Op) (n : Nat) (best : Int), r = l.drop n → (best = -1 ∧ (∀ i, i < n → i < l.length → rk (gt l i) ≤ last) ∨ (0 ≤ best ∧ best < l.length ∧ rk (gt l best.toNat) > last ∧ ∀ i, i < n → i < l.length → rk (gt l i) > last → rk (gt l best.toNat) ≤ rk (gt l i))) →
  let b := aj l last r n best
  (b = -1 ∧ (∀ i, i < l.length → rk (gt l i) ≤ last) ∨ (0 ≤ b ∧ b < l.length ∧ rk (gt l b.toNat) > last ∧ ∀ i, i < l.length → rk (gt l i) > last → rk (gt l b.toNat) ≤ rk (gt l i)))
 | [], n, best, hd, h => by
  have hn : l.length ≤ n := by have := congrArg List.length hd; simp at this; omega
  simp only [aj]
  rcases h with ⟨h1, h2⟩ | ⟨h1, h2, h3, h4⟩
  ·exact .inl ⟨h1, fun i hi => h2 i (by omega) hi⟩
  ·exact .inr ⟨h1, h2, h3, fun i hi => h4 i (by omega) hi⟩
 | p :: r, n, best, hd, h => by
  have hn : n < l.length := by
   rcases Nat.lt_or_ge n l.length with h | h
   ·exact h
   ·rw [List.drop_of_length_le h] at hd; cases hd
  rw [aU hn] at hd
  obtain ⟨rfl, hd'⟩ := List.cons.inj hd
  simp only [aj]
  simp only [show ∀ o : Op, d9 (⟨o.time, o.who⟩ : Stamp) = rk o from fun _ => rfl]
  cases hc : (decide (rk (gt l n) > last) && (decide (best < 0) || decide (rk (gt l n) < rk (gt l best.toNat)))) with
  | true =>
   simp only [Bool.and_eq_true, Bool.or_eq_true, decide_eq_true_eq] at hc
   simp only [cond_true]
   refine k7 l last r (n + 1) (n : Int) hd' (.inr ⟨by omega, by omega, by simpa using hc.1, fun i hi hil hgt => ?_⟩)
   rw [show (n : Int).toNat = n by simp]
   by_cases hin : i = n
   ·rw [hin]; exact Int.le_refl _
   ·rcases h with ⟨h1, h2⟩ | ⟨h1, h2, h3, h4⟩
    ·have := h2 i (by omega) hil; omega
    ·have := h4 i (by omega) hil hgt
     rcases hc.2 with hc2 | hc2 <;> omega
  | false =>
   simp only [Bool.and_eq_false_iff, Bool.or_eq_false_iff, decide_eq_false_iff_not] at hc
   simp only [cond_false]
   refine k7 l last r (n + 1) best hd' ?_
   rcases h with ⟨h1, h2⟩ | ⟨h1, h2, h3, h4⟩
   ·refine .inl ⟨h1, fun i hi hil => ?_⟩
    by_cases hin : i = n
    ·rw [hin]; omega
    ·exact h2 i (by omega) hil
   ·refine .inr ⟨h1, h2, h3, fun i hi hil hgt => ?_⟩
    by_cases hin : i = n
    ·rw [hin] at hgt ⊢; omega
    ·exact h4 i (by omega) hil hgt
theorem qH : ∀ {A B : List Op}, A.Nodup → (∀ x ∈ A, x ∈ B) → B.length ≤ A.length → A.Perm B
 | [], B, _, _, hl => by
  have : B = [] := List.length_eq_zero_iff.1 (by simpa using hl)
  rw [this]
 | a :: A, B, hn, hs, hl => by
  obtain ⟨hna, hn'⟩ := List.nodup_cons.1 hn
  have ha := hs a (.head _)
  have h1 : ∀ x ∈ A, x ∈ B.erase a := fun x hx => (List.mem_erase_of_ne (fun e : x = a => hna (by rw [← e]; exact hx))).2 (hs x (.tail _ hx))
  have h2 : (B.erase a).length = B.length - 1 := List.length_erase_of_mem ha
  simp only [List.length_cons] at hl
  exact ((qH hn' h1 (by omega)).cons a).trans (List.perm_cons_erase ha).symm
theorem Rise.nodup {l : List Op} (h : Rise l) : l.Nodup := h.imp fun {a b} hab e => by rw [e, wO] at hab; cases hab
theorem nM (l : List Op) (hc : ∀ o ∈ l, chkO o = 0) : ∀ (f : Nat) (last : Int) (P : List Op), l.length - P.length < f → P.length ≤ l.length → Rise P → (∀ p ∈ P, p ∈ l) → (∀ p ∈ P, rk p ≤ last) → (∀ o ∈ l, rk o ≤ last → ∃ p ∈ P, stamp p = stamp o) →
  (cx l f last (run e0 P).l (run e0 P).t = (e0, 6) ∧ ¬ Dist l) ∨ ∃ S, Rise S ∧ S.Perm l ∧ cx l f last (run e0 P).l (run e0 P).t = (run e0 S, 0)
 | 0, _, _, h, _, _, _, _, _ => by omega
 | f + 1, last, P, hf, hl, hr, hs, hle, hall => by
  have hlen : (run e0 P).l.length = P.length := by rw [xf]; simp [e0]
  have hcP : ∀ p ∈ P, chkO p = 0 := fun p hp => hc p (hs p hp)
  rw [cx]
  cases h1 : decide (((run e0 P).l.length : Int) < (l.length : Int)) with
  | false =>
   have h1 := of_decide_eq_false h1
   exact .inr ⟨P, hr, qH hr.nodup hs (by omega), rfl⟩
  | true =>
   have h1 := of_decide_eq_true h1
   simp only [cond_true]
   have hb := k7 l last l 0 (-1) rfl (.inl ⟨rfl, fun i hi => by omega⟩)
   simp only at hb
   generalize aj l last l 0 (-1) = b at hb ⊢
   rcases hb with ⟨hb1, hb2⟩ | ⟨hb1, hb2, hb3, hb4⟩
   ·left
    have : decide (b < 0) = true := decide_eq_true (by omega)
    rw [this]
    refine ⟨rfl, fun hd => ?_⟩
    have hsub : ∀ s ∈ l.map stamp, s ∈ P.map stamp := fun s hs' => by
     obtain ⟨o, ho, rfl⟩ := List.mem_map.1 hs'
     obtain ⟨i, hi, rfl⟩ := List.getElem_of_mem ho
     obtain ⟨p, hp, he⟩ := hall _ (List.getElem_mem hi) (by have := hb2 i hi; rwa [gt_eq hi] at this)
     exact List.mem_map.2 ⟨p, hp, he⟩
    have hle2 : (l.map stamp).length ≤ (P.map stamp).length := by
     have : ∀ (A B : List Stamp), A.Nodup → (∀ x ∈ A, x ∈ B) → A.length ≤ B.length := by
      intro A
      induction A with
      | nil => intro B _ _; simp
      | cons a A ih =>
       intro B hn hs
       obtain ⟨hna, hn'⟩ := List.nodup_cons.1 hn
       have ha := hs a (.head _)
       have h3 := ih (B.erase a) hn' fun x hx => (List.mem_erase_of_ne (fun e : x = a => hna (by rw [← e]; exact hx))).2 (hs x (.tail _ hx))
       rw [List.length_erase_of_mem ha] at h3
       have : 0 < B.length := List.length_pos_of_mem ha
       simp only [List.length_cons]; omega
     exact this _ _ hd hsub
    simp only [List.length_map] at hle2
    omega
   ·have : decide (b < 0) = false := decide_eq_false (by omega)
    rw [this]
    simp only [cond_false]
    have hbm : gt l b.toNat ∈ l := im (by omega)
    have hbc := hc _ hbm
    have hT : gQ (run e0 P).t := (eG _).1 (qc P e0 rfl hcP)
    rw [uk hT (by rw [gf]; exact hbc)]
    have hP' : run e0 (P ++ [gt l b.toNat]) = ⟨(run e0 P).l ++ [(fC (run e0 P).t (gt l b.toNat)).2.1], (fC (run e0 P).t (gt l b.toNat)).1⟩ := qd P _
    have ih := nM l hc f (rk (gt l b.toNat)) (P ++ [gt l b.toNat]) (by simp; omega) (by simp; omega) (List.pairwise_append.2 ⟨hr, by simp, fun p hp q hq => by
     rw [List.mem_singleton] at hq
     rw [hq]
     exact (rk_lt (hcP p hp) hbc).1 (by have := hle p hp; omega)⟩) (fun p hp => by
     rcases List.mem_append.1 hp with hp | hp
     ·exact hs p hp
     ·rw [List.mem_singleton] at hp; rw [hp]; exact hbm) (fun p hp => by
     rcases List.mem_append.1 hp with hp | hp
     ·have := hle p hp; omega
     ·rw [List.mem_singleton] at hp; rw [hp]; exact Int.le_refl _) (fun o ho hro => by
     by_cases hlast : rk o ≤ last
     ·obtain ⟨p, hp, he⟩ := hall o ho hlast
      exact ⟨p, List.mem_append_left _ hp, he⟩
     ·obtain ⟨i, hi, rfl⟩ := List.getElem_of_mem ho
      have h5 := hb4 i hi (by rw [gt_eq hi]; omega)
      rw [gt_eq hi] at h5
      exact ⟨gt l b.toNat, by simp, rk_inj hbc (hc _ ho) (by omega)⟩)
    rw [hP'] at ih
    exact ih
theorem pW (l : List Op) : ∀ r : List Op, (∀ o ∈ r, chkO o = 0) → di l r = cx l (l.length + 1) (-1) [] []
 | [], _ => rfl
 | o :: r, h => by
  rw [di, gf, h o (.head _)]
  exact pW l r fun q hq => h q (.tail _ hq)
theorem o3 (l : List Op) : ∀ r : List Op, (∃ o ∈ r, chkO o ≠ 0) → di l r = (e0, 3)
 | [], h => by obtain ⟨o, h, _⟩ := h; cases h
 | o :: r, h => by
  rw [di, gf]
  rcases ye o with h0 | h0
  ·rw [h0]
   refine o3 l r ?_
   obtain ⟨q, hq, hne⟩ := h
   rcases List.mem_cons.1 hq with rfl | hq
   ·exact absurd h0 hne
   ·exact ⟨q, hq, hne⟩
  ·rw [h0]; rfl
theorem ux (l : List Op) : au l = bx l := by
 rcases Nat.lt_or_ge 30 l.length with h1 | h1
 ·rw [rx h1]
  unfold au
  have : decide ((l.length : Int) > 30) = true := by simp; omega
  rw [this]; rfl
 have h30 : decide ((l.length : Int) > 30) = false := by simp; omega
 unfold au
 rw [h30, cond_false]
 by_cases hc : ∃ o ∈ l, chkO o ≠ 0
 ·rw [wm h1 hc, o3 l l hc]
 have hc : ∀ o ∈ l, chkO o = 0 := fun o ho => Classical.byContradiction fun hn => hc ⟨o, ho, hn⟩
 rw [pW l l hc]
 have hrk : ∀ o ∈ l, ¬ rk o ≤ -1 := fun o ho => by have := ky (hc o ho); rw [rk_eq]; omega
 rcases nM l hc (l.length + 1) (-1) [] (by simp) (by simp) (by simp [Rise]) (by simp) (by simp) (fun o ho h => absurd h (hrk o ho)) with ⟨h2, h3⟩ | ⟨S, h2, h3, h4⟩
 ·rw [sB h1 hc h3]; exact h2
 ·rw [tA h1 hc ((Dist.perm h3).1 h2.dist), pB h1 h2 h3]; exact h4
theorem wh (h : History) : ak h = dp h := by
 have key : ∀ (l : List Step) (acc : List Op), cm l acc = ed l acc := by
  intro l
  induction l with
  | nil => intro acc; rfl
  | cons p r ih => intro acc; rw [cm, ed, ih]
 exact key _ _
theorem nf (h : History) : fb h = bq h := by
 unfold fb bq
 rw [wh, ux]; rfl
theorem ve (h : History) (o : Op) : iq h o = ew h o := by
 unfold iq
 rw [nf, gf]
 by_cases hc : bq h = 0
 ·have hh := (o4 h).1 hc
  rw [hc, uw hh]
  cases h1 : chkO o != 0 with
  | true => rfl
  | false =>
   have ho := ai h1
   simp only [bne_self_eq_false, cond_false]
   have key : ∀ r : List Step, co h o r = bif (r.map (·.o)).any (fun q => decide (stamp q = stamp o)) then (e0, 6) else ((au ((ak h) ++ [o])).1, (au ((ak h) ++ [o])).2) := by
    intro r
    induction r with
    | nil => rfl
    | cons s r ih =>
     rw [co, List.map_cons, List.any_cons, ih]
     show (bif decide (stamp s.o = stamp o) then _ else _) = _
     cases decide (stamp s.o = stamp o) <;> rfl
   rw [key]
   cases h2 : (h.l.map (·.o)).any (fun q => decide (stamp q = stamp o)) with
   | true => rfl
   | false =>
    simp only [cond_false]
    have hne := xK h2
    have hck : ∀ q ∈ h.l.map (·.o) ++ [o], chkO q = 0 := fun q hq => by
     rcases List.mem_append.1 hq with hq | hq
     ·exact hh.ok q hq
     ·rw [List.mem_singleton] at hq; rw [hq]; exact ho
    rw [wh, jr, ux]
    have hl := hh.len
    cases h3 : (h.l.map (·.o)).length == 30 with
    | true =>
     have h3 : (h.l.map (·.o)).length = 30 := by simpa using h3
     rw [rx (by simp only [List.length_append, List.length_cons, List.length_nil]; omega)]; rfl
    | false =>
     have h3 : (h.l.map (·.o)).length ≠ 30 := by simpa using h3
     rw [tA (by simp only [List.length_append, List.length_cons, List.length_nil]; omega) hck (ul hh.rise.dist hne)]
     rfl
 ·rw [sA hc]
  have : (bq h != 0) = true := by simpa using hc
  rw [this]; rfl
structure TabOf (tb l : List Place) : Prop where
 len : tb.length = 16
 no : ∀ n : Nat, 1 ≤ n → n < 16 → (find l n).node = 0 → (gt tb n).parent < 0
 yes : ∀ n : Nat, 1 ≤ n → n < 16 → (find l n).node ≠ 0 → gt tb n = find l n
theorem TabOf.table {l : List Place} (h : Rising l) : TabOf (aN l) l :=
 ⟨kf l, fun n h1 h2 h3 => by rw [(qg h.up h.rng n h1 h2).1 h3]; omega, fun n h1 h2 h3 => (qg h.up h.rng n h1 h2).2 h3⟩
theorem TabOf.places {tb l : List Place} (ht : TabOf tb l) (h : Rising l) : cN tb = l := by
 have hT : Tbl tb := fun n h1 h2 hpar => by
  by_cases hz : (find l n).node = 0
  ·have := ht.no n h1 h2 hz; omega
  ·rw [ht.yes n h1 h2 hz]; exact (jI hz).1
 rw [tT]
 have hg : ∀ q ∈ pl tb 16 0, 1 ≤ q.node := fun q hq => (pl_ge hT 16 0 rfl q hq).2
 refine nq (pl_up hT 16 0 rfl) h.up hg (fun p hp => (h.rng p hp).1) fun n hn => ?_
 obtain ⟨m, rfl⟩ := Int.eq_ofNat_of_zero_le (by omega : 0 ≤ n)
 rw [u0 hT m (by omega) 16 0 rfl]
 by_cases hm : m < 16
 ·by_cases hz : (find l m).node = 0
  ·have := ht.no m (by omega) hm hz
   rw [if_neg (by omega)]
   exact (h.none hz).symm
  ·rw [ht.yes m (by omega) hm hz]
   have := h.par _ (jI hz).2
   rw [if_pos ⟨by omega, hm, by omega⟩]
 ·rw [if_neg (by omega)]
  exact (jH fun q hq e => by have := h.rng q hq; omega).symm
theorem TabOf.put {tb l : List Place} (ht : TabOf tb l) {p : Place} (h1 : 1 ≤ p.node ∧ p.node < 16) (hp : 0 ≤ p.parent) : TabOf (tb.set p.node.toNat p) (putT l p) := by
 have hd : decide (p.parent < 0) = false := decide_eq_false (by omega)
 refine ⟨by simp [ht.len], fun n ha hb hz => ?_, fun n ha hb hz => ?_⟩
 ·rw [hJ] at hz
  rw [pM _ _ _ _ (by rw [ht.len]; omega)]
  cases he : ((n : Int) == p.node) with
  | true =>
   rw [he, cond_true, hd, cond_false] at hz
   omega
  | false =>
   rw [he, cond_false] at hz
   have : (n : Int) ≠ p.node := by simpa using he
   rw [if_neg (by omega)]
   exact ht.no n ha hb hz
 ·rw [hJ] at hz ⊢
  rw [pM _ _ _ _ (by rw [ht.len]; omega)]
  cases he : ((n : Int) == p.node) with
  | true =>
   have : (n : Int) = p.node := by simpa using he
   rw [cond_true, hd, cond_false, if_pos (by omega)]
  | false =>
   rw [he, cond_false] at hz
   have : (n : Int) ≠ p.node := by simpa using he
   rw [if_neg (by omega), cond_false]
   exact ht.yes n ha hb hz
theorem TabOf.drop {tb l : List Place} (ht : TabOf tb l) {n : Int} {q : Place} {p : Place} (h1 : 1 ≤ n ∧ n < 16) (hq : q.parent < 0) (hp : p.parent < 0) (hpn : p.node = n) : TabOf (tb.set n.toNat q) (putT l p) := by
 have hd : decide (p.parent < 0) = true := decide_eq_true hp
 refine ⟨by simp [ht.len], fun m ha hb hz => ?_, fun m ha hb hz => ?_⟩
 ·rw [hJ] at hz
  rw [pM _ _ _ _ (by rw [ht.len]; omega)]
  by_cases he : (m : Int) = p.node
  ·rw [if_pos (by omega)]; exact hq
  ·have : ((m : Int) == p.node) = false := by simpa using he
   rw [this, cond_false] at hz
   rw [if_neg (by omega)]
   exact ht.no m ha hb hz
 ·rw [hJ] at hz ⊢
  rw [pM _ _ _ _ (by rw [ht.len]; omega)]
  by_cases he : (m : Int) = p.node
  ·have : ((m : Int) == p.node) = true := by simpa using he
   rw [this, cond_true, hd, cond_true] at hz
   exact absurd rfl hz
  ·have : ((m : Int) == p.node) = false := by simpa using he
   rw [this, cond_false] at hz ⊢
   rw [if_neg (by omega)]
   exact ht.yes m ha hb hz
theorem TabOf.puts : ∀ (m : List Place) {tb l : List Place}, TabOf tb l → (∀ p ∈ m, (1 ≤ p.node ∧ p.node < 16) ∧ 0 ≤ p.parent) → TabOf (aZ m tb) (m.foldl putT l)
 | [], _, _, h, _ => h
 | p :: r, _, _, h, hm => by
  rw [aZ, List.foldl_cons]
  exact TabOf.puts r (h.put (hm p (.head _)).1 (hm p (.head _)).2) fun q hq => hm q (.tail _ hq)
theorem px : ∀ (a b tb : List Place), aZ (a ++ b) tb = aZ b (aZ a tb)
 | [], _, _ => rfl
 | p :: r, b, tb => px r b _
theorem pz (a b : List Place) : ∀ (f k : Nat) (tb : List Place), bU (a ++ b) f k tb = aZ b (bU a f k tb)
 | 0, k, tb => px a b tb
 | f + 1, k, tb => pz a b f (k + 1) _
theorem wY (a b : List Place) : aN (a ++ b) = aZ b (aN a) := pz a b 16 0 _
end Go.Proofs.YtkjccbdeaflekaaGreatDoor

set_option maxHeartbeats 2000000
namespace Go.Proofs.YtkjccbdeaflekaaGreatDoor
open Go Go.Proofs.YtkjccbdeaflekaaGreatDoor.Fw Go.Proofs
attribute [local irreducible] RW CW
theorem j8 {t : List Place} (h : bk t = 0) : t.length ≤ 15 := lw ((gi t).trans ((kU t).symm.trans h))
theorem cat2 {a b : List Place} {φ : Place → Prop} (ha : ∀ p ∈ a, φ p) (hb : ∀ p ∈ b, φ p) : ∀ p ∈ ([a, b] : List (List Place)).flatten, φ p := fun p hp => by
 simp only [List.flatten_cons, List.flatten_nil, List.append_nil, List.mem_append] at hp
 rcases hp with hp | hp
 ·exact ha p hp
 ·exact hb p hp
def aO (v1 : View) : List Place :=
 (cN (aN ([v1.known, v1.way].flatten)))
theorem jj (y1 : SlV) (y2 : SlV) (y3 : SlV) (v1 : View) (hl : v1.known.length ≤ 1000 ∧ v1.way.length ≤ 1000) (hk : ∀ p ∈ v1.known, 0 ≤ p.node ∧ p.node < 16) (hw : ∀ p ∈ v1.way, 0 ≤ p.node ∧ p.node < 16) : Does Tryz.prog 141 [.agg ⟨cV y1 y2 y3 v1⟩] [RdL EInt y1 v1.roots, RdL EPlace y2 v1.known, RdL EPlace y3 v1.way] (fun (X : SlV) => .agg ⟨[X.val (aO v1).length]⟩) (fun X => [RdL EPlace X (aO v1)]) := by
 refine Dp aH Tryz.func141 Tryz.ntmps141 Tryz.results141 fun C => ?_
 refine Pc EInt y1 v1.roots 8 fun hlen1 => ?_
 refine Pc EPlace y2 v1.known 24 fun hlen2 => ?_
 refine Pc EPlace y3 v1.way 24 fun hlen3 => ?_
 refine BxT fun g1 => ?_
 refine AlT fun g2 => ?_
 refine Bl NPlaces.E [(y2, v1.known), (y3, v1.way)] fun x1 x1b => ?_
 refine rw_le (ao NPlaces.E 23 x1 x1b [(y2, v1.known), (y3, v1.way)] Uo) ?_
 refine dC (F := RdN NPlaces x1 [v1.known, v1.way]) [RdL NPlaces.E x1 [(y2, v1.known), (y3, v1.way)], RdL EPlace y2 v1.known, RdL EPlace y3 v1.way] Sm (fun M w h => RdN.of NPlaces (hs := [(y2, v1.known), (y3, v1.way)]) rfl (h _ (.head _)) (aE (dA Sm h) (aE (dA Sm h) (fun p hp => by cases hp)))) ?_
 refine Cm (kZ x1 [v1.known, v1.way] (by obtain ⟨h1, h2⟩ := hl; simp only [List.flatten_cons, List.flatten_nil, List.append_nil, List.length_append]; omega)) fun x2 => ?_
 refine ol (ji x2.1 ([v1.known, v1.way].flatten) (cat2 hk hw)) .sq (am rfl) rfl rfl rfl Kr rfl rfl (.own Mm (.nil _ _)) ?_
 intro _
 refine Ck (i8 (aN ([v1.known, v1.way].flatten)) (kf _)) fun x3 => ?_
 refine Pr EPlace x3 (cN (aN ([v1.known, v1.way].flatten))) 24 fun hlen4 => ?_
 have hf := Ri (aO.eq_1 v1)
 refine Rx ?_; exact Re x3 Rv
def dG (v1 : View) : Int :=
 (bif ((bs v1.roots) != 0) then (bs v1.roots) else (bif ((bk v1.known) != 0) then (bk v1.known) else (bif ((bk v1.way) != 0) then (bk v1.way) else (bif (((aC (aO v1) v1.roots).2 == 0) && (!(cl v1 (aC (aO v1) v1.roots).1))) then 4 else (aC (aO v1) v1.roots).2))))
theorem il (y1 : SlV) (y2 : SlV) (y3 : SlV) (v1 : View) : Does Tryz.prog 90 [.agg ⟨cV y1 y2 y3 v1⟩] [RdL EInt y1 v1.roots, RdL EPlace y2 v1.known, RdL EPlace y3 v1.way] (fun (_ : Unit) => .int .i64 (dG v1)) (fun _ => []) := by
 refine Dp aH Tryz.func90 Tryz.ntmps90 Tryz.results90 fun C => ?_
 refine Pc EInt y1 v1.roots 8 fun hlen1 => ?_
 refine Pc EPlace y2 v1.known 24 fun hlen2 => ?_
 refine Pc EPlace y3 v1.way 24 fun hlen3 => ?_
 refine BxT fun g1 => ?_
 refine Ck (fA y1 v1.roots) fun _ => ?_
 have hf := Ri (dG.eq_1 v1)
 refine Cn hf (fun hc1 hc1p hf => ?_) fun hc1 hc1p hf => ?_
 ·exact Ru
 ·refine Ck (fL y2 v1.known) fun _ => ?_
  refine Cn hf (fun hc2 hc2p hf => ?_) fun hc2 hc2p hf => ?_
  ·exact Ru
  ·have hct1 := ai hc2
   refine Ck (fL y3 v1.way) fun _ => ?_
   refine Cn hf (fun hc3 hc3p hf => ?_) fun hc3 hc3p hf => ?_
   ·exact Ru
   ·have hct2 := ai hc3
    refine Tx ?_
    refine Jn (Nat × SlV × SlV × SlV) [1, 2] [true] (fun ⟨g2, x1, x2, x3⟩ => ⟨[(6, .v (.pointer (some ⟨g2, 0, none⟩))), (7, .v (.int .i64 (aC (aO v1) v1.roots).2))], [⟨g2, 61, cV x1 x2 x3 (aC (aO v1) v1.roots).1⟩], [], [RdL EInt x1 (aC (aO v1) v1.roots).1.roots, RdL EPlace x2 (aC (aO v1) v1.roots).1.known, RdL EPlace x3 (aC (aO v1) v1.roots).1.way], True, 0⟩) ?_ ?_
    ·refine aq (fun j => match j with | 9 => none | _ => some []) ?_
     refine Dx [0,2,3] ?_
     refine Rw 1 8 ?_ ?_
     ·refine Ck (jj y1 y2 y3 v1 ⟨Nat.le_trans (j8 hct1) (by omega), Nat.le_trans (j8 hct2) (by omega)⟩ (jt hct1) (jt hct2)) fun x4 => ?_
      refine Pr EPlace x4 (aO v1) 24 fun hlen4 => ?_
      refine Rw 4 8 ?_ ?_
      ·refine Ck (eW x4 (aO v1) y1 v1.roots) fun x5 => ?_
       refine Pr EInt x5.1 (aC (aO v1) v1.roots).1.roots 8 fun hlen5 => ?_
       refine Pr EPlace x5.2.1 (aC (aO v1) v1.roots).1.known 24 fun hlen6 => ?_
       refine Pr EPlace x5.2.2 (aC (aO v1) v1.roots).1.way 24 fun hlen7 => ?_
       refine Dx [5,6] ?_
       refine ra_p (Fa 7 [8,9]) rfl rfl rfl Xv ?_
       refine Rn 8 ?_
       refine bP (.an rfl rfl) (am rfl) rfl rfl rfl rfl fun g3 => ?_
       refine Rn 9 ?_
       refine Wa ?_
       refine Ra 10 rfl Qp ?_
       refine Re0 ?_
       refine ⟨⟨g3, x5.1, x5.2.1, x5.2.2⟩, trivial, Le4⟩
      ·refine bP (.an rfl rfl) (am rfl) rfl rfl rfl rfl fun g4 => ?_
       refine Rn 4 ?_
       refine Ck (eW x4 (aO v1) y1 v1.roots) fun x6 => ?_
       refine Pr EInt x6.1 (aC (aO v1) v1.roots).1.roots 8 fun hlen8 => ?_
       refine Pr EPlace x6.2.1 (aC (aO v1) v1.roots).1.known 24 fun hlen9 => ?_
       refine Pr EPlace x6.2.2 (aC (aO v1) v1.roots).1.way 24 fun hlen10 => ?_
       refine Dx [5,6] ?_
       refine ra_p (Fa 7 [9]) rfl rfl rfl Xv ?_
       refine Rn 9 ?_
       refine Wa ?_
       refine Ra 10 rfl Qp ?_
       refine Re0 ?_
       refine ⟨⟨g4, x6.1, x6.2.1, x6.2.2⟩, trivial, Le4⟩
     ·refine bP (.an rfl rfl) (am rfl) rfl rfl rfl rfl fun g5 => ?_
      refine Rn 1 ?_
      refine Ck (jj y1 y2 y3 v1 ⟨Nat.le_trans (j8 hct1) (by omega), Nat.le_trans (j8 hct2) (by omega)⟩ (jt hct1) (jt hct2)) fun x7 => ?_
      refine Pr EPlace x7 (aO v1) 24 fun hlen11 => ?_
      refine Rn 4 ?_
      refine Ck (eW x7 (aO v1) y1 v1.roots) fun x8 => ?_
      refine Pr EInt x8.1 (aC (aO v1) v1.roots).1.roots 8 fun hlen12 => ?_
      refine Pr EPlace x8.2.1 (aC (aO v1) v1.roots).1.known 24 fun hlen13 => ?_
      refine Pr EPlace x8.2.2 (aC (aO v1) v1.roots).1.way 24 fun hlen14 => ?_
      refine Dx [5,6] ?_
      refine ra_p (Fa 7 [9]) rfl rfl rfl Xv ?_
      refine Rn 9 ?_
      refine Wa ?_
      refine Ra 10 rfl Qp ?_
      refine Re0 ?_
      refine ⟨⟨g5, x8.1, x8.2.1, x8.2.2⟩, trivial, Le4⟩
    ·rintro ⟨g2, x1, x2, x3⟩ -
     simp only [Lc]
     refine Cy (fun hG_ => dR y1 y2 y3 v1 x1 x2 x3 (aC (aO v1) v1.roots).1) ?_
     refine Ch hf (fun hc4 hf => ?_) fun hc4 hf => ?_
     ·exact Ru
     ·exact Ru
end Go.Proofs.YtkjccbdeaflekaaGreatDoor

namespace Go.Proofs.YtkjccbdeaflekaaGreatDoor
open Go Go.Proofs.YtkjccbdeaflekaaGreatDoor.Fw Go.Proofs
theorem ml (l : List Int) : ∀ (r : List Int) (k : Nat) (last : Int), r = l.drop k → last = (if k = 0 then -1 else gt l (k - 1)) → bR r last = em l r k
 | [], _, _, _, _ => rfl
 | n :: r, k, last, hr, hl => by
  have hk : k < l.length := by have := congrArg List.length hr; simp at this; omega
  rw [aU hk] at hr
  obtain ⟨hn, hr'⟩ := List.cons.inj hr
  rw [bR, em]
  have h1 : (!(ap n 0 16)) = (decide (n < 0) || decide (n > 16)) := by
   unfold ap
   rw [Bool.eq_iff_iff]
   simp only [Bool.or_eq_true, Bool.not_eq_true', Bool.and_eq_false_iff, decide_eq_false_iff_not, decide_eq_true_eq]
   omega
  rw [h1]
  cases h2 : (decide (n < 0) || decide (n > 16)) with
  | true => rfl
  | false =>
   simp at h2
   have h3 : decide (n ≤ last) = (decide ((k : Int) > 0) && decide (gt l (k - 1) ≥ n)) := by
    rw [Bool.eq_iff_iff]
    simp only [Bool.and_eq_true, decide_eq_true_eq]
    rw [hl]
    by_cases hz : k = 0
    ·subst hz; simp; omega
    ·simp [hz]; omega
   rw [h3, cond_false, cond_false, ml l r (k + 1) n hr' (by simp [hn])]
theorem l7 (l : List Int) : bs l = bT l := by
 unfold bs bT
 rw [ml l l 0 (-1) rfl rfl]
theorem re {l : List Place} (hpar : ∀ p ∈ l, 0 ≤ p.parent ∧ p.parent ≤ 16) : ∀ (f : Nat) (node : Int) (out : List Int), f + out.length = 19 → out.Nodup → (∀ x ∈ out.tail, 0 ≤ x ∧ x ≤ 16) →
  (bf l f node out).Nodup ∧ ∃ s, bf l f node out = out ++ s
 | 0, node, out, hf, hn, ht => by have := m5 hn ht; omega
 | f + 1, node, out, hf, hn, ht => by
  rw [bf]
  cases hb : (((br l node).node == 0) || decide ((br l node).parent ∈ out)) with
  | true => exact ⟨hn, [], by simp⟩
  | false =>
   obtain ⟨h2, h3⟩ := Bool.or_eq_false_iff.1 hb
   obtain ⟨h4, s, h5⟩ := re hpar f (br l node).parent (out ++ [(br l node).parent]) (by simp; omega) (nl hn (by simpa using h3)) (og ht (hpar _ (qX (by simpa using h2))))
   exact ⟨h4, [(br l node).parent] ++ s, by simp only [cond_false]; rw [h5]; simp⟩
theorem wN {l : List Place} (hpar : ∀ p ∈ l, 0 ≤ p.parent ∧ p.parent ≤ 16) (a : Int) : ∃ s, az l a = a :: s ∧ a ∉ s := by
 obtain ⟨h1, s, h2⟩ := re hpar 18 a [a] rfl (by simp) (by simp)
 have h2 : az l a = a :: s := h2
 have h1 : (az l a).Nodup := h1
 rw [h2] at h1
 exact ⟨s, h2, (List.nodup_cons.1 h1).1⟩
theorem nG {l : List Place} (hpar : ∀ p ∈ l, 0 ≤ p.parent ∧ p.parent ≤ 16) (a b : Int) : b ∈ (az l a).drop 1 ↔ a ≠ b ∧ Up l a b := by
 obtain ⟨s, h1, h2⟩ := wN hpar a
 rw [← oy hpar, h1]
 simp only [List.drop_succ_cons, List.drop_zero, List.mem_cons]
 constructor
 ·intro h; exact ⟨fun e => h2 (e ▸ h), .inr h⟩
 ·rintro ⟨h3, h | h⟩
  ·exact absurd h.symm h3
  ·exact h
theorem sn (roots : List Int) : ∀ (l : List Int) (b : Bool), bK roots l b = (b || l.any (fun n => decide (n ∈ roots)))
 | [], b => by simp [bK]
 | n :: r, b => by rw [bK, sn roots r, List.any_cons, Bool.or_assoc]
theorem zt {t : List Place} (hpar : ∀ p ∈ t, 0 ≤ p.parent ∧ p.parent ≤ 16) (n : Int) (roots : List Int) : (az t n).any (fun n => decide (n ∈ roots)) = gC t n roots := by
 rw [Bool.eq_iff_iff, List.any_eq_true]
 unfold gC jv
 rw [List.any_eq_true]
 constructor
 ·rintro ⟨x, h1, h2⟩
  exact ⟨x, by simpa using h2, by rw [gF, iP]; exact (oy hpar _ _).1 h1⟩
 ·rintro ⟨x, h1, h2⟩
  rw [gF, iP] at h2
  exact ⟨x, (oy hpar _ _).2 h2, by simpa using h1⟩
def ups (t : List Place) (roots : List Int) : List Int := roots.flatMap fun r => (az t r).drop 1
theorem zx {t : List Place} (hpar : ∀ p ∈ t, 0 ≤ p.parent ∧ p.parent ≤ 16) (n : Int) (roots : List Int) : decide (n ∈ ups t roots) = iL t n roots := by
 rw [Bool.eq_iff_iff, decide_eq_true_eq]
 unfold ups iL jw
 rw [List.any_eq_true, List.mem_flatMap]
 constructor
 ·rintro ⟨r, h1, h2⟩
  obtain ⟨h3, h4⟩ := (nG hpar r n).1 h2
  exact ⟨r, h1, by rw [Bool.and_eq_true, gF, iP]; exact ⟨by simpa using h3, h4⟩⟩
 ·rintro ⟨r, h1, h2⟩
  rw [Bool.and_eq_true, gF, iP] at h2
  exact ⟨r, h1, (nG hpar r n).2 ⟨by simpa using h2.1, h2.2⟩⟩
theorem nt {t : List Place} (hpar : ∀ p ∈ t, 0 ≤ p.parent ∧ p.parent ≤ 16) (roots : List Int) : ∀ (l known way : List Place), cQ t roots (ups t roots) l known way = fM t roots l known way
 | [], known, way => rfl
 | p :: r, known, way => by
  rw [cQ, fM, sn, Bool.false_or, zt hpar, zx hpar, nt hpar roots r, nt hpar roots r, nt hpar roots r]
theorem so (t : List Place) (roots : List Int) : ∀ (l : List Int) (up : List Int), dM t roots l up = cQ t roots (up ++ ups t l) t [] []
 | [], up => by rw [dM]; simp [ups]
 | r :: l, up => by
  rw [dM, so t roots l]
  simp [ups, List.append_assoc]
theorem yp (t : List Place) (roots : List Int) : aC t roots = cF t roots := by
 unfold aC cF
 rw [kU, gi, l7]
 cases h1 : (dW t != 0) with
 | true => rfl
 | false =>
  have hT := (eG t).1 (ai h1)
  have hpar : ∀ p ∈ t, 0 ≤ p.parent ∧ p.parent ≤ 16 := fun p hp => by have := jC (hT.ok p hp); omega
  cases h2 : (bT roots != 0) with
  | true => rfl
  | false =>
   simp only [cond_false]
   rw [so, List.nil_append, nt hpar]
theorem zH {v : View} (hk : Rising v.known) (hw : Rising v.way) : aO v = cL v := by
 unfold aO
 rw [All_eq]
 simp only [List.flatten_cons, List.flatten_nil, List.append_nil]
 rw [wY]
 have h := TabOf.puts v.way (TabOf.table hk) fun p hp => ⟨hw.rng p hp, hw.par p hp⟩
 exact h.places (Rising.puts _ hk hw.rng)
theorem va (a b : View) : cl a b = fO a b := rfl
theorem pX (v : View) : dG v = cG v := by
 rw [oc]
 unfold dG
 rw [l7, kU, kU]
 cases h0 : (bT v.roots != 0) with
 | true => rfl
 | false =>
  cases h1 : (dW v.known != 0) with
  | true => rfl
  | false =>
   cases h2 : (dW v.way != 0) with
   | true => rfl
   | false =>
    simp only [cond_false]
    rw [zH ((eG _).1 (ai h1)).rising ((eG _).1 (ai h2)).rising, yp, va, yr]
theorem in_iff (n a b : Int) : ap n a b = true ↔ a ≤ n ∧ n ≤ b := by
 simp [ap]
theorem nT (n a b : Int) : ap n a b = false ↔ ¬ (a ≤ n ∧ n ≤ b) := by
 rw [← in_iff]; simp
theorem eZ {α : Type} {c d : Bool} {x y z w : α} (h : c = d) (h1 : d = true → x = y) (h2 : d = false → z = w) : (bif c then x else z) = (bif d then y else w) := by
 subst h
 cases c with
 | true => exact h1 rfl
 | false => exact h2 rfl
theorem rB (r : Rec) : bL r = aK r := by
 unfold bL aK
 rw [gf, eA, l7]
 have hlen : ((r.roots.length : Int) != 0) = decide ((r.roots.length : Int) > 0) := by
  rw [Bool.eq_iff_iff]; simp only [bne_iff_ne, decide_eq_true_eq]; omega
 rw [hlen]
 cases h1 : (r.kind == 1) with
 | true =>
  have := eq_of_beq h1
  have e : (decide (r.kind < 1) || decide (r.kind > 3)) = false := by rw [this]; rfl
  rw [e]; rfl
 | false =>
 cases h2 : (r.kind == 2) with
 | true =>
  have h2 := eq_of_beq h2
  have e : (decide (r.kind < 1) || decide (r.kind > 3)) = false := by rw [h2]; rfl
  have e3 : (r.kind == 3) = false := by rw [h2]; rfl
  rw [e, e3]
  simp only [cond_false, cond_true, Bool.false_and, Bool.true_and, Bool.or_false]
  refine eZ rfl (fun _ => rfl) fun h3 => eZ ?_ (fun _ => rfl) fun _ => ?_
  ·rw [Bool.eq_iff_iff]; simp only [Bool.or_eq_true, Bool.not_eq_true', nT, decide_eq_true_eq]; omega
  ·simp only [Bool.or_eq_false_iff, decide_eq_false_iff_not] at h3
   have : r.roots = [] := List.length_eq_zero_iff.1 (by omega)
   rw [this]; rfl
 | false =>
 cases h3 : (r.kind == 3) with
 | true =>
  have h3 := eq_of_beq h3
  have e : (decide (r.kind < 1) || decide (r.kind > 3)) = false := by rw [h3]; rfl
  rw [e]
  simp only [cond_false, cond_true, Bool.false_and, Bool.true_and, Bool.or_false]
  refine eZ rfl (fun _ => rfl) fun h3 => eZ ?_ (fun _ => rfl) fun _ => rfl
  rw [Bool.eq_iff_iff]; simp only [Bool.or_eq_true, Bool.not_eq_true', nT, decide_eq_true_eq]; omega
 | false =>
  have h1 := beq_eq_false_iff_ne.1 h1
  have h2 := beq_eq_false_iff_ne.1 h2
  have h3 := beq_eq_false_iff_ne.1 h3
  have e : (decide (r.kind < 1) || decide (r.kind > 3)) = true := by simp only [Bool.or_eq_true, decide_eq_true_eq]; omega
  rw [e]; rfl
theorem wQ (a b : Hub) : es a b = iB a b := rfl
abbrev hub0 : Hub := ⟨⟨[], []⟩, 0, []⟩
theorem pF (h : Hub) (r : Rec) : ∀ l : List Step, d6 h r l = bif (co h.h r.o l).2 != 0 then (hub0, (co h.h r.o l).2) else (⟨(co h.h r.o l).1, h.version + 1, h.peers.set r.o.who.toNat ⟨(gt h.peers r.o.who.toNat).life, (gt h.peers r.o.who.toNat).seq + 1, (gt h.peers r.o.who.toNat).roots⟩⟩, 0)
 | [] => rfl
 | s :: l => by
  rw [d6, co, pF h r l]
  cases decide ((⟨s.o.time, s.o.who⟩ : Stamp) = ⟨r.o.time, r.o.who⟩) with
  | true => rfl
  | false => rfl
theorem uv {h : History} (hc : bq h = 0) {o : Op} (ho : chkO o = 0) : co h o h.l = bE h o := by
 have h1 := ve h o
 rw [sy hc] at h1
 rw [← h1]
 unfold iq
 rw [nf, hc, gf, ho]
 simp
theorem rec_op {r : Rec} (hn : aK r = 0) (hk : (r.kind == 1) = true) : chkO r.o = 0 := by
 unfold aK at hn
 rw [hk, cond_true] at hn
 cases h5 : (decide (r.kind < 1) || decide (r.kind > 3)) with
 | true => rw [h5, cond_true] at hn; cases hn
 | false =>
  rw [h5, cond_false] at hn
  cases h6 : (((r.who != 0) || (r.life != 0)) || decide ((r.roots.length : Int) > 0)) with
  | true => rw [h6, cond_true] at hn; cases hn
  | false => rw [h6, cond_false, eA] at hn; exact hn
theorem tZ {h : Hub} {r : Rec} (hk : dt h = 0) (hn : aK r = 0) : aY h r = bi h r := by
 have hh := (en h).1 hk
 obtain ⟨w1, w2, w3, w4, w5⟩ := qf hn
 have hnn : (aK r != 0) = false := by rw [hn]; rfl
 unfold aY bi
 rw [hnn, cond_false]
 refine eZ rfl (fun _ => rfl) fun hv => eZ rfl (fun h1 => ?_) fun h1 => ?_
 ·have ho := rec_op hn h1
  unfold dS
  cases h2 : (((gt h.peers r.o.who.toNat).life != r.o.life) || ((gt h.peers r.o.who.toNat).seq + 1 != r.o.seq)) with
  | true =>
   have e : ((r.o.life != (gt h.peers r.o.who.toNat).life) || (r.o.seq != (gt h.peers r.o.who.toNat).seq + 1)) = true := by
    rw [← h2, Bool.eq_iff_iff]; simp only [Bool.or_eq_true, bne_iff_ne]; omega
   rw [e]; rfl
  | false =>
   have e : ((r.o.life != (gt h.peers r.o.who.toNat).life) || (r.o.seq != (gt h.peers r.o.who.toNat).seq + 1)) = false := by
    rw [← h2, Bool.eq_iff_iff]; simp only [Bool.or_eq_true, bne_iff_ne]; omega
   rw [e, cond_false, cond_false, pF, uv hh.hist ho]
   have hs : (gt h.peers r.o.who.toNat).seq + 1 = r.o.seq := by
    simp only [Bool.or_eq_false_iff, bne_eq_false_iff_eq] at h2; exact h2.2
   rw [hs]
   cases h3 : ((bE h.h r.o).2 == 0) with
   | true => rw [eq_of_beq h3]; rfl
   | false =>
    have h4 : ((bE h.h r.o).2 != 0) = true := by rw [bne, h3]; rfl
    rw [h4]
    simp only [cond_true, cond_false, h4]
 ·refine eZ rfl (fun h2 => ?_) fun h2 => eZ rfl (fun h3 => ?_) fun _ => rfl
  ·refine eZ ?_ (fun _ => rfl) fun _ => rfl
   rw [Bool.eq_iff_iff]; simp only [bne_iff_ne]; omega
  ·have hm : gt h.peers r.who.toNat ∈ h.peers := im (by have := w2 (beq_eq_false_iff_ne.1 h1); rw [hh.three]; omega)
   have hr := (hh.peers _ hm).rng
   refine eZ ?_ (fun _ => rfl) fun _ => rfl
   rw [Bool.eq_iff_iff]; simp only [decide_eq_true_eq, beq_iff_eq]; omega
theorem xL {h : Hub} {r : Rec} (hk : dt h = 0) (hn : aK r = 0) (h0 : (aY h r).2 = 0) : dt (aY h r).1 = 0 := by
 rw [tZ hk hn] at h0 ⊢
 exact (en _).2 (s6 ((en h).1 hk) h0).1
end Go.Proofs.YtkjccbdeaflekaaGreatDoor

set_option maxHeartbeats 2000000
namespace Go.Proofs.YtkjccbdeaflekaaGreatDoor
open Go Go.Proofs.YtkjccbdeaflekaaGreatDoor.Fw Go.Proofs
attribute [local irreducible] RdL RdN VarP RW CW
def ef  : List Rec → (List Step) → (List Place) → Int → (List Peer) → (Hub × Int)
 | [], l2, p1, version1, peers1 => ((⟨(⟨l2, p1⟩ : History), version1, peers1⟩ : Hub), 0)
 | pn1 :: rn1, l2, p1, version1, peers1 => (bif ((bL pn1) != 0) then ((⟨(⟨[], []⟩ : History), 0, ([] : List Peer)⟩ : Hub), (bL pn1)) else (bif ((aY (⟨(⟨l2, p1⟩ : History), version1, peers1⟩ : Hub) pn1).2 != 0) then ((⟨(⟨[], []⟩ : History), 0, ([] : List Peer)⟩ : Hub), (aY (⟨(⟨l2, p1⟩ : History), version1, peers1⟩ : Hub) pn1).2) else (ef rn1 (aY (⟨(⟨l2, p1⟩ : History), version1, peers1⟩ : Hub) pn1).1.h.l (aY (⟨(⟨l2, p1⟩ : History), version1, peers1⟩ : Hub) pn1).1.h.t (aY (⟨(⟨l2, p1⟩ : History), version1, peers1⟩ : Hub) pn1).1.version (aY (⟨(⟨l2, p1⟩ : History), version1, peers1⟩ : Hub) pn1).1.peers)))
def aV (l1 : List Rec) : Hub × Int :=
 (bif decide ((l1.length : Int) > 60) then ((⟨(⟨[], []⟩ : History), 0, ([] : List Peer)⟩ : Hub), 2) else (ef l1 bw.h.l bw.h.t bw.version bw.peers))
theorem gJ (y1 : SlV) (l1 : List Rec) : Does Tryz.prog 29 [y1.val l1.length] [RdN NRec y1 l1] (fun (X : SlV × SlV × SlV) => .tuple #[.agg ⟨cB X.1 X.2.1 X.2.2 (aV l1).1⟩, .int .i64 (aV l1).2]) (fun X => [RdL EStep X.1 (aV l1).1.h.l, RdL EPlace X.2.1 (aV l1).1.h.t, RdN NPeer X.2.2 (aV l1).1.peers]) := by
 refine Dp aH Tryz.func29 Tryz.ntmps29 Tryz.results29 fun C => ?_
 refine Pn NRec y1 l1 104 fun hlen1 => ?_
 refine AlT fun g1 => ?_
 have hf := Ri (aV.eq_1 l1)
 refine Cp hf (fun hc1 hc1p hf => ?_) fun hc1 hc1p hf => ?_
 ·refine Tx ?_
  refine Fc EStep ?_
  refine Fc EPlace ?_
  refine Ft NPeer ?_
  refine Rx ?_; exact Re ⟨Z0, Z0, Z0⟩ Rv
 ·refine Ck (k5 ) fun x1 => ?_
  refine Pr EStep x1.1 bw.h.l 88 fun hlen2 => ?_
  refine Pr EPlace x1.2.1 bw.h.t 24 fun hlen3 => ?_
  refine Pm NPeer x1.2.2 bw.peers 40 fun hlen4 => ?_
  refine AlT fun g2 => ?_
  refine Lq (Nat × List Step × SlV × List Place × SlV × Int × List Peer × SlV) [2,3,4,15,16] [false, true] (fun ⟨n1, l2, x2, p1, x3, version1, peers1, x4⟩ => ⟨[(17, .v (.int .i64 (n1 : Int)))], [⟨g2, 30, [x2.val l2.length, x3.val p1.length, .int .i64 version1, x4.val peers1.length]⟩], [], [RdL EStep x2 l2, RdL EPlace x3 p1, RdN NPeer x4 peers1], (n1 ≤ l1.length) ∧ (dt (⟨⟨l2, p1⟩, version1, peers1⟩ : Hub) = 0) ∧ (ef (l1.drop n1) l2 p1 version1 peers1) = (aV l1), l1.length - n1⟩) ⟨0, bw.h.l, x1.1, bw.h.t, x1.2.1, bw.version, bw.peers, x1.2.2⟩ ⟨Nat.zero_le _, ((en _).2 li), hf.symm⟩ ?_
  rintro ⟨n1, l2, x2, p1, x3, version1, peers1, x4⟩ ⟨hkn1, hinv, hf1⟩
  simp only [Lc]
  refine Cu (fun hlt0 => ?_) fun hge0 => ?_
  ·refine Tx ?_
   refine e8 NRec (X := y1) (l := l1) Mm fun (γ1 : Nat → SlV) => ?_
   refine Sq (Xn NRec n1) ?_
   refine Sq (q_is (v' := .agg ⟨cR (γ1 n1) (gt l1 n1)⟩) (ij NRec γ1 rfl rfl Zf rfl rfl Mm (fun _ => by first | assumption | omega)) rfl) ?_
   refine Fg NRec γ1 l1 n1 0 ?_
   refine AlT fun g3 => ?_
   refine Ck (eR (γ1 n1) (gt l1 n1)) fun _ => ?_
   have hf := Ri hf1.symm
   rw [aU hlt0, ef] at hf
   refine Cn hf (fun hc3 hc3p hf => ?_) fun hc3 hc3p hf => ?_
   ·refine Tx ?_
    refine Fc EStep ?_
    refine Fc EPlace ?_
    refine Ft NPeer ?_
    refine Rx ?_; exact Re ⟨Z0, Z0, Z0⟩ Rv
   ·have hn0 := (rB _).symm.trans (ai hc3)
    refine Ck (lL x2 x3 x4 (⟨(⟨l2, p1⟩ : History), version1, peers1⟩ : Hub) (γ1 n1) (gt l1 n1) hinv hn0) fun x5 => ?_
    refine Pr EStep x5.1 (aY (⟨(⟨l2, p1⟩ : History), version1, peers1⟩ : Hub) (gt l1 n1)).1.h.l 88 fun hlen5 => ?_
    refine Pr EPlace x5.2.1 (aY (⟨(⟨l2, p1⟩ : History), version1, peers1⟩ : Hub) (gt l1 n1)).1.h.t 24 fun hlen6 => ?_
    refine Pm NPeer x5.2.2 (aY (⟨(⟨l2, p1⟩ : History), version1, peers1⟩ : Hub) (gt l1 n1)).1.peers 40 fun hlen7 => ?_
    refine AlT fun g4 => ?_
    refine Cn hf (fun hc4 hc4p hf => ?_) fun hc4 hc4p hf => ?_
    ·refine Tx ?_
     refine Fc EStep ?_
     refine Fc EPlace ?_
     refine Ft NPeer ?_
     refine Rx ?_; exact Re ⟨Z0, Z0, Z0⟩ Rv
    ·refine Tt ?_
     refine ⟨⟨(n1 + 1), (aY (⟨(⟨l2, p1⟩ : History), version1, peers1⟩ : Hub) (gt l1 n1)).1.h.l, x5.1, (aY (⟨(⟨l2, p1⟩ : History), version1, peers1⟩ : Hub) (gt l1 n1)).1.h.t, x5.2.1, (aY (⟨(⟨l2, p1⟩ : History), version1, peers1⟩ : Hub) (gt l1 n1)).1.version, (aY (⟨(⟨l2, p1⟩ : History), version1, peers1⟩ : Hub) (gt l1 n1)).1.peers, x5.2.2⟩, ⟨hlt0, (xL hinv hn0 (ai (by assumption))), hf.symm⟩, Oo, Le4⟩
  ·have hf := Ri hf1.symm
   rw [List.drop_of_length_le hge0, ef] at hf
   refine Rx ?_; exact Re ⟨x2, x3, x4⟩ Rv
def bS  : List Rec → (List Step) → (List Place) → Int → (List Peer) → (Hub × Int)
 | [], l2, p1, version1, peers1 => ((⟨(⟨l2, p1⟩ : History), version1, peers1⟩ : Hub), 0)
 | pn1 :: rn1, l2, p1, version1, peers1 => (bif ((bi (⟨(⟨l2, p1⟩ : History), version1, peers1⟩ : Hub) pn1).2 != 0) then ((⟨(⟨[], []⟩ : History), 0, ([] : List Peer)⟩ : Hub), (bi (⟨(⟨l2, p1⟩ : History), version1, peers1⟩ : Hub) pn1).2) else (bS rn1 (bi (⟨(⟨l2, p1⟩ : History), version1, peers1⟩ : Hub) pn1).1.h.l (bi (⟨(⟨l2, p1⟩ : History), version1, peers1⟩ : Hub) pn1).1.h.t (bi (⟨(⟨l2, p1⟩ : History), version1, peers1⟩ : Hub) pn1).1.version (bi (⟨(⟨l2, p1⟩ : History), version1, peers1⟩ : Hub) pn1).1.peers))
def aB (l1 : List Rec) : Hub × Int :=
 (bif decide ((l1.length : Int) > 60) then ((⟨(⟨[], []⟩ : History), 0, ([] : List Peer)⟩ : Hub), 2) else (bS l1 dj.h.l dj.h.t dj.version dj.peers))
theorem hI (y1 : SlV) (l1 : List Rec) : Does Tryz.prog 64 [y1.val l1.length] [RdN NRec y1 l1] (fun (X : SlV × SlV × SlV) => .tuple #[.agg ⟨cB X.1 X.2.1 X.2.2 (aB l1).1⟩, .int .i64 (aB l1).2]) (fun X => [RdL EStep X.1 (aB l1).1.h.l, RdL EPlace X.2.1 (aB l1).1.h.t, RdN NPeer X.2.2 (aB l1).1.peers]) := by
 refine Dp aH Tryz.func64 Tryz.ntmps64 Tryz.results64 fun C => ?_
 refine Pn NRec y1 l1 104 fun hlen1 => ?_
 refine AlT fun g1 => ?_
 have hf := Ri (aB.eq_1 l1)
 refine Cp hf (fun hc1 hc1p hf => ?_) fun hc1 hc1p hf => ?_
 ·refine Tx ?_
  refine Fc EStep ?_
  refine Fc EPlace ?_
  refine Ft NPeer ?_
  refine Rx ?_; exact Re ⟨Z0, Z0, Z0⟩ Rv
 ·refine Ck (kL ) fun x1 => ?_
  refine Pr EStep x1.1 dj.h.l 88 fun hlen2 => ?_
  refine Pr EPlace x1.2.1 dj.h.t 24 fun hlen3 => ?_
  refine Pm NPeer x1.2.2 dj.peers 40 fun hlen4 => ?_
  refine AlT fun g2 => ?_
  refine Lq (Nat × List Step × SlV × List Place × SlV × Int × List Peer × SlV) [2,3,4,13,14] [false, true] (fun ⟨n1, l2, x2, p1, x3, version1, peers1, x4⟩ => ⟨[(15, .v (.int .i64 (n1 : Int)))], [⟨g2, 30, [x2.val l2.length, x3.val p1.length, .int .i64 version1, x4.val peers1.length]⟩], [], [RdL EStep x2 l2, RdL EPlace x3 p1, RdN NPeer x4 peers1], (n1 ≤ l1.length) ∧ (dt (⟨⟨l2, p1⟩, version1, peers1⟩ : Hub) = 0) ∧ (bS (l1.drop n1) l2 p1 version1 peers1) = (aB l1), l1.length - n1⟩) ⟨0, dj.h.l, x1.1, dj.h.t, x1.2.1, dj.version, dj.peers, x1.2.2⟩ ⟨Nat.zero_le _, ((en _).2 li), hf.symm⟩ ?_
  rintro ⟨n1, l2, x2, p1, x3, version1, peers1, x4⟩ ⟨hkn1, hinv, hf1⟩
  simp only [Lc]
  refine Cu (fun hlt0 => ?_) fun hge0 => ?_
  ·refine Tx ?_
   refine e8 NRec (X := y1) (l := l1) Mm fun (γ1 : Nat → SlV) => ?_
   refine Sq (Xn NRec n1) ?_
   refine Sq (q_is (v' := .agg ⟨cR (γ1 n1) (gt l1 n1)⟩) (ij NRec γ1 rfl rfl Zf rfl rfl Mm (fun _ => by first | assumption | omega)) rfl) ?_
   refine Fg NRec γ1 l1 n1 0 ?_
   refine AlT fun g3 => ?_
   refine Ck (oE x2 x3 x4 (⟨(⟨l2, p1⟩ : History), version1, peers1⟩ : Hub) (γ1 n1) (gt l1 n1) hinv) fun x5 => ?_
   refine Pr EStep x5.1 (bi (⟨(⟨l2, p1⟩ : History), version1, peers1⟩ : Hub) (gt l1 n1)).1.h.l 88 fun hlen5 => ?_
   refine Pr EPlace x5.2.1 (bi (⟨(⟨l2, p1⟩ : History), version1, peers1⟩ : Hub) (gt l1 n1)).1.h.t 24 fun hlen6 => ?_
   refine Pm NPeer x5.2.2 (bi (⟨(⟨l2, p1⟩ : History), version1, peers1⟩ : Hub) (gt l1 n1)).1.peers 40 fun hlen7 => ?_
   have hf := Ri hf1.symm
   rw [aU hlt0, bS] at hf
   refine Cn hf (fun hc3 hc3p hf => ?_) fun hc3 hc3p hf => ?_
   ·refine Tx ?_
    refine Fc EStep ?_
    refine Fc EPlace ?_
    refine Ft NPeer ?_
    refine Rx ?_; exact Re ⟨Z0, Z0, Z0⟩ Rv
   ·refine Tt ?_
    refine ⟨⟨(n1 + 1), (bi (⟨(⟨l2, p1⟩ : History), version1, peers1⟩ : Hub) (gt l1 n1)).1.h.l, x5.1, (bi (⟨(⟨l2, p1⟩ : History), version1, peers1⟩ : Hub) (gt l1 n1)).1.h.t, x5.2.1, (bi (⟨(⟨l2, p1⟩ : History), version1, peers1⟩ : Hub) (gt l1 n1)).1.version, (bi (⟨(⟨l2, p1⟩ : History), version1, peers1⟩ : Hub) (gt l1 n1)).1.peers, x5.2.2⟩, ⟨hlt0, ((en _).2 (s6 ((en _).1 hinv) (ai (by assumption))).1), hf.symm⟩, Oo, Le4⟩
  ·have hf := Ri hf1.symm
   rw [List.drop_of_length_le hge0, bS] at hf
   refine Rx ?_; exact Re ⟨x2, x3, x4⟩ Rv
end Go.Proofs.YtkjccbdeaflekaaGreatDoor

namespace Go.Proofs.YtkjccbdeaflekaaGreatDoor
open Go Go.Proofs.YtkjccbdeaflekaaGreatDoor.Fw Go.Proofs
theorem vO (eq : Peer → Peer → Bool) (he : ∀ a, eq a a = true) (s : List Peer) : ∀ (r : List Peer) (n : Nat), r = s.drop n → bV s eq r n = true
 | [], n, _ => by simp [bV]
 | p :: r, n, h => by
  have hn : n < s.length := by
   rcases Nat.lt_or_ge n s.length with h1 | h1
   ·exact h1
   ·rw [List.drop_of_length_le h1] at h; cases h
  rw [aU hn] at h
  obtain ⟨rfl, h'⟩ := List.cons.inj h
  rw [bV, he]
  exact vO eq he s r (n + 1) h'
theorem oH (a : Hub) : iB a a = true := by
 unfold iB
 have h1 : fv a.h a.h = true := (oL _ _).2 rfl
 have h2 : dF a.peers a.peers ib = true := by
  unfold dF
  have e : ((a.peers.length : Int) != (a.peers.length : Int)) = false := bne_self_eq_false _
  rw [e, cond_false]
  exact vO ib (fun p => by simp [ib]) a.peers a.peers 0 rfl
 rw [h1, h2]; simp
theorem rv : ∀ (l : List Rec) (a : List Step) (b : List Place) (v : Int) (p : List Peer), dt ⟨⟨a, b⟩, v, p⟩ = 0 → ef l a b v p = bS l a b v p
 | [], _, _, _, _, _ => rfl
 | r :: l, a, b, v, p, hc => by
  rw [ef, bS, rB]
  cases h2 : (aK r != 0) with
  | true =>
   have e : bi ⟨⟨a, b⟩, v, p⟩ r = (hub0, aK r) := by unfold bi; rw [h2]; rfl
   rw [e]
   simp only [cond_true, h2]
  | false =>
   have hn := ai h2
   rw [cond_false, tZ hc hn]
   cases h3 : ((bi ⟨⟨a, b⟩, v, p⟩ r).2 != 0) with
   | true => rfl
   | false =>
    rw [cond_false, cond_false]
    exact rv l _ _ _ _ ((en _).2 (s6 ((en _).1 hc) (ai h3)).1)
theorem tz (l : List Rec) : aV l = aB l := by
 unfold aV aB
 cases decide ((l.length : Int) > 60) with
 | true => rfl
 | false =>
  simp only [cond_false]
  exact rv l _ _ _ _ ((en _).2 li)
end Go.Proofs.YtkjccbdeaflekaaGreatDoor

set_option maxHeartbeats 2000000
namespace Go.Proofs.YtkjccbdeaflekaaGreatDoor
open Go Go.Proofs.YtkjccbdeaflekaaGreatDoor.Fw Go.Proofs
attribute [local irreducible] RdL RdN VarP RW CW
def dL (gone1 : List Int) : List Place → Int → Int
 | [], last2 => 0
 | pn2 :: rn2, last2 => (bif ((aQ pn2) != 0) then (aQ pn2) else (bif (decide (pn2.node ≤ last2) || (decide (pn2.node ∈ gone1))) then 6 else (dL gone1 rn2 pn2.node)))
def er (gone1 : List Int) (here1 : List Place) : List Int → Int → Int
 | [], last1 => (dL gone1 here1 0)
 | pn1 :: rn1, last1 => (bif (!(ap pn1 1 15)) then 5 else (bif decide (pn1 ≤ last1) then 6 else (er gone1 here1 rn1 pn1)))
def ec (gone1 : List Int) (here1 : List Place) : Int :=
 (bif (decide ((gone1.length : Int) > 16) || decide ((here1.length : Int) > 16)) then 2 else (er gone1 here1 gone1 0))
theorem jD (y1 : SlV) (gone1 : List Int) (y2 : SlV) (here1 : List Place) : Does Tryz.prog 142 [y1.val gone1.length, y2.val here1.length] [RdL EInt y1 gone1, RdL EPlace y2 here1] (fun (_ : Unit) => .int .i64 (ec gone1 here1)) (fun _ => []) := by
 refine Dp aH Tryz.func142 Tryz.ntmps142 Tryz.results142 fun C => ?_
 refine Pc EInt y1 gone1 8 fun hlen1 => ?_
 refine Pc EPlace y2 here1 24 fun hlen2 => ?_
 have hf := Ri (ec.eq_1 gone1 here1)
 refine Ch hf (fun hc1 hf => ?_) fun hc1 hf => ?_
 ·exact Ru
 ·refine Lq (Int × Nat) [0,1,4,19,20] [] (fun ⟨last1, n1⟩ => ⟨[(5, .v (.int .i64 last1)), (21, .v (.int .i64 (n1 : Int)))], [], [], [], (n1 ≤ gone1.length) ∧ (er gone1 here1 (gone1.drop n1) last1) = (ec gone1 here1), gone1.length - n1⟩) ⟨0, 0⟩ ⟨Nat.zero_le _, hf.symm⟩ ?_
  rintro ⟨last1, n1⟩ ⟨hkn1, hf1⟩
  simp only [Lc]
  refine Cu (fun hlt0 => ?_) fun hge0 => ?_
  ·refine Sy Tz (Xi EInt n1) ?_
   refine Sq (X1 EInt) ?_
   refine Ck (aP (gt gone1 n1) 1 15) fun _ => ?_
   have hf := Ri hf1.symm
   rw [aU hlt0, er] at hf
   refine Ch hf (fun hc3 hf => ?_) fun hc3 hf => ?_
   ·exact Ru
   ·refine Cp hf (fun hc4 hc4p hf => ?_) fun hc4 hc4p hf => ?_
    ·exact Ru
    ·refine Tt ?_
     refine ⟨⟨(gt gone1 n1), (n1 + 1)⟩, ⟨hlt0, hf.symm⟩, Oo, Le4⟩
  ·refine Lq (Int × Nat) [0,4,33,34] [] (fun ⟨last2, n2⟩ => ⟨[(5, .v (.int .i64 last2)), (35, .v (.int .i64 (n2 : Int)))], [], [], [], (n2 ≤ here1.length) ∧ (dL gone1 (here1.drop n2) last2) = (ec gone1 here1), here1.length - n2⟩) ⟨0, 0⟩ ⟨Nat.zero_le _, (by rw [← hf1, List.drop_of_length_le hge0]; simp only [er, Cf] : (ec gone1 here1) = (dL gone1 here1 0)).symm⟩ ?_
   rintro ⟨last2, n2⟩ ⟨hkn2, hf2⟩
   simp only [Lc]
   refine Cu (fun hlt1 => ?_) fun hge1 => ?_
   ·refine Sy Tz (Xi EPlace n2) ?_
    refine Sq (Xa EPlace) ?_
    refine AlT fun g1 => ?_
    refine Ck (fB (gt here1 n2)) fun _ => ?_
    have hf := Ri hf2.symm
    rw [aU hlt1, dL] at hf
    refine Cn hf (fun hc6 hc6p hf => ?_) fun hc6 hc6p hf => ?_
    ·exact Ru
    ·refine Cy (fun hG_ => cv y1 gone1 (gt here1 n2).node) ?_
     refine Ch hf (fun hc7 hf => ?_) fun hc7 hf => ?_
     ·exact Ru
     ·refine Tt ?_
      refine ⟨⟨(gt here1 n2).node, (n2 + 1)⟩, ⟨hlt1, hf.symm⟩, Oo, Le4⟩
   ·have hf := Ri hf2.symm
    rw [List.drop_of_length_le hge1, dL] at hf
    exact Ru
def ei (d1 : Delta) : Int :=
 (bif ((ec d1.gone d1.here) != 0) then (ec d1.gone d1.here) else (ec d1.wayGone d1.wayHere))
theorem kq (y1 : SlV) (y2 : SlV) (y3 : SlV) (y4 : SlV) (d1 : Delta) : Does Tryz.prog 91 [.agg ⟨cD y1 y2 y3 y4 d1⟩] [RdL EInt y1 d1.gone, RdL EPlace y2 d1.here, RdL EInt y3 d1.wayGone, RdL EPlace y4 d1.wayHere] (fun (_ : Unit) => .int .i64 (ei d1)) (fun _ => []) := by
 refine Dp aH Tryz.func91 Tryz.ntmps91 Tryz.results91 fun C => ?_
 refine Pc EInt y1 d1.gone 8 fun hlen1 => ?_
 refine Pc EPlace y2 d1.here 24 fun hlen2 => ?_
 refine Pc EInt y3 d1.wayGone 8 fun hlen3 => ?_
 refine Pc EPlace y4 d1.wayHere 24 fun hlen4 => ?_
 refine BxT fun g1 => ?_
 refine Ck (jD y1 d1.gone y2 d1.here) fun _ => ?_
 have hf := Ri (ei.eq_1 d1)
 refine Cn hf (fun hc1 hc1p hf => ?_) fun hc1 hc1p hf => ?_
 ·exact Ru
 ·refine Ck (jD y3 d1.wayGone y4 d1.wayHere) fun _ => ?_
  exact Ru
def bj  : List Mail → Int
 | [] => 0
 | pn1 :: rn1 => (bif (!(ap pn1.kind 1 3)) then 4 else (bif (!(ap pn1.who 0 2)) then 5 else (bif ((pn1.kind == 1) && ((((((((pn1.life != 0) || (pn1.seq != 0)) || (pn1.time != 0)) || (pn1.version != 0)) || (pn1.frm != 0)) || decide ((((pn1.v.roots.length : Int) + (pn1.v.known.length : Int)) + (pn1.v.way.length : Int)) > 0)) || decide (((((pn1.d.gone.length : Int) + (pn1.d.here.length : Int)) + (pn1.d.wayGone.length : Int)) + (pn1.d.wayHere.length : Int)) > 0)) || (pn1.o.who != pn1.who))) then 4 else (bif (pn1.kind == 1) then (bif ((aJ pn1.o) != 0) then (aJ pn1.o) else (bj rn1)) else (bif (!(decide (pn1.o = (⟨0, 0, 0, 0, 0, 0, 0⟩ : Op)))) then 4 else (bif ((pn1.kind == 2) && ((pn1.frm != 0) || decide (((((pn1.d.gone.length : Int) + (pn1.d.here.length : Int)) + (pn1.d.wayGone.length : Int)) + (pn1.d.wayHere.length : Int)) > 0))) then 4 else (bif ((pn1.kind == 3) && decide ((((pn1.v.roots.length : Int) + (pn1.v.known.length : Int)) + (pn1.v.way.length : Int)) > 0)) then 4 else (bif (((((!(ap pn1.life 1 50)) || (!(ap pn1.seq 0 30))) || (!(ap pn1.time 0 10000))) || (!(ap pn1.version 1 60))) || (!(ap pn1.frm 0 (pn1.version - 1)))) then 3 else (bif (pn1.kind == 3) then (bif ((ei pn1.d) != 0) then (ei pn1.d) else (bj rn1)) else (bif ((dG pn1.v) != 0) then (dG pn1.v) else (bj rn1)))))))))))
def cy (l1 : List Mail) : Int :=
 (bif decide ((l1.length : Int) > 30) then 2 else (bj l1))
theorem kF (y1 : SlV) (l1 : List Mail) : Does Tryz.prog 33 [y1.val l1.length] [RdN NMail y1 l1] (fun (_ : Unit) => .int .i64 (cy l1)) (fun _ => []) := by
 refine Dp aH Tryz.func33 Tryz.ntmps33 Tryz.results33 fun C => ?_
 refine Pn NMail y1 l1 280 fun hlen1 => ?_
 have hf := Ri (cy.eq_1 l1)
 refine Cp hf (fun hc1 hc1p hf => ?_) fun hc1 hc1p hf => ?_
 ·exact Ru
 ·refine Lq Nat [2,13,14] [] (fun n1 => ⟨[(15, .v (.int .i64 (n1 : Int)))], [], [], [], (n1 ≤ l1.length) ∧ (bj (l1.drop n1)) = (cy l1), l1.length - n1⟩) 0 ⟨Nat.zero_le _, hf.symm⟩ ?_
  rintro n1 ⟨hkn1, hf1⟩
  simp only [Lc]
  refine Cu (fun hlt0 => ?_) fun hge0 => ?_
  ·refine Tx ?_
   refine e8 NMail (X := y1) (l := l1) Mm fun (γ1 : Nat → SlV × SlV × SlV × SlV × SlV × SlV × SlV) => ?_
   refine Sq (Xn NMail n1) ?_
   refine Sq (q_is (v' := .agg ⟨cM (γ1 n1).1 (γ1 n1).2.1 (γ1 n1).2.2.1 (γ1 n1).2.2.2.1 (γ1 n1).2.2.2.2.1 (γ1 n1).2.2.2.2.2.1 (γ1 n1).2.2.2.2.2.2 (gt l1 n1)⟩) (ij NMail γ1 rfl rfl Zf rfl rfl Mm (fun _ => by first | assumption | omega)) rfl) ?_
   refine Fg NMail γ1 l1 n1 0 ?_
   refine Fg NMail γ1 l1 n1 1 ?_
   refine Fg NMail γ1 l1 n1 2 ?_
   refine Fg NMail γ1 l1 n1 3 ?_
   refine Fg NMail γ1 l1 n1 4 ?_
   refine Fg NMail γ1 l1 n1 5 ?_
   refine Fg NMail γ1 l1 n1 6 ?_
   refine Pr EInt (γ1 n1).1 (gt l1 n1).v.roots 8 fun hlen2 => ?_
   refine Pr EPlace (γ1 n1).2.1 (gt l1 n1).v.known 24 fun hlen3 => ?_
   refine Pr EPlace (γ1 n1).2.2.1 (gt l1 n1).v.way 24 fun hlen4 => ?_
   refine Pr EInt (γ1 n1).2.2.2.1 (gt l1 n1).d.gone 8 fun hlen5 => ?_
   refine Pr EPlace (γ1 n1).2.2.2.2.1 (gt l1 n1).d.here 24 fun hlen6 => ?_
   refine Pr EInt (γ1 n1).2.2.2.2.2.1 (gt l1 n1).d.wayGone 8 fun hlen7 => ?_
   refine Pr EPlace (γ1 n1).2.2.2.2.2.2 (gt l1 n1).d.wayHere 24 fun hlen8 => ?_
   refine AlT fun g1 => ?_
   refine Ck (aP (gt l1 n1).kind 1 3) fun _ => ?_
   have hf := Ri hf1.symm
   rw [aU hlt0, bj] at hf
   refine Ch hf (fun hc3 hf => ?_) fun hc3 hf => ?_
   ·exact Ru
   ·refine Ck (aP (gt l1 n1).who 0 2) fun _ => ?_
    refine Ch hf (fun hc4 hf => ?_) fun hc4 hf => ?_
    ·exact Ru
    ·refine Ch hf (fun hc5 hf => ?_) fun hc5 hf => ?_
     ·exact Ru
     ·refine Ce hf (fun hc6 hc6p hf => ?_) fun hc6 hc6p hf => ?_
      ·refine Ck (e9 (gt l1 n1).o) fun _ => ?_
       refine Cn hf (fun hc7 hc7p hf => ?_) fun hc7 hc7p hf => ?_
       ·exact Ru
       ·refine Tt ?_
        refine ⟨(n1 + 1), ⟨hlt0, hf.symm⟩, Oo, Le4⟩
      ·refine Sy Tz (q_neE sk (lq (gt l1 n1).o (⟨0, 0, 0, 0, 0, 0, 0⟩ : Op)) rfl rfl Zf rfl Zf rfl rfl) ?_
       refine Ch hf (fun hc8 hf => ?_) fun hc8 hf => ?_
       ·refine Cd' (fun hc9 => ?_) fun hc9 => ?_
        ·exact Ru
        ·exact Bool.noConfusion (hc9.symm.trans hc8)
       ·refine Ch hf (fun hc10 hf => ?_) fun hc10 hf => ?_
        ·refine Cd' (fun hc11 => ?_) fun hc11 => ?_
         ·exact Ru
         ·exact Bool.noConfusion (hc11.symm.trans hc10)
        ·refine Ch hf (fun hc12 hf => ?_) fun hc12 hf => ?_
         ·exact Ru
         ·refine Ck (aP (gt l1 n1).life 1 50) fun _ => ?_
          refine Cy (fun hG_ => aP (gt l1 n1).seq 0 30) ?_
          refine Cy (fun hG_ => aP (gt l1 n1).time 0 10000) ?_
          refine Cy (fun hG_ => aP (gt l1 n1).version 1 60) ?_
          refine Tx ?_
          refine Sg Gz (q_sub rfl rfl Bt rfl Bt (by intro h; simp [ap] at h; omega)) ?_
          refine Cy (fun hG_ => aP (gt l1 n1).frm 0 ((gt l1 n1).version - 1)) ?_
          refine Ch hf (fun hc13 hf => ?_) fun hc13 hf => ?_
          ·exact Ru
          ·refine Ck (il (γ1 n1).1 (γ1 n1).2.1 (γ1 n1).2.2.1 (gt l1 n1).v) fun _ => ?_
           refine Ce hf (fun hc14 hc14p hf => ?_) fun hc14 hc14p hf => ?_
           ·refine Ck (kq (γ1 n1).2.2.2.1 (γ1 n1).2.2.2.2.1 (γ1 n1).2.2.2.2.2.1 (γ1 n1).2.2.2.2.2.2 (gt l1 n1).d) fun _ => ?_
            refine Cn hf (fun hc15 hc15p hf => ?_) fun hc15 hc15p hf => ?_
            ·exact Ru
            ·refine Tt ?_
             refine ⟨(n1 + 1), ⟨hlt0, hf.symm⟩, Oo, Le4⟩
           ·refine Cn hf (fun hc16 hc16p hf => ?_) fun hc16 hc16p hf => ?_
            ·exact Ru
            ·refine Tt ?_
             refine ⟨(n1 + 1), ⟨hlt0, hf.symm⟩, Oo, Le4⟩
  ·have hf := Ri hf1.symm
   rw [List.drop_of_length_le hge0, bj] at hf
   exact Ru
def de (c1 : Client) (me1 : Int) : List Op → Int → Int → Int
 | [], seq1, last1 => 0
 | pn1 :: rn1, seq1, last1 => (bif ((aJ pn1) != 0) then (aJ pn1) else (bif (((((pn1.who != me1) || (pn1.life != c1.life)) || (pn1.seq != (seq1 + 1))) || decide (pn1.time ≤ last1)) || decide (pn1.time > c1.time)) then 4 else (de c1 me1 rn1 (seq1 + 1) pn1.time)))
def cq (c1 : Client) (me1 : Int) : Int :=
 (bif (!(ap me1 0 2)) then 5 else (bif ((((!(ap c1.life 0 50)) || (!(ap c1.time 0 10000))) || (!(ap c1.seq 0 30))) || (!(ap c1.version 0 60))) then 3 else (bif decide ((c1.pending.length : Int) > 8) then 2 else (bif ((dG c1.v) != 0) then (dG c1.v) else (bif ((((c1.life == 0) && ((decide (c1.time > 0) || decide (c1.seq > 0)) || decide (c1.version > 0))) || ((c1.version == 0) && decide ((c1.v.roots.length : Int) > 0))) || decide ((c1.pending.length : Int) > c1.seq)) then 4 else (de c1 me1 c1.pending (c1.seq - (c1.pending.length : Int)) 0))))))
theorem gN (y1 : SlV) (y2 : SlV) (y3 : SlV) (y4 : SlV) (c1 : Client) (me1 : Int) : Does Tryz.prog 36 [.agg ⟨cC y1 y2 y3 y4 c1⟩, .int .i64 me1] [RdL EOp y1 c1.pending, RdL EInt y2 c1.v.roots, RdL EPlace y3 c1.v.known, RdL EPlace y4 c1.v.way] (fun (_ : Unit) => .int .i64 (cq c1 me1)) (fun _ => []) := by
 refine Dp aH Tryz.func36 Tryz.ntmps36 Tryz.results36 fun C => ?_
 refine Pc EOp y1 c1.pending 56 fun hlen1 => ?_
 refine Pc EInt y2 c1.v.roots 8 fun hlen2 => ?_
 refine Pc EPlace y3 c1.v.known 24 fun hlen3 => ?_
 refine Pc EPlace y4 c1.v.way 24 fun hlen4 => ?_
 refine BxT fun g1 => ?_
 refine Ck (aP me1 0 2) fun _ => ?_
 have hf := Ri (cq.eq_1 c1 me1)
 refine Ch hf (fun hc1 hf => ?_) fun hc1 hf => ?_
 ·exact Ru
 ·refine Ck (aP c1.life 0 50) fun _ => ?_
  refine Cy (fun hG_ => aP c1.time 0 10000) ?_
  refine Cy (fun hG_ => aP c1.seq 0 30) ?_
  refine Cy (fun hG_ => aP c1.version 0 60) ?_
  refine Ch hf (fun hc2 hf => ?_) fun hc2 hf => ?_
  ·exact Ru
  ·have hrg := hc2
   simp only [ap, Bool.or_eq_false_iff, Bool.not_eq_false', Bool.and_eq_true, decide_eq_true_eq] at hrg
   refine Cp hf (fun hc3 hc3p hf => ?_) fun hc3 hc3p hf => ?_
   ·exact Ru
   ·refine Ck (il y2 y3 y4 c1.v) fun _ => ?_
    refine Cn hf (fun hc4 hc4p hf => ?_) fun hc4 hc4p hf => ?_
    ·exact Ru
    ·refine Ch hf (fun hc5 hf => ?_) fun hc5 hf => ?_
     ·exact Ru
     ·refine Lq (Int × Int × Nat) [1,2,4,91,92] [true] (fun ⟨seq1, last1, n1⟩ => ⟨[(6, .v (.int .i64 seq1)), (7, .v (.int .i64 last1)), (93, .v (.int .i64 (n1 : Int)))], [], [], [], (n1 ≤ c1.pending.length) ∧ (seq1 = c1.seq - (c1.pending.length : Int) + (n1 : Int)) ∧ (de c1 me1 (c1.pending.drop n1) seq1 last1) = (cq c1 me1), c1.pending.length - n1⟩) ⟨(c1.seq - (c1.pending.length : Int)), 0, 0⟩ ⟨Nat.zero_le _, (by simp), hf.symm⟩ ?_
      rintro ⟨seq1, last1, n1⟩ ⟨hkn1, hsq, hf1⟩
      simp only [Lc]
      refine Cu (fun hlt0 => ?_) fun hge0 => ?_
      ·refine Sy Tz (Xi EOp n1) ?_
       refine Sq (Xa EOp) ?_
       refine AlT fun g2 => ?_
       refine Ck (e9 (gt c1.pending n1)) fun _ => ?_
       have hf := Ri hf1.symm
       rw [aU hlt0, de] at hf
       refine Cn hf (fun hc7 hc7p hf => ?_) fun hc7 hc7p hf => ?_
       ·exact Ru
       ·refine Ch hf (fun hc8 hf => ?_) fun hc8 hf => ?_
        ·exact Ru
        ·refine Tt ?_
         refine ⟨⟨(seq1 + 1), (gt c1.pending n1).time, (n1 + 1)⟩, ⟨hlt0, (by (try simp only []); omega), hf.symm⟩, Oo, Le4⟩
      ·have hf := Ri hf1.symm
       rw [List.drop_of_length_le hge0, de] at hf
       exact Ru
end Go.Proofs.YtkjccbdeaflekaaGreatDoor

set_option maxHeartbeats 2000000
namespace Go.Proofs.YtkjccbdeaflekaaGreatDoor
open Go Go.Proofs.YtkjccbdeaflekaaGreatDoor.Fw Go.Proofs
attribute [local irreducible] RW CW
def fE (a1 : List Place) (gone1 : List Int) : List Place → (List Place) → ((List Int) × (List Place))
 | [], here1 => (gone1, here1)
 | pn2 :: rn2, here1 => (bif (!(decide ((br a1 pn2.node) = pn2))) then (fE a1 gone1 rn2 (here1 ++ [pn2])) else (fE a1 gone1 rn2 here1))
def fF (a1 : List Place) (b1 : List Place) : List Place → (List Int) → ((List Int) × (List Place))
 | [], gone1 => (fE a1 gone1 b1 [])
 | pn1 :: rn1, gone1 => (bif ((br b1 pn1.node).node == 0) then (fF a1 b1 rn1 (gone1 ++ [pn1.node])) else (fF a1 b1 rn1 gone1))
def dH (a1 : List Place) (b1 : List Place) : (List Int) × (List Place) :=
 (fF a1 b1 a1 [])
theorem lu (y1 : SlV) (a1 : List Place) (y2 : SlV) (b1 : List Place) : Does Tryz.prog 207 [y1.val a1.length, y2.val b1.length] [RdL EPlace y1 a1, RdL EPlace y2 b1] (fun (X : SlV × SlV) => .tuple #[X.1.val (dH a1 b1).1.length, X.2.val (dH a1 b1).2.length]) (fun X => [RdL EInt X.1 (dH a1 b1).1, RdL EPlace X.2 (dH a1 b1).2]) := by
 refine Dp aH Tryz.func207 Tryz.ntmps207 Tryz.results207 fun C => ?_
 refine Pc EPlace y1 a1 24 fun hlen1 => ?_
 refine Pc EPlace y2 b1 24 fun hlen2 => ?_
 refine Tx ?_
 (repeat refine aI ?_); refine Lp [0,1,4,5,7,12,13] [] (fun (i_ : List Int × SlV × Option Nat × Nat) => match i_ with | ⟨gone1, x1, x1b, n1⟩ => (⟨[(6, .v (x1.val gone1.length)), (14, .v (.int .i64 (n1 : Int)))], [], [ownL EInt 3 x1 x1b gone1], [], (n1 ≤ a1.length) ∧ (gone1.length ≤ n1) ∧ (fF a1 b1 (a1.drop n1) gone1) = (dH a1 b1), a1.length - n1⟩ : Ls)) ⟨[], ⟨none, 0⟩, none, 0⟩ (Sc (Sc (Sc (Sc (Sc (Sc (Sc Sn))))))) (.nil) ⟨Nat.zero_le _, (by first | exact Nat.le_refl _ | exact Nat.zero_le _ | omega), (by simp only [dH, Cf] : (dH a1 b1) = (fF a1 b1 a1 [])).symm⟩ (Le.trans (eu EInt 3) Le4) ?_
 rintro ⟨gone1, x1, x1b, n1⟩ ⟨hkn1, hgone1, hf1⟩
 simp only [Lc]
 refine Cu (fun hlt0 => ?_) fun hge0 => ?_
 ·refine Sy Tz (Xi EPlace n1) ?_
  refine Sq (Xa EPlace) ?_
  refine AlT fun g1 => ?_
  refine Ck (fZ y2 b1 (gt a1 n1).node) fun _ => ?_
  have hf := Ri hf1.symm
  rw [aU hlt0, fF] at hf
  refine Ce hf (fun hc2 hc2p hf => ?_) fun hc2 hc2p hf => ?_
  ·refine Bl EInt [(gt a1 n1).node] fun x2 x2b => ?_
   refine Ap EInt 8 gone1 [(gt a1 n1).node] x1b fun x3 x3b => ?_
   refine Tt ?_
   refine ⟨⟨(gone1 ++ [(gt a1 n1).node]), x3, x3b, (n1 + 1)⟩, ⟨hlt0, Zl, hf.symm⟩, Oo, Le4⟩
  ·refine Tt ?_
   refine ⟨⟨gone1, x1, x1b, (n1 + 1)⟩, ⟨hlt0, Zl, hf.symm⟩, Oo, Le4⟩
 ·refine Tx ?_
  (repeat refine aI ?_); refine Lp [0,4,5,6,31,32] [] (fun (i_ : List Place × SlV × Option Nat × Nat) => match i_ with | ⟨here1, x4, x4b, n2⟩ => (⟨[(7, .v (x4.val here1.length)), (33, .v (.int .i64 (n2 : Int)))], [], [ownL EInt 3 x1 x1b gone1, ownL EPlace 99 x4 x4b here1], [], (n2 ≤ b1.length) ∧ (here1.length ≤ n2) ∧ (fE a1 gone1 (b1.drop n2) here1) = (dH a1 b1), b1.length - n2⟩ : Ls)) ⟨[], ⟨none, 0⟩, none, 0⟩ (Sc (Sc (Sc (Sc (Sc (Sc Sn)))))) (.nil) ⟨Nat.zero_le _, (by first | exact Nat.le_refl _ | exact Nat.zero_le _ | omega), (by rw [← hf1, List.drop_of_length_le hge0]; simp only [fF, Cf] : (dH a1 b1) = (fE a1 gone1 b1 [])).symm⟩ (Le.trans (eu EPlace 99) Le4) ?_
  rintro ⟨here1, x4, x4b, n2⟩ ⟨hkn2, hhere1, hf2⟩
  simp only [Lc]
  refine Cu (fun hlt1 => ?_) fun hge1 => ?_
  ·refine Sy Tz (Xi EPlace n2) ?_
   refine Sq (Xa EPlace) ?_
   refine AlT fun g2 => ?_
   refine Tx ?_
   (repeat refine aI ?_); refine aq (fun _ => some []) ?_
   refine Dx [0,1,2,3,5] ?_
   refine Rn 4 ?_
   refine Ck (fZ y1 a1 (gt b1 n2).node) fun _ => ?_
   refine Ra 6 rfl (q_neE oS (kO (br a1 (gt b1 n2).node) (gt b1 n2)) rfl rfl Zf rfl Zf rfl rfl) ?_
   refine Re0 ?_
   have hf := Ri hf2.symm
   rw [aU hlt1, fE] at hf
   refine Ch hf (fun hc4 hf => ?_) fun hc4 hf => ?_
   ·refine Bl EPlace [(gt b1 n2)] fun x5 x5b => ?_
    refine Ap EPlace 24 here1 [(gt b1 n2)] x4b fun x6 x6b => ?_
    refine Tt ?_
    refine ⟨⟨(here1 ++ [(gt b1 n2)]), x6, x6b, (n2 + 1)⟩, ⟨hlt1, Zl, hf.symm⟩, Oo, Le4⟩
   ·refine Tt ?_
    refine ⟨⟨here1, x4, x4b, (n2 + 1)⟩, ⟨hlt1, Zl, hf.symm⟩, Oo, Le4⟩
  ·refine Tx ?_
   refine cw_le (ao EInt 3 x1 x1b gone1 Uo) ?_
   refine cw_le (ao EPlace 99 x4 x4b here1 Uo) ?_
   have hf := Ri hf2.symm
   rw [List.drop_of_length_le hge1, fE] at hf
   refine Rx ?_; exact Re ⟨x1, x4⟩ Rv
def j6 (from1 : View) (to1 : View) : Delta × Int :=
 (bif (!(decide (from1.roots = to1.roots))) then ((⟨[], [], [], []⟩ : Delta), 4) else ((⟨(dH from1.known to1.known).1, (dH from1.known to1.known).2, (dH from1.way to1.way).1, (dH from1.way to1.way).2⟩ : Delta), 0))
def j7 (from1 : View) (to1 : View) : Delta × Int :=
 (bif ((cG to1) != 0) then ((⟨[], [], [], []⟩ : Delta), (cG to1)) else (j6 from1 to1))
def jd (from1 : View) (to1 : View) : Delta × Int :=
 (bif ((cG from1) != 0) then ((⟨[], [], [], []⟩ : Delta), (cG from1)) else (j7 from1 to1))
def fl (from1 : View) (to1 : View) : Delta × Int :=
 (jd from1 to1)
theorem td (y1 : SlV) (y2 : SlV) (y3 : SlV) (from1 : View) (y4 : SlV) (y5 : SlV) (y6 : SlV) (to1 : View) : Does Tryz.prog 183 [.agg ⟨cV y1 y2 y3 from1⟩, .agg ⟨cV y4 y5 y6 to1⟩] [RdL EInt y1 from1.roots, RdL EPlace y2 from1.known, RdL EPlace y3 from1.way, RdL EInt y4 to1.roots, RdL EPlace y5 to1.known, RdL EPlace y6 to1.way] (fun (X : SlV × SlV × SlV × SlV) => .tuple #[.agg ⟨cD X.1 X.2.1 X.2.2.1 X.2.2.2 (fl from1 to1).1⟩, .int .i64 (fl from1 to1).2]) (fun X => [RdL EInt X.1 (fl from1 to1).1.gone, RdL EPlace X.2.1 (fl from1 to1).1.here, RdL EInt X.2.2.1 (fl from1 to1).1.wayGone, RdL EPlace X.2.2.2 (fl from1 to1).1.wayHere]) := by
 refine Dp aH Tryz.func183 Tryz.ntmps183 Tryz.results183 fun C => ?_
 refine Pc EInt y1 from1.roots 8 fun hlen1 => ?_
 refine Pc EPlace y2 from1.known 24 fun hlen2 => ?_
 refine Pc EPlace y3 from1.way 24 fun hlen3 => ?_
 refine Pc EInt y4 to1.roots 8 fun hlen4 => ?_
 refine Pc EPlace y5 to1.known 24 fun hlen5 => ?_
 refine Pc EPlace y6 to1.way 24 fun hlen6 => ?_
 refine BxT fun g1 => ?_
 refine BxT fun g2 => ?_
 refine AlT fun g3 => ?_
 refine Sy Tz (ni rfl rfl Zf rfl rfl rfl rfl) ?_
 refine Lq Nat [2,3,4,5,12] [true, true, true] (fun n1 => ⟨[(13, .v (.int .i64 (n1 : Int)))], [], [], [], (n1 ≤ 2) ∧ (match n1 with | 0 => (jd from1 to1) | 1 => (j7 from1 to1) | _ => (j6 from1 to1)) = (fl from1 to1), 2 - n1⟩) 0 ⟨Nat.zero_le _, (by simp only [fl, Cf] : (fl from1 to1) = (jd from1 to1)).symm⟩ ?_
 rintro n1 ⟨hkn1, hf1⟩
 simp only [Lc]
 have hkn13 : n1 = 0 ∨ n1 = 1 ∨ n1 = 2 := by omega
 rcases hkn13 with rfl | rfl | rfl
 ·have hf1 : (jd from1 to1) = (fl from1 to1) := hf1
  refine Cd' (fun hc1 => ?_) fun hc1 => ?_
  ·refine Sy Tz (q_ixL 0 rfl rfl Zf rfl Zf rfl rfl rfl rfl rfl) ?_
   refine AlT fun g4 => ?_
   refine Ck (f5 y1 y2 y3 from1) fun _ => ?_
   have hf := Ri hf1.symm
   rw [jd] at hf
   refine Cn hf (fun hc2 hc2p hf => ?_) fun hc2 hc2p hf => ?_
   ·refine Tx ?_
    refine Fc EInt ?_
    refine Fc EPlace ?_
    refine Rx ?_; exact Re ⟨Z0, Z0, Z0, Z0⟩ Rv
   ·refine Tt ?_
    refine ⟨1, ⟨by omega, hf.symm⟩, (show 2 - 1 < 2 - 0 by decide), Le4⟩
  ·exact Bool.noConfusion (hc1.symm.trans (decide_eq_true (by decide)))
 ·have hf1 : (j7 from1 to1) = (fl from1 to1) := hf1
  refine Cd' (fun hc3 => ?_) fun hc3 => ?_
  ·refine Sy Tz (q_ixL 1 rfl rfl Zf rfl Zf rfl rfl rfl rfl rfl) ?_
   refine AlT fun g5 => ?_
   refine Ck (f5 y4 y5 y6 to1) fun _ => ?_
   have hf := Ri hf1.symm
   rw [j7] at hf
   refine Cn hf (fun hc4 hc4p hf => ?_) fun hc4 hc4p hf => ?_
   ·refine Tx ?_
    refine Fc EInt ?_
    refine Fc EPlace ?_
    refine Rx ?_; exact Re ⟨Z0, Z0, Z0, Z0⟩ Rv
   ·refine Tt ?_
    refine ⟨2, ⟨by omega, hf.symm⟩, (show 2 - 2 < 2 - 1 by decide), Le4⟩
  ·exact Bool.noConfusion (hc3.symm.trans (decide_eq_true (by decide)))
 ·have hf1 : (j6 from1 to1) = (fl from1 to1) := hf1
  refine Cd' (fun hc5 => ?_) fun hc5 => ?_
  ·exact Bool.noConfusion (hc5.symm.trans (decide_eq_false (by decide)))
  ·refine Ck ((fun y1 a y2 b => du y1 y2 a b) y1 from1.roots y4 to1.roots) fun _ => ?_
   have hf := Ri hf1.symm
   rw [j6] at hf
   refine Ch hf (fun hc6 hf => ?_) fun hc6 hf => ?_
   ·refine Tx ?_
    refine Fc EInt ?_
    refine Fc EPlace ?_
    refine Rx ?_; exact Re ⟨Z0, Z0, Z0, Z0⟩ Rv
   ·refine AlT fun g6 => ?_
    refine Ck (lu y2 from1.known y5 to1.known) fun x1 => ?_
    refine Pr EInt x1.1 (dH from1.known to1.known).1 8 fun hlen7 => ?_
    refine Pr EPlace x1.2 (dH from1.known to1.known).2 24 fun hlen8 => ?_
    refine Ck (lu y3 from1.way y6 to1.way) fun x2 => ?_
    refine Pr EInt x2.1 (dH from1.way to1.way).1 8 fun hlen9 => ?_
    refine Pr EPlace x2.2 (dH from1.way to1.way).2 24 fun hlen10 => ?_
    refine Rx ?_; exact Re ⟨x1.1, x1.2, x2.1, x2.2⟩ Rv
end Go.Proofs.YtkjccbdeaflekaaGreatDoor

namespace Go.Proofs.YtkjccbdeaflekaaGreatDoor
open Go Go.Proofs.YtkjccbdeaflekaaGreatDoor.Fw Go.Proofs
theorem s5 {h : Hub} {r : Rec} (h0 : (bi h r).2 = 0) : aK r = 0 := by
 unfold bi at h0
 cases h1 : (aK r != 0) with
 | true => rw [h1, cond_true] at h0; simp only at h0; rw [h0] at h1; cases h1
 | false => exact ai h1
theorem uu {l : List Rec} (h : (aB l).2 = 0) : l.length ≤ 60 ∧ (bS l [] [] 0 [⟨0, 0, []⟩, ⟨0, 0, []⟩, ⟨0, 0, []⟩]).2 = 0 ∧ aB l = bS l [] [] 0 [⟨0, 0, []⟩, ⟨0, 0, []⟩, ⟨0, 0, []⟩] := by
 unfold aB at h ⊢
 cases h1 : decide ((l.length : Int) > 60) with
 | true => rw [h1] at h; cases h
 | false => rw [h1, cond_false] at h; have := of_decide_eq_false h1; exact ⟨by omega, h, rfl⟩
theorem uU {h : Hub} {who : Int} (h0 : (bQ h who).2 = 0) : dt h = 0 ∧ 0 ≤ who ∧ who < 3 ∧ h.peers.length = 3 ∧ bQ h who = cF h.h.t (gt h.peers who.toNat).roots := by
 unfold bQ at h0 ⊢
 cases h1 : (dt h != 0) with
 | true => rw [h1, cond_true] at h0; simp only at h0; rw [h0] at h1; cases h1
 | false =>
  rw [h1, cond_false] at h0
  cases h2 : (decide (who < 0) || decide (who ≥ 3)) with
  | true => rw [h2, cond_true] at h0; cases h0
  | false =>
   simp only [Bool.or_eq_false_iff, decide_eq_false_iff_not] at h2
   have h3 := ai h1
   exact ⟨h3, by omega, by omega, (go h3).2.2.2, rfl⟩
theorem oY : ∀ (l : List Rec) (h : Hub), IsHub h → (bS l h.h.l h.h.t h.version h.peers).2 = 0 →
  IsHub (bS l h.h.l h.h.t h.version h.peers).1 ∧ (bS l h.h.l h.h.t h.version h.peers).1.version = h.version + (l.length : Int)
 | [], h, hh, _ => ⟨hh, by simp [bS]⟩
 | q :: l, h, hh, h0 => by
  rw [bS] at h0 ⊢
  have he : (⟨⟨h.h.l, h.h.t⟩, h.version, h.peers⟩ : Hub) = h := rfl
  simp only [he] at h0 ⊢
  cases h1 : ((bi h q).2 != 0) with
  | true => rw [h1, cond_true] at h0; simp only at h0; rw [h0] at h1; cases h1
  | false =>
   rw [h1, cond_false] at h0
   have hn := s6 hh (ai h1)
   obtain ⟨a, b⟩ := oY l (bi h q).1 hn.1 h0
   simp only [cond_false, List.length_cons]
   exact ⟨a, by rw [b, hn.2]; omega⟩
theorem ss {l : List Rec} (h0 : (aB l).2 = 0) : IsHub (aB l).1 ∧ (aB l).1.version = (l.length : Int) ∧ l.length ≤ 60 := by
 have hr := uu h0
 have := oY l dj li hr.2.1
 have e1 : aB l = bS l dj.h.l dj.h.t dj.version dj.peers := hr.2.2
 rw [e1]
 exact ⟨this.1, by rw [this.2]; exact Int.zero_add _, hr.1⟩
theorem nX {l : List Rec} {S : Hub × Int} (hS : aB l = S) (h0 : S.2 = 0) : IsHub S.1 ∧ S.1.version = (l.length : Int) ∧ l.length ≤ 60 := by
 subst hS; exact ss h0
theorem mc : ∀ (l : List Mail), fm l = 0 ↔ ∀ m ∈ l, cr m = 0
 | [] => by simp [fm]
 | m :: l => by
  rw [fm]
  cases h1 : (cr m != 0) with
  | true => simp only [cond_true]; exact ⟨fun h => (by rw [h] at h1; cases h1), fun h => h m (.head _)⟩
  | false => simp only [cond_false, mc l, List.mem_cons, forall_eq_or_imp, ai h1, true_and]
theorem eO (l : List Mail) : cj l = 0 ↔ l.length ≤ 30 ∧ ∀ m ∈ l, cr m = 0 := by
 unfold cj
 cases h1 : decide ((l.length : Int) > 30) with
 | true => have h1 := of_decide_eq_true h1; simp only [cond_true]; exact ⟨fun h => absurd h (by decide), fun h => absurd h.1 (by omega)⟩
 | false => have h1 := of_decide_eq_false h1; simp only [cond_false, mc]; exact ⟨fun h => ⟨by omega, h⟩, fun h => h.2⟩
theorem n9 {m : Mail} (h : cr m = 0) : 0 ≤ m.who ∧ m.who < 3 := by
 unfold cr at h
 cases h1 : (decide (m.kind < 1) || decide (m.kind > 3)) with
 | true => rw [h1, cond_true] at h; cases h
 | false =>
  rw [h1, cond_false] at h
  cases h2 : (decide (m.who < 0) || decide (m.who ≥ 3)) with
  | true => rw [h2, cond_true] at h; cases h
  | false => simp only [Bool.or_eq_false_iff, decide_eq_false_iff_not] at h2; omega
theorem lz {l : List Mail} {k : Int} {t : Bool} (h : (aL l k t).2.2 = 0) : cj l = 0 ∧ 0 ≤ k ∧ k < (l.length : Int) ∧ aL l k t = (bif t then l else l.take k.toNat ++ l.drop (k + 1).toNat, gt l k.toNat, 0) := by
 obtain ⟨h1, h2, h3⟩ := uD h
 refine ⟨h1, h2, h3, ?_⟩
 unfold aL
 have e1 : (cj l != 0) = false := by rw [h1]; rfl
 have e2 : (decide (k < 0) || decide (k ≥ (l.length : Int))) = false := by simp only [Bool.or_eq_false_iff, decide_eq_false_iff_not]; omega
 have e3 : gt ((l.drop k.toNat).take ((k + 1).toNat - k.toNat)) 0 = gt l k.toNat := by
  rw [show (k + 1).toNat - k.toNat = 1 by omega, aU (by omega : k.toNat < l.length)]; rfl
 rw [e1, e2, e3]
 cases t <;> rfl
theorem zy {l : List Mail} {k : Int} {t : Bool} (h : (aL l k t).2.2 = 0) : 0 ≤ (aL l k t).2.1.who ∧ (aL l k t).2.1.who < 3 := by
 obtain ⟨h1, h2, h3, h4⟩ := lz h
 rw [h4]
 exact n9 (((eO l).1 h1).2 _ (im (by omega)))
theorem ym {l : List Mail} {k : Int} {t : Bool} {S : List Mail × Mail × Int} (hS : aL l k t = S) (h : S.2.2 = 0) : 0 ≤ S.2.1.who ∧ S.2.1.who < 3 := by
 subst hS; exact zy h
theorem qY (q : Place → Bool) (n : Int) : ∀ {l : List Place}, Rising l → find (l.filter q) n = bif ((find l n).node != 0 && q (find l n)) then find l n else ⟨0, 0, 0⟩
 | [], _ => rfl
 | p :: r, h => by
  obtain ⟨h1, h2⟩ := List.pairwise_cons.1 h.up
  have hp := h.rng p (.head _)
  have hr : Rising r := ⟨h2, fun x hx => h.rng x (.tail _ hx), fun x hx => h.par x (.tail _ hx)⟩
  have ih := qY q n hr
  rw [List.filter_cons, find]
  cases hn : (p.node == n) with
  | true =>
   have hn' : p.node = n := by simpa using hn
   have h0 : (p.node != 0) = true := by simp; omega
   rw [cond_true, h0, Bool.true_and]
   cases hq : q p with
   | true => simp [find, hn]
   | false =>
    simp only [Bool.false_eq_true, if_false, cond_false]
    exact pk fun x hx => by have := h1 x (List.mem_filter.1 hx).1; omega
  | false =>
   rw [cond_false]
   cases hq : q p with
   | true => simp only [if_true]; rw [find, hn, cond_false]; exact ih
   | false => simpa using ih
theorem Rising.filter {l : List Place} (h : Rising l) (q : Place → Bool) : Rising (l.filter q) :=
 ⟨h.up.filter _, fun p hp => h.rng p (List.mem_filter.1 hp).1, fun p hp => h.par p (List.mem_filter.1 hp).1⟩
theorem Up.of_filter {l : List Place} (h : Rising l) {q : Place → Bool} {a b : Int} (hu : Up (l.filter q) a b) : Up l a b := by
 obtain ⟨k, hw⟩ := hu
 refine ⟨k, ?_⟩
 induction hw with
 | here x => exact .here x
 | @up x b k hok hn _ ih =>
  rw [qY q x h] at hn ih
  cases hc : ((find l x).node != 0 && q (find l x)) with
  | true => rw [hc, cond_true] at hn ih; exact .up trivial hn ih
  | false => rw [hc] at hn; exact absurd rfl hn
theorem gQ.filter {l : List Place} (h : gQ l) (q : Place → Bool) : gQ (l.filter q) :=
 ⟨fun p hp => h.ok p (List.mem_filter.1 hp).1, h.up.filter _, fun p hp hu => h.no p (List.mem_filter.1 hp).1 (hu.of_filter h.rising)⟩
theorem AV {h : Hub} (hh : IsHub h) (r : Rec) : fU h r = bi h r := by
 unfold fU
 rw [(en h).2 hh]; rfl
end Go.Proofs.YtkjccbdeaflekaaGreatDoor
