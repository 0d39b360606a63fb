/- Part of this claim. No condition. -/
import Derived.Test.YtpkaloknohpleaaGreatDoorC13
import Derived.Test.YtpkaloknohpleaaGreatDoorC9
import Derived.Test.YtpkaloknohpleaaGreatDoorC5
set_option linter.unusedVariables false
set_option linter.unusedSimpArgs false
set_option maxHeartbeats 2000000
namespace Go.Proofs.YtpkaloknohpleaaGreatDoor
open Go Go.Proofs.YtpkaloknohpleaaGreatDoor.Fw Go.Proofs
attribute [local irreducible] RdL RdN VarP LibP RW CW
def bw (w1 : Wld) : List Client → Nat → Bool
 | [], n1 => true
 | pn1 :: rn1, n1 => (bif (pn1.version == 0) then (bw w1 rn1 (n1 + 1)) else (bif (((dU w1 pn1.version (n1 : Int)).2 != 0) || (!(eD (dU w1 pn1.version (n1 : Int)).1 pn1.v))) then false else (bw w1 rn1 (n1 + 1))))
def bZ (w1 : Wld) : Bool :=
 (bw w1 w1.c 0)
theorem il (y1 : SlV) (y2 : SlV) (y3 : SlV) (y4 : SlV) (y5 : SlV) (y6 : SlV) (y7 : SlV) (w1 : Wld) : Does Tryz.prog 14 [.agg ⟨[y1.val w1.h.h.l.length, y2.val w1.h.h.t.length, .int .i64 w1.h.version, y3.val w1.h.peers.length, y4.val w1.d.safe.length, y5.val w1.d.wait.length, .bool w1.up, y6.val w1.c.length, y7.val w1.mail.length]⟩] [RdL EStep y1 w1.h.h.l, RdL EPlace y2 w1.h.h.t, RdN NPeer y3 w1.h.peers, RdL EByte y4 w1.d.safe, RdL EByte y5 w1.d.wait, RdN NClient y6 w1.c, RdN NMail y7 w1.mail, LibP Tryz.prog] (fun (_ : Unit) => .bool (bZ w1)) (fun _ => []) := by
 refine bj aZ Tryz.func14 rfl Tryz.ntmps14 Tryz.results14 rfl inferInstance (fun _ => inferInstance) fun C => ?_
 refine Pc EStep y1 w1.h.h.l 88 fun hlen1 => ?_
 refine Pc EPlace y2 w1.h.h.t 24 fun hlen2 => ?_
 refine Pn NPeer y3 w1.h.peers 40 fun hlen3 => ?_
 refine Pc EByte y4 w1.d.safe 1 fun hlen4 => ?_
 refine Pc EByte y5 w1.d.wait 1 fun hlen5 => ?_
 refine Pn NClient y6 w1.c 128 fun hlen6 => ?_
 refine Pn NMail y7 w1.mail 280 fun hlen7 => ?_
 refine Tx ?_
 refine Bx fun g1 => ?_
 refine Tx ?_
 (repeat refine ao ?_); refine Lp [1,2,8,9] [true] (fun (n1 : Nat) => (⟨[(10, .v (.int .i64 (n1 : Int)))], [], [], [], (n1 ≤ w1.c.length) ∧ (bw w1 (w1.c.drop n1) n1) = (bZ w1), w1.c.length - n1⟩ : Ls)) 0 (Sc (Sc (Sc (Sc Sn)))) (.keep (.nil)) ⟨Nat.zero_le _, (by simp only [bZ, Cb, Cf] : (bZ w1) = (bw w1 w1.c 0)).symm⟩ Le4 ?_
 rintro n1 ⟨hkn1, hf1⟩
 simp only [List.cons_append, List.nil_append]
 refine Tx ?_
 refine Cd (b := decide ((n1 : Int) < (w1.c.length : Int))) (fun hc1 => ?_) fun hc1 => ?_
 ·have hlt0 : n1 < w1.c.length := Int.ofNat_lt.1 (of_decide_eq_true hc1)
  refine Tx ?_
  refine fj NClient (X := y6) (l := w1.c) Mm fun (γ1 : Nat → SlV × SlV × SlV × SlV) => ?_
  refine rw_q rfl rfl rfl (dw NClient γ1 n1 rfl rfl Zf rfl Zf rfl rfl rfl Mm rfl Zf (fun _ => by first | assumption | omega)) ?_
  refine rw_q rfl rfl rfl (q_is (v' := .agg ⟨[.int .i64 (gt w1.c n1).life, .int .i64 (gt w1.c n1).time, .int .i64 (gt w1.c n1).seq, (γ1 n1).1.val (gt w1.c n1).pending.length, .int .i64 (gt w1.c n1).version, (γ1 n1).2.1.val (gt w1.c n1).v.roots.length, (γ1 n1).2.2.1.val (gt w1.c n1).v.known.length, (γ1 n1).2.2.2.val (gt w1.c n1).v.way.length]⟩) (fP NClient γ1 rfl rfl Zf rfl rfl Mm (fun _ => by first | assumption | omega)) rfl) ?_
  refine aI (F := RdL EOp (γ1 n1).1 (gt w1.c n1).pending) [am NClient γ1 w1.c] Sm (fun M w h => (allF1 h) n1 Zc _ (.head _)) ?_
  refine aI (F := RdL EInt (γ1 n1).2.1 (gt w1.c n1).v.roots) [am NClient γ1 w1.c] Sm (fun M w h => (allF1 h) n1 Zc _ (.tail _ (.head _))) ?_
  refine aI (F := RdL EPlace (γ1 n1).2.2.1 (gt w1.c n1).v.known) [am NClient γ1 w1.c] Sm (fun M w h => (allF1 h) n1 Zc _ (.tail _ (.tail _ (.head _)))) ?_
  refine aI (F := RdL EPlace (γ1 n1).2.2.2 (gt w1.c n1).v.way) [am NClient γ1 w1.c] Sm (fun M w h => (allF1 h) n1 Zc _ (.tail _ (.tail _ (.tail _ (.head _))))) ?_
  refine Al fun g2 => ?_
  refine Tx ?_
  refine Cd (b := ((gt w1.c n1).version == 0)) (fun hc2 => ?_) fun hc2 => ?_
  ·have hc2p := eq_of_beq hc2
   refine Tx ?_
   refine rw_q rfl rfl rfl (q_add rfl rfl Zf rfl Zf Zo) ?_
   refine Tx ?_
   refine ⟨(n1 + 1), ⟨hlt0, (by rw [← hf1, aE hlt0]; simp only [bw, hc2, Cb, Cf] : (bZ w1) = (bw w1 (w1.c.drop (n1 + 1)) (n1 + 1))).symm⟩, (by simp only []; omega), Le4⟩
  ·have hc2p := ne_of_beq_false hc2
   refine Tx ?_
   refine Cl (ia y1 y2 y3 y4 y5 y6 y7 w1 (gt w1.c n1).version (n1 : Int)) fun x1 => ?_
   generalize hS1 : (dU w1 (gt w1.c n1).version (n1 : Int)) = S1
   refine Tx ?_
   refine Al fun g3 => ?_
   refine Tx ?_
   refine dv (fun hG_ => ja x1.1 x1.2.1 x1.2.2 S1.1 (γ1 n1).2.1 (γ1 n1).2.2.1 (γ1 n1).2.2.2 (gt w1.c n1).v) Zf .sq (aB rfl rfl rfl) rfl rfl rfl Kr rfl Bt Sm ?_
   refine Tx ?_
   refine Cd (b := ((S1.2 != 0) || (!(eD S1.1 (gt w1.c n1).v)))) (fun hc3 => ?_) fun hc3 => ?_
   ·refine Tx ?_
    refine ai ?_; rw [show (bZ w1) = false by rw [← hf1, aE hlt0]; simp only [bw, hc2, hS1, hc3, Cb, Cf]]; exact Re () (Vt Vn)
   ·refine Tx ?_
    refine rw_q rfl rfl rfl (q_add rfl rfl Zf rfl Zf Zo) ?_
    refine Tx ?_
    refine ⟨(n1 + 1), ⟨hlt0, (by rw [← hf1, aE hlt0]; simp only [bw, hc2, hS1, hc3, Cb, Cf] : (bZ w1) = (bw w1 (w1.c.drop (n1 + 1)) (n1 + 1))).symm⟩, (by simp only []; omega), Le4⟩
 ·have hge0 : w1.c.length ≤ n1 := by have := of_decide_eq_false hc1; omega
  refine Tx ?_
  refine ai ?_; rw [show (bZ w1) = true by rw [← hf1, List.drop_of_length_le hge0]; simp only [bw, Cb, Cf]]; exact Re () (Vt Vn)
def eG (l1 : List Happening) : Bool :=
 (eA && (aN l1 bZ).2)
theorem ox (y1 : SlV) (l1 : List Happening) : Does Tryz.prog 4 [y1.val l1.length] [RdN NHap y1 l1, LibP Tryz.prog] (fun (_ : Unit) => .bool (eG l1)) (fun _ => []) := by
 refine bj aZ Tryz.func4 rfl Tryz.ntmps4 Tryz.results4 rfl inferInstance (fun _ => inferInstance) fun C => ?_
 refine Pn NHap y1 l1 72 fun hlen1 => ?_
 refine Tx ?_
 refine Cl (gj y1 l1 _ _ _ bZ Kr (fun z0a_ z0b_ z0c_ z0d_ z0e_ z0f_ z0g_ a0_ => il z0a_ z0b_ z0c_ z0d_ z0e_ z0f_ z0g_ a0_)) fun x1 => ?_
 generalize hS1 : (aN l1 bZ) = S1
 refine Tx ?_
 refine Al fun g1 => ?_
 refine Tx ?_
 refine Cl (fv ) fun _ => ?_
 refine Tx ?_
 refine ai ?_; simp only [eG, hS1, Cb, Cf]; exact Re () (Vt Vn)
end Go.Proofs.YtpkaloknohpleaaGreatDoor

namespace Go.Proofs.YtpkaloknohpleaaGreatDoor
open Go Go.Proofs.YtpkaloknohpleaaGreatDoor.Fw Go.Proofs
def dropN (t : List Place) (n : Int) : List Place := putT t ⟨n, -1, 0⟩
theorem oK : ∀ (m l : List Place), el m l = m.foldl putT l
 | [], _ => rfl
 | p :: r, l => by rw [el, iu, oK r]; rfl
theorem oL (here : List Place) : ∀ (g : List Int) (l : List Place), em here g l = here.foldl putT (g.foldl dropN l)
 | [], l => oK _ _
 | n :: r, l => by rw [em, iu, oL here r]; rfl
theorem vA (l : List Place) (g : List Int) (h : List Place) : bN l g h = h.foldl putT (g.foldl dropN l) := oL h g l
theorem Rising.drops : ∀ (g : List Int) {l : List Place}, Rising l → (∀ n ∈ g, 1 ≤ n ∧ n < 16) → Rising (g.foldl dropN l)
 | [], _, h, _ => h
 | n :: r, _, h, hg => Rising.drops r (h.put (p := ⟨n, -1, 0⟩) (hg n (.head _))) fun m hm => hg m (.tail _ hm)
theorem o3 (m : Int) : ∀ (g : List Int) (l : List Place), find (g.foldl dropN l) m = bif decide (m ∈ g) then ⟨0, 0, 0⟩ else find l m
 | [], l => by simp
 | n :: r, l => by
  rw [List.foldl_cons, o3 m r]
  unfold dropN
  rw [fe]
  by_cases h1 : m = n
  ·subst h1; simp
  ·have : (m == n) = false := by simpa using h1
   simp [h1, this]
theorem kP (a : List Place) (gone : List Int) : ∀ (l here : List Place), cV a gone l here = (gone, here ++ l.filter (fun p => !decide (ca a p.node = p)))
 | [], here => by simp [cV]
 | p :: r, here => by
  rw [cV, kP a gone r, kP a gone r, List.filter_cons]
  cases h : (!decide (ca a p.node = p)) <;> simp
theorem kQ (a b : List Place) : ∀ (l : List Place) (gone : List Int), cW a b l gone = (gone ++ (l.filter (fun p => (ca b p.node).node == 0)).map Place.node, b.filter (fun p => !decide (ca a p.node = p)))
 | [], gone => by rw [cW, kP]; simp
 | p :: r, gone => by
  rw [cW, kQ a b r, kQ a b r, List.filter_cons]
  cases h : ((ca b p.node).node == 0) <;> simp
def jB (a b : List Place) : List Int := (a.filter (fun p => (find b p.node).node == 0)).map Place.node
def lv (a b : List Place) : List Place := b.filter (fun p => !decide (find a p.node = p))
theorem qz (a b : List Place) : bP a b = (jB a b, lv a b) := by
 unfold bP jB lv
 rw [kQ]
 simp only [gF, List.nil_append]
theorem pw {a b : List Place} (ha : Rising a) {n : Int} : n ∈ jB a b ↔ (find a n).node ≠ 0 ∧ (find b n).node = 0 := by
 unfold jB
 rw [List.mem_map]
 constructor
 ·rintro ⟨p, h1, rfl⟩
  obtain ⟨h2, h3⟩ := List.mem_filter.1 h1
  rw [lb ha.up p h2]
  have := ha.rng p h2
  exact ⟨by omega, by simpa using h3⟩
 ·rintro ⟨h1, h2⟩
  obtain ⟨h3, h4⟩ := jC h1
  exact ⟨_, List.mem_filter.2 ⟨h4, by rw [h3]; simpa using h2⟩, h3⟩
theorem tM {a b : List Place} (ha : Rising a) (hb : Rising b) (n : Int) : find (lv a b) n = bif ((find b n).node != 0 && !decide (find a n = find b n)) then find b n else ⟨0, 0, 0⟩ := by
 unfold lv
 rw [fX _ n hb]
 cases h : ((find b n).node != 0) with
 | false => rfl
 | true =>
  have := (jC (by simpa using h)).1
  rw [this]
theorem qW {a b : List Place} (ha : gr a) (hb : gr b) : Half (jB a b) (lv a b) := by
 have hla := ld ((eB _).2 ha)
 have hlb := ld ((eB _).2 hb)
 refine ⟨?_, ?_, fun n hn => ?_, ?_, fun p hp => hb.ok p (List.mem_filter.1 hp).1, fun p hp hg => ?_, hb.up.filter _⟩
 ·unfold jB
  rw [List.length_map]
  have := List.length_filter_le (fun p : Place => (find b p.node).node == 0) a
  omega
 ·unfold lv
  have := List.length_filter_le (fun p : Place => !decide (find a p.node = p)) b
  omega
 ·unfold jB at hn
  obtain ⟨p, hp, rfl⟩ := List.mem_map.1 hn
  exact ha.rising.rng p (List.mem_filter.1 hp).1
 ·unfold jB
  exact List.pairwise_map.2 (ha.up.filter _)
 ·have h1 := (pw ha.rising).1 hg
  have h2 := lb hb.up p (List.mem_filter.1 hp).1
  have h3 := hb.rising.rng p (List.mem_filter.1 hp).1
  rw [h2] at h1
  omega
theorem nx {a b : List Place} (ha : gr a) (hb : gr b) : bN a (jB a b) (lv a b) = b := by
 have hh := qW ha hb
 have hr : Rising (lv a b) := hb.rising.filter _
 rw [vA]
 refine Rising.ext (Rising.puts _ (Rising.drops _ ha.rising hh.rng) hr.rng) hb.rising fun n h1 h2 => ?_
 rw [nW h1 hr, o3, tM ha.rising hb.rising]
 cases hz : ((find b n).node != 0) with
 | false =>
  have hz' : (find b n).node = 0 := ae hz
  have hn := hb.rising.none hz'
  simp only [Bool.false_and, cond_false]
  rw [hn]
  by_cases hg : n ∈ jB a b
  ·simp [hg]
  ·simp only [hg, decide_false, cond_false]
   have : ¬ (find a n).node ≠ 0 := fun h => hg ((pw ha.rising).2 ⟨h, hz'⟩)
   have := ha.rising.none (by simpa using this)
   rw [this]; rfl
 | true =>
  have hz' : (find b n).node ≠ 0 := by simpa using hz
  by_cases he : find a n = find b n
  ·have hg : n ∉ jB a b := fun h => hz' ((pw ha.rising).1 h).2
   simp [he, hg]
  ·simp only [he, decide_false, Bool.not_false, Bool.and_self, cond_true, hz]
def iK (v w : View) : Delta := ⟨jB v.known w.known, lv v.known w.known, jB v.way w.way, lv v.way w.way⟩
theorem n6 (v w : View) : cZ v w = bif bv v != 0 then (⟨[], [], [], []⟩, bv v) else bif bv w != 0 then (⟨[], [], [], []⟩, bv w) else bif !(decide (v.roots = w.roots)) then (⟨[], [], [], []⟩, 4) else (iK v w, 0) := by
 unfold cZ fb e9 e8 iK
 rw [qz, qz]
theorem qZ {v w : View} (hv : i6 v) (hw : i6 w) (hr : v.roots = w.roots) : cZ v w = (iK v w, 0) := by
 rw [n6, (dr v).2 hv, (dr w).2 hw]
 simp [hr]
theorem oG {v w : View} (hv : i6 v) (hw : i6 w) : bg (iK v w) = 0 :=
 (kN _).2 ⟨qW hv.known hw.known, qW hv.way hw.way⟩
theorem oI {v w : View} (hv : i6 v) (hw : i6 w) (hr : v.roots = w.roots) : bH v (iK v w) = (w, 0) := by
 have h1 : (⟨v.roots, bN v.known (iK v w).gone (iK v w).here, bN v.way (iK v w).wayGone (iK v w).wayHere⟩ : View) = w := by
  simp only [iK]
  rw [nx hv.known hw.known, nx hv.way hw.way, hr]
 unfold bH
 rw [h1, (dr v).2 hv, (dr w).2 hw, oG hv hw]
 rfl
def fZ (l : List Rec) (v : Nat) (k : Nat) : View × Int := bW (aq (l.take v)).1.h.t (gt (aq (l.take v)).1.peers k).roots
theorem jP (l : List Rec) (r : Rec) {v : Nat} (h : v ≤ l.length) (k : Nat) : fZ (l ++ [r]) v k = fZ l v k := by
 unfold fZ; rw [List.take_append_of_le_length h]
theorem mE {t : List Place} {roots : List Int} {v : View} (h : bW t roots = (v, 0)) : i6 v := by
 obtain ⟨h1, h2, h3⟩ := Of_ok (by rw [h])
 rw [h] at h3
 have : v = iz t roots := congrArg Prod.fst h3
 rw [this]
 exact sR ((eB _).1 h1) ((jF _).1 h2)
structure qD (l : List Rec) (m : Mail) : Prop where
 view : m.kind = 2 → 0 ≤ m.version ∧ m.version ≤ (l.length : Int) ∧ fZ l m.version.toNat m.who.toNat = (m.v, 0)
 delta : m.kind = 3 → 1 ≤ m.frm ∧ m.frm ≤ (l.length : Int) ∧ 0 ≤ m.version ∧ m.version ≤ (l.length : Int) ∧ ∃ u v, fZ l m.frm.toNat m.who.toNat = (u, 0) ∧ fZ l m.version.toNat m.who.toNat = (v, 0) ∧ u.roots = v.roots ∧ m.d = iK u v
theorem qD.grow {l : List Rec} {m : Mail} (h : qD l m) (r : Rec) : qD (l ++ [r]) m where
 view hk := by
  obtain ⟨a, b, c⟩ := h.view hk
  exact ⟨a, by simp only [List.length_append]; omega, by rw [jP l r (by omega)]; exact c⟩
 delta hk := by
  obtain ⟨a, b, c, d, u, v, e1, e2, e3, e4⟩ := h.delta hk
  exact ⟨a, by simp only [List.length_append]; omega, c, by simp only [List.length_append]; omega, u, v, by rw [jP l r (by omega)]; exact e1, by rw [jP l r (by omega)]; exact e2, e3, e4⟩
structure qE (w : Wld) (l : List Rec) : Prop where
 log : LogOk l
 cli : ∀ k, k < 3 → (gt w.c k).version = 0 ∨ ((gt w.c k).version ≤ (l.length : Int) ∧ fZ l (gt w.c k).version.toNat k = ((gt w.c k).v, 0))
 mail : ∀ m ∈ w.mail, qD l m
theorem sJ {c : Client} {me : Int} {m : Mail} (h : (aL c me m).2 = 0) : m.who = me ∧ ((aL c me m).1 = c ∨ (m.kind = 2 ∧ (aL c me m).1 = fy c m m.v) ∨
  (m.kind = 3 ∧ m.frm = c.version ∧ (aL c me m).1 = fy c m (bH c.v m.d).1)) := by
 obtain ⟨hc, hs, hw, hk, _⟩ := pP h
 have hme : m.who = me := by
  have := (Bool.or_eq_false_iff.1 hk).2
  simpa using this
 refine ⟨hme, ?_⟩
 rw [rk, (cL _ _).2 hc, hw, hk]
 simp only [bne_self_eq_false, cond_false]
 cases h4 : stale c m with
 | true => exact .inl rfl
 | false =>
 rw [cond_false]
 cases h5 : (m.kind == 3) with
 | false =>
  refine .inr (.inl ⟨?_, rfl⟩)
  have := beq_eq_false_iff_ne.1 h5
  have := hs.kind; omega
 | true =>
  rw [cond_true]
  cases h6 : (m.frm != c.version) with
  | true => exact .inl rfl
  | false =>
   rw [cond_false]
   cases h7 : ((bH c.v m.d).2 != 0) with
   | true =>
    rw [rk, (cL _ _).2 hc, hw, hk, h4, h5, h6, h7] at h
    simp only [bne_self_eq_false, cond_false, cond_true] at h
    rw [h] at h7; cases h7
   | false => exact .inr (.inr ⟨eq_of_beq h5, ae h6, rfl⟩)
theorem vC {w : Wld} {l : List Rec} (h : IsW w l) (hu : w.up = true) {who : Int} (h0 : (bs w.h who).2 = 0) : fZ l l.length who.toNat = ((bs w.h who).1, 0) := by
 obtain ⟨_, _, _, _, h4⟩ := j6 h0
 unfold fZ
 rw [List.take_length, (h.up hu).2]
 simp only
 rw [← h4]
 exact Prod.ext rfl h0
theorem qO {w : Wld} {l : List Rec} {x : Happening} {m : Mail} (h : IsW w l) (hu : w.up = true) (hm : Shown w l x m) : qD l m := by
 have hv := h.hub.2 hu
 have h1 := vC h hu hm.sees
 rcases hm.case with rfl | ⟨n0, n1, g, g1, g2, g3, g4, g5, rfl⟩
 ·refine ⟨fun _ => ⟨?_, ?_, ?_⟩, fun hk => absurd (show (2 : Int) = 3 from hk) (by decide)⟩
  ·show 0 ≤ w.h.version; omega
  ·show w.h.version ≤ _; omega
  ·show fZ l w.h.version.toNat x.who.toNat = _
   rw [hv, Int.toNat_natCast]; exact h1
 ·refine ⟨fun hk => absurd (show (3 : Int) = 2 from hk) (by decide), fun _ => ?_⟩
  have hn : x.n ≠ 0 := by
   intro hn
   rw [hn] at g1
   have : g = b8 := (congrArg Prod.fst g1).symm
   rw [this] at g2
   have hl := hm.life
   rw [← g2] at hl
   apply hl
   rcases (by have := j6 hm.sees; omega : x.who.toNat = 0 ∨ x.who.toNat = 1 ∨ x.who.toNat = 2) with e | e | e <;> rw [e] <;> rfl
  have h2 : fZ l x.n.toNat x.who.toNat = ((bs g x.who).1, 0) := by
   obtain ⟨_, _, _, _, e4⟩ := j6 g4
   unfold fZ
   rw [g1]
   simp only
   rw [← e4]
   exact Prod.ext rfl g4
  have hd : (bs g x.who).1.roots = (bs w.h x.who).1.roots := by
   rw [n6, (dr _).2 (mE h2), (dr _).2 (mE h1)] at g5
   simp only [bne_self_eq_false, cond_false] at g5
   cases hb : (!(decide ((bs g x.who).1.roots = (bs w.h x.who).1.roots))) with
   | true => rw [hb] at g5; cases g5
   | false => simpa using hb
  refine ⟨?_, ?_, ?_, ?_, (bs g x.who).1, (bs w.h x.who).1, h2, ?_, hd, ?_⟩
  ·show 1 ≤ x.n; omega
  ·show x.n ≤ _; omega
  ·show 0 ≤ w.h.version; omega
  ·show w.h.version ≤ _; omega
  ·show fZ l w.h.version.toNat x.who.toNat = _
   rw [hv, Int.toNat_natCast]; exact h1
  ·show (cZ _ _).1 = _
   rw [qZ (mE h2) (mE h1) hd]
theorem qE.step {w w' : Wld} {l l' : List Rec} {x : Happening} (h : IsW w l) (hi : qE w l) (hp : Hap w l x w' l') : qE w' l' := by
 have hlog := hp.log h hi.log
 have grow : ∀ r k, k < 3 → (gt w.c k).version = 0 ∨ ((gt w.c k).version ≤ ((l ++ [r]).length : Int) ∧ fZ (l ++ [r]) (gt w.c k).version.toNat k = ((gt w.c k).v, 0)) := fun r k hk => by
  rcases hi.cli k hk with h1 | ⟨h1, h2⟩
  ·exact .inl h1
  ·exact .inr ⟨by simp only [List.length_append]; omega, by rw [jP l r (by omega)]; exact h2⟩
 cases hp with
 | hear hx hn m hm hk hh =>
  have hmem : m ∈ w.mail := by rw [hm]; exact gn (by omega)
  have ht := hi.mail m hmem
  obtain ⟨_, h3⟩ := sJ hh
  have hw : 0 ≤ m.who ∧ m.who < 3 := f9 (((dD _).1 h.mail).2 _ hmem)
  refine ⟨hlog, fun k hk3 => ?_, fun q hq => hi.mail q (k7 hq)⟩
  show (gt (w.c.set _ _) k).version = 0 ∨ ((gt (w.c.set _ _) k).version ≤ _ ∧ fZ l (gt (w.c.set _ _) k).version.toNat k = ((gt (w.c.set _ _) k).v, 0))
  rw [iq h (by omega)]
  by_cases hkm : k = m.who.toNat
  ·rw [if_pos hkm]
   rcases h3 with h3 | ⟨k2, h3⟩ | ⟨k3, hf, h3⟩
   ·rw [h3, ← hkm]; exact hi.cli k hk3
   ·obtain ⟨a, b, c⟩ := ht.view k2
    rw [h3, hkm]
    exact .inr ⟨b, c⟩
   ·obtain ⟨a, b, c, d, u, v, e1, e2, e3, e4⟩ := ht.delta k3
    rw [h3, hkm]
    refine .inr ⟨d, ?_⟩
    show fZ l m.version.toNat m.who.toNat = ((bH (gt w.c m.who.toNat).v m.d).1, 0)
    have hc : (gt w.c m.who.toNat).v = u := by
     rcases hi.cli m.who.toNat (by omega) with z | ⟨_, z⟩
     ·omega
     ·rw [← hf, e1] at z; exact (congrArg Prod.fst z).symm
    rw [e2, hc, e4, oI (mE e1) (mE e2) e3]
  ·rw [if_neg hkm]; exact hi.cli k hk3
 | got _ _ m _ _ _ _ => exact ⟨hlog, grow _, fun q hq => (hi.mail q (k7 hq)).grow _⟩
 | late _ _ m _ _ _ _ => exact ⟨hlog, hi.cli, fun q hq => hi.mail q (k7 hq)⟩
 | lose _ _ =>
  refine ⟨hlog, hi.cli, fun q hq => hi.mail q ?_⟩
  rcases List.mem_append.1 hq with hq | hq
  ·exact List.mem_of_mem_take hq
  ·exact List.mem_of_mem_drop hq
 | crash _ _ => exact ⟨hlog, hi.cli, hi.mail⟩
 | boot _ _ _ => exact ⟨hlog, hi.cli, hi.mail⟩
 | move _ hw h0 =>
  obtain ⟨_, _, _, _, _, _, a7⟩ := nn h0
  refine ⟨hlog, fun k hk3 => ?_, fun q hq => ?_⟩
  ·show (gt (w.c.set _ _) k).version = 0 ∨ ((gt (w.c.set _ _) k).version ≤ _ ∧ fZ l (gt (w.c.set _ _) k).version.toNat k = ((gt (w.c.set _ _) k).v, 0))
   rw [iq h (by omega)]
   by_cases hkm : k = x.who.toNat
   ·rw [if_pos hkm, a7, hkm]; exact hi.cli _ (by omega)
   ·rw [if_neg hkm]; exact hi.cli k hk3
  ·rcases ir hq with hq | rfl
   ·exact hi.mail q hq
   ·exact ⟨fun hk => absurd (show (1 : Int) = 2 from hk) (by decide), fun hk => absurd (show (1 : Int) = 3 from hk) (by decide)⟩
 | again _ _ _ =>
  refine ⟨hlog, hi.cli, fun q hq => ?_⟩
  rcases ir hq with hq | rfl
  ·exact hi.mail q hq
  ·exact ⟨fun hk => absurd (show (1 : Int) = 2 from hk) (by decide), fun hk => absurd (show (1 : Int) = 3 from hk) (by decide)⟩
 | began _ hw hu _ h1 =>
  refine ⟨hlog, fun k hk3 => ?_, fun q hq => (hi.mail q hq).grow _⟩
  show (gt (w.c.set _ _) k).version = 0 ∨ ((gt (w.c.set _ _) k).version ≤ _ ∧ fZ _ (gt (w.c.set _ _) k).version.toNat k = ((gt (w.c.set _ _) k).v, 0))
  rw [iq h (by omega)]
  by_cases hkm : k = x.who.toNat
  ·rw [if_pos hkm, (ou (k := 0) (by omega) h1).2]; exact .inl rfl
  ·rw [if_neg hkm]; exact grow _ k hk3
 | roots _ _ _ _ => exact ⟨hlog, grow _, fun q hq => (hi.mail q hq).grow _⟩
 | shown _ _ hu m hm =>
  refine ⟨hlog, hi.cli, fun q hq => ?_⟩
  rcases ir hq with hq | rfl
  ·exact hi.mail q hq
  ·exact qO h hu hm
theorem At_eq {w : Wld} {l : List Rec} (h : IsW w l) (hl : LogOk l) {v : Int} {k : Nat} (hk : k < 3) (hv : 0 ≤ v ∧ v ≤ (l.length : Int)) : dU w v (k : Int) = fZ l v.toNat k := by
 unfold dU fZ
 have e1 : (aW w != 0) = false := by rw [(d8 w).2 ⟨l, h⟩]; rfl
 have e2 : (decide (v < 0) || decide (v > (l.length : Int))) = false := by simp only [Bool.or_eq_false_iff, decide_eq_false_iff_not]; omega
 have h3 := pN hl v.toNat
 have h4 := (lf h3).1.three
 have e3 : (decide ((k : Int) < 0) || decide ((k : Int) ≥ ((aq (l.take v.toNat)).1.peers.length : Int))) = false := by
  rw [h4]; simp only [Bool.or_eq_false_iff, decide_eq_false_iff_not]; omega
 rw [e1, h.recd]
 simp only [e2, h3, e3, bne_self_eq_false, cond_false, Int.toNat_natCast]
theorem rf {w : Wld} {l : List Rec} (h : IsW w l) (hi : qE w l) : ∀ (r : List Client) (k : Nat), r = w.c.drop k → bw w r k = true
 | [], _, _ => rfl
 | c :: r, k, hr => by
  have hlt : k < w.c.length := by
   rcases Nat.lt_or_ge k w.c.length with h' | h'
   ·exact h'
   ·rw [List.drop_of_length_le h'] at hr; cases hr
  rw [aE hlt] at hr
  obtain ⟨rfl, hr'⟩ := List.cons.inj hr
  have hk : k < 3 := by rw [← h.three]; exact hlt
  rw [bw]
  cases hv : ((gt w.c k).version == 0) with
  | true => exact rf h hi r (k + 1) hr'
  | false =>
   have hv := beq_eq_false_iff_ne.1 hv
   have hrng := ((cL _ _).1 (h.cli k hk)).rng
   rcases hi.cli k hk with h1 | ⟨h1, h2⟩
   ·exact absurd h1 hv
   ·rw [At_eq h hi.log hk ⟨by omega, h1⟩, h2]
    have : eD (gt w.c k).v (gt w.c k).v = true := (rZ _ _).2 rfl
    simp only [bne_self_eq_false, this, Bool.not_true, Bool.or_self, cond_false]
    exact rf h hi r (k + 1) hr'
theorem um (l : List Happening) : eG l = true := by
 unfold eG
 rw [nz, Bool.true_and]
 refine nH qE ⟨rfl, fun k hk => .inl ?_, fun m hm => by cases hm⟩ (fun w l x w' l' h hi hp => hi.step h hp) (fun w l h hi => ?_) l
 ·rcases (by omega : k = 0 ∨ k = 1 ∨ k = 2) with rfl | rfl | rfl <;> rfl
 ·exact rf h hi w.c 0 rfl
end Go.Proofs.YtpkaloknohpleaaGreatDoor
