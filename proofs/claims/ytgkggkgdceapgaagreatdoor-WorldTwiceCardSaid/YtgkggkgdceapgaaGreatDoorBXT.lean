/- Part of this claim. No condition. -/
import Derived.Test.YtgkggkgdceapgaaGreatDoorB13
import Derived.Test.YtgkggkgdceapgaaGreatDoorB4
import Derived.Test.YtgkggkgdceapgaaGreatDoorBXTAK
set_option linter.unusedVariables false
set_option linter.unusedSimpArgs false
set_option maxHeartbeats 2000000
namespace Go.Proofs.YtgkggkgdceapgaaGreatDoor
open Go Go.Proofs.YtgkggkgdceapgaaGreatDoor.Fw Go.Proofs
attribute [local irreducible] RdL RdN VarP LibP RW CW
def dT (w1 : Wld) (k1 : Int) : Bool :=
 (bif (((!bD) || ((aF w1) != 0)) || ((w1.mail.length : Int) == 0)) then bD else (bif ((aK w1 (⟨8, 0, (ai k1 (w1.mail.length : Int)), 0, 0, 0, ([] : List Int)⟩ : Happening)).2 != 0) then true else (((aK (aK w1 (⟨8, 0, (ai k1 (w1.mail.length : Int)), 0, 0, 0, ([] : List Int)⟩ : Happening)).1 (⟨8, 0, (ai k1 (w1.mail.length : Int)), 0, 0, 0, ([] : List Int)⟩ : Happening)).2 == 0) && (fS (aK w1 (⟨8, 0, (ai k1 (w1.mail.length : Int)), 0, 0, 0, ([] : List Int)⟩ : Happening)).1 (aK (aK w1 (⟨8, 0, (ai k1 (w1.mail.length : Int)), 0, 0, 0, ([] : List Int)⟩ : Happening)).1 (⟨8, 0, (ai k1 (w1.mail.length : Int)), 0, 0, 0, ([] : List Int)⟩ : Happening)).1))))
theorem nW (y1 : SlV) (y2 : SlV) (y3 : SlV) (y4 : SlV) (y5 : SlV) (y6 : SlV) (y7 : SlV) (w1 : Wld) (k1 : Int) : Does Tryz.prog 6 [.agg ⟨[y1.val w1.h.h.l.length, y2.val w1.h.h.t.length, .int .i64 w1.h.version, y3.val w1.h.peers.length, y4.val w1.d.safe.length, y5.val w1.d.wait.length, .bool w1.up, y6.val w1.c.length, y7.val w1.mail.length]⟩, .int .i64 k1] [RdL EStep y1 w1.h.h.l, RdL EPlace y2 w1.h.h.t, RdN NPeer y3 w1.h.peers, RdL EByte y4 w1.d.safe, RdL EByte y5 w1.d.wait, RdN NClient y6 w1.c, RdN NMail y7 w1.mail, LibP Tryz.prog] (fun (_ : Unit) => .bool (dT w1 k1)) (fun _ => []) := by
 refine bd aV Tryz.func6 rfl Tryz.ntmps6 Tryz.results6 rfl inferInstance (fun _ => inferInstance) fun C => ?_
 refine Pc EStep y1 w1.h.h.l 88 fun hlen1 => ?_
 refine Pc EPlace y2 w1.h.h.t 24 fun hlen2 => ?_
 refine Pn NPeer y3 w1.h.peers 40 fun hlen3 => ?_
 refine Pc EByte y4 w1.d.safe 1 fun hlen4 => ?_
 refine Pc EByte y5 w1.d.wait 1 fun hlen5 => ?_
 refine Pn NClient y6 w1.c 128 fun hlen6 => ?_
 refine Pn NMail y7 w1.mail 280 fun hlen7 => ?_
 refine Tx ?_
 refine Bx fun g1 => ?_
 refine Tx ?_
 refine Cl (cv ) fun _ => ?_
 refine Tx ?_
 refine c6 (fun hG_ => fA y1 y2 y3 y4 y5 y6 y7 w1) Zf .sq (aD rfl rfl rfl) rfl rfl rfl Kr rfl Bt Sm ?_
 refine Tx ?_
 refine Cd (b := (((!bD) || ((aF w1) != 0)) || ((w1.mail.length : Int) == 0))) (fun hc1 => ?_) fun hc1 => ?_
 ·refine Tx ?_
  refine Cl (cv ) fun _ => ?_
  refine Tx ?_
  refine ak ?_; simp only [dT, hc1, Cb, Cf]; exact Re () (Vt Vn)
 ·have hbz := hc1
  simp only [Bool.or_eq_false_iff, bne_eq_false_iff_eq, beq_eq_false_iff_ne] at hbz
  have hat := at_in (k := k1) (n := (w1.mail.length : Int)) (by omega)
  refine Tx ?_
  refine Cl (gu k1 (w1.mail.length : Int) (by omega)) fun _ => ?_
  generalize hS1 : (ai k1 (w1.mail.length : Int)) = S1
  refine Tx ?_
  refine Fr EInt ?_
  refine Cl (fT y1 y2 y3 y4 y5 y6 y7 w1 (⟨none, 0⟩ : SlV) (⟨8, 0, S1, 0, 0, 0, ([] : List Int)⟩ : Happening)) fun x1 => ?_
  generalize hS2 : (aK w1 (⟨8, 0, S1, 0, 0, 0, ([] : List Int)⟩ : Happening)) = S2
  refine Tx ?_
  refine Al fun g2 => ?_
  refine Tx ?_
  refine Cd (b := (S2.2 != 0)) (fun hc2 => ?_) fun hc2 => ?_
  ·have hc2p := bne_iff_ne.1 hc2
   refine Tx ?_
   refine ak ?_; simp only [dT, hc1, hS1, hS2, hc2, Cb, Cf]; exact Re () (Vt Vn)
  ·have hc2p := ag hc2
   refine Tx ?_
   refine Cl (fT x1.1 x1.2.1 x1.2.2.1 x1.2.2.2.1 x1.2.2.2.2.1 x1.2.2.2.2.2.1 x1.2.2.2.2.2.2 S2.1 (⟨none, 0⟩ : SlV) (⟨8, 0, S1, 0, 0, 0, ([] : List Int)⟩ : Happening)) fun x2 => ?_
   generalize hS3 : (aK S2.1 (⟨8, 0, S1, 0, 0, 0, ([] : List Int)⟩ : Happening)) = S3
   refine Tx ?_
   refine Al fun g3 => ?_
   refine Tx ?_
   refine c6 (fun hG_ => iM x1.1 x1.2.1 x1.2.2.1 x1.2.2.2.1 x1.2.2.2.2.1 x1.2.2.2.2.2.1 x1.2.2.2.2.2.2 S2.1 x2.1 x2.2.1 x2.2.2.1 x2.2.2.2.1 x2.2.2.2.2.1 x2.2.2.2.2.2.1 x2.2.2.2.2.2.2 S3.1) Zf .sq (au rfl rfl rfl) rfl rfl rfl Kr rfl Bt Sm ?_
   refine Tx ?_
   refine ak ?_; simp only [dT, hc1, hS1, hS2, hc2, hS3, Cb, Cf]; exact Re () (Vt Vn)
end Go.Proofs.YtgkggkgdceapgaaGreatDoor

namespace Go.Proofs.YtgkggkgdceapgaaGreatDoor
open Go Go.Proofs.YtgkggkgdceapgaaGreatDoor.Fw Go.Proofs
theorem tm {c : Client} {me : Int} {m : Mail} (h : (aL c me m).2 = 0) : aL (aL c me m).1 me m = ((aL c me m).1, 0) := by
 obtain ⟨hc, hm, hw, hk, ha⟩ := qd h
 rcases ha with ha | ⟨v, hv, hst, ha⟩
 ·have he : aL c me m = (c, 0) := Prod.ext ha h
  rw [he]; exact he
 ·rw [ha]
  obtain ⟨hc', n, hn, h2, h3⟩ := qI hc hm hst hv
  rw [vc, (dN _ _).2 hc', hw, hk]
  have : stale (fQ c m v) m = true := by simp [stale, fQ]
  rw [this]; rfl
theorem uj {h : Hub} {o : Op} (hp : h.peers.length = 3) (h0 : (aO h (opRec o)).2 = 0) : (aO (aO h (opRec o)).1 (opRec o)).2 ≠ 0 := by
 intro h1
 rcases rU h0 with ⟨_, a1, a2, a3, a4⟩ | ⟨hk, _⟩ | ⟨hk, _⟩
 ·rcases rU h1 with ⟨_, b1, b2, b3, b4⟩ | ⟨hk, _⟩ | ⟨hk, _⟩
  ·have hw := (nt (ma h0)).1 rfl
   simp only at a2 b2 hw
   rw [a4] at b2
   simp only at b2
   rw [oo (by omega), if_pos rfl] at b2
   simp only at b2
   omega
  ·exact absurd (show (1 : Int) = 2 from hk) (by decide)
  ·exact absurd (show (1 : Int) = 3 from hk) (by decide)
 ·exact absurd (show (1 : Int) = 2 from hk) (by decide)
 ·exact absurd (show (1 : Int) = 3 from hk) (by decide)
theorem sO {w : Wld} {l : List Rec} {k : Int} (h : IsW w l) (h0 : (aq w ⟨8, 0, k, 0, 0, 0, []⟩).1 = 0) :
  aq (aq w ⟨8, 0, k, 0, 0, 0, []⟩).2 ⟨8, 0, k, 0, 0, 0, []⟩ = (0, (aq w ⟨8, 0, k, 0, 0, 0, []⟩).2) := by
 have e : ∀ v : Wld, aq v ⟨8, 0, k, 0, 0, 0, []⟩ = bR v ⟨8, 0, k, 0, 0, 0, []⟩ := fun v => rfl
 rw [e] at h0 ⊢
 rw [e]
 have hear : ∀ v : Wld, v.mail = w.mail → bR v ⟨8, 0, k, 0, 0, 0, []⟩ = (bif (gt w.mail k.toNat).kind != 1 then (bif (aL (gt v.c (gt w.mail k.toNat).who.toNat) (gt w.mail k.toNat).who (gt w.mail k.toNat)).2 == 0 then ((aL (gt v.c (gt w.mail k.toNat).who.toNat) (gt w.mail k.toNat).who (gt w.mail k.toNat)).2, ⟨v.h, v.d, v.up, v.c.set (gt w.mail k.toNat).who.toNat (aL (gt v.c (gt w.mail k.toNat).who.toNat) (gt w.mail k.toNat).who (gt w.mail k.toNat)).1, w.mail⟩) else ((aL (gt v.c (gt w.mail k.toNat).who.toNat) (gt w.mail k.toNat).who (gt w.mail k.toNat)).2, v)) else (bif !v.up then (7, v) else (0, (ba ⟨v.h, v.d, v.up, v.c, w.mail⟩ (opRec (gt w.mail k.toNat).o)).2))) := by
  intro v hv
  have h1 : (aC w.mail k true).2.2 = 0 := by
   have h0' := h0
   unfold bR at h0'
   have e8 : ((⟨8, 0, k, 0, 0, 0, []⟩ : Happening).kind == 8) = true := rfl
   rw [e8] at h0'
   simp only at h0'
   cases h2 : ((aC w.mail k true).2.2 != 0) with
   | true => rw [h2, cond_true] at h0'; simp only at h0'; rw [h0'] at h2; cases h2
   | false => exact ag h2
  obtain ⟨_, _, _, t4⟩ := iQ h1
  unfold bR
  have e8 : ((⟨8, 0, k, 0, 0, 0, []⟩ : Happening).kind == 8) = true := rfl
  rw [e8]
  simp only [hv, t4, cond_true, bne_self_eq_false, cond_false]
 have ha := hear w rfl
 cases hk : ((gt w.mail k.toNat).kind != 1) with
 | true =>
  simp only [hk, cond_true] at hear ha
  rw [ha] at h0 ⊢
  generalize hm : gt w.mail k.toNat = m at *
  cases h3 : ((aL (gt w.c m.who.toNat) m.who m).2 == 0) with
  | false => rw [h3, cond_false] at h0; simp only at h0; rw [h0] at h3; cases h3
  | true =>
   have h3 := eq_of_beq h3
   simp only [h3, beq_self_eq_true, cond_true]
   rw [hear ⟨w.h, w.d, w.up, w.c.set m.who.toNat (aL (gt w.c m.who.toNat) m.who m).1, w.mail⟩ rfl]
   have hc := (qd h3).1.num
   have hlt : m.who.toNat < w.c.length := by rw [h.three]; omega
   have eg : gt (w.c.set m.who.toNat (aL (gt w.c m.who.toNat) m.who m).1) m.who.toNat = (aL (gt w.c m.who.toNat) m.who m).1 := by
    rw [oo hlt, if_pos rfl]
   simp only [eg, tm h3, beq_self_eq_true, cond_true, List.set_set]
 | false =>
  simp only [hk, cond_false] at hear ha
  rw [ha] at h0 ⊢
  cases hu : w.up with
  | false => rw [hu] at h0; cases h0
  | true =>
   simp only [Bool.not_true, cond_false]
   have hW : IsW ⟨w.h, w.d, true, w.c, w.mail⟩ l := by rw [← hu]; exact h
   rw [lp hW rfl]
   by_cases hn : (aO w.h (opRec (gt w.mail k.toNat).o)).2 = 0
   ·rw [if_pos hn]
    have hW2 := pp hW rfl hn
    rw [hear ⟨(aO w.h (opRec (gt w.mail k.toNat).o)).1, ⟨bz (l ++ [opRec (gt w.mail k.toNat).o]), []⟩, true, w.c, w.mail⟩ rfl]
    simp only [Bool.not_true, cond_false]
    rw [lp hW2 rfl, if_neg (uj h.hub.1.three hn)]
   ·rw [if_neg hn]
    rw [hear ⟨w.h, w.d, true, w.c, w.mail⟩ rfl]
    simp only [Bool.not_true, cond_false]
    rw [lp hW rfl, if_neg hn]
theorem uO (w : Wld) (k : Int) : dT w k = true := by
 unfold dT
 rw [iV]
 cases h1 : (((!true) || (aF w != 0)) || ((w.mail.length : Int) == 0)) with
 | true => rfl
 | false =>
  rw [cond_false]
  generalize ai k (w.mail.length : Int) = n
  cases h2 : ((aK w ⟨8, 0, n, 0, 0, 0, []⟩).2 != 0) with
  | true => rfl
  | false =>
   rw [cond_false]
   obtain ⟨a1, a2, a3⟩ := qY (ag h2)
   obtain ⟨l, h⟩ := (dV w).1 a1
   have ht := sO h a2
   have d2 := Do_of (gB a1 a2) (x := ⟨8, 0, n, 0, 0, 0, []⟩) (by rw [ht])
   rw [ht] at d2
   rw [a3]
   simp only [d2, iP]
   rfl
end Go.Proofs.YtgkggkgdceapgaaGreatDoor
