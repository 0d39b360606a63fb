/- Part of this claim. No condition. -/
import Derived.Test.YtgkggkgdceapgaaGreatDoorB13
set_option linter.unusedVariables false
set_option linter.unusedSimpArgs false
set_option maxHeartbeats 2000000
namespace Go.Proofs.YtgkggkgdceapgaaGreatDoor
open Go Go.Proofs.YtgkggkgdceapgaaGreatDoor.Fw Go.Proofs
attribute [local irreducible] RdL RdN VarP LibP RW CW
def dP (w1 : Wld) : Bool :=
 (bif (((!bD) || ((aF w1) != 0)) || (!w1.up)) then bD else (bif (((aK w1 (⟨10, 0, 0, 0, 0, 0, ([] : List Int)⟩ : Happening)).2 != 0) || (aK w1 (⟨10, 0, 0, 0, 0, 0, ([] : List Int)⟩ : Happening)).1.up) then false else (((aK (aK w1 (⟨10, 0, 0, 0, 0, 0, ([] : List Int)⟩ : Happening)).1 (⟨11, 0, 0, 0, 0, 0, ([] : List Int)⟩ : Happening)).2 == 0) && (fS (aK (aK w1 (⟨10, 0, 0, 0, 0, 0, ([] : List Int)⟩ : Happening)).1 (⟨11, 0, 0, 0, 0, 0, ([] : List Int)⟩ : Happening)).1 w1))))
theorem ns (y1 : SlV) (y2 : SlV) (y3 : SlV) (y4 : SlV) (y5 : SlV) (y6 : SlV) (y7 : SlV) (w1 : Wld) : Does Tryz.prog 5 [.agg ⟨[y1.val w1.h.h.l.length, y2.val w1.h.h.t.length, .int .i64 w1.h.version, y3.val w1.h.peers.length, y4.val w1.d.safe.length, y5.val w1.d.wait.length, .bool w1.up, y6.val w1.c.length, y7.val w1.mail.length]⟩] [RdL EStep y1 w1.h.h.l, RdL EPlace y2 w1.h.h.t, RdN NPeer y3 w1.h.peers, RdL EByte y4 w1.d.safe, RdL EByte y5 w1.d.wait, RdN NClient y6 w1.c, RdN NMail y7 w1.mail, LibP Tryz.prog] (fun (_ : Unit) => .bool (dP w1)) (fun _ => []) := by
 refine bd aV Tryz.func5 rfl Tryz.ntmps5 Tryz.results5 rfl inferInstance (fun _ => inferInstance) fun C => ?_
 refine Pc EStep y1 w1.h.h.l 88 fun hlen1 => ?_
 refine Pc EPlace y2 w1.h.h.t 24 fun hlen2 => ?_
 refine Pn NPeer y3 w1.h.peers 40 fun hlen3 => ?_
 refine Pc EByte y4 w1.d.safe 1 fun hlen4 => ?_
 refine Pc EByte y5 w1.d.wait 1 fun hlen5 => ?_
 refine Pn NClient y6 w1.c 128 fun hlen6 => ?_
 refine Pn NMail y7 w1.mail 280 fun hlen7 => ?_
 refine Tx ?_
 refine Bx fun g1 => ?_
 refine Tx ?_
 refine Cl (cv ) fun _ => ?_
 refine Tx ?_
 refine c6 (fun hG_ => fA y1 y2 y3 y4 y5 y6 y7 w1) Zf .sq (aD rfl rfl rfl) rfl rfl rfl Kr rfl Bt Sm ?_
 refine Tx ?_
 refine Cd (b := (((!bD) || ((aF w1) != 0)) || (!w1.up))) (fun hc1 => ?_) fun hc1 => ?_
 ·refine Tx ?_
  refine Cl (cv ) fun _ => ?_
  refine Tx ?_
  refine ak ?_; simp only [dP, hc1, Cb, Cf]; exact Re () (Vt Vn)
 ·refine Tx ?_
  refine Fr EInt ?_
  refine Cl (fT y1 y2 y3 y4 y5 y6 y7 w1 (⟨none, 0⟩ : SlV) (⟨10, 0, 0, 0, 0, 0, ([] : List Int)⟩ : Happening)) fun x1 => ?_
  generalize hS1 : (aK w1 (⟨10, 0, 0, 0, 0, 0, ([] : List Int)⟩ : Happening)) = S1
  refine Tx ?_
  refine Al fun g2 => ?_
  refine Tx ?_
  refine Cd (b := ((S1.2 != 0) || S1.1.up)) (fun hc2 => ?_) fun hc2 => ?_
  ·refine Tx ?_
   refine ak ?_; simp only [dP, hc1, hS1, hc2, Cb, Cf]; exact Re () (Vt Vn)
  ·refine Tx ?_
   refine Cl (fT x1.1 x1.2.1 x1.2.2.1 x1.2.2.2.1 x1.2.2.2.2.1 x1.2.2.2.2.2.1 x1.2.2.2.2.2.2 S1.1 (⟨none, 0⟩ : SlV) (⟨11, 0, 0, 0, 0, 0, ([] : List Int)⟩ : Happening)) fun x2 => ?_
   generalize hS2 : (aK S1.1 (⟨11, 0, 0, 0, 0, 0, ([] : List Int)⟩ : Happening)) = S2
   refine Tx ?_
   refine Al fun g3 => ?_
   refine Tx ?_
   refine c6 (fun hG_ => iM x2.1 x2.2.1 x2.2.2.1 x2.2.2.2.1 x2.2.2.2.2.1 x2.2.2.2.2.2.1 x2.2.2.2.2.2.2 S2.1 y1 y2 y3 y4 y5 y6 y7 w1) Zf .sq (au rfl rfl rfl) rfl rfl rfl Kr rfl Bt Sm ?_
   refine Tx ?_
   refine ak ?_; simp only [dP, hc1, hS1, hc2, hS2, Cb, Cf]; exact Re () (Vt Vn)
end Go.Proofs.YtgkggkgdceapgaaGreatDoor

namespace Go.Proofs.YtgkggkgdceapgaaGreatDoor
open Go Go.Proofs.YtgkggkgdceapgaaGreatDoor.Fw Go.Proofs
theorem tq (w : Wld) : dP w = true := by
 unfold dP
 rw [iV]
 cases h1 : (((!true) || (aF w != 0)) || (!w.up)) with
 | true => rfl
 | false =>
  rw [cond_false]
  simp only [Bool.or_eq_false_iff, bne_eq_false_iff_eq, Bool.not_eq_false'] at h1
  obtain ⟨⟨_, hc⟩, hu⟩ := h1
  obtain ⟨l, h⟩ := (dV w).1 hc
  obtain ⟨f1, f2⟩ := h.up hu
  have e1 : aq w ⟨10, 0, 0, 0, 0, 0, []⟩ = (0, ⟨cq, w.d, false, w.c, w.mail⟩) := by
   unfold aq bI
   rw [hu]; rfl
  have d1 := Do_of hc (x := ⟨10, 0, 0, 0, 0, 0, []⟩) (by rw [e1])
  rw [e1] at d1
  have hc2 : aF (⟨cq, w.d, false, w.c, w.mail⟩ : Wld) = 0 := by
   have := gB hc (x := ⟨10, 0, 0, 0, 0, 0, []⟩) (by rw [e1])
   rw [e1] at this; exact this
  have e2 : aq (⟨cq, w.d, false, w.c, w.mail⟩ : Wld) ⟨11, 0, 0, 0, 0, 0, []⟩ = (0, w) := by
   have e3 : bI (⟨cq, w.d, false, w.c, w.mail⟩ : Wld) ⟨11, 0, 0, 0, 0, 0, []⟩ = (0, w) := by
    unfold bI
    simp only [h.recd, f2]
    obtain ⟨a, b, c, d, e⟩ := w
    simp only at f1 hu
    subst f1; subst hu
    rfl
   unfold aq
   rw [e3]; rfl
  have d2 := Do_of hc2 (x := ⟨11, 0, 0, 0, 0, 0, []⟩) (by rw [e2])
  rw [e2] at d2
  rw [d1]
  simp only [d2, iP]
  rfl
end Go.Proofs.YtgkggkgdceapgaaGreatDoor
