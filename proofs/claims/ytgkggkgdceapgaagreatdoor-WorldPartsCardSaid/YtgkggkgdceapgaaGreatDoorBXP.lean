/- Part of this claim. No condition. -/
import Derived.Test.YtgkggkgdceapgaaGreatDoorB13
import Derived.Test.YtgkggkgdceapgaaGreatDoorB4
set_option linter.unusedVariables false
set_option linter.unusedSimpArgs false
set_option maxHeartbeats 2000000
namespace Go.Proofs.YtgkggkgdceapgaaGreatDoor
open Go Go.Proofs.YtgkggkgdceapgaaGreatDoor.Fw Go.Proofs
attribute [local irreducible] RdL RdN VarP LibP RW CW
def dU (w1 : Wld) (l1 : List Happening) (k1 : Int) : Bool :=
 (bif ((!bD) || ((ap w1 l1).2.2 != 0)) then bD else (bif ((((ap w1 (l1.take (ai k1 ((l1.length : Int) + 1)).toNat)).2.2 == 0) && ((ap (ap w1 (l1.take (ai k1 ((l1.length : Int) + 1)).toNat)).1 (l1.drop (ai k1 ((l1.length : Int) + 1)).toNat)).2.2 == 0)) && (fS (ap w1 l1).1 (ap (ap w1 (l1.take (ai k1 ((l1.length : Int) + 1)).toNat)).1 (l1.drop (ai k1 ((l1.length : Int) + 1)).toNat)).1)) then (((((ap w1 (l1.take (ai k1 ((l1.length : Int) + 1)).toNat)).2.2 == 0) && ((ap (ap w1 (l1.take (ai k1 ((l1.length : Int) + 1)).toNat)).1 (l1.drop (ai k1 ((l1.length : Int) + 1)).toNat)).2.2 == 0)) && (fS (ap w1 l1).1 (ap (ap w1 (l1.take (ai k1 ((l1.length : Int) + 1)).toNat)).1 (l1.drop (ai k1 ((l1.length : Int) + 1)).toNat)).1)) && (decide ((ap w1 l1).2.1 = ([(ap w1 (l1.take (ai k1 ((l1.length : Int) + 1)).toNat)).2.1, (ap (ap w1 (l1.take (ai k1 ((l1.length : Int) + 1)).toNat)).1 (l1.drop (ai k1 ((l1.length : Int) + 1)).toNat)).2.1].flatten)))) else (((((ap w1 (l1.take (ai k1 ((l1.length : Int) + 1)).toNat)).2.2 == 0) && ((ap (ap w1 (l1.take (ai k1 ((l1.length : Int) + 1)).toNat)).1 (l1.drop (ai k1 ((l1.length : Int) + 1)).toNat)).2.2 == 0)) && (fS (ap w1 l1).1 (ap (ap w1 (l1.take (ai k1 ((l1.length : Int) + 1)).toNat)).1 (l1.drop (ai k1 ((l1.length : Int) + 1)).toNat)).1)) && false)))
theorem nX (y1 : SlV) (y2 : SlV) (y3 : SlV) (y4 : SlV) (y5 : SlV) (y6 : SlV) (y7 : SlV) (w1 : Wld) (y8 : SlV) (l1 : List Happening) (k1 : Int) : Does Tryz.prog 3 [.agg ⟨[y1.val w1.h.h.l.length, y2.val w1.h.h.t.length, .int .i64 w1.h.version, y3.val w1.h.peers.length, y4.val w1.d.safe.length, y5.val w1.d.wait.length, .bool w1.up, y6.val w1.c.length, y7.val w1.mail.length]⟩, y8.val l1.length, .int .i64 k1] [RdL EStep y1 w1.h.h.l, RdL EPlace y2 w1.h.h.t, RdN NPeer y3 w1.h.peers, RdL EByte y4 w1.d.safe, RdL EByte y5 w1.d.wait, RdN NClient y6 w1.c, RdN NMail y7 w1.mail, RdN NHap y8 l1, LibP Tryz.prog] (fun (_ : Unit) => .bool (dU w1 l1 k1)) (fun _ => []) := by
 refine bd aV Tryz.func3 rfl Tryz.ntmps3 Tryz.results3 rfl inferInstance (fun _ => inferInstance) fun C => ?_
 refine Pc EStep y1 w1.h.h.l 88 fun hlen1 => ?_
 refine Pc EPlace y2 w1.h.h.t 24 fun hlen2 => ?_
 refine Pn NPeer y3 w1.h.peers 40 fun hlen3 => ?_
 refine Pc EByte y4 w1.d.safe 1 fun hlen4 => ?_
 refine Pc EByte y5 w1.d.wait 1 fun hlen5 => ?_
 refine Pn NClient y6 w1.c 128 fun hlen6 => ?_
 refine Pn NMail y7 w1.mail 280 fun hlen7 => ?_
 refine Pn NHap y8 l1 72 fun hlen8 => ?_
 refine Tx ?_
 refine Bx fun g1 => ?_
 refine Tx ?_
 refine Cl (fH y1 y2 y3 y4 y5 y6 y7 w1 y8 l1) fun x1 => ?_
 refine Tx ?_
 refine Al fun g2 => ?_
 refine Tx ?_
 refine Cl (cv ) fun _ => ?_
 refine Tx ?_
 refine Cd (b := ((!bD) || ((ap w1 l1).2.2 != 0))) (fun hc1 => ?_) fun hc1 => ?_
 ·refine Tx ?_
  refine Cl (cv ) fun _ => ?_
  refine Tx ?_
  refine ak ?_; simp only [dU, hc1, Cb, Cf]; exact Re () (Vt Vn)
 ·have hat := at_in (k := k1) (n := (l1.length : Int) + 1) (by omega)
  refine Tx ?_
  refine rw_q rfl rfl rfl (q_add rfl rfl Zf rfl Zf Zo) ?_
  refine Cl (gu k1 ((l1.length : Int) + 1) (by omega)) fun _ => ?_
  generalize hS1 : (ai k1 ((l1.length : Int) + 1)) = S1
  refine Tx ?_
  refine ge [1, 2, 6, 7, 8] [true, true] (fun (i_ : Nat × SlV × SlV × SlV × SlV × SlV × SlV × SlV × SlV) => match i_ with | ⟨g3, x2, x3, x4, x5, x6, x7, x8, x9⟩ => [(9, .v (.int .i64 (ap w1 (l1.take S1.toNat)).2.2)), (10, .v (.pointer (some ⟨g3, 0, none⟩))), (11, .v (x2.val (ap w1 (l1.take S1.toNat)).2.1.length))]) (fun (i_ : Nat × SlV × SlV × SlV × SlV × SlV × SlV × SlV × SlV) => match i_ with | ⟨g3, x2, x3, x4, x5, x6, x7, x8, x9⟩ => [⟨g3, 37, [x3.val (ap w1 (l1.take S1.toNat)).1.h.h.l.length, x4.val (ap w1 (l1.take S1.toNat)).1.h.h.t.length, .int .i64 (ap w1 (l1.take S1.toNat)).1.h.version, x5.val (ap w1 (l1.take S1.toNat)).1.h.peers.length, x6.val (ap w1 (l1.take S1.toNat)).1.d.safe.length, x7.val (ap w1 (l1.take S1.toNat)).1.d.wait.length, .bool (ap w1 (l1.take S1.toNat)).1.up, x8.val (ap w1 (l1.take S1.toNat)).1.c.length, x9.val (ap w1 (l1.take S1.toNat)).1.mail.length]⟩]) (fun (i_ : Nat × SlV × SlV × SlV × SlV × SlV × SlV × SlV × SlV) => match i_ with | ⟨g3, x2, x3, x4, x5, x6, x7, x8, x9⟩ => []) (fun (i_ : Nat × SlV × SlV × SlV × SlV × SlV × SlV × SlV × SlV) => match i_ with | ⟨g3, x2, x3, x4, x5, x6, x7, x8, x9⟩ => [RdL EInt x2 (ap w1 (l1.take S1.toNat)).2.1, RdL EStep x3 (ap w1 (l1.take S1.toNat)).1.h.h.l, RdL EPlace x4 (ap w1 (l1.take S1.toNat)).1.h.h.t, RdN NPeer x5 (ap w1 (l1.take S1.toNat)).1.h.peers, RdL EByte x6 (ap w1 (l1.take S1.toNat)).1.d.safe, RdL EByte x7 (ap w1 (l1.take S1.toNat)).1.d.wait, RdN NClient x8 (ap w1 (l1.take S1.toNat)).1.c, RdN NMail x9 (ap w1 (l1.take S1.toNat)).1.mail]) (fun _ => True) (.cons rfl (.cons rfl (.cons rfl (.cons rfl (.cons rfl (.nil _)))))) (.keep (.keep (.nil))) ?_ ?_
  ·refine aw (fun j => match j with | 10 => none | _ => some []) ?_
   refine Rb 0 rfl (q_ldA rfl rfl Zf rfl Mm rfl) ?_
   refine Rb 1 rfl Qp ?_
   refine Rb 2 rfl Qp ?_
   refine Rb 3 rfl (pI NHap S1.toNat rfl rfl Zf rfl Zf rfl rfl Mm Zo Zo) ?_
   refine ay (F := RdN NHap y8 (l1.take S1.toNat)) [RdN NHap y8 l1] Sm (fun M w h => (allF1 h).take _) ?_
   refine fF 4 9 Kr ?_ ?_
   ·refine cR (fH y1 y2 y3 y4 y5 y6 y7 w1 y8 (l1.take S1.toNat)) (.an rfl rfl) (ae rfl) rfl rfl rfl Kr rfl rfl Sm ?_
    intro x10
    refine Ra 5 rfl Qp ?_
    refine Ra 6 rfl Qp ?_
    refine ra_p (.an (i := 7) (js := [8, 9, 10]) rfl Kr Kr Kr Kr) rfl rfl rfl (q_pev rfl Zf) ?_
    refine ra_p (.an (i := 8) (js := [9, 10, 11]) rfl Kr Kr Kr Kr) rfl rfl rfl (q_pev rfl Zf) ?_
    refine av 9 Kr ?_
    refine dh (.an rfl rfl) (ae rfl) rfl rfl rfl rfl fun g4 => ?_
    refine av 10 Kr ?_
    refine di (.lo [g4] rfl rfl) (.inr (by simp)) (ae rfl) rfl rfl rfl rfl rfl rfl rfl rfl rfl Ub rfl ?_
    refine Ra 11 rfl Qp ?_
    refine Ra 12 rfl Qp ?_
    refine bj Kr ?_
    refine ⟨⟨g4, x10.2.2.2.2.2.2.2, x10.1, x10.2.1, x10.2.2.1, x10.2.2.2.1, x10.2.2.2.2.1, x10.2.2.2.2.2.1, x10.2.2.2.2.2.2.1⟩, trivial, Le4⟩
   ·refine dh (.an rfl rfl) (ae rfl) rfl rfl rfl rfl fun g5 => ?_
    refine av 4 Kr ?_
    refine cR (fH y1 y2 y3 y4 y5 y6 y7 w1 y8 (l1.take S1.toNat)) (.an rfl rfl) (ae rfl) rfl rfl rfl Kr rfl rfl Sm ?_
    intro x11
    refine Ra 5 rfl Qp ?_
    refine Ra 6 rfl Qp ?_
    refine ra_p (.an (i := 7) (js := [8, 10]) rfl Kr Kr Kr Kr) rfl rfl rfl (q_pev rfl Zf) ?_
    refine ra_p (.an (i := 8) (js := [10, 11]) rfl Kr Kr Kr Kr) rfl rfl rfl (q_pev rfl Zf) ?_
    refine av 10 Kr ?_
    refine di (.lo [g5] rfl rfl) (.inr (by simp)) (ae rfl) rfl rfl rfl rfl rfl rfl rfl rfl rfl Ub rfl ?_
    refine Ra 11 rfl Qp ?_
    refine Ra 12 rfl Qp ?_
    refine bj Kr ?_
    refine ⟨⟨g5, x11.2.2.2.2.2.2.2, x11.1, x11.2.1, x11.2.2.1, x11.2.2.2.1, x11.2.2.2.2.1, x11.2.2.2.2.2.1, x11.2.2.2.2.2.2.1⟩, trivial, Le4⟩
  ·rintro ⟨g3, x2, x3, x4, x5, x6, x7, x8, x9⟩ -
   simp only [List.cons_append, List.nil_append]
   generalize hS2 : (ap w1 (l1.take S1.toNat)) = S2
   (repeat refine ar ?_)
   refine ge [6, 7, 8, 9, 11] [true, true, true] (fun (i_ : Nat × SlV × SlV × SlV × SlV × SlV × SlV × SlV × SlV) => match i_ with | ⟨g6, x12, x13, x14, x15, x16, x17, x18, x19⟩ => [(12, .v (.pointer (some ⟨g6, 0, none⟩))), (13, .v (x12.val (ap S2.1 (l1.drop S1.toNat)).2.1.length)), (14, .v (.int .i64 (ap S2.1 (l1.drop S1.toNat)).2.2))]) (fun (i_ : Nat × SlV × SlV × SlV × SlV × SlV × SlV × SlV × SlV) => match i_ with | ⟨g6, x12, x13, x14, x15, x16, x17, x18, x19⟩ => [⟨g6, 37, [x13.val (ap S2.1 (l1.drop S1.toNat)).1.h.h.l.length, x14.val (ap S2.1 (l1.drop S1.toNat)).1.h.h.t.length, .int .i64 (ap S2.1 (l1.drop S1.toNat)).1.h.version, x15.val (ap S2.1 (l1.drop S1.toNat)).1.h.peers.length, x16.val (ap S2.1 (l1.drop S1.toNat)).1.d.safe.length, x17.val (ap S2.1 (l1.drop S1.toNat)).1.d.wait.length, .bool (ap S2.1 (l1.drop S1.toNat)).1.up, x18.val (ap S2.1 (l1.drop S1.toNat)).1.c.length, x19.val (ap S2.1 (l1.drop S1.toNat)).1.mail.length]⟩]) (fun (i_ : Nat × SlV × SlV × SlV × SlV × SlV × SlV × SlV × SlV) => match i_ with | ⟨g6, x12, x13, x14, x15, x16, x17, x18, x19⟩ => []) (fun (i_ : Nat × SlV × SlV × SlV × SlV × SlV × SlV × SlV × SlV) => match i_ with | ⟨g6, x12, x13, x14, x15, x16, x17, x18, x19⟩ => [RdL EInt x12 (ap S2.1 (l1.drop S1.toNat)).2.1, RdL EStep x13 (ap S2.1 (l1.drop S1.toNat)).1.h.h.l, RdL EPlace x14 (ap S2.1 (l1.drop S1.toNat)).1.h.h.t, RdN NPeer x15 (ap S2.1 (l1.drop S1.toNat)).1.h.peers, RdL EByte x16 (ap S2.1 (l1.drop S1.toNat)).1.d.safe, RdL EByte x17 (ap S2.1 (l1.drop S1.toNat)).1.d.wait, RdN NClient x18 (ap S2.1 (l1.drop S1.toNat)).1.c, RdN NMail x19 (ap S2.1 (l1.drop S1.toNat)).1.mail]) (fun _ => True) (.cons rfl (.cons rfl (.cons rfl (.cons rfl (.cons rfl (.nil _)))))) (.keep (.keep (.keep (.nil)))) ?_ ?_
   ·refine aw (fun j => match j with | 10 => none | _ => some []) ?_
    refine Rb 0 rfl (q_ldA rfl rfl Zf rfl Mm rfl) ?_
    refine Rb 1 rfl Qp ?_
    refine Rb 2 rfl Qp ?_
    refine Rb 3 rfl (wT NHap S1.toNat rfl rfl Zf rfl Zf rfl rfl Zo Zo) ?_
    refine ay (F := RdN NHap (⟨slA y8.a y8.c S1.toNat NHap.E.esz, y8.c - S1.toNat⟩ : SlV) (l1.drop S1.toNat)) [RdN NHap y8 l1] Sm (fun M w h => (allF1 h).drop _ (by omega)) ?_
    refine fF 4 9 Kr ?_ ?_
    ·refine cR (fH x3 x4 x5 x6 x7 x8 x9 S2.1 (⟨slA y8.a y8.c S1.toNat NHap.E.esz, y8.c - S1.toNat⟩ : SlV) (l1.drop S1.toNat)) (.an rfl rfl) (ae rfl) rfl rfl rfl Kr rfl rfl Sm ?_
     intro x20
     refine Ra 5 rfl Qp ?_
     refine Ra 6 rfl Qp ?_
     refine ra_p (.an (i := 7) (js := [8, 9, 10]) rfl Kr Kr Kr Kr) rfl rfl rfl (q_pev rfl Zf) ?_
     refine ra_p (.an (i := 8) (js := [9, 10, 11]) rfl Kr Kr Kr Kr) rfl rfl rfl (q_pev rfl Zf) ?_
     refine av 9 Kr ?_
     refine dh (.an rfl rfl) (ae rfl) rfl rfl rfl rfl fun g7 => ?_
     refine av 10 Kr ?_
     refine di (.lo [g7] rfl rfl) (.inr (by simp)) (ae rfl) rfl rfl rfl rfl rfl rfl rfl rfl rfl Ub rfl ?_
     refine Ra 11 rfl Qp ?_
     refine Ra 12 rfl Qp ?_
     refine bj Kr ?_
     refine ⟨⟨g7, x20.2.2.2.2.2.2.2, x20.1, x20.2.1, x20.2.2.1, x20.2.2.2.1, x20.2.2.2.2.1, x20.2.2.2.2.2.1, x20.2.2.2.2.2.2.1⟩, trivial, Le4⟩
    ·refine dh (.an rfl rfl) (ae rfl) rfl rfl rfl rfl fun g8 => ?_
     refine av 4 Kr ?_
     refine cR (fH x3 x4 x5 x6 x7 x8 x9 S2.1 (⟨slA y8.a y8.c S1.toNat NHap.E.esz, y8.c - S1.toNat⟩ : SlV) (l1.drop S1.toNat)) (.an rfl rfl) (ae rfl) rfl rfl rfl Kr rfl rfl Sm ?_
     intro x21
     refine Ra 5 rfl Qp ?_
     refine Ra 6 rfl Qp ?_
     refine ra_p (.an (i := 7) (js := [8, 10]) rfl Kr Kr Kr Kr) rfl rfl rfl (q_pev rfl Zf) ?_
     refine ra_p (.an (i := 8) (js := [10, 11]) rfl Kr Kr Kr Kr) rfl rfl rfl (q_pev rfl Zf) ?_
     refine av 10 Kr ?_
     refine di (.lo [g8] rfl rfl) (.inr (by simp)) (ae rfl) rfl rfl rfl rfl rfl rfl rfl rfl rfl Ub rfl ?_
     refine Ra 11 rfl Qp ?_
     refine Ra 12 rfl Qp ?_
     refine bj Kr ?_
     refine ⟨⟨g8, x21.2.2.2.2.2.2.2, x21.1, x21.2.1, x21.2.2.1, x21.2.2.2.1, x21.2.2.2.2.1, x21.2.2.2.2.2.1, x21.2.2.2.2.2.2.1⟩, trivial, Le4⟩
   ·rintro ⟨g6, x12, x13, x14, x15, x16, x17, x18, x19⟩ -
    simp only [List.cons_append, List.nil_append]
    generalize hS3 : (ap S2.1 (l1.drop S1.toNat)) = S3
    refine Tx ?_
    refine c6 (fun hG_ => iM x1.1 x1.2.1 x1.2.2.1 x1.2.2.2.1 x1.2.2.2.2.1 x1.2.2.2.2.2.1 x1.2.2.2.2.2.2.1 (ap w1 l1).1 x13 x14 x15 x16 x17 x18 x19 S3.1) Zf .sq (au rfl rfl rfl) rfl rfl rfl Kr rfl Bt Sm ?_
    refine Tx ?_
    refine pF .sq (au rfl rfl rfl) (fun hg1 => ?_) (fun hg1 => ?_)
    ·refine bA NInts.E [(x2, S2.2.1), (x12, S3.2.1)] .sq (ly (au rfl rfl rfl) hg1) rfl rfl rfl rfl rfl rfl rfl rfl rfl rfl rfl (by first | rfl | assumption | (simp only [hc1, hg1, Bool.and_true, Bool.true_and, Bool.and_self, Bool.not_false, Bool.not_true]; done) | simp_all) rfl rfl rfl fun x22 x22b => ?_
     refine rw_le (aA NInts.E 39 x22 x22b [(x2, S2.2.1), (x12, S3.2.1)] Uo) ?_
     refine ay (F := RdN NInts x22 [S2.2.1, S3.2.1]) [RdL NInts.E x22 [(x2, S2.2.1), (x12, S3.2.1)], RdL EInt x2 S2.2.1, RdL EInt x12 S3.2.1] Sm (fun M w h => RdN.of NInts (hs := [(x2, S2.2.1), (x12, S3.2.1)]) rfl (h _ (.head _)) (aP (cL Sm h) (aP (cL Sm h) (fun p hp => by cases hp)))) ?_
     refine aX (jz x22 [S2.2.1, S3.2.1] (by have h1 := sF hS2; have h2 := sF hS3; simp only [List.flatten_cons, List.flatten_nil, List.length_append, List.length_nil]; omega)) .sq (.inl ⟨_, rfl⟩) (ly (au rfl rfl rfl) hg1) rfl rfl rfl Kr rfl rfl Sm (.nil _) (.nil _) ?_
     intro x23
     refine l6 ((fun y1 a y2 b => jH y1 y2 a b) x1.2.2.2.2.2.2.2 (ap w1 l1).2.1 x23.1 ([S2.2.1, S3.2.1].flatten)) .sq (ly (au rfl rfl rfl) hg1) rfl rfl rfl Kr rfl (by first | rfl | assumption | (simp only [hc1, hg1, Bool.and_true, Bool.true_and, Bool.and_self, Bool.not_false, Bool.not_true]; done) | simp_all) (.fact Mm (.own Mm (.nil _ _))) ?_
     intro _
     refine Tx ?_
     refine ak ?_; simp only [dU, hc1, hS1, hS2, hS3, hg1, Cb, Cf]; exact Re () (Vt Vn)
    ·refine mJ .sq (au rfl rfl rfl) hg1 rfl rfl ?_
     refine mJ .sq (au rfl rfl rfl) hg1 rfl rfl ?_
     refine mJ .sq (au rfl rfl rfl) hg1 rfl rfl ?_
     refine Tx ?_
     refine ak ?_; simp only [dU, hc1, hS1, hS2, hS3, hg1, Cb, Cf]; exact Re () (Vt Vn)
end Go.Proofs.YtgkggkgdceapgaaGreatDoor

namespace Go.Proofs.YtgkggkgdceapgaaGreatDoor
open Go Go.Proofs.YtgkggkgdceapgaaGreatDoor.Fw Go.Proofs
theorem uQ (w : Wld) (l : List Happening) (k : Int) : dU w l k = true := by
 unfold dU
 rw [iV]
 cases h1 : ((!true) || ((ap w l).2.2 != 0)) with
 | true => rfl
 | false =>
  obtain ⟨hw, hl⟩ := xq (ag (Bool.or_eq_false_iff.1 h1).2)
  rw [cond_false]
  generalize (ai k ((l.length : Int) + 1)).toNat = n
  have hl1 : (l.take n).length ≤ 100 := by rw [List.length_take]; omega
  have hl2 : (l.drop n).length ≤ 100 := by rw [List.length_drop]; omega
  obtain ⟨a1, a2, a3⟩ := u0 hw hl1
  obtain ⟨b1, b2, b3⟩ := u0 a2 hl2
  have e : ap w l = ((ap (ap w (l.take n)).1 (l.drop n)).1, (ap w (l.take n)).2.1 ++ (ap (ap w (l.take n)).1 (l.drop n)).2.1, 0) := by
   rw [sG a2 hl2, sG hw hl1, sG hw hl]
   conv => lhs; rw [← List.take_append_drop n l, ku, jd]
  rw [e]
  simp only [a1, b1, iP]
  simp
end Go.Proofs.YtgkggkgdceapgaaGreatDoor
