/- Part of this claim. No condition. -/
import Derived.Test.YtpkaloknohpleaaGreatDoorC5
set_option linter.unusedVariables false
set_option linter.unusedSimpArgs false
set_option maxHeartbeats 2000000
namespace Go.Proofs.YtpkaloknohpleaaGreatDoor
open Go Go.Proofs.YtpkaloknohpleaaGreatDoor.Fw Go.Proofs
attribute [local irreducible] RdL RdN VarP RW CW
def dg (c1 : Client) (me1 : Int) : List Op → Nat → Int
 | [], n1 => 0
 | pn1 :: rn1, n1 => (bif ((ck pn1) != 0) then (ck pn1) else (bif (((((pn1.who != me1) || (pn1.life != c1.life)) || (pn1.seq != (((c1.seq - (c1.pending.length : Int)) + 1) + (n1 : Int)))) || decide (pn1.time > c1.time)) || (decide ((n1 : Int) > 0) && decide (pn1.time ≤ (gt c1.pending (n1 - 1)).time))) then 4 else (dg c1 me1 rn1 (n1 + 1))))
def bh (c1 : Client) (me1 : Int) : Int :=
 (bif (decide (me1 < 0) || decide (me1 ≥ 3)) then 5 else (bif (((((((decide (c1.life < 0) || decide (c1.life > 50)) || decide (c1.time < 0)) || decide (c1.time > 10000)) || decide (c1.seq < 0)) || decide (c1.seq > 30)) || decide (c1.version < 0)) || decide (c1.version > 60)) then 3 else (bif decide ((c1.pending.length : Int) > 8) then 2 else (bif ((bv c1.v) != 0) then (bv c1.v) else (bif ((((c1.life == 0) && (((c1.time + c1.seq) + c1.version) != 0)) || ((c1.version == 0) && decide ((c1.v.roots.length : Int) > 0))) || decide ((c1.pending.length : Int) > c1.seq)) then 4 else (dg c1 me1 c1.pending 0))))))
theorem fF (y1 : SlV) (y2 : SlV) (y3 : SlV) (y4 : SlV) (c1 : Client) (me1 : Int) : Does Tryz.prog 45 [.agg ⟨[.int .i64 c1.life, .int .i64 c1.time, .int .i64 c1.seq, y1.val c1.pending.length, .int .i64 c1.version, y2.val c1.v.roots.length, y3.val c1.v.known.length, y4.val c1.v.way.length]⟩, .int .i64 me1] [RdL EOp y1 c1.pending, RdL EInt y2 c1.v.roots, RdL EPlace y3 c1.v.known, RdL EPlace y4 c1.v.way] (fun (_ : Unit) => .int .i64 (bh c1 me1)) (fun _ => []) := by
 refine bj aZ Tryz.func45 rfl Tryz.ntmps45 Tryz.results45 rfl inferInstance (fun _ => inferInstance) fun C => ?_
 refine Pc EOp y1 c1.pending 56 fun hlen1 => ?_
 refine Pc EInt y2 c1.v.roots 8 fun hlen2 => ?_
 refine Pc EPlace y3 c1.v.known 24 fun hlen3 => ?_
 refine Pc EPlace y4 c1.v.way 24 fun hlen4 => ?_
 refine Tx ?_
 refine Bx fun g1 => ?_
 refine Tx ?_
 refine Cd (b := (decide (me1 < 0) || decide (me1 ≥ 3))) (fun hc1 => ?_) fun hc1 => ?_
 ·refine Tx ?_
  refine ai ?_; simp only [bh, hc1, Cf]; exact Re () (Vt Vn)
 ·refine Tx ?_
  refine Cd (b := (((((((decide (c1.life < 0) || decide (c1.life > 50)) || decide (c1.time < 0)) || decide (c1.time > 10000)) || decide (c1.seq < 0)) || decide (c1.seq > 30)) || decide (c1.version < 0)) || decide (c1.version > 60))) (fun hc2 => ?_) fun hc2 => ?_
  ·refine Tx ?_
   refine ai ?_; simp only [bh, hc1, hc2, Cf]; exact Re () (Vt Vn)
  ·have hrg := hc2
   simp only [Bool.or_eq_false_iff, decide_eq_false_iff_not] at hrg
   refine Tx ?_
   refine Cd (b := decide ((c1.pending.length : Int) > 8)) (fun hc3 => ?_) fun hc3 => ?_
   ·have hc3p := of_decide_eq_true hc3
    refine Tx ?_
    refine ai ?_; simp only [bh, hc1, hc2, hc3, Cf]; exact Re () (Vt Vn)
   ·have hc3p := of_decide_eq_false hc3
    refine Tx ?_
    refine Cl (eN y2 y3 y4 c1.v) fun _ => ?_
    refine Tx ?_
    refine Cd (b := ((bv c1.v) != 0)) (fun hc4 => ?_) fun hc4 => ?_
    ·have hc4p := bne_iff_ne.1 hc4
     refine Tx ?_
     refine ai ?_; simp only [bh, hc1, hc2, hc3, hc4, Cf]; exact Re () (Vt Vn)
    ·have hc4p := ae hc4
     refine Tx ?_
     refine rw_qg (aG rfl rfl rfl) rfl rfl (q_add rfl rfl Bt rfl Bt (by intro h; first | omega | (simp at h; omega))) ?_
     refine Tx ?_
     refine rw_qg (aG rfl rfl rfl) rfl rfl (q_add rfl rfl Bt rfl Bt (by intro h; first | omega | (simp at h; omega))) ?_
     refine Tx ?_
     refine Cd (b := ((((c1.life == 0) && (((c1.time + c1.seq) + c1.version) != 0)) || ((c1.version == 0) && decide ((c1.v.roots.length : Int) > 0))) || decide ((c1.pending.length : Int) > c1.seq))) (fun hc5 => ?_) fun hc5 => ?_
     ·refine Tx ?_
      refine ai ?_; simp only [bh, hc1, hc2, hc3, hc4, hc5, Cf]; exact Re () (Vt Vn)
     ·refine Tx ?_
      (repeat refine ao ?_); refine Lp [1,2,4,98,99] [true] (fun (n1 : Nat) => (⟨[(100, .v (.int .i64 (n1 : Int)))], [], [], [], (n1 ≤ c1.pending.length) ∧ (dg c1 me1 (c1.pending.drop n1) n1) = (bh c1 me1), c1.pending.length - n1⟩ : Ls)) 0 (Sc (Sc (Sc (Sc (Sc Sn))))) (.keep (.nil)) ⟨Nat.zero_le _, (by simp only [bh, hc1, hc2, hc3, hc4, hc5, Cf] : (bh c1 me1) = (dg c1 me1 c1.pending 0)).symm⟩ Le4 ?_
      rintro n1 ⟨hkn1, hf1⟩
      simp only [List.cons_append, List.nil_append]
      refine Tx ?_
      refine Cd (b := decide ((n1 : Int) < (c1.pending.length : Int))) (fun hc6 => ?_) fun hc6 => ?_
      ·have hlt0 : n1 < c1.pending.length := Int.ofNat_lt.1 (of_decide_eq_true hc6)
       refine Tx ?_
       refine rw_q rfl rfl rfl (q_idx EOp n1 rfl rfl Zf rfl Zf rfl rfl rfl Mm rfl Zf (fun _ => by first | assumption | omega)) ?_
       refine rw_q rfl rfl rfl (q_leA EOp rfl rfl Zf rfl rfl Mm (fun _ => by first | assumption | omega)) ?_
       refine Al fun g2 => ?_
       refine Tx ?_
       refine Cl (ef (gt c1.pending n1)) fun _ => ?_
       refine Tx ?_
       refine Cd (b := ((ck (gt c1.pending n1)) != 0)) (fun hc7 => ?_) fun hc7 => ?_
       ·have hc7p := bne_iff_ne.1 hc7
        refine Tx ?_
        refine ai ?_; rw [show (bh c1 me1) = (ck (gt c1.pending n1)) by rw [← hf1, aE hlt0]; simp only [dg, hc7, Cf]]; exact Re () (Vt Vn)
       ·have hc7p := ae hc7
        refine Tx ?_
        (repeat refine ao ?_); refine au (fun _ => some []) ?_
        refine Rb 0 rfl Qp ?_
        refine Rb 1 rfl Qp ?_
        refine Rb 2 rfl Q1 ?_
        refine Rb 3 rfl Qp ?_
        refine Rb 4 rfl Qp ?_
        refine Rb 5 rfl Qp ?_
        refine Gb 6 rfl (aB rfl rfl rfl) (q_pev rfl Bt) ?_
        refine Gb 7 rfl (aB rfl rfl rfl) (q_ld1 rfl rfl Bt rfl Mm rfl) ?_
        refine Gb 8 rfl (aB rfl rfl rfl) (q_pev rfl Bt) ?_
        refine Gb 9 rfl (aB rfl rfl rfl) (q_ld1 rfl rfl Bt rfl Mm rfl) ?_
        refine Gb 10 rfl (aB rfl rfl rfl) (q_pev rfl Bt) ?_
        refine Rb 11 rfl (q_pev rfl Bt) ?_
        refine Rb 12 rfl Qp ?_
        refine Gb 13 rfl (aB rfl rfl rfl) (q_pev rfl Bt) ?_
        refine Gb 14 rfl (aB rfl rfl rfl) (q_ld1 rfl rfl Bt rfl Mm rfl) ?_
        refine Gb 15 rfl (aB rfl rfl rfl) (q_pev rfl Bt) ?_
        refine Gb 16 rfl (aB rfl rfl rfl) (q_ld1 rfl rfl Bt rfl Mm rfl) ?_
        refine Gb 17 rfl (aB rfl rfl rfl) (q_pev rfl Bt) ?_
        refine Gb 18 rfl (aB rfl rfl rfl) (q_ld1 rfl rfl Bt rfl Mm rfl) ?_
        refine Gb 19 rfl (aB rfl rfl rfl) (q_pev rfl Bt) ?_
        refine Gb 20 rfl (aB rfl rfl rfl) (q_sub rfl rfl Bt rfl Bt (by intro h; first | omega | (simp at h; omega))) ?_
        refine Gb 21 rfl (aB rfl rfl rfl) (q_add rfl rfl Bt rfl Bt (by intro h; first | omega | (simp at h; omega))) ?_
        refine Gb 22 rfl (aB rfl rfl rfl) (q_pev rfl Bt) ?_
        refine Gb 23 rfl (aB rfl rfl rfl) (q_add rfl rfl Bt rfl Bt (by intro h; first | omega | (simp at h; omega))) ?_
        refine Gb 24 rfl (aB rfl rfl rfl) (q_pev rfl Bt) ?_
        refine Rb 25 rfl (q_pev rfl Bt) ?_
        refine Rb 26 rfl Qp ?_
        refine Gb 27 rfl (aB rfl rfl rfl) (q_pev rfl Bt) ?_
        refine Gb 28 rfl (aB rfl rfl rfl) (q_pev rfl Bt) ?_
        refine Gb 29 rfl (aB rfl rfl rfl) (q_ld1 rfl rfl Bt rfl Mm rfl) ?_
        refine Gb 30 rfl (aB rfl rfl rfl) (q_pev rfl Bt) ?_
        refine Gb 31 rfl (aB rfl rfl rfl) (q_ld1 rfl rfl Bt rfl Mm rfl) ?_
        refine Gb 32 rfl (aB rfl rfl rfl) (q_pev rfl Bt) ?_
        refine Rb 33 rfl (q_pev rfl Bt) ?_
        refine Rb 34 rfl Qp ?_
        refine Gb 35 rfl (aB rfl rfl rfl) (q_pev rfl Bt) ?_
        refine Gb 36 rfl (aB rfl rfl rfl) (q_pev rfl Bt) ?_
        refine Gb 37 rfl (aB rfl rfl rfl) (q_pev rfl Bt) ?_
        refine Gb 38 rfl (eM rfl rfl rfl) (q_pev rfl Bt) ?_
        refine Gb 39 rfl (eM rfl rfl rfl) (q_pev rfl Bt) ?_
        refine Gb 40 rfl (eM rfl rfl rfl) (q_ld1 rfl rfl Bt rfl Mm rfl) ?_
        refine Gb 41 rfl (eM rfl rfl rfl) (q_pev rfl Bt) ?_
        refine Gb 42 rfl (eM rfl rfl rfl) (q_ld1 rfl rfl Bt rfl Mm rfl) ?_
        refine Gb 43 rfl (eM rfl rfl rfl) (q_pev rfl Bt) ?_
        refine Gb 44 rfl (eM rfl rfl rfl) (q_sub rfl rfl Bt rfl Bt (by intro h; first | omega | (simp at h; omega))) ?_
        refine Gb 45 rfl (eM rfl rfl rfl) (q_idx EOp (n1 - 1) rfl rfl Bt rfl Bt rfl rfl rfl Mm rfl (by intro h; first | omega | rfl | (simp at h; omega)) (by first | (intro _; first | assumption | omega) | (intro h; simp at h; omega))) ?_
        refine Gb 46 rfl (eM rfl rfl rfl) (q_fae rfl rfl Bt rfl rfl) ?_
        refine Gb 47 rfl (eM rfl rfl rfl) (q_fae rfl rfl Bt rfl rfl) ?_
        refine Gb 48 rfl (eM rfl rfl rfl) (q_le1 EOp rfl rfl Bt rfl rfl Mm (by first | (intro _; first | assumption | omega) | (intro h; simp at h; omega)) rfl) ?_
        refine Gb 49 rfl (eM rfl rfl rfl) (q_pev rfl Bt) ?_
        refine Ga 50 rfl (aB rfl rfl rfl) (q_pev rfl Bt) ?_
        refine Ra 51 rfl (q_pev rfl Bt) ?_
        refine bn Kr ?_
        (repeat refine ao ?_)
        refine Cd (b := ((((((gt c1.pending n1).who != me1) || ((gt c1.pending n1).life != c1.life)) || ((gt c1.pending n1).seq != (((c1.seq - (c1.pending.length : Int)) + 1) + (n1 : Int)))) || decide ((gt c1.pending n1).time > c1.time)) || (decide ((n1 : Int) > 0) && decide ((gt c1.pending n1).time ≤ (gt c1.pending (n1 - 1)).time)))) (fun hc8 => ?_) fun hc8 => ?_
        ·refine Tx ?_
         refine ai ?_; rw [show (bh c1 me1) = 4 by rw [← hf1, aE hlt0]; simp only [dg, hc7, hc8, Cf]]; exact Re () (Vt Vn)
        ·refine Tx ?_
         refine rw_q rfl rfl rfl (q_add rfl rfl Zf rfl Zf Zo) ?_
         refine Tx ?_
         refine ⟨(n1 + 1), ⟨hlt0, (by rw [← hf1, aE hlt0]; simp only [dg, hc7, hc8, Cf] : (bh c1 me1) = (dg c1 me1 (c1.pending.drop (n1 + 1)) (n1 + 1))).symm⟩, (by simp only []; omega), Le4⟩
      ·have hge0 : c1.pending.length ≤ n1 := by have := of_decide_eq_false hc6; omega
       refine Tx ?_
       refine ai ?_; rw [show (bh c1 me1) = 0 by rw [← hf1, List.drop_of_length_le hge0]; simp only [dg, Cf]]; exact Re () (Vt Vn)
theorem iM {c : Client} {me : Int} (h : bh c me = 0) : (0 ≤ me ∧ me < 3) ∧ (0 ≤ c.life ∧ c.life ≤ 50 ∧ 0 ≤ c.time ∧ c.time ≤ 10000 ∧ 0 ≤ c.seq ∧ c.seq ≤ 30 ∧ 0 ≤ c.version ∧ c.version ≤ 60) ∧ c.pending.length ≤ 8 ∧ bv c.v = 0 ∧ ((c.life = 0 → c.time = 0 ∧ c.seq = 0 ∧ c.version = 0) ∧ (c.version = 0 → c.v.roots = []) ∧ (c.pending.length : Int) ≤ c.seq) ∧ dg c me c.pending 0 = 0 := by
 unfold bh at h
 cases h1 : (decide (me < 0) || decide (me ≥ 3)) with
 | true => rw [h1, cond_true] at h; cases h
 | false =>
 rw [h1, cond_false] at h
 simp only [Bool.or_eq_false_iff, decide_eq_false_iff_not] at h1
 cases h2 : (((((((decide (c.life < 0) || decide (c.life > 50)) || decide (c.time < 0)) || decide (c.time > 10000)) || decide (c.seq < 0)) || decide (c.seq > 30)) || decide (c.version < 0)) || decide (c.version > 60)) with
 | true => rw [h2, cond_true] at h; cases h
 | false =>
 rw [h2, cond_false] at h
 simp only [Bool.or_eq_false_iff, decide_eq_false_iff_not] at h2
 cases h3 : decide ((c.pending.length : Int) > 8) with
 | true => rw [h3, cond_true] at h; cases h
 | false =>
 rw [h3, cond_false] at h
 have h3 := of_decide_eq_false h3
 cases h4 : (bv c.v != 0) with
 | true => rw [h4, cond_true] at h; rw [h] at h4; cases h4
 | false =>
 rw [h4, cond_false] at h
 cases h5 : ((((c.life == 0) && (((c.time + c.seq) + c.version) != 0)) || ((c.version == 0) && decide ((c.v.roots.length : Int) > 0))) || decide ((c.pending.length : Int) > c.seq)) with
 | true => rw [h5, cond_true] at h; cases h
 | false =>
 rw [h5, cond_false] at h
 simp only [Bool.or_eq_false_iff, decide_eq_false_iff_not, Bool.and_eq_false_iff, beq_eq_false_iff_ne, bne_eq_false_iff_eq] at h5
 refine ⟨by omega, by omega, by omega, ae h4, ⟨fun hl => by omega, fun hv => ?_, by omega⟩, h⟩
 rcases h5.1.2 with h6 | h6
 ·exact absurd hv h6
 ·exact List.length_eq_zero_iff.1 (by omega)
def dX (c1 : Client) : Client :=
 c1
theorem gY (y1 : SlV) (y2 : SlV) (y3 : SlV) (y4 : SlV) (c1 : Client) : DoesG Tryz.prog 63 [.agg ⟨[.int .i64 c1.life, .int .i64 c1.time, .int .i64 c1.seq, y1.val c1.pending.length, .int .i64 c1.version, y2.val c1.v.roots.length, y3.val c1.v.known.length, y4.val c1.v.way.length]⟩] [RdL EOp y1 c1.pending, RdL EInt y2 c1.v.roots, RdL EPlace y3 c1.v.known, RdL EPlace y4 c1.v.way] ⟨[], []⟩ (fun (X : SlV × Option Nat × SlV × SlV × SlV) => .agg ⟨[.int .i64 (dX c1).life, .int .i64 (dX c1).time, .int .i64 (dX c1).seq, X.1.val (dX c1).pending.length, .int .i64 (dX c1).version, X.2.2.1.val (dX c1).v.roots.length, X.2.2.2.1.val (dX c1).v.known.length, X.2.2.2.2.val (dX c1).v.way.length]⟩) (fun X => [RdL EInt X.2.2.1 (dX c1).v.roots, RdL EPlace X.2.2.2.1 (dX c1).v.known, RdL EPlace X.2.2.2.2 (dX c1).v.way]) (fun X => ⟨[], [ownL EOp 49 X.1 X.2.1 (dX c1).pending]⟩) := by
 refine co aZ Tryz.func63 rfl Tryz.ntmps63 Tryz.results63 rfl inferInstance (fun _ => inferInstance) fun C => ?_
 refine Pc EOp y1 c1.pending 56 fun hlen1 => ?_
 refine Pc EInt y2 c1.v.roots 8 fun hlen2 => ?_
 refine Pc EPlace y3 c1.v.known 24 fun hlen3 => ?_
 refine Pc EPlace y4 c1.v.way 24 fun hlen4 => ?_
 refine Tx ?_
 refine Bx fun g1 => ?_
 refine Al fun g2 => ?_
 refine dY ?_
 (repeat refine ao ?_); refine au (fun j => match j with | 7 => some [g1] | 9 => some [g1] | _ => some []) ?_
 refine Rb 0 rfl Qp ?_
 refine Rb 1 rfl Q1 ?_
 refine Rb 3 rfl Qp ?_
 refine Ra 4 rfl (q_ldP rfl rfl Zf rfl Mm rfl) ?_
 refine ap 2 Kr ?_
 refine aV (hJ y1 c1.pending) (.an rfl rfl) (.inr (by simp [Lent.ids])) (ac rfl) rfl rfl rfl Kr rfl rfl Sm (.nil _) (.nil _) ?_
 intro x1
 refine Ra 6 rfl Qp ?_
 refine ap 5 Kr ?_
 refine aV (fJ y2 y3 y4 c1.v) (.an rfl rfl) (.inr (by simp [Lent.ids])) (ac rfl) rfl rfl rfl Kr rfl rfl Sm (.nil _) (.nil _) ?_
 intro x2
 refine ap 7 Kr ?_
 refine ew (.an rfl rfl) (.inr (by simp)) (ac rfl) rfl rfl rfl rfl rfl rfl rfl rfl rfl Ub rfl ?_
 refine Ra 8 rfl Qp ?_
 refine ap 9 Kr ?_
 refine eS (.an rfl rfl) (.inr (by simp)) (ac rfl) rfl rfl rfl rfl rfl rfl rfl rfl rfl Ub rfl ?_
 refine bn Kr ?_
 refine Tx ?_
 refine cw_le (ay EInt 3 x2.1 x2.2.1 c1.v.roots Uo) ?_
 refine cw_le (ay EPlace 83 x2.2.2.1 x2.2.2.2.1 c1.v.known Uo) ?_
 refine cw_le (ay EPlace 83 x2.2.2.2.2.1 x2.2.2.2.2.2 c1.v.way Uo) ?_
 refine ai ?_; simp only [dX, Cf]; exact Re ⟨x1.1, x1.2, x2.1, x2.2.2.1, x2.2.2.2.2.1⟩ (Va Vn)
def bU (life1 : Int) (time1 : Int) : Client × Int :=
 (bif (((decide (life1 < 1) || decide (life1 > 50)) || decide (time1 < 0)) || decide (time1 > 10000)) then ((⟨0, 0, 0, ([] : List Op), 0, (⟨[], [], []⟩ : View)⟩ : Client), 3) else ((⟨life1, time1, 0, ([] : List Op), 0, (⟨[], [], []⟩ : View)⟩ : Client), 0))
theorem mC (life1 : Int) (time1 : Int) : Does Tryz.prog 113 [.int .i64 life1, .int .i64 time1] [] (fun (X : SlV × SlV × SlV × SlV) => .tuple #[.agg ⟨[.int .i64 (bU life1 time1).1.life, .int .i64 (bU life1 time1).1.time, .int .i64 (bU life1 time1).1.seq, X.1.val (bU life1 time1).1.pending.length, .int .i64 (bU life1 time1).1.version, X.2.1.val (bU life1 time1).1.v.roots.length, X.2.2.1.val (bU life1 time1).1.v.known.length, X.2.2.2.val (bU life1 time1).1.v.way.length]⟩, .int .i64 (bU life1 time1).2]) (fun X => [RdL EOp X.1 (bU life1 time1).1.pending, RdL EInt X.2.1 (bU life1 time1).1.v.roots, RdL EPlace X.2.2.1 (bU life1 time1).1.v.known, RdL EPlace X.2.2.2 (bU life1 time1).1.v.way]) := by
 refine bj aZ Tryz.func113 rfl Tryz.ntmps113 Tryz.results113 rfl inferInstance (fun _ => inferInstance) fun C => ?_
 refine Tx ?_
 refine Al fun g1 => ?_
 refine Tx ?_
 refine Cd (b := (((decide (life1 < 1) || decide (life1 > 50)) || decide (time1 < 0)) || decide (time1 > 10000))) (fun hc1 => ?_) fun hc1 => ?_
 ·refine Tx ?_
  refine Fc EOp ?_
  refine Fc EInt ?_
  refine Fc EPlace ?_
  refine ai ?_; simp only [bU, hc1, Cf]; exact Re ⟨(⟨none, 0⟩ : SlV), (⟨none, 0⟩ : SlV), (⟨none, 0⟩ : SlV), (⟨none, 0⟩ : SlV)⟩ (Va (Vt Vn))
 ·refine Tx ?_
  refine Fc EOp ?_
  refine Fc EInt ?_
  refine Fc EPlace ?_
  refine ai ?_; simp only [bU, hc1, Cf]; exact Re ⟨(⟨none, 0⟩ : SlV), (⟨none, 0⟩ : SlV), (⟨none, 0⟩ : SlV), (⟨none, 0⟩ : SlV)⟩ (Va (Vt Vn))
def bz (c1 : Client) (me1 : Int) (node1 : Int) (parent1 : Int) (name1 : Int) : Client × Op × Int :=
 (bif ((bh c1 me1) != 0) then ((⟨0, 0, 0, ([] : List Op), 0, (⟨[], [], []⟩ : View)⟩ : Client), (⟨0, 0, 0, 0, 0, 0, 0⟩ : Op), (bh c1 me1)) else (bif (c1.life == 0) then ((⟨0, 0, 0, ([] : List Op), 0, (⟨[], [], []⟩ : View)⟩ : Client), (⟨0, 0, 0, 0, 0, 0, 0⟩ : Op), 7) else (bif ((((c1.pending.length : Int) == 8) || (c1.time == 10000)) || (c1.seq == 30)) then ((⟨0, 0, 0, ([] : List Op), 0, (⟨[], [], []⟩ : View)⟩ : Client), (⟨0, 0, 0, 0, 0, 0, 0⟩ : Op), 2) else (bif ((ck (⟨(c1.time + 1), me1, node1, parent1, name1, c1.life, (c1.seq + 1)⟩ : Op)) != 0) then ((⟨0, 0, 0, ([] : List Op), 0, (⟨[], [], []⟩ : View)⟩ : Client), (⟨0, 0, 0, 0, 0, 0, 0⟩ : Op), (ck (⟨(c1.time + 1), me1, node1, parent1, name1, c1.life, (c1.seq + 1)⟩ : Op))) else ((⟨c1.life, (c1.time + 1), (c1.seq + 1), (c1.pending ++ [(⟨(c1.time + 1), me1, node1, parent1, name1, c1.life, (c1.seq + 1)⟩ : Op)]), c1.version, c1.v⟩ : Client), (⟨(c1.time + 1), me1, node1, parent1, name1, c1.life, (c1.seq + 1)⟩ : Op), 0)))))
theorem nc (y1 : SlV) (y2 : SlV) (y3 : SlV) (y4 : SlV) (c1 : Client) (me1 : Int) (node1 : Int) (parent1 : Int) (name1 : Int) : Does Tryz.prog 91 [.agg ⟨[.int .i64 c1.life, .int .i64 c1.time, .int .i64 c1.seq, y1.val c1.pending.length, .int .i64 c1.version, y2.val c1.v.roots.length, y3.val c1.v.known.length, y4.val c1.v.way.length]⟩, .int .i64 me1, .int .i64 node1, .int .i64 parent1, .int .i64 name1] [RdL EOp y1 c1.pending, RdL EInt y2 c1.v.roots, RdL EPlace y3 c1.v.known, RdL EPlace y4 c1.v.way] (fun (X : SlV × SlV × SlV × SlV) => .tuple #[.agg ⟨[.int .i64 (bz c1 me1 node1 parent1 name1).1.life, .int .i64 (bz c1 me1 node1 parent1 name1).1.time, .int .i64 (bz c1 me1 node1 parent1 name1).1.seq, X.1.val (bz c1 me1 node1 parent1 name1).1.pending.length, .int .i64 (bz c1 me1 node1 parent1 name1).1.version, X.2.1.val (bz c1 me1 node1 parent1 name1).1.v.roots.length, X.2.2.1.val (bz c1 me1 node1 parent1 name1).1.v.known.length, X.2.2.2.val (bz c1 me1 node1 parent1 name1).1.v.way.length]⟩, .agg ⟨[.int .i64 (bz c1 me1 node1 parent1 name1).2.1.time, .int .i64 (bz c1 me1 node1 parent1 name1).2.1.who, .int .i64 (bz c1 me1 node1 parent1 name1).2.1.node, .int .i64 (bz c1 me1 node1 parent1 name1).2.1.parent, .int .i64 (bz c1 me1 node1 parent1 name1).2.1.name, .int .i64 (bz c1 me1 node1 parent1 name1).2.1.life, .int .i64 (bz c1 me1 node1 parent1 name1).2.1.seq]⟩, .int .i64 (bz c1 me1 node1 parent1 name1).2.2]) (fun X => [RdL EOp X.1 (bz c1 me1 node1 parent1 name1).1.pending, RdL EInt X.2.1 (bz c1 me1 node1 parent1 name1).1.v.roots, RdL EPlace X.2.2.1 (bz c1 me1 node1 parent1 name1).1.v.known, RdL EPlace X.2.2.2 (bz c1 me1 node1 parent1 name1).1.v.way]) := by
 refine bj aZ Tryz.func91 rfl Tryz.ntmps91 Tryz.results91 rfl inferInstance (fun _ => inferInstance) fun C => ?_
 refine Pc EOp y1 c1.pending 56 fun hlen1 => ?_
 refine Pc EInt y2 c1.v.roots 8 fun hlen2 => ?_
 refine Pc EPlace y3 c1.v.known 24 fun hlen3 => ?_
 refine Pc EPlace y4 c1.v.way 24 fun hlen4 => ?_
 refine Tx ?_
 refine Bx fun g1 => ?_
 refine Al fun g2 => ?_
 refine Al fun g3 => ?_
 refine Tx ?_
 refine Cl (fF y1 y2 y3 y4 c1 me1) fun _ => ?_
 refine Tx ?_
 refine Cd (b := ((bh c1 me1) != 0)) (fun hc1 => ?_) fun hc1 => ?_
 ·have hc1p := bne_iff_ne.1 hc1
  refine Tx ?_
  refine Fc EOp ?_
  refine Fc EInt ?_
  refine Fc EPlace ?_
  refine ai ?_; simp only [bz, hc1, Cf]; exact Re ⟨(⟨none, 0⟩ : SlV), (⟨none, 0⟩ : SlV), (⟨none, 0⟩ : SlV), (⟨none, 0⟩ : SlV)⟩ (Va (Va (Vt Vn)))
 ·have hc1p := ae hc1
  have hck := iM (ae hc1)
  refine Tx ?_
  refine Cd (b := (c1.life == 0)) (fun hc2 => ?_) fun hc2 => ?_
  ·have hc2p := eq_of_beq hc2
   refine Tx ?_
   refine Fc EOp ?_
   refine Fc EInt ?_
   refine Fc EPlace ?_
   refine ai ?_; simp only [bz, hc1, hc2, Cf]; exact Re ⟨(⟨none, 0⟩ : SlV), (⟨none, 0⟩ : SlV), (⟨none, 0⟩ : SlV), (⟨none, 0⟩ : SlV)⟩ (Va (Va (Vt Vn)))
  ·have hc2p := ne_of_beq_false hc2
   refine Tx ?_
   refine Cd (b := ((((c1.pending.length : Int) == 8) || (c1.time == 10000)) || (c1.seq == 30))) (fun hc3 => ?_) fun hc3 => ?_
   ·refine Tx ?_
    refine Fc EOp ?_
    refine Fc EInt ?_
    refine Fc EPlace ?_
    refine ai ?_; simp only [bz, hc1, hc2, hc3, Cf]; exact Re ⟨(⟨none, 0⟩ : SlV), (⟨none, 0⟩ : SlV), (⟨none, 0⟩ : SlV), (⟨none, 0⟩ : SlV)⟩ (Va (Va (Vt Vn)))
   ·refine Tx ?_
    refine rw_q rfl rfl rfl (q_add rfl rfl Zf rfl Zf Zo) ?_
    refine Tx ?_
    refine rw_q rfl rfl rfl (q_add rfl rfl Zf rfl Zf Zo) ?_
    refine Rp rfl rfl rfl rfl ?_
    refine Al fun g4 => ?_
    refine Tx ?_
    refine Cl (ef (⟨(c1.time + 1), me1, node1, parent1, name1, c1.life, (c1.seq + 1)⟩ : Op)) fun _ => ?_
    refine Tx ?_
    refine Cd (b := ((ck (⟨(c1.time + 1), me1, node1, parent1, name1, c1.life, (c1.seq + 1)⟩ : Op)) != 0)) (fun hc4 => ?_) fun hc4 => ?_
    ·have hc4p := bne_iff_ne.1 hc4
     refine Tx ?_
     refine Fc EOp ?_
     refine Fc EInt ?_
     refine Fc EPlace ?_
     refine ai ?_; simp only [bz, hc1, hc2, hc3, hc4, Cf]; exact Re ⟨(⟨none, 0⟩ : SlV), (⟨none, 0⟩ : SlV), (⟨none, 0⟩ : SlV), (⟨none, 0⟩ : SlV)⟩ (Va (Va (Vt Vn)))
    ·have hc4p := ae hc4
     refine Tx ?_
     refine Cg (gY y1 y2 y3 y4 c1) fun x1 => ?_
     refine Pr EInt x1.2.2.1 c1.v.roots 8 fun hlen5 => ?_
     refine Pr EPlace x1.2.2.2.1 c1.v.known 24 fun hlen6 => ?_
     refine Pr EPlace x1.2.2.2.2 c1.v.way 24 fun hlen7 => ?_
     refine Tx ?_
     (repeat refine ao ?_); refine au (fun j => match j with | 9 => some x1.2.1.toList | 11 => some [g1] | 13 => some [g1] | 15 => some [g1] | _ => some []) ?_
     refine ra_q (.ab (i := 0) (js := [3, 4, 5, 6, 7, 8, 9]) [1, 2, 10, 11, 12, 13, 14, 15] rfl Kr Kr Kr Kr Kr) (bK.all _) (by intro g hg; simp only [List.mem_append, List.mem_singleton, List.not_mem_nil, or_false, false_or, Option.mem_toList, Option.mem_def, List.append_nil] at hg; first | exact .inr ⟨ownL EOp 49 x1.1 x1.2.1 c1.pending, Mm, hg⟩) rfl rfl rfl (q_pev rfl Zf) ?_
     refine ra_q (.an (i := 1) (js := [3, 4, 5, 6, 7, 8, 9]) rfl Kr Kr Kr Kr) (bK.all _) (by intro g hg; simp only [List.mem_append, List.mem_singleton, List.not_mem_nil, or_false, false_or, Option.mem_toList, Option.mem_def, List.append_nil] at hg; first | exact .inr ⟨ownL EOp 49 x1.1 x1.2.1 c1.pending, Mm, hg⟩) rfl rfl rfl (q_pev rfl Zf) ?_
     refine ra_q (.an (i := 2) (js := [3, 4, 5, 6, 7, 8, 9]) rfl Kr Kr Kr Kr) (bK.all _) (by intro g hg; simp only [List.mem_append, List.mem_singleton, List.not_mem_nil, or_false, false_or, Option.mem_toList, Option.mem_def, List.append_nil] at hg; first | exact .inr ⟨ownL EOp 49 x1.1 x1.2.1 c1.pending, Mm, hg⟩) rfl rfl rfl (q_ld1 rfl rfl Zf rfl Mm rfl) ?_
     refine ra_q (.an (i := 3) (js := [5, 6, 7, 8, 9, 10, 11]) rfl Kr Kr Kr Kr) (.keep (.keep (.keep (.drop (bK.all _))))) (by intro g hg; simp only [List.mem_append, List.mem_singleton, List.not_mem_nil, or_false, false_or, Option.mem_toList, Option.mem_def, List.append_nil] at hg; rcases hg with hg | hg <;> first | exact .inr ⟨ownL EOp 49 x1.1 x1.2.1 c1.pending, Mm, hg⟩ | (subst hg; simp; done)) rfl rfl rfl (q_pev rfl Zf) ?_
     refine ra_q (.an (i := 4) (js := [5, 6, 7, 8, 9, 10, 11]) rfl Kr Kr Kr Kr) (.keep (.keep (.keep (.drop (bK.all _))))) (by intro g hg; simp only [List.mem_append, List.mem_singleton, List.not_mem_nil, or_false, false_or, Option.mem_toList, Option.mem_def, List.append_nil] at hg; rcases hg with hg | hg <;> first | exact .inr ⟨ownL EOp 49 x1.1 x1.2.1 c1.pending, Mm, hg⟩ | (subst hg; simp; done)) rfl rfl rfl (q_ld1 rfl rfl Zf rfl Mm rfl) ?_
     refine Rb 5 rfl Qp ?_
     refine Ra 6 rfl Q1 ?_
     refine Rb 7 rfl (q_ldA rfl rfl Zf rfl Mm rfl) ?_
     refine ra_q (.an (i := 10) (js := [8, 9]) rfl Kr Kr Kr Kr) (bK.all _) (by intro g hg; simp only [List.mem_append, List.mem_singleton, List.not_mem_nil, or_false, false_or, Option.mem_toList, Option.mem_def, List.append_nil] at hg; first | exact .inr ⟨ownL EOp 49 x1.1 x1.2.1 c1.pending, Mm, hg⟩) rfl rfl rfl (q_pev rfl Zf) ?_
     refine ap 8 Kr ?_
     refine bB EOp [(⟨(c1.time + 1), me1, node1, parent1, name1, c1.life, (c1.seq + 1)⟩ : Op)] (.an rfl rfl) (ac rfl) rfl rfl rfl rfl rfl rfl rfl rfl rfl rfl rfl rfl rfl rfl rfl fun x2 x2b => ?_
     refine ap 9 Kr ?_
     refine b5 EOp c1.pending [(⟨(c1.time + 1), me1, node1, parent1, name1, c1.life, (c1.seq + 1)⟩ : Op)] (b := x1.2.1) (.an rfl rfl) (fun g h => .inr (by simp [h])) (ac rfl) rfl rfl rfl rfl rfl rfl rfl (fun _ _ => Uo) rfl rfl rfl rfl rfl rfl rfl (c6 (e := 49) (b := x2b) Mm) (by show (c1.pending.length + 1) * 56 ≤ 140737488355328; (try simp only [List.length_append, List.length_cons, List.length_nil]); omega) fun x3 x3b => ?_
     refine ap 11 Kr ?_
     refine ew (.an rfl rfl) (.inr (by simp)) (ac rfl) rfl rfl rfl rfl rfl rfl rfl rfl rfl Ub rfl ?_
     refine Ra 12 rfl Qp ?_
     refine ap 13 Kr ?_
     refine ew (.an rfl rfl) (.inr (by simp)) (ac rfl) rfl rfl rfl rfl rfl rfl rfl rfl rfl Ub rfl ?_
     refine Ra 14 rfl Qp ?_
     refine ap 15 Kr ?_
     refine ew (.an rfl rfl) (.inr (by simp)) (ac rfl) rfl rfl rfl rfl rfl rfl rfl rfl rfl Ub rfl ?_
     refine bn Kr ?_
     (repeat refine ao ?_); refine au (fun j => match j with | 2 => some [g2] | 3 => some [g3] | _ => some []) ?_
     refine Ra 0 rfl (q_ldA rfl rfl Zf rfl Mm rfl) ?_
     refine ra_q (.an (i := 1) (js := [2]) rfl Kr Kr Kr Kr) (.keep (.keep (.drop (bK.all _)))) (by intro g hg; simp at hg; simp [hg]) rfl rfl rfl (q_ldA rfl rfl Zf rfl Mm rfl) ?_
     refine ap 2 Kr ?_
     refine cY (.an rfl rfl) (.inr (by simp)) (ac rfl) rfl rfl rfl rfl rfl rfl rfl rfl rfl Ub rfl ?_
     refine ap 3 Kr ?_
     refine cY (.an rfl rfl) (.inr (by simp)) (ac rfl) rfl rfl rfl rfl rfl rfl rfl rfl rfl Ub rfl ?_
     refine Ra 4 rfl Qp ?_
     refine bn Kr ?_
     (repeat refine ao ?_)
     refine cw_le (ay EOp 49 x3 x3b (c1.pending ++ [(⟨(c1.time + 1), me1, node1, parent1, name1, c1.life, (c1.seq + 1)⟩ : Op)]) Uo) ?_
     refine ai ?_; simp only [bz, hc1, hc2, hc3, hc4, Cf]; exact Re ⟨x3, x1.2.2.1, x1.2.2.2.1, x1.2.2.2.2⟩ (Va (Va (Vt Vn)))
def bu (f1 : Op → Bool) : List Op → Nat → Int
 | [], n1 => (-1)
 | pn1 :: rn1, n1 => (bif (f1 pn1) then (n1 : Int) else (bu f1 rn1 (n1 + 1)))
def a8 (s1 : List Op) (f1 : Op → Bool) : Int :=
 (bu f1 s1 0)
theorem jm (y1 : SlV) (s1 : List Op) (f2 : Nat) (caps1 : List Value) (pre1 : List Pred) [StabL pre1] (f1 : Op → Bool) (hfb1 : tab.fnb f2 = true) (hfn1 : ∀ (a0_ : Op), Does Tryz.prog f2 ([.agg ⟨[.int .i64 a0_.time, .int .i64 a0_.who, .int .i64 a0_.node, .int .i64 a0_.parent, .int .i64 a0_.name, .int .i64 a0_.life, .int .i64 a0_.seq]⟩] ++ caps1) pre1 (fun (_ : Unit) => .bool (f1 a0_)) (fun _ => [])) : Does Tryz.prog 130 [y1.val s1.length, .func (.func f2) #[] ⟨caps1⟩] (RdL EOp y1 s1 :: pre1) (fun (_ : Unit) => .int .i64 (a8 s1 f1)) (fun _ => []) := by
 refine bj aZ Tryz.func130 rfl Tryz.ntmps130 Tryz.results130 rfl inferInstance (fun _ => inferInstance) fun C => ?_
 refine dP (φ := s1.length * 56 ≤ 140737488355328) [RdL EOp y1 s1] Sf (fun M w h => (allF1 h).len) fun hlen1 => ?_
 refine Tx ?_
 (repeat refine ao ?_); refine Lp [0,1,4,7] [] (fun (n1 : Nat) => (⟨[(8, .v (.int .i64 (n1 : Int)))], [], [], [], (n1 ≤ s1.length) ∧ (bu f1 (s1.drop n1) n1) = (a8 s1 f1), s1.length - n1⟩ : Ls)) 0 (Sc (Sc (Sc (Sc Sn)))) (.nil) ⟨Nat.zero_le _, (by simp only [a8, Cf] : (a8 s1 f1) = (bu f1 s1 0)).symm⟩ Le5 ?_
 rintro n1 ⟨hkn1, hf1⟩
 simp only [List.cons_append, List.nil_append]
 refine Tx ?_
 refine Cd (b := decide ((n1 : Int) < (s1.length : Int))) (fun hc1 => ?_) fun hc1 => ?_
 ·have hlt0 : n1 < s1.length := Int.ofNat_lt.1 (of_decide_eq_true hc1)
  refine Tx ?_
  refine rw_q rfl rfl rfl (q_idx EOp n1 rfl rfl Zf rfl Zf rfl rfl rfl Mm rfl Zf (fun _ => by first | assumption | omega)) ?_
  refine rw_q rfl rfl rfl (q_leA EOp rfl rfl Zf rfl rfl Mm (fun _ => by first | assumption | omega)) ?_
  refine gg (hfn1 (gt s1 n1)) .sq (ac rfl) rfl rfl rfl rfl rfl (by assumption) rfl rfl rfl Sf ?_
  intro _
  refine dY ?_
  (repeat refine ao ?_)
  refine Cd (b := (f1 (gt s1 n1))) (fun hc2 => ?_) fun hc2 => ?_
  ·refine Tx ?_
   have hr1 : (a8 s1 f1) = (n1 : Int) := by rw [← hf1, aE hlt0]; simp only [bu, hc2, Cf]
   refine ai ?_
   rw [hr1]
   exact ⟨(), _, (.cons (.tmp rfl) .nil), rfl, Sf, .nil _, .nil _⟩
  ·refine Tx ?_
   refine rw_q rfl rfl rfl (q_add rfl rfl Zf rfl Zf Zo) ?_
   refine Tx ?_
   refine ⟨(n1 + 1), ⟨hlt0, (by rw [← hf1, aE hlt0]; simp only [bu, hc2, Cf] : (a8 s1 f1) = (bu f1 (s1.drop (n1 + 1)) (n1 + 1))).symm⟩, (by simp only []; omega), Le5⟩
 ·have hge0 : s1.length ≤ n1 := by have := of_decide_eq_false hc1; omega
  refine Tx ?_
  have hr2 : (a8 s1 f1) = (-1) := by rw [← hf1, List.drop_of_length_le hge0]; simp only [bu, Cf]
  refine ai ?_
  rw [hr2]
  exact ⟨(), _, (.cons (.tmp rfl) .nil), rfl, Sf, .nil _, .nil _⟩
theorem fL (f : Op → Bool) : ∀ (l : List Op) (k : Nat), bu f l k < (k : Int) + (l.length : Int) ∨ bu f l k = -1
 | [], k => .inr rfl
 | p :: r, k => by
  rw [bu]
  cases f p with
  | true => simp only [cond_true, List.length_cons]; omega
  | false => have := fL f r (k + 1); simp only [cond_false, List.length_cons]; omega
theorem km (l : List Op) (f : Op → Bool) : a8 l f < (l.length : Int) ∨ a8 l f = -1 := by
 have := fL f l 0
 unfold a8
 omega
theorem IF_Op (f : Op → Bool) : ∀ (l : List Op) (k : Nat), (bu f l k = -1 ∧ ∀ p ∈ l, f p = false) ∨ ∃ A x R, l = A ++ x :: R ∧ (∀ p ∈ A, f p = false) ∧ f x = true ∧ bu f l k = ((k + A.length : Nat) : Int)
 | [], k => .inl ⟨rfl, by simp⟩
 | p :: r, k => by
  rw [bu]
  cases h : f p with
  | true => exact .inr ⟨[], p, r, rfl, by simp, h, by simp⟩
  | false =>
   rcases IF_Op f r (k + 1) with ⟨h1, h2⟩ | ⟨A, x, R, h1, h2, h3, h4⟩
   ·exact .inl ⟨h1, fun q hq => by rcases List.mem_cons.1 hq with rfl | hq; exact h; exact h2 q hq⟩
   ·refine .inr ⟨p :: A, x, R, by rw [h1]; rfl, fun q hq => by rcases List.mem_cons.1 hq with rfl | hq; exact h; exact h2 q hq, h3, ?_⟩
    rw [cond_false, h4]; simp; omega
theorem kn (l : List Op) (f : Op → Bool) : -1 ≤ a8 l f := by
 have h : a8 l f = bu f l 0 := rfl
 rcases IF_Op f l 0 with ⟨h1, _⟩ | ⟨A, x, R, _, _, _, h4⟩ <;> rw [h] <;> omega
def bG (del1 : Op → Bool) : Nat → (List Op) → Int → Int → (List Op)
 | 0, s2, i1, j1 => default
 | f_k0 + 1, s2, i1, j1 => (bif decide (j1 < (s2.length : Int)) then (bif (!(del1 (gt s2 j1.toNat))) then (bG del1 f_k0 (s2.set i1.toNat (gt s2 j1.toNat)) (i1 + 1) (j1 + 1)) else (bG del1 f_k0 s2 i1 (j1 + 1))) else (s2.take i1.toNat))
def cf (s1 : List Op) (del1 : Op → Bool) : List Op :=
 (bif ((a8 s1 del1) == (-1)) then s1 else (bG del1 ((s1.length - ((a8 s1 del1) + 1).toNat) + 1) s1 (a8 s1 del1) ((a8 s1 del1) + 1)))
theorem jd (y1 : SlV) (y1b : Option Nat) (s1 : List Op) (f1 : Nat) (caps1 : List Value) (pre1 : List Pred) [StabL pre1] (del1 : Op → Bool) (hfb1 : tab.fnb f1 = true) (hfn1 : ∀ (a0_ : Op), Does Tryz.prog f1 ([.agg ⟨[.int .i64 a0_.time, .int .i64 a0_.who, .int .i64 a0_.node, .int .i64 a0_.parent, .int .i64 a0_.name, .int .i64 a0_.life, .int .i64 a0_.seq]⟩] ++ caps1) pre1 (fun (_ : Unit) => .bool (del1 a0_)) (fun _ => [])) : DoesG Tryz.prog 107 [y1.val s1.length, .func (.func f1) #[] ⟨caps1⟩] pre1 ⟨[], [ownL EOp 49 y1 y1b s1]⟩ (fun (_ : Unit) => y1.val (cf s1 del1).length) (fun _ => []) (fun _ => ⟨[], [ownL EOp 49 y1 y1b (cf s1 del1)]⟩) := by
 refine co aZ Tryz.func107 rfl Tryz.ntmps107 Tryz.results107 rfl inferInstance (fun _ => inferInstance) fun C => ?_
 refine iL EOp (e := 49) (X := y1) (b := y1b) (l := s1) Mm fun hl63y1 hleny1 => ?_
 simp only [show EOp.by_ = 56 from rfl] at hleny1
 refine Tx ?_
 refine pj (jm y1 s1 _ _ _ del1 (by assumption) hfn1) .sq (ac rfl) rfl rfl rfl Kr rfl rfl (.own Mm (PreR.sub Sf)) ?_
 intro _
 refine Tx ?_
 refine Cd (b := ((a8 s1 del1) == (-1))) (fun hc1 => ?_) fun hc1 => ?_
 ·have hc1p := eq_of_beq hc1
  refine Tx ?_
  have hr1 : (cf s1 del1) = s1 := by simp only [cf, hc1, Bool.true_and, Bool.and_true, Cf]
  refine ai ?_
  rw [hr1]
  exact ⟨(), _, (.cons (.tmp rfl) .nil), rfl, Sf, .nil _, Sp⟩
 ·have hc1p := ne_of_beq_false hc1
  have hix := km s1 del1
  have hig := kn s1 del1
  refine Tx ?_
  refine rw_q rfl rfl rfl (q_add rfl rfl Zf rfl Zf Zo) ?_
  refine Tx ?_
  (repeat refine ao ?_); refine Lp [1,4] [] (fun (i_ : List Op × Int × Int) => match i_ with | ⟨s2, i1, j1⟩ => (⟨[(0, .v (y1.val s2.length)), (5, .v (.int .i64 i1)), (6, .v (.int .i64 j1))], [], [ownL EOp 49 y1 y1b s2], [], (0 ≤ i1 ∧ i1 < j1 ∧ j1 ≤ (s1.length : Int) ∧ s2.length = s1.length) ∧ (bG del1 ((s1.length - j1.toNat) + 1) s2 i1 j1) = (cf s1 del1), (s1.length - j1.toNat) + 1⟩ : Ls)) ⟨s1, (a8 s1 del1), ((a8 s1 del1) + 1)⟩ (Sc (Sc Sn)) (.nil) ⟨(by first | exact Nat.le_refl _ | exact Nat.zero_le _ | omega), (by simp only [cf, hc1, Bool.true_and, Bool.and_true, Cf] : (cf s1 del1) = (bG del1 ((s1.length - ((a8 s1 del1) + 1).toNat) + 1) s1 (a8 s1 del1) ((a8 s1 del1) + 1))).symm⟩ Le5 ?_
  rintro ⟨s2, i1, j1⟩ ⟨hj, hf1⟩
  simp only [List.cons_append, List.nil_append]
  have hlt0_ : ((s1.length - j1.toNat) + 1 - 1) + 1 = (s1.length - j1.toNat) + 1 := by omega
  refine Tx ?_
  refine Cd (b := decide (j1 < (s2.length : Int))) (fun hc2 => ?_) fun hc2 => ?_
  ·have hc2p := of_decide_eq_true hc2
   refine Tx ?_
   refine rw_qO EOp (e := 49) (X := y1) (b := y1b) (l := s2) Mm .sq rfl rfl rfl (q_idx EOp j1.toNat rfl rfl Zf rfl Zf rfl rfl rfl (.head _) rfl Zo Za) ?_
   refine rw_qO EOp (e := 49) (X := y1) (b := y1b) (l := s2) Mm .sq rfl rfl rfl (q_leA EOp rfl rfl Zf rfl rfl (.head _) Za) ?_
   refine Al fun g1 => ?_
   refine Tx ?_
   refine gg (hfn1 (gt s2 j1.toNat)) .sq (ac rfl) rfl rfl rfl rfl rfl (by assumption) rfl rfl rfl Sf ?_
   intro _
   refine Tx ?_
   refine Cd (b := (!(del1 (gt s2 j1.toNat)))) (fun hc3 => ?_) fun hc3 => ?_
   ·refine Tx ?_
    refine rw_qO EOp (e := 49) (X := y1) (b := y1b) (l := s2) Mm .sq rfl rfl rfl (q_idx EOp i1.toNat rfl rfl Zf rfl Zf rfl rfl rfl (.head _) rfl Zo Za) ?_
    refine kh EOp s2 i1.toNat 0 (gt s2 j1.toNat) (e := 49) (X := y1) (b := y1b) .sq (.inl ⟨_, rfl⟩) (ac rfl) rfl rfl rfl rfl rfl rfl rfl rfl rfl rfl rfl Zb rfl Uo ?_
    have hv1 : y1.val s2.length = y1.val (s2.set i1.toNat (gt s2 j1.toNat)).length := congrArg (SlV.val y1) List.length_set.symm
    try rw [hv1]
    refine Tx ?_
    refine rw_q rfl rfl rfl (q_add rfl rfl Zf rfl Zf Zo) ?_
    refine Tx ?_
    refine rw_q rfl rfl rfl (q_add rfl rfl Zf rfl Zf Zo) ?_
    refine Tx ?_
    have hnx1 : (s1.length - (j1 + 1).toNat) + 1 = (s1.length - j1.toNat) + 1 - 1 := by omega
    refine ⟨⟨(s2.set i1.toNat (gt s2 j1.toNat)), (i1 + 1), (j1 + 1)⟩, ⟨(by simp only [List.length_append, List.length_cons, List.length_nil, List.length_set]; omega), (by rw [hnx1]; exact (by rw [← hf1]; (conv => lhs; rw [← hlt0_]); simp only [bG, hc2, hc3, Bool.true_and, Bool.and_true, Cf] : (cf s1 del1) = (bG del1 ((s1.length - j1.toNat) + 1 - 1) (s2.set i1.toNat (gt s2 j1.toNat)) (i1 + 1) (j1 + 1))).symm)⟩, (by simp only []; omega), Le5⟩
   ·refine Tx ?_
    refine rw_q rfl rfl rfl (q_add rfl rfl Zf rfl Zf Zo) ?_
    refine Tx ?_
    have hnx2 : (s1.length - (j1 + 1).toNat) + 1 = (s1.length - j1.toNat) + 1 - 1 := by omega
    refine ⟨⟨s2, i1, (j1 + 1)⟩, ⟨(by simp only [List.length_append, List.length_cons, List.length_nil, List.length_set]; omega), (by rw [hnx2]; exact (by rw [← hf1]; (conv => lhs; rw [← hlt0_]); simp only [bG, hc2, hc3, Bool.true_and, Bool.and_true, Cf] : (cf s1 del1) = (bG del1 ((s1.length - j1.toNat) + 1 - 1) s2 i1 (j1 + 1))).symm)⟩, (by simp only []; omega), Le5⟩
  ·have hc2p := of_decide_eq_false hc2
   refine Tx ?_
   refine rw_q rfl rfl rfl (p4 EOp i1.toNat (l := s2) (X := y1) rfl rfl Zf rfl Zf rfl rfl (fun _ => by first | omega | (simp only [List.length_set]; omega)) (fun _ => by first | omega | (simp only [List.length_set]; omega))) ?_
   refine sX EOp s2 i1.toNat (e := 49) (X := y1) (b := y1b) .sq (.inl ⟨_, rfl⟩) (ac rfl) rfl rfl rfl rfl rfl rfl rfl rfl rfl rfl Zb Uo ?_
   refine Tx ?_
   refine rw_qO EOp (e := 49) (X := y1) (b := y1b) (l := (s2.take i1.toNat)) Mm .sq rfl rfl rfl (vK EOp (l := (s2.take i1.toNat)) (X := y1) (h := i1.toNat) rfl rfl Zf rfl Zf rfl rfl (.head _) Zo (fun _ => by simp only [List.length_take]; omega)) ?_
   refine Tx ?_
   have hr2 : (cf s1 del1) = (s2.take i1.toNat) := by rw [← hf1]; (conv => lhs; rw [← hlt0_]); simp only [bG, hc2, Bool.true_and, Bool.and_true, Cf]
   refine ai ?_
   rw [hr2]
   exact ⟨(), _, (.cons (.tmp rfl) .nil), rfl, Sf, .nil _, Sp⟩
theorem np (f : Op → Bool) : ∀ (R K : List Op) (g : Op) (G : List Op) (k : Nat), R.length < k → bG f k (K ++ (g :: G ++ R)) (K.length : Int) ((K.length + (G.length + 1) : Nat) : Int) = K ++ R.filter (fun p => !f p)
 | [], K, g, G, k + 1, _ => by
  rw [bG]
  have : decide (((K.length + (G.length + 1) : Nat) : Int) < ((K ++ (g :: G ++ [])).length : Int)) = false := by simp
  rw [this, cond_false]
  simp
 | v :: R, K, g, G, k + 1, hk => by
  simp only [List.length_cons] at hk
  rw [bG]
  have h1 : decide (((K.length + (G.length + 1) : Nat) : Int) < ((K ++ (g :: G ++ v :: R)).length : Int)) = true := by simp; omega
  have e0 : ((K.length + (G.length + 1) : Nat) : Int).toNat = (K ++ g :: G).length := by simp; omega
  have g0 : gt (K ++ (g :: G ++ v :: R)) ((K.length + (G.length + 1) : Nat) : Int).toNat = v := by rw [← List.append_assoc]; exact jA _ _ _ _ e0
  rw [h1, cond_true, g0, List.filter_cons]
  cases hv : f v with
  | true =>
   simp only [Bool.not_true, cond_false, Bool.false_eq_true, if_false]
   have ih := np f R K g (G ++ [v]) k (by omega)
   rw [show ((K.length + (G.length + 1) : Nat) : Int) + 1 = ((K.length + ((G ++ [v]).length + 1) : Nat) : Int) by simp; omega]
   rw [show K ++ (g :: G ++ v :: R) = K ++ (g :: (G ++ [v]) ++ R) by simp]
   exact ih
  | false =>
   simp only [Bool.not_false, cond_true, if_true]
   have hs : (K ++ (g :: G ++ v :: R)).set (K.length : Int).toNat v = K ++ (v :: G ++ v :: R) := iy K g v (G ++ v :: R) _ (by simp)
   rw [hs]
   cases G with
   | nil =>
    have ih := np f R (K ++ [v]) v [] k (by omega)
    simp only [List.length_append, List.length_cons, List.length_nil, List.append_assoc, List.cons_append, List.nil_append] at ih ⊢
    rw [show (K.length : Int) + 1 = ((K.length + (0 + 1) : Nat) : Int) by simp, show ((K.length + (0 + 1) : Nat) : Int) + 1 = ((K.length + (0 + 1) + (0 + 1) : Nat) : Int) by simp]
    exact ih
   | cons g' G =>
    have ih := np f R (K ++ [v]) g' (G ++ [v]) k (by omega)
    simp only [List.length_append, List.length_cons, List.length_nil, List.append_assoc, List.cons_append, List.nil_append] at ih ⊢
    rw [show (K.length : Int) + 1 = ((K.length + (0 + 1) : Nat) : Int) by simp, show ((K.length + (G.length + 1 + 1) : Nat) : Int) + 1 = ((K.length + (0 + 1) + (G.length + (0 + 1) + 1) : Nat) : Int) by simp; omega]
    exact ih
theorem DF_Op (l : List Op) (f : Op → Bool) : cf l f = l.filter (fun p => !f p) := by
 unfold cf
 have h : a8 l f = bu f l 0 := rfl
 rcases IF_Op f l 0 with ⟨h1, h2⟩ | ⟨A, x, R, h1, h2, h3, h4⟩
 ·rw [h, h1]
  have : ((-1 : Int) == -1) = true := rfl
  rw [this, cond_true]
  exact (List.filter_eq_self.2 fun p hp => by rw [h2 p hp]; rfl).symm
 ·rw [h, h4]
  have : (((0 + A.length : Nat) : Int) == -1) = false := by rw [beq_eq_false_iff_ne]; omega
  rw [this, cond_false, h1]
  have hk := np f R A x [] (((A ++ x :: R).length - (((0 + A.length : Nat) : Int) + 1).toNat) + 1) (by simp; omega)
  simp only [List.length_nil, Nat.zero_add, List.cons_append, List.nil_append] at hk ⊢
  rw [show (A.length : Int) + 1 = ((A.length + 1 : Nat) : Int) by simp]
  rw [show (A.length : Int) + 1 = ((A.length + 1 : Nat) : Int) by simp] at hk
  rw [hk, List.filter_append, List.filter_cons, h3]
  simp only [Bool.not_true, Bool.false_eq_true, if_false]
  have hA : A.filter (fun p => !f p) = A := List.filter_eq_self.2 fun p hp => by rw [h2 p hp]; rfl
  rw [hA]
theorem fG (y1 : SlV) (y1b : Option Nat) (s1 : List Op) (f1 : Nat) (caps1 : List Value) (pre1 : List Pred) [StabL pre1] (del1 : Op → Bool) (hfb1 : tab.fnb f1 = true) (hfn1 : ∀ (a0_ : Op), Does Tryz.prog f1 ([.agg ⟨[.int .i64 a0_.time, .int .i64 a0_.who, .int .i64 a0_.node, .int .i64 a0_.parent, .int .i64 a0_.name, .int .i64 a0_.life, .int .i64 a0_.seq]⟩] ++ caps1) pre1 (fun (_ : Unit) => .bool (del1 a0_)) (fun _ => [])) :
  DoesG Tryz.prog 107 [y1.val s1.length, .func (.func f1) #[] ⟨caps1⟩] pre1 ⟨[], [ownL EOp 49 y1 y1b s1]⟩ (fun (_ : Unit) => y1.val (s1.filter (fun p => !del1 p)).length) (fun (_ : Unit) => []) (fun (_ : Unit) => ⟨[], [ownL EOp 49 y1 y1b (s1.filter (fun p => !del1 p))]⟩) := by
 have := jd y1 y1b s1 f1 caps1 pre1 del1 hfb1 hfn1
 rw [DF_Op] at this
 exact this
def eI (o1 : Op) (m1 : Mail) : Bool :=
 decide (o1.seq ≤ m1.seq)
theorem iY (o1 : Op) (c1 : Nat) (y1 : SlV) (y2 : SlV) (y3 : SlV) (y4 : SlV) (y5 : SlV) (y6 : SlV) (y7 : SlV) (m1 : Mail) : Does Tryz.prog 108 [.agg ⟨[.int .i64 o1.time, .int .i64 o1.who, .int .i64 o1.node, .int .i64 o1.parent, .int .i64 o1.name, .int .i64 o1.life, .int .i64 o1.seq]⟩, .pointer (some ⟨c1, 0, none⟩)] [VarP c1 [.int .i64 m1.kind, .int .i64 m1.who, .int .i64 m1.life, .int .i64 m1.seq, .int .i64 m1.time, .int .i64 m1.version, .int .i64 m1.frm, .int .i64 m1.o.time, .int .i64 m1.o.who, .int .i64 m1.o.node, .int .i64 m1.o.parent, .int .i64 m1.o.name, .int .i64 m1.o.life, .int .i64 m1.o.seq, y1.val m1.v.roots.length, y2.val m1.v.known.length, y3.val m1.v.way.length, y4.val m1.d.gone.length, y5.val m1.d.here.length, y6.val m1.d.wayGone.length, y7.val m1.d.wayHere.length], RdL EInt y1 m1.v.roots, RdL EPlace y2 m1.v.known, RdL EPlace y3 m1.v.way, RdL EInt y4 m1.d.gone, RdL EPlace y5 m1.d.here, RdL EInt y6 m1.d.wayGone, RdL EPlace y7 m1.d.wayHere] (fun (_ : Unit) => .bool (eI o1 m1)) (fun _ => []) := by
 refine bj aZ Tryz.func108 rfl Tryz.ntmps108 Tryz.results108 rfl inferInstance (fun _ => inferInstance) fun C => ?_
 refine Tx ?_
 refine Bx fun g1 => ?_
 refine Tx ?_
 refine ai ?_; simp only [eI, Cf]; exact Re () (Vt Vn)
def aL (c1 : Client) (me1 : Int) (m1 : Mail) : Client × Int :=
 (bif ((bh c1 me1) != 0) then ((⟨0, 0, 0, ([] : List Op), 0, (⟨[], [], []⟩ : View)⟩ : Client), (bh c1 me1)) else (bif ((bO [m1]) != 0) then ((⟨0, 0, 0, ([] : List Op), 0, (⟨[], [], []⟩ : View)⟩ : Client), (bO [m1])) else (bif ((m1.kind == 1) || (m1.who != me1)) then ((⟨0, 0, 0, ([] : List Op), 0, (⟨[], [], []⟩ : View)⟩ : Client), 4) else (bif (((m1.life != c1.life) || decide (m1.version ≤ c1.version)) || decide (m1.seq > c1.seq)) then (c1, 0) else (bif (m1.kind == 3) then (bif (m1.frm != c1.version) then (c1, 0) else (bif ((bH c1.v m1.d).2 != 0) then ((⟨0, 0, 0, ([] : List Op), 0, (⟨[], [], []⟩ : View)⟩ : Client), (bH c1.v m1.d).2) else ((⟨c1.life, (if m1.time > c1.time then m1.time else c1.time), c1.seq, (c1.pending.filter (fun p => !(fun a0_ => eI a0_ m1) p)), m1.version, (bH c1.v m1.d).1⟩ : Client), 0))) else ((⟨c1.life, (if m1.time > c1.time then m1.time else c1.time), c1.seq, (c1.pending.filter (fun p => !(fun a0_ => eI a0_ m1) p)), m1.version, m1.v⟩ : Client), 0))))))
theorem kk (y1 : SlV) (y2 : SlV) (y3 : SlV) (y4 : SlV) (c1 : Client) (me1 : Int) (y5 : SlV) (y6 : SlV) (y7 : SlV) (y8 : SlV) (y9 : SlV) (y10 : SlV) (y11 : SlV) (m1 : Mail) : Does Tryz.prog 88 [.agg ⟨[.int .i64 c1.life, .int .i64 c1.time, .int .i64 c1.seq, y1.val c1.pending.length, .int .i64 c1.version, y2.val c1.v.roots.length, y3.val c1.v.known.length, y4.val c1.v.way.length]⟩, .int .i64 me1, .agg ⟨[.int .i64 m1.kind, .int .i64 m1.who, .int .i64 m1.life, .int .i64 m1.seq, .int .i64 m1.time, .int .i64 m1.version, .int .i64 m1.frm, .int .i64 m1.o.time, .int .i64 m1.o.who, .int .i64 m1.o.node, .int .i64 m1.o.parent, .int .i64 m1.o.name, .int .i64 m1.o.life, .int .i64 m1.o.seq, y5.val m1.v.roots.length, y6.val m1.v.known.length, y7.val m1.v.way.length, y8.val m1.d.gone.length, y9.val m1.d.here.length, y10.val m1.d.wayGone.length, y11.val m1.d.wayHere.length]⟩] [RdL EOp y1 c1.pending, RdL EInt y2 c1.v.roots, RdL EPlace y3 c1.v.known, RdL EPlace y4 c1.v.way, RdL EInt y5 m1.v.roots, RdL EPlace y6 m1.v.known, RdL EPlace y7 m1.v.way, RdL EInt y8 m1.d.gone, RdL EPlace y9 m1.d.here, RdL EInt y10 m1.d.wayGone, RdL EPlace y11 m1.d.wayHere] (fun (X : SlV × SlV × SlV × SlV) => .tuple #[.agg ⟨[.int .i64 (aL c1 me1 m1).1.life, .int .i64 (aL c1 me1 m1).1.time, .int .i64 (aL c1 me1 m1).1.seq, X.1.val (aL c1 me1 m1).1.pending.length, .int .i64 (aL c1 me1 m1).1.version, X.2.1.val (aL c1 me1 m1).1.v.roots.length, X.2.2.1.val (aL c1 me1 m1).1.v.known.length, X.2.2.2.val (aL c1 me1 m1).1.v.way.length]⟩, .int .i64 (aL c1 me1 m1).2]) (fun X => [RdL EOp X.1 (aL c1 me1 m1).1.pending, RdL EInt X.2.1 (aL c1 me1 m1).1.v.roots, RdL EPlace X.2.2.1 (aL c1 me1 m1).1.v.known, RdL EPlace X.2.2.2 (aL c1 me1 m1).1.v.way]) := by
 refine bj aZ Tryz.func88 rfl Tryz.ntmps88 Tryz.results88 rfl inferInstance (fun _ => inferInstance) fun C => ?_
 refine Pc EOp y1 c1.pending 56 fun hlen1 => ?_
 refine Pc EInt y2 c1.v.roots 8 fun hlen2 => ?_
 refine Pc EPlace y3 c1.v.known 24 fun hlen3 => ?_
 refine Pc EPlace y4 c1.v.way 24 fun hlen4 => ?_
 refine Pc EInt y5 m1.v.roots 8 fun hlen5 => ?_
 refine Pc EPlace y6 m1.v.known 24 fun hlen6 => ?_
 refine Pc EPlace y7 m1.v.way 24 fun hlen7 => ?_
 refine Pc EInt y8 m1.d.gone 8 fun hlen8 => ?_
 refine Pc EPlace y9 m1.d.here 24 fun hlen9 => ?_
 refine Pc EInt y10 m1.d.wayGone 8 fun hlen10 => ?_
 refine Pc EPlace y11 m1.d.wayHere 24 fun hlen11 => ?_
 refine Tx ?_
 refine Bx fun g1 => ?_
 refine Bx fun g2 => ?_
 refine Al fun g3 => ?_
 refine Tx ?_
 refine Cl (fF y1 y2 y3 y4 c1 me1) fun _ => ?_
 refine Tx ?_
 refine Cd (b := ((bh c1 me1) != 0)) (fun hc1 => ?_) fun hc1 => ?_
 ·have hc1p := bne_iff_ne.1 hc1
  refine Tx ?_
  refine Fc EOp ?_
  refine Fc EInt ?_
  refine Fc EPlace ?_
  refine ai ?_; simp only [aL, hc1, Cf]; exact Re ⟨(⟨none, 0⟩ : SlV), (⟨none, 0⟩ : SlV), (⟨none, 0⟩ : SlV), (⟨none, 0⟩ : SlV)⟩ (Va (Vt Vn))
 ·have hc1p := ae hc1
  have hck := iM (ae hc1)
  refine Tx ?_
  refine bB NMail.E [((y5, y6, y7, y8, y9, y10, y11), m1)] .sq (ac rfl) rfl rfl rfl rfl rfl rfl rfl rfl rfl rfl rfl rfl rfl (ma rfl rfl) rfl fun x1 x1b => ?_
  refine rw_le (ay NMail.E 132 x1 x1b [((y5, y6, y7, y8, y9, y10, y11), m1)] Uo) ?_
  refine aI (F := RdN NMail x1 [m1]) [RdL NMail.E x1 [((y5, y6, y7, y8, y9, y10, y11), m1)], RdL EInt y5 m1.v.roots, RdL EPlace y6 m1.v.known, RdL EPlace y7 m1.v.way, RdL EInt y8 m1.d.gone, RdL EPlace y9 m1.d.here, RdL EInt y10 m1.d.wayGone, RdL EPlace y11 m1.d.wayHere] Sm (fun M w h => RdN.of NMail (hs := [((y5, y6, y7, y8, y9, y10, y11), m1)]) rfl (h _ (.head _)) (aY (da Sm h) (fun p hp => by cases hp))) ?_
  refine Cl (fI x1 [m1]) fun _ => ?_
  refine Tx ?_
  refine Cd (b := ((bO [m1]) != 0)) (fun hc2 => ?_) fun hc2 => ?_
  ·have hc2p := bne_iff_ne.1 hc2
   refine Tx ?_
   refine Fc EOp ?_
   refine Fc EInt ?_
   refine Fc EPlace ?_
   refine ai ?_; simp only [aL, hc1, hc2, Cf]; exact Re ⟨(⟨none, 0⟩ : SlV), (⟨none, 0⟩ : SlV), (⟨none, 0⟩ : SlV), (⟨none, 0⟩ : SlV)⟩ (Va (Vt Vn))
  ·have hc2p := ae hc2
   refine Tx ?_
   refine Cd (b := ((m1.kind == 1) || (m1.who != me1))) (fun hc3 => ?_) fun hc3 => ?_
   ·refine Tx ?_
    refine Fc EOp ?_
    refine Fc EInt ?_
    refine Fc EPlace ?_
    refine ai ?_; simp only [aL, hc1, hc2, hc3, Cf]; exact Re ⟨(⟨none, 0⟩ : SlV), (⟨none, 0⟩ : SlV), (⟨none, 0⟩ : SlV), (⟨none, 0⟩ : SlV)⟩ (Va (Vt Vn))
   ·refine Tx ?_
    refine Cg (gY y1 y2 y3 y4 c1) fun x2 => ?_
    refine Pr EInt x2.2.2.1 c1.v.roots 8 fun hlen12 => ?_
    refine Pr EPlace x2.2.2.2.1 c1.v.known 24 fun hlen13 => ?_
    refine Pr EPlace x2.2.2.2.2 c1.v.way 24 fun hlen14 => ?_
    refine Tx ?_
    refine Cd (b := (((m1.life != c1.life) || decide (m1.version ≤ c1.version)) || decide (m1.seq > c1.seq))) (fun hc4 => ?_) fun hc4 => ?_
    ·refine Tx ?_
     refine cw_le (ay EOp 49 x2.1 x2.2.1 c1.pending Uo) ?_
     refine ai ?_; simp only [aL, hc1, hc2, hc3, hc4, Cf]; exact Re ⟨x2.1, x2.2.2.1, x2.2.2.2.1, x2.2.2.2.2⟩ (Va (Vt Vn))
    ·refine Tx ?_
     refine Al fun g4 => ?_
     refine Tx ?_
     refine Cd (b := (m1.kind == 3)) (fun hc5 => ?_) fun hc5 => ?_
     ·have hc5p := eq_of_beq hc5
      refine Tx ?_
      refine Cd (b := (m1.frm != c1.version)) (fun hc6 => ?_) fun hc6 => ?_
      ·have hc6p := bne_iff_ne.1 hc6
       refine Tx ?_
       refine cw_le (ay EOp 49 x2.1 x2.2.1 c1.pending Uo) ?_
       refine ai ?_; simp only [aL, hc1, hc2, hc3, hc4, hc5, hc6, Cf]; exact Re ⟨x2.1, x2.2.2.1, x2.2.2.2.1, x2.2.2.2.2⟩ (Va (Vt Vn))
      ·have hc6p := ae hc6
       refine Tx ?_
       refine Cl (nb x2.2.2.1 x2.2.2.2.1 x2.2.2.2.2 c1.v y8 y9 y10 y11 m1.d) fun x3 => ?_
       refine Pr EInt x3.1 (bH c1.v m1.d).1.roots 8 fun hlen15 => ?_
       refine Pr EPlace x3.2.1 (bH c1.v m1.d).1.known 24 fun hlen16 => ?_
       refine Pr EPlace x3.2.2 (bH c1.v m1.d).1.way 24 fun hlen17 => ?_
       refine Tx ?_
       refine Cd (b := ((bH c1.v m1.d).2 != 0)) (fun hc7 => ?_) fun hc7 => ?_
       ·have hc7p := bne_iff_ne.1 hc7
        refine Tx ?_
        refine Fc EOp ?_
        refine Fc EInt ?_
        refine Fc EPlace ?_
        refine ai ?_; simp only [aL, hc1, hc2, hc3, hc4, hc5, hc6, hc7, Cf]; exact Re ⟨(⟨none, 0⟩ : SlV), (⟨none, 0⟩ : SlV), (⟨none, 0⟩ : SlV), (⟨none, 0⟩ : SlV)⟩ (Va (Vt Vn))
       ·have hc7p := ae hc7
        refine Tx ?_
        (repeat refine ao ?_); refine au (fun j => match j with | 10 => some [g1] | 12 => some [g1] | 14 => some [g1] | _ => some []) ?_
        refine Ra 0 rfl (q_ldA rfl rfl Zf rfl Mm rfl) ?_
        refine ra_q (.an (i := 2) (js := [1, 4, 5, 6, 7, 8, 9, 10]) rfl Kr Kr Kr Kr) (.keep (.keep (.keep (.drop (bK.all _))))) (by intro g hg; simp at hg; simp [hg]) rfl rfl rfl (q_pev rfl Zf) ?_
        refine ra_q (.an (i := 3) (js := [1, 4, 5, 6, 7, 8, 9, 10]) rfl Kr Kr Kr Kr) (.keep (.keep (.keep (.drop (bK.all _))))) (by intro g hg; simp at hg; simp [hg]) rfl rfl rfl (q_ld1 rfl rfl Zf rfl Mm rfl) ?_
        refine Rb 4 rfl Qp ?_
        refine Ra 5 rfl Q1 ?_
        refine ra_q (.ab (i := 6) (js := [1, 9, 10, 11, 12]) [7, 8, 13, 14] rfl Kr Kr Kr Kr Kr) (.keep (.keep (.keep (.drop (bK.all _))))) (by intro g hg; simp at hg; simp [hg]) rfl rfl rfl (q_pev rfl Zf) ?_
        refine ra_q (.an (i := 7) (js := [1, 9, 10, 11, 12]) rfl Kr Kr Kr Kr) (.keep (.keep (.keep (.drop (bK.all _))))) (by intro g hg; simp at hg; simp [hg]) rfl rfl rfl (q_ld1 rfl rfl Zf rfl Mm rfl) ?_
        refine ra_q (.an (i := 8) (js := [1, 9, 10, 11, 12]) rfl Kr Kr Kr Kr) (.keep (.keep (.keep (.drop (bK.all _))))) (by intro g hg; simp at hg; simp [hg]) rfl rfl rfl (q_max rfl rfl Zf rfl Zf) ?_
        refine ap 1 Kr ?_
        refine aV (fJ x3.1 x3.2.1 x3.2.2 (bH c1.v m1.d).1) (.an rfl rfl) (.inr (by simp [Lent.ids])) (ac rfl) rfl rfl rfl Kr rfl rfl Sm (.nil _) (.nil _) ?_
        intro x4
        refine Ra 9 rfl Qp ?_
        refine ap 10 Kr ?_
        refine eS (.an rfl rfl) (.inr (by simp)) (ac rfl) rfl rfl rfl rfl rfl rfl rfl rfl rfl Ub rfl ?_
        refine Ra 11 rfl Qp ?_
        refine ap 12 Kr ?_
        refine ew (.an rfl rfl) (.inr (by simp)) (ac rfl) rfl rfl rfl rfl rfl rfl rfl rfl rfl Ub rfl ?_
        refine Ra 13 rfl Qp ?_
        refine ap 14 Kr ?_
        refine ew (.an rfl rfl) (.inr (by simp)) (ac rfl) rfl rfl rfl rfl rfl rfl rfl rfl rfl Ub rfl ?_
        refine bn Kr ?_
        refine Tx ?_
        refine rw_le (nR (g := g2) Pk) ?_
        refine aV (fG x2.1 x2.2.1 c1.pending _ _ _ (fun a0_ => eI a0_ m1) Kr (fun a0_ => iY a0_ g2 y5 y6 y7 y8 y9 y10 y11 m1)) .sq (.inl ⟨_, rfl⟩) (ac rfl) rfl rfl rfl Kr rfl rfl Sm (.nil _) Tk ?_
        intro _
        refine Tx ?_
        refine cw_le (ay EOp 49 x2.1 x2.2.1 (c1.pending.filter (fun p => !(fun a0_ => eI a0_ m1) p)) Uo) ?_
        refine cw_le (ay EInt 3 x4.1 x4.2.1 (bH c1.v m1.d).1.roots Uo) ?_
        refine cw_le (ay EPlace 83 x4.2.2.1 x4.2.2.2.1 (bH c1.v m1.d).1.known Uo) ?_
        refine cw_le (ay EPlace 83 x4.2.2.2.2.1 x4.2.2.2.2.2 (bH c1.v m1.d).1.way Uo) ?_
        refine ai ?_; simp only [aL, hc1, hc2, hc3, hc4, hc5, hc6, hc7, Cf]; exact Re ⟨x2.1, x4.1, x4.2.2.1, x4.2.2.2.2.1⟩ (Va (Vt Vn))
     ·have hc5p := ne_of_beq_false hc5
      refine Tx ?_
      (repeat refine ao ?_); refine au (fun j => match j with | 10 => some [g1] | 12 => some [g1] | 14 => some [g1] | _ => some []) ?_
      refine Ra 0 rfl (q_ldA rfl rfl Zf rfl Mm rfl) ?_
      refine ra_q (.an (i := 2) (js := [1, 4, 5, 6, 7, 8, 9, 10]) rfl Kr Kr Kr Kr) (.keep (.keep (.keep (.drop (bK.all _))))) (by intro g hg; simp at hg; simp [hg]) rfl rfl rfl (q_pev rfl Zf) ?_
      refine ra_q (.an (i := 3) (js := [1, 4, 5, 6, 7, 8, 9, 10]) rfl Kr Kr Kr Kr) (.keep (.keep (.keep (.drop (bK.all _))))) (by intro g hg; simp at hg; simp [hg]) rfl rfl rfl (q_ld1 rfl rfl Zf rfl Mm rfl) ?_
      refine Rb 4 rfl Qp ?_
      refine Ra 5 rfl Q1 ?_
      refine ra_q (.ab (i := 6) (js := [1, 9, 10, 11, 12]) [7, 8, 13, 14] rfl Kr Kr Kr Kr Kr) (.keep (.keep (.keep (.drop (bK.all _))))) (by intro g hg; simp at hg; simp [hg]) rfl rfl rfl (q_pev rfl Zf) ?_
      refine ra_q (.an (i := 7) (js := [1, 9, 10, 11, 12]) rfl Kr Kr Kr Kr) (.keep (.keep (.keep (.drop (bK.all _))))) (by intro g hg; simp at hg; simp [hg]) rfl rfl rfl (q_ld1 rfl rfl Zf rfl Mm rfl) ?_
      refine ra_q (.an (i := 8) (js := [1, 9, 10, 11, 12]) rfl Kr Kr Kr Kr) (.keep (.keep (.keep (.drop (bK.all _))))) (by intro g hg; simp at hg; simp [hg]) rfl rfl rfl (q_max rfl rfl Zf rfl Zf) ?_
      refine ap 1 Kr ?_
      refine aV (fJ y5 y6 y7 m1.v) (.an rfl rfl) (.inr (by simp [Lent.ids])) (ac rfl) rfl rfl rfl Kr rfl rfl Sm (.nil _) (.nil _) ?_
      intro x5
      refine Ra 9 rfl Qp ?_
      refine ap 10 Kr ?_
      refine eS (.an rfl rfl) (.inr (by simp)) (ac rfl) rfl rfl rfl rfl rfl rfl rfl rfl rfl Ub rfl ?_
      refine Ra 11 rfl Qp ?_
      refine ap 12 Kr ?_
      refine ew (.an rfl rfl) (.inr (by simp)) (ac rfl) rfl rfl rfl rfl rfl rfl rfl rfl rfl Ub rfl ?_
      refine Ra 13 rfl Qp ?_
      refine ap 14 Kr ?_
      refine ew (.an rfl rfl) (.inr (by simp)) (ac rfl) rfl rfl rfl rfl rfl rfl rfl rfl rfl Ub rfl ?_
      refine bn Kr ?_
      refine Tx ?_
      refine rw_le (nR (g := g2) Pk) ?_
      refine aV (fG x2.1 x2.2.1 c1.pending _ _ _ (fun a0_ => eI a0_ m1) Kr (fun a0_ => iY a0_ g2 y5 y6 y7 y8 y9 y10 y11 m1)) .sq (.inl ⟨_, rfl⟩) (ac rfl) rfl rfl rfl Kr rfl rfl Sm (.nil _) Tk ?_
      intro _
      refine Tx ?_
      refine cw_le (ay EOp 49 x2.1 x2.2.1 (c1.pending.filter (fun p => !(fun a0_ => eI a0_ m1) p)) Uo) ?_
      refine cw_le (ay EInt 3 x5.1 x5.2.1 m1.v.roots Uo) ?_
      refine cw_le (ay EPlace 83 x5.2.2.1 x5.2.2.2.1 m1.v.known Uo) ?_
      refine cw_le (ay EPlace 83 x5.2.2.2.2.1 x5.2.2.2.2.2 m1.v.way Uo) ?_
      refine ai ?_; simp only [aL, hc1, hc2, hc3, hc4, hc5, Cf]; exact Re ⟨x2.1, x5.1, x5.2.2.1, x5.2.2.2.2.1⟩ (Va (Vt Vn))
end Go.Proofs.YtpkaloknohpleaaGreatDoor
