/- Part of this claim. No condition. -/
import Derived.Test.YtkjccbdeaflekaaGreatDoorR12
import Derived.Test.YtkjccbdeaflekaaGreatDoorR4
import Derived.Test.YtkjccbdeaflekaaGreatDoorR7
import Derived.Test.YtkjccbdeaflekaaGreatDoorR8
import Derived.Test.YtkjccbdeaflekaaGreatDoorR9
import Derived.Test.YtkjccbdeaflekaaGreatDoorR11
set_option linter.unusedVariables false
set_option linter.unusedSimpArgs false
set_option maxHeartbeats 2000000
namespace Go.Proofs.YtkjccbdeaflekaaGreatDoor
open Go Go.Proofs.YtkjccbdeaflekaaGreatDoor.Fw Go.Proofs
theorem tS : ∀ (l : List Happening) (said : List Int) (w : Wld), bT w = 0 → bT (eO l said w).1 = 0 ∧ (eO l said w).2.1.length = said.length + l.length ∧ (eO l said w).2.2 = 0
 | [], said, w, h => ⟨h, rfl, rfl⟩
 | x :: l, said, w, h => by
  rw [eO];cases h1 : ((aY w x).1 == 0) with
  | true =>
   obtain ⟨a, b, c⟩ := tS l (said ++ [(aY w x).1]) _ (kL h (eq_of_beq h1));exact ⟨a, by rw [cond_true, b]; simp only [Ln]; omega, c⟩
  | false =>
   obtain ⟨a, b, c⟩ := tS l (said ++ [(aY w x).1]) w h;exact ⟨a, by rw [cond_false, b]; simp only [Ln]; omega, c⟩
variable {w : Wld}
theorem CZ {l : List Happening} (h : bT w = 0) (hl : l.length ≤ 100) : cQ w l = eO l [] w := by
 unfold cQ;have : decide ((l.length : Int) > 100) = false := by simp only [decide_eq_false_iff_not]; omega
 rw [h, bne_self_eq_false, cond_false, this, cond_false]
theorem Run_ok {l : List Happening} (h : bT w = 0) (hl : l.length ≤ 100) : (cQ w l).2.2 = 0 ∧ bT (cQ w l).1 = 0 ∧ (cQ w l).2.1.length = l.length := by
 rw [CZ h hl];obtain ⟨a, b, c⟩ := tS l [] w h;exact ⟨c, a, by rw [b]; simp⟩
theorem Bh {l : List Happening} {S : Wld × List Int × Int} (hS : cQ w l = S) (h : bT w = 0) (hl : l.length ≤ 100) : S.2.2 = 0 ∧ bT S.1 = 0 ∧ S.2.1.length = l.length := by
 subst hS; exact Run_ok h hl
theorem C0 : bT ik = 0 := by decide +kernel
theorem w9 (h : bT w = 0) : w.c.length = 3 := by
 obtain ⟨l, h⟩ := (gn w).1 h;exact h.three
theorem uK (eq : Client → Client → Bool) (he : ∀ a, eq a a = true) (s : List Client) : ∀ (r : List Client) (n : Nat), r = s.drop n → da s eq r n = true
 | [], n, _ => by simp [da]
 | p :: r, n, h => by
  have hn : n < s.length := by
   rcases Nat.lt_or_ge n s.length with h1 | h1
   ·exact h1
   ·rw [Dl h1] at h; cases h
  rw [aK hn] at h;obtain ⟨rfl, h'⟩ := List.cons.inj h;rw [da, he];exact uK eq he s r (n + 1) h'
theorem yG (eq : Mail → Mail → Bool) (he : ∀ a, eq a a = true) (s : List Mail) : ∀ (r : List Mail) (n : Nat), r = s.drop n → cg s eq r n = true
 | [], n, _ => by simp [cg]
 | p :: r, n, h => by
  have hn : n < s.length := by
   rcases Nat.lt_or_ge n s.length with h1 | h1
   ·exact h1
   ·rw [Dl h1] at h; cases h
  rw [aK hn] at h;obtain ⟨rfl, h'⟩ := List.cons.inj h;rw [cg, he];exact yG eq he s r (n + 1) h'
theorem u6 (l : List Mail) : qm l l = true := by
 unfold qm dZ;rw [bne_self_eq_false, cond_false];exact yG gE (fun a => (gP a a).2 rfl) l l 0 rfl
theorem sL (w : Wld) : ph w w = true := by
 unfold ph eH;rw [bne_self_eq_false, cond_false, nz, u6, uK jN (fun a => (tH a a).2 rfl) w.c w.c 0 rfl];simp [wJ]
attribute [local irreducible] CW LibP RW RdL RdN VarP
def ai (kind1 : Int) (who1 : Int) (n1 : Int) : Happening :=
 (⟨kind1, who1, n1, 0, 0, 0, ([] : List Int)⟩ : Happening)
theorem cq (kind1 : Int) (who1 : Int) (n1 : Int) : Dw 37 [.int .i64 kind1, .int .i64 who1, .int .i64 n1] [] (fun (X : SlV) => .agg ⟨cA X (ai kind1 who1 n1)⟩) (fun X => [RdL EInt X (ai kind1 who1 n1).roots]) := by
 refine Dp Tryz.func37 fun C => ?_;refine AlT fun g1 => ?_;refine Tx ?_;refine Fc EInt ?_;have hf := Ri (ai.eq_1 kind1 who1 n1);refine Rx ?_; exact Re Z0 (Va Vn)
def bC (e1 : Int) : Bool :=
 (e1 != 0)
theorem mw (e1 : Int) : Du 40 [.int .i64 e1] [] (.bool (bC e1)) := by
 refine Dp Tryz.func40 fun C => ?_;have hf := Ri (bC.eq_1 e1);exact Ru
def gZ  : Bool :=
 (have S1 := (cQ ik [(ai 1 0 0), (ai 6 0 0), (⟨1, 0, 0, 3, 0, 7, ([] : List Int)⟩ : Happening), (ai 6 1 0), (⟨5, 1, 0, 0, 0, 0, [0]⟩ : Happening), (ai 7 0 0), (ai 3 1 0), (ai 7 0 0), (ai 3 0 0), (ai 7 0 0), (ai 4 1 3), (ai 7 0 0)]); bif ((((S1.2.2 == 0) && ((bR S1.2.1 7) == 0)) && (!(aW (S1.2.1.drop 1) bC))) && (S1.1.h.version == 4)) then (((((((S1.2.2 == 0) && ((bR S1.2.1 7) == 0)) && (!(aW (S1.2.1.drop 1) bC))) && (S1.1.h.version == 4)) && (decide ((gt S1.1.c 1).v.known = [(⟨3, 0, 7⟩ : Place)]))) && (((gt S1.1.c 0).pending.length : Int) == 0)) && ((S1.1.mail.length : Int) == 0)) else (((((((S1.2.2 == 0) && ((bR S1.2.1 7) == 0)) && (!(aW (S1.2.1.drop 1) bC))) && (S1.1.h.version == 4)) && false) && false) && false))
theorem j9  : Du 9 [] [LibP Tryz.prog] (.bool gZ) := by
 refine Dp Tryz.func9 fun C => ?_;refine Ck (t9 ) fun x1 => ?_;refine Rp rfl rfl rfl rfl ?_;refine Cv (cq 1 0 0) fun x2 => ?_;refine Rp rfl rfl rfl rfl ?_;refine Cv (cq 6 0 0) fun x3 => ?_;refine Cv (cq 6 1 0) fun x4 => ?_;refine Bl EInt [0] fun x5 x5b => ?_;refine Cv (cq 7 0 0) fun x6 => ?_;refine Rp rfl rfl rfl rfl ?_;refine Cv (cq 3 1 0) fun x7 => ?_;refine Rp rfl rfl rfl rfl ?_;refine Cv (cq 7 0 0) fun x8 => ?_;refine Rp rfl rfl rfl rfl ?_;refine Cv (cq 3 0 0) fun x9 => ?_;refine Rp rfl rfl rfl rfl ?_;refine Cv (cq 7 0 0) fun x10 => ?_;refine Rp rfl rfl rfl rfl ?_;refine Cv (cq 4 1 3) fun x11 => ?_;refine Rp rfl rfl rfl rfl ?_;refine Cv (cq 7 0 0) fun x12 => ?_;refine Fr EInt ?_;refine Fx x5 ?_
 refine rl NHap.E [(x2, (ai 1 0 0)), (x3, (ai 6 0 0)), (Z0, (⟨1, 0, 0, 3, 0, 7, ([] : List Int)⟩ : Happening)), (x4, (ai 6 1 0)), (x5, (⟨5, 1, 0, 0, 0, 0, [0]⟩ : Happening)), (x6, (ai 7 0 0)), (x7, (ai 3 1 0)), (x8, (ai 7 0 0)), (x9, (ai 3 0 0)), (x10, (ai 7 0 0)), (x11, (ai 4 1 3)), (x12, (ai 7 0 0))] .sq (au rfl) rfl rfl rfl rfl rfl rfl rfl rfl rfl rfl rfl rfl rfl (zq [.agg ⟨cA x2 (ai 1 0 0)⟩, .agg ⟨cA x3 (ai 6 0 0)⟩, .agg ⟨[.int .i64 1, .int .i64 0, .int .i64 0, .int .i64 3, .int .i64 0, .int .i64 7, .slice none 0 0]⟩, .agg ⟨cA x4 (ai 6 1 0)⟩, .agg ⟨[.int .i64 5, .int .i64 1, .int .i64 0, .int .i64 0, .int .i64 0, .int .i64 0, x5.val [0].length]⟩, .agg ⟨cA x6 (ai 7 0 0)⟩, .agg ⟨cA x7 (ai 3 1 0)⟩, .agg ⟨cA x8 (ai 7 0 0)⟩, .agg ⟨cA x9 (ai 3 0 0)⟩, .agg ⟨cA x10 (ai 7 0 0)⟩, .agg ⟨cA x11 (ai 4 1 3)⟩, .agg ⟨cA x12 (ai 7 0 0)⟩] rfl (by intro v hv; simp only [List.mem_cons, List.not_mem_nil, or_false] at hv; rcases hv with rfl | rfl | rfl | rfl | rfl | rfl | rfl | rfl | rfl | rfl | rfl | rfl <;> rfl) rfl rfl) rfl fun x13 x13b => ?_;refine Fx x13 ?_
 refine Ns NHap x13 [(ai 1 0 0), (ai 6 0 0), (⟨1, 0, 0, 3, 0, 7, ([] : List Int)⟩ : Happening), (ai 6 1 0), (⟨5, 1, 0, 0, 0, 0, [0]⟩ : Happening), (ai 7 0 0), (ai 3 1 0), (ai 7 0 0), (ai 3 0 0), (ai 7 0 0), (ai 4 1 3), (ai 7 0 0)] ?_;refine Ck (pK x1.1 x1.2.1 x1.2.2.1 x1.2.2.2.1 x1.2.2.2.2.1 x1.2.2.2.2.2.1 x1.2.2.2.2.2.2 ik x13 [(ai 1 0 0), (ai 6 0 0), (⟨1, 0, 0, 3, 0, 7, ([] : List Int)⟩ : Happening), (ai 6 1 0), (⟨5, 1, 0, 0, 0, 0, [0]⟩ : Happening), (ai 7 0 0), (ai 3 1 0), (ai 7 0 0), (ai 3 0 0), (ai 7 0 0), (ai 4 1 3), (ai 7 0 0)]) fun x14 => ?_;generalize hS1 : (cQ ik [(ai 1 0 0), (ai 6 0 0), (⟨1, 0, 0, 3, 0, 7, ([] : List Int)⟩ : Happening), (ai 6 1 0), (⟨5, 1, 0, 0, 0, 0, [0]⟩ : Happening), (ai 7 0 0), (ai 3 1 0), (ai 7 0 0), (ai 3 0 0), (ai 7 0 0), (ai 4 1 3), (ai 7 0 0)]) = S1;have hf := Ri gZ.eq_1;try rw [hS1] at hf
 have hsh3 := w9 (Bh hS1 C0 (by decide)).2.1;have hshl : S1.2.1.length = 12 := (Bh hS1 C0 (by decide)).2.2;refine AlT fun g1 => ?_;refine Ck (m9 x14.2.2.2.2.2.2.2 S1.2.1 7) fun _ => ?_;refine Tx ?_;refine Sg Gz (rS EInt 1 rfl rfl Bt rfl Bt rfl rfl (by intro h; first | omega | (simp at h; omega)) (by intro h; first | omega | (simp at h; omega))) ?_;refine Dz x14.2.2.2.2.2.2.2 1 ?_;refine Cy (fun hG_ => kH (⟨slA x14.2.2.2.2.2.2.2.a x14.2.2.2.2.2.2.2.c 1 EInt.esz, x14.2.2.2.2.2.2.2.c - 1⟩ : SlV) (S1.2.1.drop 1) _ _ _ bC Kr (fun a0_ => mw a0_)) ?_;refine Tx ?_;refine Ex NClient x14.2.2.2.2.2.1 fun (γ1 : Nat → SlV × SlV × SlV × SlV) => ?_;refine Sg Gz (Xn 1) ?_;refine Sg Gz Xf ?_;refine Sg Gz Xf ?_;refine Sg Gz (i8 NClient γ1 (v := (γ1 1).2.2.1.val (gt S1.1.c 1).v.known.length) rfl rfl Bt rfl rfl Mm (by first | (intro _; first | assumption | omega) | (intro h; simp at h; omega)) rfl) ?_;refine Gg NClient γ1 1 2 ?_;refine Tx ?_;refine yf .sq (ce rfl rfl rfl) (fun hg1 => ?_) (fun hg1 => ?_)
 ·have hf := Bt_ hf hg1;refine rl EPlace [(⟨3, 0, 7⟩ : Place)] .sq (vA (ce rfl rfl rfl) hg1) rfl rfl rfl rfl rfl rfl rfl rfl rfl rfl rfl (by first | rfl | assumption | (simp only [hg1, Bool.and_true, Bool.true_and, Bool.and_self, Bool.not_false, Bool.not_true]; done) | simp_all) rfl rfl rfl fun x15 x15b => ?_;refine nj ((fun y1 a y2 b => cf y1 y2 a b) (γ1 1).2.2.1 (gt S1.1.c 1).v.known x15 [(⟨3, 0, 7⟩ : Place)]) .sq (vA (ce rfl rfl rfl) hg1) rfl rfl rfl Kr rfl (by first | rfl | assumption | (simp only [hg1, Bool.and_true, Bool.true_and, Bool.and_self, Bool.not_false, Bool.not_true]; done) | simp_all) (.fact Mm (.own Mm (.nil _ _))) ?_;intro _;refine Tx ?_;refine Sg Gz (Xn 0) ?_;refine Sg Gz Xf ?_;refine Sg Gz (i8 NClient γ1 (v := (γ1 0).1.val (gt S1.1.c 0).pending.length) rfl rfl Bt rfl rfl Mm (by first | (intro _; first | assumption | omega) | (intro h; simp at h; omega)) rfl) ?_;refine Gg NClient γ1 0 0 ?_;exact Ru
 ·have hf := Bf_ hf hg1;refine xh .sq (ce rfl rfl rfl) hg1 rfl rfl ?_;refine xh .sq (ce rfl rfl rfl) hg1 rfl rfl ?_;refine Sq Xv ?_;refine Rp rfl rfl rfl rfl ?_;refine rw_qg (ce rfl rfl rfl) rfl rfl (jA (v := .bool false) ((by simp only [hg1, Bd]) : (((((S1.2.2 == 0) && ((bR S1.2.1 7) == 0)) && (!(aW (S1.2.1.drop 1) bC))) && (S1.1.h.version == 4)) && false) = false)) ?_;refine rw_qg (ce rfl rfl rfl) rfl rfl (jA (v := .bool false) ((by simp only [hg1, Bd]) : (((((S1.2.2 == 0) && ((bR S1.2.1 7) == 0)) && (!(aW (S1.2.1.drop 1) bC))) && (S1.1.h.version == 4)) && false) = false)) ?_;refine rw_qg (ce rfl rfl rfl) rfl rfl (jA (v := .bool false) ((by simp only [hg1, Bd]) : (((((S1.2.2 == 0) && ((bR S1.2.1 7) == 0)) && (!(aW (S1.2.1.drop 1) bC))) && (S1.1.h.version == 4)) && false) = false)) ?_;refine rw_qg (ce rfl rfl rfl) rfl rfl (jA (v := .bool false) ((by simp only [hg1, Bd]) : (((((S1.2.2 == 0) && ((bR S1.2.1 7) == 0)) && (!(aW (S1.2.1.drop 1) bC))) && (S1.1.h.version == 4)) && false) = false)) ?_
  refine rw_qg (ce rfl rfl rfl) rfl rfl (jA (v := .bool false) ((by simp only [hg1, Bd]) : (((((S1.2.2 == 0) && ((bR S1.2.1 7) == 0)) && (!(aW (S1.2.1.drop 1) bC))) && (S1.1.h.version == 4)) && false) = false)) ?_;refine rw_qg (ce rfl rfl rfl) rfl rfl (jA (v := .bool false) ((by simp only [hg1, Bd]) : (((((S1.2.2 == 0) && ((bR S1.2.1 7) == 0)) && (!(aW (S1.2.1.drop 1) bC))) && (S1.1.h.version == 4)) && false) = false)) ?_;refine rw_qg (ce rfl rfl rfl) rfl rfl (jA (v := .bool false) ((by simp only [hg1, Bd]) : (((((S1.2.2 == 0) && ((bR S1.2.1 7) == 0)) && (!(aW (S1.2.1.drop 1) bC))) && (S1.1.h.version == 4)) && false) = false)) ?_;refine Sq Xv ?_;refine Rp rfl rfl rfl rfl ?_;refine rw_qg (ce rfl rfl rfl) rfl rfl (jA (v := .bool false) ((by simp only [hg1, Bd]) : ((((((S1.2.2 == 0) && ((bR S1.2.1 7) == 0)) && (!(aW (S1.2.1.drop 1) bC))) && (S1.1.h.version == 4)) && false) && false) = false)) ?_;refine rw_qg (ce rfl rfl rfl) rfl rfl (jA (v := .bool false) ((by simp only [hg1, Bd]) : ((((((S1.2.2 == 0) && ((bR S1.2.1 7) == 0)) && (!(aW (S1.2.1.drop 1) bC))) && (S1.1.h.version == 4)) && false) && false) = false)) ?_
  refine rw_qg (ce rfl rfl rfl) rfl rfl (jA (v := .bool false) ((by simp only [hg1, Bd]) : ((((((S1.2.2 == 0) && ((bR S1.2.1 7) == 0)) && (!(aW (S1.2.1.drop 1) bC))) && (S1.1.h.version == 4)) && false) && false) = false)) ?_;refine rw_qg (ce rfl rfl rfl) rfl rfl (jA (v := .bool false) ((by simp only [hg1, Bd]) : ((((((S1.2.2 == 0) && ((bR S1.2.1 7) == 0)) && (!(aW (S1.2.1.drop 1) bC))) && (S1.1.h.version == 4)) && false) && false) = false)) ?_;exact Ru
theorem xf : gZ = true := by decide +kernel
theorem t7 (h : cI w = 0) : cy w.d = 0 := by
 unfold cI at h;cases h1 : ((w.c.length : Int) != 3) with
 | true => rw [h1, cond_true] at h; cases h
 | false =>
  rw [h1, cond_false] at h;cases h2 : (ci w.mail != 0) with
  | true => rw [h2, cond_true] at h; rw [h] at h2; cases h2
  | false =>
   rw [h2, cond_false] at h;cases h3 : (cy w.d != 0) with
   | true => rw [h3, cond_true] at h; rw [h] at h3; cases h3
   | false => exact ag h3
variable {l : List Rec}
theorem xR {S : Hub × Int} (hS : bv l = S) (h0 : S.2 = 0) : S.1.peers.length = 3 := by
 rw [sG] at hS; exact (tU hS h0).1.three
theorem Cs {r : Rec} {S : Int × Wld} (hS : aP r w = S) (h : w.c.length = 3) : S.2.c.length = 3 := by
 subst hS; unfold aP;cases (bf r != 0) <;> cases ((aM w.h r).2 != 0) <;> cases ((bB w.d r).2 != 0) <;> cases ((cX (bB w.d r).1).2 == 0) <;> exact h
theorem wv {a b c : Int} {S : Bool} (hS : ak a b c = S) (h : (!S) = false) : b ≤ a ∧ a ≤ c := by subst hS; simpa [ak] using h
theorem DL {α : Type} (l : List α) (n : Int) (h : 0 ≤ n ∧ n < (l.length : Int)) : [l.take n.toNat, l.drop (n + 1).toNat].flatten.length ≤ l.length := by
 simp only [List.flatten_cons, List.flatten_nil, List.append_nil, List.length_append, List.length_take, List.length_drop]; omega
def bJ (was1 : Wld) (x1 : Happening) (life1 : Int) (seq1 : Int) (roots1 : List Int) : Wld × Int :=
 (bif (x1.kind == 1) then (have S6 := (dz (gt was1.c x1.who.toNat) x1.who x1.node x1.parent x1.name); bif (S6.2.2 != 0) then (am S6.2.2) else (have S8 := (aw (⟨1, x1.who, 0, 0, 0, 0, 0, S6.2.1, (⟨[], [], []⟩ : View), (⟨[], [], [], []⟩ : Delta)⟩ : Mail) (⟨was1.h, was1.d, was1.up, (was1.c.set x1.who.toNat S6.1), was1.mail⟩ : Wld)); (S8.1, S8.2.1))) else (bif (x1.kind == 2) then (bif (!(ak x1.n 0 (((gt was1.c x1.who.toNat).pending.length : Int) - 1))) then (am 5) else (have S10 := (aw (⟨1, x1.who, 0, 0, 0, 0, 0, (gt (gt was1.c x1.who.toNat).pending x1.n.toNat), (⟨[], [], []⟩ : View), (⟨[], [], [], []⟩ : Delta)⟩ : Mail) was1); (S10.1, S10.2.1))) else (bif (x1.kind == 6) then (have S11 := (aP (⟨2, x1.who, (life1 + 1), ([] : List Int), (⟨0, 0, 0, 0, 0, 0, 0⟩ : Op)⟩ : Rec) was1); bif (S11.1 != 0) then (am S11.1) else (have S12 := (bk (life1 + 1) (aJ S11.2.h)); bif (S12.2 != 0) then (am S12.2) else ((⟨S11.2.h, S11.2.d, S11.2.up, (S11.2.c.set x1.who.toNat S12.1), S11.2.mail⟩ : Wld), 0))) else (bif (x1.kind == 5) then (have S13 := (aP (⟨3, x1.who, 0, x1.roots, (⟨0, 0, 0, 0, 0, 0, 0⟩ : Op)⟩ : Rec) was1); bif (S13.1 != 0) then (am S13.1) else (S13.2, 0)) else (bif (life1 == 0) then (am 7) else (have S14 := (bs was1.h.h.t roots1); bif (x1.kind == 3) then (have S15 := (aw (⟨2, x1.who, life1, seq1, (aJ was1.h), was1.h.version, 0, (⟨0, 0, 0, 0, 0, 0, 0⟩ : Op), S14.1, (⟨[], [], [], []⟩ : Delta)⟩ : Mail) was1); (S15.1, S15.2.1)) else (bif (!(ak x1.n 0 (was1.h.version - 1))) then (am 3) else (have S17 := (bv ((aC was1.d).2.take x1.n.toNat)); bif (S17.2 != 0) then (am S17.2) else (bif (((gt S17.1.peers x1.who.toNat).life != life1) || (!(decide ((gt S17.1.peers x1.who.toNat).roots = roots1)))) then (am 7) else (have S19 := (di (bs S17.1.h.t (gt S17.1.peers x1.who.toNat).roots).1 S14.1); bif (S19.2 != 0) then (am S19.2) else (have S20 := (aw (⟨3, x1.who, life1, seq1, (aJ was1.h), was1.h.version, x1.n, (⟨0, 0, 0, 0, 0, 0, 0⟩ : Op), (⟨[], [], []⟩ : View), S19.1⟩ : Mail) was1); (S20.1, S20.2.1))))))))))))
def d9 (was1 : Wld) (x1 : Happening) (mail1 : List Mail) : Wld × Int :=
 (bif (x1.kind == 9) then ((⟨was1.h, was1.d, was1.up, was1.c, mail1⟩ : Wld), 0) else (bif ((gt was1.mail x1.n.toNat).kind != 1) then (have S3 := (aO (gt was1.c (gt was1.mail x1.n.toNat).who.toNat) (gt was1.mail x1.n.toNat).who (gt was1.mail x1.n.toNat)); bif (S3.2 != 0) then (am S3.2) else ((⟨was1.h, was1.d, was1.up, (was1.c.set (gt was1.mail x1.n.toNat).who.toNat S3.1), mail1⟩ : Wld), 0)) else (bif (!was1.up) then (am 7) else ((aP (⟨1, 0, 0, ([] : List Int), (gt was1.mail x1.n.toNat).o⟩ : Rec) (⟨was1.h, was1.d, was1.up, was1.c, mail1⟩ : Wld)).2, 0))))
def bX (x1 : Happening) : Bool :=
 (bif (x1.kind == 7) then (x1.kind == 7) else (bif (x1.kind == 8) then (x1.kind == 8) else (x1.kind == 9)))
def aX (was1 : Wld) (x1 : Happening) : Wld × Int :=
 (bif (bX x1) then (bif (!(ak x1.n 0 ((was1.mail.length : Int) - 1))) then (am 5) else (bif (x1.kind != 8) then (d9 was1 x1 ([(was1.mail.take x1.n.toNat), (was1.mail.drop (x1.n + 1).toNat)].flatten)) else (d9 was1 x1 was1.mail))) else (bif (x1.kind == 10) then (bif (!was1.up) then (am 7) else ((⟨bP, was1.d, false, was1.c, was1.mail⟩ : Wld), 0)) else (bif (x1.kind == 11) then (bif was1.up then (am 7) else (have S5 := (bv (aC was1.d).2); bif (S5.2 != 0) then (am S5.2) else ((⟨S5.1, (aC was1.d).1, true, was1.c, was1.mail⟩ : Wld), 0))) else (bif (!(ak x1.kind 1 11)) then (am 4) else (bif (!(ak x1.who 0 2)) then (am 5) else (bif decide (x1.kind > 2) then (bif (!was1.up) then (am 7) else (bJ was1 x1 (gt was1.h.peers x1.who.toNat).life (gt was1.h.peers x1.who.toNat).seq (gt was1.h.peers x1.who.toNat).roots)) else (bJ was1 x1 0 0 [])))))))
theorem mt (y1 : SlV) (y2 : SlV) (y3 : SlV) (y4 : SlV) (y5 : SlV) (y6 : SlV) (y7 : SlV) (was1 : Wld) (y8 : SlV) (x1 : Happening) (hk : dj was1.h = 0) (hdl : was1.d.safe.length ≤ 60000 ∧ was1.d.safe.length + was1.d.wait.length ≤ 60000) (hml : cx was1.mail = 0) (hcl3 : was1.c.length = 3) (hvr : was1.up = true → was1.h.version ≤ ((aC was1.d).2.length : Int)) : Dw 11 [.agg ⟨cW y1 y2 y3 y4 y5 y6 y7 was1⟩, .agg ⟨cA y8 x1⟩] [RdL EStep y1 was1.h.h.l, RdL EPlace y2 was1.h.h.t, RdN NPeer y3 was1.h.peers, RdL EByte y4 was1.d.safe, RdL EByte y5 was1.d.wait, RdN NClient y6 was1.c, RdN NMail y7 was1.mail, RdL EInt y8 x1.roots, LibP Tryz.prog] (fun (X : SlV × SlV × SlV × SlV × SlV × SlV × SlV) => .tuple #[.agg ⟨cW X.1 X.2.1 X.2.2.1 X.2.2.2.1 X.2.2.2.2.1 X.2.2.2.2.2.1 X.2.2.2.2.2.2 (aX was1 x1).1⟩, .int .i64 (aX was1 x1).2]) (fun X => [RdL EStep X.1 (aX was1 x1).1.h.h.l, RdL EPlace X.2.1 (aX was1 x1).1.h.h.t, RdN NPeer X.2.2.1 (aX was1 x1).1.h.peers, RdL EByte X.2.2.2.1 (aX was1 x1).1.d.safe, RdL EByte X.2.2.2.2.1 (aX was1 x1).1.d.wait, RdN NClient X.2.2.2.2.2.1 (aX was1 x1).1.c, RdN NMail X.2.2.2.2.2.2 (aX was1 x1).1.mail]) := by
 refine Dp Tryz.func11 fun C => ?_;refine Qc y1 88 fun hlen1 => ?_;refine Qc y2 24 fun hlen2 => ?_;refine Qn y3 40 fun hlen3 => ?_;refine Qc y4 1 fun hlen4 => ?_;refine Qc y5 1 fun hlen5 => ?_;refine Qn y6 128 fun hlen6 => ?_;refine Qn y7 280 fun hlen7 => ?_;refine Qc y8 8 fun hlen8 => ?_;refine BxT fun g1 => ?_;refine BxT fun g2 => ?_;refine AlT fun g3 => ?_;refine AlT fun g4 => ?_;refine Tx ?_;refine CN NClient (X := y6) (l := was1.c) Mm fun (γ1 : Nat → SlV × SlV × SlV × SlV) => ?_;refine CN NMail (X := y7) (l := was1.mail) Mm fun (γ2 : Nat → SlV × SlV × SlV × SlV × SlV × SlV × SlV) => ?_;(repeat refine er ?_)
 refine Jn (SlV × Option Nat × SlV × Option Nat) [3, 4, 5, 6] [false, true, true, true] (fun ⟨x2, b1, x3, b2⟩ => ⟨[], [⟨g4, 37, [y1.val was1.h.h.l.length, y2.val was1.h.h.t.length, .int .i64 was1.h.version, y3.val was1.h.peers.length, y4.val was1.d.safe.length, y5.val was1.d.wait.length, .bool was1.up, x2.val was1.c.length, x3.val was1.mail.length]⟩], [ownL NClient.E 63 x2 b1 (zipG γ1 0 was1.c), ownL NMail.E 108 x3 b2 (zipG γ2 0 was1.mail)], [RdL EStep y1 was1.h.h.l, RdL EPlace y2 was1.h.h.t, RdN NPeer y3 was1.h.peers, RdL EByte y4 was1.d.safe, RdL EByte y5 was1.d.wait, FactsG NClient γ1 was1.c, FactsG NMail γ2 was1.mail], True, 0⟩) ?_ ?_
 ·refine Rg [(3,none),(7,none),(9,some [g4]),(11,some [g4])] ?_;refine Dx [1,2] ?_;refine Rp' (Fb 5 [0,3,4,8]) ?_;refine vi 0 4 6 Kr ?_ ?_ ?_
  ·refine Bl NClient.E [] fun x4 x4b => ?_;refine vi 3 4 6 Kr ?_ ?_ ?_
   ·refine Aq NClient y6 x4b fun x5 x5b => ?_;refine Rb 6 rfl Q1 ?_;refine Rp' (Fa 8 [4,7]) ?_;refine Rn 4 ?_;refine Bl NMail.E [] fun x6 x6b => ?_;refine Rn 7 ?_;refine Aq NMail y7 x6b fun x7 x7b => ?_;refine Rn 9 ?_;refine W1 ?_;refine Ra 10 rfl Qp ?_;refine Rn 11 ?_;refine W1 ?_;refine Re0 ?_;refine ⟨⟨x5, x5b, x7, x7b⟩, trivial, Le4⟩
   ·refine Bl NMail.E [] fun x8 x8b => ?_;refine Rw 3 6 ?_ ?_
    ·refine Aq NClient y6 x4b fun x9 x9b => ?_;refine Rb 6 rfl Q1 ?_;refine Rp' (Fa 8 [7]) ?_;refine Rn 7 ?_;refine Aq NMail y7 x8b fun x10 x10b => ?_;refine Rn 9 ?_;refine W1 ?_;refine Ra 10 rfl Qp ?_;refine Rn 11 ?_;refine W1 ?_;refine Re0 ?_;refine ⟨⟨x9, x9b, x10, x10b⟩, trivial, Le4⟩
    ·refine pO rfl rfl rfl rfl (q_ld1 rfl rfl Zf rfl Mm rfl) ?_;refine Rn 3 ?_;refine Aq NClient y6 x4b fun x11 x11b => ?_;refine Rp' (Fa 8 [7]) ?_;refine Rn 7 ?_;refine Aq NMail y7 x8b fun x12 x12b => ?_;refine Rn 9 ?_;refine W1 ?_;refine Ra 10 rfl Qp ?_;refine Rn 11 ?_;refine W1 ?_;refine Re0 ?_;refine ⟨⟨x11, x11b, x12, x12b⟩, trivial, Le4⟩
   ·refine pO rfl rfl rfl rfl (q_ld1 rfl rfl Zf rfl Mm rfl) ?_;refine Rw 3 4 ?_ ?_
    ·refine Aq NClient y6 x4b fun x13 x13b => ?_;refine Rp' (Fa 8 [4,7]) ?_;refine Rn 4 ?_;refine Bl NMail.E [] fun x14 x14b => ?_;refine Rn 7 ?_;refine Aq NMail y7 x14b fun x15 x15b => ?_;refine Rn 9 ?_;refine W1 ?_;refine Ra 10 rfl Qp ?_;refine Rn 11 ?_;refine W1 ?_;refine Re0 ?_;refine ⟨⟨x13, x13b, x15, x15b⟩, trivial, Le4⟩
    ·refine Bl NMail.E [] fun x16 x16b => ?_;refine Rn 3 ?_;refine Aq NClient y6 x4b fun x17 x17b => ?_;refine Rp' (Fa 8 [7]) ?_;refine Rn 7 ?_;refine Aq NMail y7 x16b fun x18 x18b => ?_;refine Rn 9 ?_;refine W1 ?_;refine Ra 10 rfl Qp ?_;refine Rn 11 ?_;refine W1 ?_;refine Re0 ?_;refine ⟨⟨x17, x17b, x18, x18b⟩, trivial, Le4⟩
  ·refine Bl NMail.E [] fun x19 x19b => ?_;refine Rw 0 6 ?_ ?_
   ·refine Bl NClient.E [] fun x20 x20b => ?_;refine Rw 3 6 ?_ ?_
    ·refine Aq NClient y6 x20b fun x21 x21b => ?_;refine Rb 6 rfl Q1 ?_;refine Rp' (Fa 8 [7]) ?_;refine Rn 7 ?_;refine Aq NMail y7 x19b fun x22 x22b => ?_;refine Rn 9 ?_;refine W1 ?_;refine Ra 10 rfl Qp ?_;refine Rn 11 ?_;refine W1 ?_;refine Re0 ?_;refine ⟨⟨x21, x21b, x22, x22b⟩, trivial, Le4⟩
    ·refine pO rfl rfl rfl rfl (q_ld1 rfl rfl Zf rfl Mm rfl) ?_;refine Rn 3 ?_;refine Aq NClient y6 x20b fun x23 x23b => ?_;refine Rp' (Fa 8 [7]) ?_;refine Rn 7 ?_;refine Aq NMail y7 x19b fun x24 x24b => ?_;refine Rn 9 ?_;refine W1 ?_;refine Ra 10 rfl Qp ?_;refine Rn 11 ?_;refine W1 ?_;refine Re0 ?_;refine ⟨⟨x23, x23b, x24, x24b⟩, trivial, Le4⟩
   ·refine pO rfl rfl rfl rfl (q_ld1 rfl rfl Zf rfl Mm rfl) ?_;refine Rn 0 ?_;refine Bl NClient.E [] fun x25 x25b => ?_;refine Rn 3 ?_;refine Aq NClient y6 x25b fun x26 x26b => ?_;refine Rp' (Fa 8 [7]) ?_;refine Rn 7 ?_;refine Aq NMail y7 x19b fun x27 x27b => ?_;refine Rn 9 ?_;refine W1 ?_;refine Ra 10 rfl Qp ?_;refine Rn 11 ?_;refine W1 ?_;refine Re0 ?_;refine ⟨⟨x26, x26b, x27, x27b⟩, trivial, Le4⟩
  ·refine pO rfl rfl rfl rfl (q_ld1 rfl rfl Zf rfl Mm rfl) ?_;refine Rw 0 4 ?_ ?_
   ·refine Bl NClient.E [] fun x28 x28b => ?_;refine Rw 3 4 ?_ ?_
    ·refine Aq NClient y6 x28b fun x29 x29b => ?_;refine Rp' (Fa 8 [4,7]) ?_;refine Rn 4 ?_;refine Bl NMail.E [] fun x30 x30b => ?_;refine Rn 7 ?_;refine Aq NMail y7 x30b fun x31 x31b => ?_;refine Rn 9 ?_;refine W1 ?_;refine Ra 10 rfl Qp ?_;refine Rn 11 ?_;refine W1 ?_;refine Re0 ?_;refine ⟨⟨x29, x29b, x31, x31b⟩, trivial, Le4⟩
    ·refine Bl NMail.E [] fun x32 x32b => ?_;refine Rn 3 ?_;refine Aq NClient y6 x28b fun x33 x33b => ?_;refine Rp' (Fa 8 [7]) ?_;refine Rn 7 ?_;refine Aq NMail y7 x32b fun x34 x34b => ?_;refine Rn 9 ?_;refine W1 ?_;refine Ra 10 rfl Qp ?_;refine Rn 11 ?_;refine W1 ?_;refine Re0 ?_;refine ⟨⟨x33, x33b, x34, x34b⟩, trivial, Le4⟩
   ·refine Bl NMail.E [] fun x35 x35b => ?_;refine Rn 0 ?_;refine Bl NClient.E [] fun x36 x36b => ?_;refine Rn 3 ?_;refine Aq NClient y6 x36b fun x37 x37b => ?_;refine Rp' (Fa 8 [7]) ?_;refine Rn 7 ?_;refine Aq NMail y7 x35b fun x38 x38b => ?_;refine Rn 9 ?_;refine W1 ?_;refine Ra 10 rfl Qp ?_;refine Rn 11 ?_;refine W1 ?_;refine Re0 ?_;refine ⟨⟨x37, x37b, x38, x38b⟩, trivial, Le4⟩
 ·rintro ⟨x2, b1, x3, b2⟩ -;simp only [Lc];(repeat refine er ?_); refine kk ?_;refine Rp rfl rfl rfl rfl ?_;refine eF ?_;(repeat refine er ?_); refine kk ?_;refine Rp rfl rfl rfl rfl ?_;refine Rp rfl rfl rfl rfl ?_;refine eF ?_;(repeat refine er ?_); refine kk ?_;refine Rp rfl rfl rfl rfl ?_;refine Rp rfl rfl rfl rfl ?_;refine eF ?_;(repeat refine er ?_); refine kk ?_;refine Rp rfl rfl rfl rfl ?_;refine Sq (q_ld1 rfl rfl Zf rfl Mm rfl) ?_;refine eF ?_;(repeat refine er ?_); refine pA ?_;refine Ty ?_;refine mb [3, 4, 5, 6, 7, 8, 9, 51] [true, true, true, true] (fun (b3 : Bool) => [(52, .v (.bool b3))]) (fun (b3 : Bool) => []) (fun (b3 : Bool) => [ownL NClient.E 63 x2 b1 (zipG γ1 0 was1.c), ownL NMail.E 108 x3 b2 (zipG γ2 0 was1.mail)]) (fun (b3 : Bool) => []) (fun (b3 : Bool) => b3 = (bX x1)) (.cons rfl (.cons rfl (.cons rfl (.cons rfl (.cons rfl (.cons rfl (.cons rfl (.cons rfl (.nil _))))))))) (.keep (.keep (.keep (.keep (.nil))))) ?_ ?_
  ·refine Cd' (fun hc1 => ?_) fun hc1 => ?_
   ·have hc1p := eq_of_beq hc1;refine Tx ?_;have hv1 : (bX x1) = (x1.kind == 7) := by simp only [bX, hc1, Bool.true_and, Bool.and_true, Cf]
    refine ⟨(x1.kind == 7), hv1.symm, Le4⟩
   ·have hc1p := ne_of_beq_false hc1;refine Cd' (fun hc2 => ?_) fun hc2 => ?_
    ·have hc2p := eq_of_beq hc2;refine Tx ?_;have hv2 : (bX x1) = (x1.kind == 8) := by simp only [bX, hc1, hc2, Bool.true_and, Bool.and_true, Cf]
     refine ⟨(x1.kind == 8), hv2.symm, Le4⟩
    ·have hc2p := ne_of_beq_false hc2;refine Tx ?_;have hv3 : (bX x1) = (x1.kind == 9) := by simp only [bX, hc1, hc2, Bool.true_and, Bool.and_true, Cf]
     refine ⟨(x1.kind == 9), hv3.symm, Le4⟩
  ·rintro b3 rfl;simp only [Lc];have hf := Ri (aX.eq_1 was1 x1);refine Ch hf (fun hc3 hf => ?_) fun hc3 hf => ?_
   ·refine Ck (aB x1.n 0 ((was1.mail.length : Int) - 1)) fun _ => ?_;generalize hS1 : (ak x1.n 0 ((was1.mail.length : Int) - 1)) = S1;try rw [hS1] at hf
    refine Ch hf (fun hc4 hf => ?_) fun hc4 hf => ?_
    ·refine Cv (aE 5) fun x39 => ?_;refine Rx ?_; exact Rr ⟨x39.1, x39.2.1, x39.2.2.1, x39.2.2.2.1, x39.2.2.2.2.1, x39.2.2.2.2.2.1, x39.2.2.2.2.2.2⟩
    ·have hin3 := wv (by first | assumption | rfl) hc4;have hwm := m5 (((fb _).1 hml).2 (gt was1.mail x1.n.toNat) (gJ (by omega)));refine Tx ?_;refine Fx x3 ?_;refine Fk NMail x3 γ2 was1.mail ?_;refine Sy Tz (Xn x1.n.toNat) ?_;refine Sq (Xe (cM (γ2 x1.n.toNat).1 (γ2 x1.n.toNat).2.1 (γ2 x1.n.toNat).2.2.1 (γ2 x1.n.toNat).2.2.2.1 (γ2 x1.n.toNat).2.2.2.2.1 (γ2 x1.n.toNat).2.2.2.2.2.1 (γ2 x1.n.toNat).2.2.2.2.2.2 (gt was1.mail x1.n.toNat))) ?_;refine Gg NMail γ2 x1.n.toNat 0 ?_;refine Gg NMail γ2 x1.n.toNat 1 ?_;refine Gg NMail γ2 x1.n.toNat 2 ?_;refine Gg NMail γ2 x1.n.toNat 3 ?_;refine Gg NMail γ2 x1.n.toNat 4 ?_;refine Gg NMail γ2 x1.n.toNat 5 ?_;refine Gg NMail γ2 x1.n.toNat 6 ?_;refine Pr EInt (γ2 x1.n.toNat).1 (gt was1.mail x1.n.toNat).v.roots 8 fun hlen9 => ?_;refine Pr EPlace (γ2 x1.n.toNat).2.1 (gt was1.mail x1.n.toNat).v.known 24 fun hlen10 => ?_;refine Pr EPlace (γ2 x1.n.toNat).2.2.1 (gt was1.mail x1.n.toNat).v.way 24 fun hlen11 => ?_;refine Pr EInt (γ2 x1.n.toNat).2.2.2.1 (gt was1.mail x1.n.toNat).d.gone 8 fun hlen12 => ?_;refine Pr EPlace (γ2 x1.n.toNat).2.2.2.2.1 (gt was1.mail x1.n.toNat).d.here 24 fun hlen13 => ?_
     refine Pr EInt (γ2 x1.n.toNat).2.2.2.2.2.1 (gt was1.mail x1.n.toNat).d.wayGone 8 fun hlen14 => ?_;refine Pr EPlace (γ2 x1.n.toNat).2.2.2.2.2.2 (gt was1.mail x1.n.toNat).d.wayHere 24 fun hlen15 => ?_;refine AlT fun g5 => ?_;refine Tx ?_;refine my [3, 4, 5, 6, 7, 8, 9, 10] [true, false, true, true, true] (fun (i_ : List Mail × SlV) => match i_ with | ⟨mail1, x40⟩ => []) (fun (i_ : List Mail × SlV) => match i_ with | ⟨mail1, x40⟩ => [⟨g4, 37, [y1.val was1.h.h.l.length, y2.val was1.h.h.t.length, .int .i64 was1.h.version, y3.val was1.h.peers.length, y4.val was1.d.safe.length, y5.val was1.d.wait.length, .bool was1.up, x2.val was1.c.length, x40.val mail1.length]⟩]) (fun (i_ : List Mail × SlV) => match i_ with | ⟨mail1, x40⟩ => [ownL NClient.E 63 x2 b1 (zipG γ1 0 was1.c)]) (fun (i_ : List Mail × SlV) => match i_ with | ⟨mail1, x40⟩ => [RdN NMail x40 mail1]) (fun (i_ : List Mail × SlV) => match i_ with | ⟨mail1, x40⟩ => (d9 was1 x1 mail1) = (aX was1 x1)) (.cons rfl (.cons rfl (.cons rfl (.cons rfl (.cons rfl (.cons rfl (.cons rfl (.cons rfl (.nil _))))))))) (.keep (.drop (.keep (.keep (.keep (.nil)))))) ?_ ?_
     ·refine Cn hf (fun hc5 hc5p hf => ?_) fun hc5 hc5p hf => ?_
      ·refine Rg [(14,some [g4])] ?_;refine Dx [0,1,2,3] ?_;refine Rb 4 rfl (xl NMail x1.n.toNat rfl rfl Zf rfl Zf rfl rfl Mm Zo Zo) ?_;refine iq (F := RdN NMail x3 (was1.mail.take x1.n.toNat)) [RdN NMail x3 was1.mail] Sm (fun M w h => (allF1 h).take _) ?_;refine Dx [5,6,7,8,9] ?_;refine Rb 10 rfl (Dr NMail (x1.n + 1).toNat rfl rfl Zf rfl Zf rfl rfl Zo Zo) ?_;refine iq (F := RdN NMail (⟨slA x3.a x3.c (x1.n + 1).toNat NMail.E.esz, x3.c - (x1.n + 1).toNat⟩ : SlV) (was1.mail.drop (x1.n + 1).toNat)) [RdN NMail x3 was1.mail] Sm (fun M w h => (allF1 h).drop _ (by omega)) ?_;refine Rn 11 ?_;refine Bl NMails.E [(x3, (was1.mail.take x1.n.toNat)), ((⟨slA x3.a x3.c (x1.n + 1).toNat NMail.E.esz, x3.c - (x1.n + 1).toNat⟩ : SlV), (was1.mail.drop (x1.n + 1).toNat))] fun x41 x41b => ?_;refine Rn 12 ?_;refine Fx x41 ?_;refine Ns NMails x41 [(was1.mail.take x1.n.toNat), (was1.mail.drop (x1.n + 1).toNat)] ?_;refine Cm (mJ x41 [(was1.mail.take x1.n.toNat), (was1.mail.drop (x1.n + 1).toNat)] (Nat.le_trans (Nat.mul_le_mul_right 280 (Nat.le_trans (DL was1.mail x1.n (by omega)) ((fb _).1 hml).1)) (by decide))) fun x42 => ?_
       generalize hS2 : ([(was1.mail.take x1.n.toNat), (was1.mail.drop (x1.n + 1).toNat)].flatten) = S2;try rw [hS2] at hf
       refine Fx x42.1 ?_;refine Fk NMail x42.1 x42.2.2 S2 ?_;refine Ra 13 rfl Qp ?_;refine Rn 14 ?_;refine W1 ?_;refine Re0 ?_;refine ⟨⟨S2, x42.1⟩, hf.symm, Le4⟩
      ·refine Tx ?_;refine ⟨⟨was1.mail, x3⟩, hf.symm, Le4⟩
     ·rintro ⟨mail1, x40⟩ hj1;simp only [Lc];have hf := Ri hj1.symm;rw [d9] at hf;refine Ce hf (fun hc6 hc6p hf => ?_) fun hc6 hc6p hf => ?_
      ·refine Tx ?_;refine Fz x2 ?_;refine Fj NClient x2 γ1 was1.c ?_;refine Rx ?_; exact Rr ⟨y1, y2, y3, y4, y5, x2, x40⟩
      ·refine Cn hf (fun hc7 hc7p hf => ?_) fun hc7 hc7p hf => ?_
       ·(repeat refine er ?_)
        refine Jn (Nat × SlV × SlV × SlV × SlV) [3, 4, 5, 6, 7, 8, 9, 10] [true, true, true, true, true] (fun ⟨g6, x43, x44, x45, x46⟩ => ⟨[(11, .v (.pointer (some ⟨g6, 0, none⟩))), (12, .v (.int .i64 (aO (gt was1.c (gt was1.mail x1.n.toNat).who.toNat) (gt was1.mail x1.n.toNat).who (gt was1.mail x1.n.toNat)).2))], [⟨g6, 63, [.int .i64 (aO (gt was1.c (gt was1.mail x1.n.toNat).who.toNat) (gt was1.mail x1.n.toNat).who (gt was1.mail x1.n.toNat)).1.life, .int .i64 (aO (gt was1.c (gt was1.mail x1.n.toNat).who.toNat) (gt was1.mail x1.n.toNat).who (gt was1.mail x1.n.toNat)).1.time, .int .i64 (aO (gt was1.c (gt was1.mail x1.n.toNat).who.toNat) (gt was1.mail x1.n.toNat).who (gt was1.mail x1.n.toNat)).1.seq, x43.val (aO (gt was1.c (gt was1.mail x1.n.toNat).who.toNat) (gt was1.mail x1.n.toNat).who (gt was1.mail x1.n.toNat)).1.pending.length, .int .i64 (aO (gt was1.c (gt was1.mail x1.n.toNat).who.toNat) (gt was1.mail x1.n.toNat).who (gt was1.mail x1.n.toNat)).1.version, x44.val (aO (gt was1.c (gt was1.mail x1.n.toNat).who.toNat) (gt was1.mail x1.n.toNat).who (gt was1.mail x1.n.toNat)).1.v.roots.length, x45.val (aO (gt was1.c (gt was1.mail x1.n.toNat).who.toNat) (gt was1.mail x1.n.toNat).who (gt was1.mail x1.n.toNat)).1.v.known.length, x46.val (aO (gt was1.c (gt was1.mail x1.n.toNat).who.toNat) (gt was1.mail x1.n.toNat).who (gt was1.mail x1.n.toNat)).1.v.way.length]⟩], [ownL NClient.E 63 x2 b1 (zipG γ1 0 was1.c)], [RdL EOp x43 (aO (gt was1.c (gt was1.mail x1.n.toNat).who.toNat) (gt was1.mail x1.n.toNat).who (gt was1.mail x1.n.toNat)).1.pending, RdL EInt x44 (aO (gt was1.c (gt was1.mail x1.n.toNat).who.toNat) (gt was1.mail x1.n.toNat).who (gt was1.mail x1.n.toNat)).1.v.roots, RdL EPlace x45 (aO (gt was1.c (gt was1.mail x1.n.toNat).who.toNat) (gt was1.mail x1.n.toNat).who (gt was1.mail x1.n.toNat)).1.v.known, RdL EPlace x46 (aO (gt was1.c (gt was1.mail x1.n.toNat).who.toNat) (gt was1.mail x1.n.toNat).who (gt was1.mail x1.n.toNat)).1.v.way], True, 0⟩) ?_ ?_
        ·refine Rg [(14,none)] ?_;refine Dx [0,1,2,3] ?_;refine Oq NClient.E x2 (zipG γ1 0 was1.c) (Fb 4 [6,7,8,13]) (Xn (gt was1.mail x1.n.toNat).who.toNat) ?_;refine Oq NClient.E x2 (zipG γ1 0 was1.c) (Fb 5 [6,7,8,13]) (Xe (cC (γ1 (gt was1.mail x1.n.toNat).who.toNat).1 (γ1 (gt was1.mail x1.n.toNat).who.toNat).2.1 (γ1 (gt was1.mail x1.n.toNat).who.toNat).2.2.1 (γ1 (gt was1.mail x1.n.toNat).who.toNat).2.2.2 (gt was1.c (gt was1.mail x1.n.toNat).who.toNat))) ?_;refine Gg NClient γ1 (gt was1.mail x1.n.toNat).who.toNat 0 ?_;refine Gg NClient γ1 (gt was1.mail x1.n.toNat).who.toNat 1 ?_;refine Gg NClient γ1 (gt was1.mail x1.n.toNat).who.toNat 2 ?_;refine Gg NClient γ1 (gt was1.mail x1.n.toNat).who.toNat 3 ?_;refine Pr EOp (γ1 (gt was1.mail x1.n.toNat).who.toNat).1 (gt was1.c (gt was1.mail x1.n.toNat).who.toNat).pending 56 fun hlen16 => ?_;refine Pr EInt (γ1 (gt was1.mail x1.n.toNat).who.toNat).2.1 (gt was1.c (gt was1.mail x1.n.toNat).who.toNat).v.roots 8 fun hlen17 => ?_;refine Pr EPlace (γ1 (gt was1.mail x1.n.toNat).who.toNat).2.2.1 (gt was1.c (gt was1.mail x1.n.toNat).who.toNat).v.known 24 fun hlen18 => ?_
         refine Pr EPlace (γ1 (gt was1.mail x1.n.toNat).who.toNat).2.2.2 (gt was1.c (gt was1.mail x1.n.toNat).who.toNat).v.way 24 fun hlen19 => ?_;refine Dx [6,7,8] ?_;refine Rw 9 13 ?_ ?_
         ·refine Ck (jV (γ1 (gt was1.mail x1.n.toNat).who.toNat).1 (γ1 (gt was1.mail x1.n.toNat).who.toNat).2.1 (γ1 (gt was1.mail x1.n.toNat).who.toNat).2.2.1 (γ1 (gt was1.mail x1.n.toNat).who.toNat).2.2.2 (gt was1.c (gt was1.mail x1.n.toNat).who.toNat) (gt was1.mail x1.n.toNat).who (γ2 x1.n.toNat).1 (γ2 x1.n.toNat).2.1 (γ2 x1.n.toNat).2.2.1 (γ2 x1.n.toNat).2.2.2.1 (γ2 x1.n.toNat).2.2.2.2.1 (γ2 x1.n.toNat).2.2.2.2.2.1 (γ2 x1.n.toNat).2.2.2.2.2.2 (gt was1.mail x1.n.toNat)) fun x47 => ?_;refine Dx [10,11] ?_;refine Rp' (Fa 12 [13,14]) ?_;refine Rn 13 ?_;refine AlT fun g7 => ?_;refine Rn 14 ?_;refine Wa ?_;refine Ra 15 rfl Qp ?_;refine Re0 ?_;refine ⟨⟨g7, x47.1, x47.2.1, x47.2.2.1, x47.2.2.2⟩, trivial, Le4⟩
         ·refine AlT fun g8 => ?_;refine Rn 9 ?_;refine Ck (jV (γ1 (gt was1.mail x1.n.toNat).who.toNat).1 (γ1 (gt was1.mail x1.n.toNat).who.toNat).2.1 (γ1 (gt was1.mail x1.n.toNat).who.toNat).2.2.1 (γ1 (gt was1.mail x1.n.toNat).who.toNat).2.2.2 (gt was1.c (gt was1.mail x1.n.toNat).who.toNat) (gt was1.mail x1.n.toNat).who (γ2 x1.n.toNat).1 (γ2 x1.n.toNat).2.1 (γ2 x1.n.toNat).2.2.1 (γ2 x1.n.toNat).2.2.2.1 (γ2 x1.n.toNat).2.2.2.2.1 (γ2 x1.n.toNat).2.2.2.2.2.1 (γ2 x1.n.toNat).2.2.2.2.2.2 (gt was1.mail x1.n.toNat)) fun x48 => ?_;refine Dx [10,11] ?_;refine Rp' (Fa 12 [14]) ?_;refine Rn 14 ?_;refine Wa ?_;refine Ra 15 rfl Qp ?_;refine Re0 ?_;refine ⟨⟨g8, x48.1, x48.2.1, x48.2.2.1, x48.2.2.2⟩, trivial, Le4⟩
        ·rintro ⟨g6, x43, x44, x45, x46⟩ -;simp only [Lc];generalize hS3 : (aO (gt was1.c (gt was1.mail x1.n.toNat).who.toNat) (gt was1.mail x1.n.toNat).who (gt was1.mail x1.n.toNat)) = S3;try rw [hS3] at hf
         refine Cn hf (fun hc8 hc8p hf => ?_) fun hc8 hc8p hf => ?_
         ·refine Cv (aE S3.2) fun x49 => ?_;refine Rx ?_; exact Rr ⟨x49.1, x49.2.1, x49.2.2.1, x49.2.2.2.1, x49.2.2.2.2.1, x49.2.2.2.2.2.1, x49.2.2.2.2.2.2⟩
         ·refine Tx ?_;refine Oq NClient.E x2 (zipG γ1 0 was1.c) .sq (Xn (gt was1.mail x1.n.toNat).who.toNat) ?_;refine Wn NClient γ1 was1.c (gt was1.mail x1.n.toNat).who.toNat 0 (x43, x44, x45, x46) S3.1 b1 ?_;refine Fu NClient γ1 was1.c (gt was1.mail x1.n.toNat).who.toNat (x43, x44, x45, x46) S3.1 ?_;have hv4 : x2.val was1.c.length = x2.val (was1.c.set (gt was1.mail x1.n.toNat).who.toNat S3.1).length := congrArg (SlV.val x2) List.length_set.symm;(try simp only [cB, cC, cW]); try rw [hv4]
          refine Tx ?_;refine Fz x2 ?_;refine Fj NClient x2 (updG γ1 (gt was1.mail x1.n.toNat).who.toNat (x43, x44, x45, x46)) (was1.c.set (gt was1.mail x1.n.toNat).who.toNat S3.1) ?_;refine Rx ?_; exact Rr ⟨y1, y2, y3, y4, y5, x2, x40⟩
       ·refine Ch hf (fun hc9 hf => ?_) fun hc9 hf => ?_
        ·refine Cv (aE 7) fun x50 => ?_;refine Rx ?_; exact Rr ⟨x50.1, x50.2.1, x50.2.2.1, x50.2.2.2.1, x50.2.2.2.2.1, x50.2.2.2.2.2.1, x50.2.2.2.2.2.2⟩
        ·refine Tx ?_;refine Fr EInt ?_;refine Cw (gu Z0 (⟨1, 0, 0, ([] : List Int), (gt was1.mail x1.n.toNat).o⟩ : Rec) g4 y1 y2 y3 y4 y5 x2 b1 γ1 x40 (⟨was1.h, was1.d, was1.up, was1.c, mail1⟩ : Wld) Zc Zc) fun x51 => ?_;generalize hS4 : (aP (⟨1, 0, 0, ([] : List Int), (gt was1.mail x1.n.toNat).o⟩ : Rec) (⟨was1.h, was1.d, was1.up, was1.c, mail1⟩ : Wld)) = S4;try rw [hS4] at hf
         refine Tx ?_;refine Fz x51.2.2.2.2.2.1 ?_;refine Fj NClient x51.2.2.2.2.2.1 x51.2.2.2.2.2.2.2.1 S4.2.c ?_;refine Rx ?_; exact Rr ⟨x51.1, x51.2.1, x51.2.2.1, x51.2.2.2.1, x51.2.2.2.2.1, x51.2.2.2.2.2.1, x51.2.2.2.2.2.2.2.2⟩
   ·refine Ce hf (fun hc10 hc10p hf => ?_) fun hc10 hc10p hf => ?_
    ·refine Ch hf (fun hc11 hf => ?_) fun hc11 hf => ?_
     ·refine Cv (aE 7) fun x52 => ?_;refine Rx ?_; exact Rr ⟨x52.1, x52.2.1, x52.2.2.1, x52.2.2.2.1, x52.2.2.2.2.1, x52.2.2.2.2.2.1, x52.2.2.2.2.2.2⟩
     ·refine Ck (jB ) fun x53 => ?_;refine Rp rfl rfl rfl rfl ?_;refine Wp ?_;refine Tx ?_;refine Fz x2 ?_;refine Fj NClient x2 γ1 was1.c ?_;refine Fz x3 ?_;refine Fj NMail x3 γ2 was1.mail ?_;refine Rx ?_; exact Rr ⟨x53.1, x53.2.1, x53.2.2, y4, y5, x2, x3⟩
    ·refine Ce hf (fun hc12 hc12p hf => ?_) fun hc12 hc12p hf => ?_
     ·refine Ch hf (fun hc13 hf => ?_) fun hc13 hf => ?_
      ·refine Cv (aE 7) fun x54 => ?_;refine Rx ?_; exact Rr ⟨x54.1, x54.2.1, x54.2.2.1, x54.2.2.2.1, x54.2.2.2.2.1, x54.2.2.2.2.2.1, x54.2.2.2.2.2.2⟩
      ·refine Ck (gK y4 y5 was1.d Zc) fun x55 => ?_;refine AlT fun g9 => ?_;refine Ck (gH x55.2.2 (aC was1.d).2) fun x56 => ?_;generalize hS5 : (bv (aC was1.d).2) = S5;try rw [hS5] at hf
       refine AlT fun g10 => ?_;refine Cn hf (fun hc14 hc14p hf => ?_) fun hc14 hc14p hf => ?_
       ·refine Cv (aE S5.2) fun x57 => ?_;refine Rx ?_; exact Rr ⟨x57.1, x57.2.1, x57.2.2.1, x57.2.2.2.1, x57.2.2.2.2.1, x57.2.2.2.2.2.1, x57.2.2.2.2.2.2⟩
       ·refine Rg [(3,some [g4]),(5,some [g4]),(7,some [g4])] ?_;refine Ra 0 rfl XA ?_;refine Rq (Fa 1 [2,3]) (.keep (.keep (.drop Sa))) XA ?_;refine Ra 2 rfl Qp ?_;refine Rn 3 ?_;refine Wp ?_;refine Ra 4 rfl Qp ?_;refine Rn 5 ?_;refine Wp ?_;refine Ra 6 rfl Qp ?_;refine Rn 7 ?_;refine W1 ?_;refine Re0 ?_;refine Tx ?_;refine Fz x2 ?_;refine Fj NClient x2 γ1 was1.c ?_;refine Fz x3 ?_;refine Fj NMail x3 γ2 was1.mail ?_;refine Rx ?_; exact Rr ⟨x56.1, x56.2.1, x56.2.2, x55.1, x55.2.1, x2, x3⟩
     ·refine Ck (aB x1.kind 1 11) fun _ => ?_;refine Ch hf (fun hc15 hf => ?_) fun hc15 hf => ?_
      ·refine Cv (aE 4) fun x58 => ?_;refine Rx ?_; exact Rr ⟨x58.1, x58.2.1, x58.2.2.1, x58.2.2.2.1, x58.2.2.2.2.1, x58.2.2.2.2.2.1, x58.2.2.2.2.2.2⟩
      ·have hin14 := wv (by first | assumption | rfl) hc15;refine Ck (aB x1.who 0 2) fun _ => ?_;refine Ch hf (fun hc16 hf => ?_) fun hc16 hf => ?_
       ·refine Cv (aE 5) fun x59 => ?_;refine Rx ?_; exact Rr ⟨x59.1, x59.2.1, x59.2.2.1, x59.2.2.2.1, x59.2.2.2.2.1, x59.2.2.2.2.2.1, x59.2.2.2.2.2.2⟩
       ·have hin15 := wv (by first | assumption | rfl) hc16;have hvl := gf hk;have hlb := (mR hk (gt was1.h.peers x1.who.toNat) (gJ (by omega))).1;refine Tx ?_;refine Oq NClient.E x2 (zipG γ1 0 was1.c) .sq (Xn x1.who.toNat) ?_;refine Oq NClient.E x2 (zipG γ1 0 was1.c) .sq (Xe (cC (γ1 x1.who.toNat).1 (γ1 x1.who.toNat).2.1 (γ1 x1.who.toNat).2.2.1 (γ1 x1.who.toNat).2.2.2 (gt was1.c x1.who.toNat))) ?_;refine Gg NClient γ1 x1.who.toNat 0 ?_;refine Gg NClient γ1 x1.who.toNat 1 ?_;refine Gg NClient γ1 x1.who.toNat 2 ?_;refine Gg NClient γ1 x1.who.toNat 3 ?_;refine Pr EOp (γ1 x1.who.toNat).1 (gt was1.c x1.who.toNat).pending 56 fun hlen20 => ?_;refine Pr EInt (γ1 x1.who.toNat).2.1 (gt was1.c x1.who.toNat).v.roots 8 fun hlen21 => ?_;refine Pr EPlace (γ1 x1.who.toNat).2.2.1 (gt was1.c x1.who.toNat).v.known 24 fun hlen22 => ?_;refine Pr EPlace (γ1 x1.who.toNat).2.2.2 (gt was1.c x1.who.toNat).v.way 24 fun hlen23 => ?_;refine Rp rfl rfl rfl rfl ?_;refine AlT fun g11 => ?_;refine AlT fun g12 => ?_;refine Tx ?_
        refine my [3, 4, 5, 6, 7, 8, 9, 17, 18] [false, true, true, true, true, true] (fun (i_ : Int × Int × List Int × SlV) => match i_ with | ⟨life1, seq1, roots1, x60⟩ => []) (fun (i_ : Int × Int × List Int × SlV) => match i_ with | ⟨life1, seq1, roots1, x60⟩ => [⟨g12, 84, [.int .i64 life1, .int .i64 seq1, x60.val roots1.length]⟩]) (fun (i_ : Int × Int × List Int × SlV) => match i_ with | ⟨life1, seq1, roots1, x60⟩ => [ownL NClient.E 63 x2 b1 (zipG γ1 0 was1.c), ownL NMail.E 108 x3 b2 (zipG γ2 0 was1.mail)]) (fun (i_ : Int × Int × List Int × SlV) => match i_ with | ⟨life1, seq1, roots1, x60⟩ => [RdL EInt x60 roots1]) (fun (i_ : Int × Int × List Int × SlV) => match i_ with | ⟨life1, seq1, roots1, x60⟩ => ((0 ≤ life1 ∧ life1 ≤ 50) ∧ (x1.kind > 2 → was1.up = true)) ∧ (bJ was1 x1 life1 seq1 roots1) = (aX was1 x1)) (.cons rfl (.cons rfl (.cons rfl (.cons rfl (.cons rfl (.cons rfl (.cons rfl (.cons rfl (.cons rfl (.nil _)))))))))) (.drop (.keep (.keep (.keep (.keep (.keep (.nil))))))) ?_ ?_
        ·refine Cp hf (fun hc17 hc17p hf => ?_) fun hc17 hc17p hf => ?_
         ·refine Ch hf (fun hc18 hf => ?_) fun hc18 hf => ?_
          ·refine Cv (aE 7) fun x61 => ?_;refine Rx ?_; exact Rr ⟨x61.1, x61.2.1, x61.2.2.1, x61.2.2.2.1, x61.2.2.2.2.1, x61.2.2.2.2.2.1, x61.2.2.2.2.2.2⟩
          ·refine Tx ?_;refine Ex NPeer y3 fun (γ3 : Nat → SlV) => ?_;refine Sq (Xn x1.who.toNat) ?_;refine Sq (Xe (cE (γ3 x1.who.toNat) (gt was1.h.peers x1.who.toNat))) ?_;refine Gg NPeer γ3 x1.who.toNat 0 ?_;refine Pr EInt (γ3 x1.who.toNat) (gt was1.h.peers x1.who.toNat).roots 8 fun hlen24 => ?_;refine Tx ?_;refine ⟨⟨(gt was1.h.peers x1.who.toNat).life, (gt was1.h.peers x1.who.toNat).seq, (gt was1.h.peers x1.who.toNat).roots, (γ3 x1.who.toNat)⟩, ⟨⟨by omega, by first | (intro _; assumption) | (intro h; exact absurd h (by omega)) | (intro _; simp_all)⟩, hf.symm⟩, Le4⟩
         ·refine Tx ?_;refine ⟨⟨0, 0, [], ⟨none, 0⟩⟩, ⟨⟨by omega, by first | (intro _; assumption) | (intro h; exact absurd h (by omega)) | (intro _; simp_all)⟩, hf.symm⟩, (Le.trans (th (RdL EInt ⟨none, 0⟩ ([] : List Int)) [] (.nil _) (fun M w _ => RdL.nil _ _ _ (by omega) M w)) Le4)⟩
        ·rintro ⟨life1, seq1, roots1, x60⟩ ⟨⟨hlj, hup⟩, hj2⟩;simp only [Lc];have hf := Ri hj2.symm;rw [bJ] at hf;refine Ce hf (fun hc19 hc19p hf => ?_) fun hc19 hc19p hf => ?_
         ·refine Ck (oq (γ1 x1.who.toNat).1 (γ1 x1.who.toNat).2.1 (γ1 x1.who.toNat).2.2.1 (γ1 x1.who.toNat).2.2.2 (gt was1.c x1.who.toNat) x1.who x1.node x1.parent x1.name) fun x62 => ?_;generalize hS6 : (dz (gt was1.c x1.who.toNat) x1.who x1.node x1.parent x1.name) = S6;try rw [hS6] at hf
          refine AlT fun g13 => ?_;refine AlT fun g14 => ?_;refine Cn hf (fun hc20 hc20p hf => ?_) fun hc20 hc20p hf => ?_
          ·refine Cv (aE S6.2.2) fun x63 => ?_;generalize hS7 : (am S6.2.2) = S7;try rw [hS7] at hf
           refine Rx ?_; exact Rr ⟨x63.1, x63.2.1, x63.2.2.1, x63.2.2.2.1, x63.2.2.2.2.1, x63.2.2.2.2.2.1, x63.2.2.2.2.2.2⟩
          ·refine Tx ?_;refine Oq NClient.E x2 (zipG γ1 0 was1.c) .sq (Xn x1.who.toNat) ?_;refine Wn NClient γ1 was1.c x1.who.toNat 0 (x62.1, x62.2.1, x62.2.2.1, x62.2.2.2) S6.1 b1 ?_;refine Fu NClient γ1 was1.c x1.who.toNat (x62.1, x62.2.1, x62.2.2.1, x62.2.2.2) S6.1 ?_;have hv5 : x2.val was1.c.length = x2.val (was1.c.set x1.who.toNat S6.1).length := congrArg (SlV.val x2) List.length_set.symm;(try simp only [cB, cC, cW]); try rw [hv5]
           refine Tx ?_;refine Fr EInt ?_;refine Fr EPlace ?_;refine Fx x2 ?_;refine Fk NClient x2 (updG γ1 x1.who.toNat (x62.1, x62.2.1, x62.2.2.1, x62.2.2.2)) (was1.c.set x1.who.toNat S6.1) ?_;refine Cw (fy Z0 Z0 Z0 Z0 Z0 Z0 Z0 (⟨1, x1.who, 0, 0, 0, 0, 0, S6.2.1, (⟨[], [], []⟩ : View), (⟨[], [], [], []⟩ : Delta)⟩ : Mail) g4 y1 y2 y3 y4 y5 x2 x3 b2 γ2 (⟨was1.h, was1.d, was1.up, (was1.c.set x1.who.toNat S6.1), was1.mail⟩ : Wld)) fun x64 => ?_;generalize hS8 : (aw (⟨1, x1.who, 0, 0, 0, 0, 0, S6.2.1, (⟨[], [], []⟩ : View), (⟨[], [], [], []⟩ : Delta)⟩ : Mail) (⟨was1.h, was1.d, was1.up, (was1.c.set x1.who.toNat S6.1), was1.mail⟩ : Wld)) = S8;try rw [hS8] at hf
           refine Rx ?_; exact Rr ⟨x64.1, x64.2.1, x64.2.2.1, x64.2.2.2.1, x64.2.2.2.2.1, x64.2.2.2.2.2.1, x64.2.2.2.2.2.2.1⟩
         ·refine Ce hf (fun hc21 hc21p hf => ?_) fun hc21 hc21p hf => ?_
          ·refine Ck (aB x1.n 0 (((gt was1.c x1.who.toNat).pending.length : Int) - 1)) fun _ => ?_;generalize hS9 : (ak x1.n 0 (((gt was1.c x1.who.toNat).pending.length : Int) - 1)) = S9;try rw [hS9] at hf
           refine Ch hf (fun hc22 hf => ?_) fun hc22 hf => ?_
           ·refine Cv (aE 5) fun x65 => ?_;refine Rx ?_; exact Rr ⟨x65.1, x65.2.1, x65.2.2.1, x65.2.2.2.1, x65.2.2.2.2.1, x65.2.2.2.2.2.1, x65.2.2.2.2.2.2⟩
           ·have hin21 := wv (by first | assumption | rfl) hc22;refine Rg [(10,none),(13,some [g3])] ?_;refine Dx (.range 7) ?_;refine Rb 7 rfl (Xi x1.n.toNat) ?_;refine Rb 8 rfl Xa ?_;refine Rb 9 rfl Qp ?_;refine Rn 10 ?_;refine Fr EInt ?_;refine Fr EPlace ?_;refine Fx x2 ?_;refine Fk NClient x2 γ1 was1.c ?_;refine Cw (fy Z0 Z0 Z0 Z0 Z0 Z0 Z0 (⟨1, x1.who, 0, 0, 0, 0, 0, (gt (gt was1.c x1.who.toNat).pending x1.n.toNat), (⟨[], [], []⟩ : View), (⟨[], [], [], []⟩ : Delta)⟩ : Mail) g4 y1 y2 y3 y4 y5 x2 x3 b2 γ2 was1) fun x66 => ?_;generalize hS10 : (aw (⟨1, x1.who, 0, 0, 0, 0, 0, (gt (gt was1.c x1.who.toNat).pending x1.n.toNat), (⟨[], [], []⟩ : View), (⟨[], [], [], []⟩ : Delta)⟩ : Mail) was1) = S10;try rw [hS10] at hf
            refine Dx [11,12] ?_;refine Rn 13 ?_;refine Wa ?_;refine Ra 14 rfl Qp ?_;refine Re0 ?_;refine Rx ?_; exact Rr ⟨x66.1, x66.2.1, x66.2.2.1, x66.2.2.2.1, x66.2.2.2.2.1, x66.2.2.2.2.2.1, x66.2.2.2.2.2.2.1⟩
          ·refine Ce hf (fun hc23 hc23p hf => ?_) fun hc23 hc23p hf => ?_
           ·refine Tt ?_;refine Fr EInt ?_;refine Fx x3 ?_;refine Fk NMail x3 γ2 was1.mail ?_;refine Cw (gu Z0 (⟨2, x1.who, (life1 + 1), ([] : List Int), (⟨0, 0, 0, 0, 0, 0, 0⟩ : Op)⟩ : Rec) g4 y1 y2 y3 y4 y5 x2 b1 γ1 x3 was1 Zc Zc) fun x67 => ?_;generalize hS11 : (aP (⟨2, x1.who, (life1 + 1), ([] : List Int), (⟨0, 0, 0, 0, 0, 0, 0⟩ : Op)⟩ : Rec) was1) = S11;try rw [hS11] at hf
            refine Cn hf (fun hc24 hc24p hf => ?_) fun hc24 hc24p hf => ?_
            ·refine Cv (aE S11.1) fun x68 => ?_;refine Rx ?_; exact Rr ⟨x68.1, x68.2.1, x68.2.2.1, x68.2.2.2.1, x68.2.2.2.2.1, x68.2.2.2.2.2.1, x68.2.2.2.2.2.2⟩
            ·have hwc := Cs (by assumption) hcl3;refine Tx ?_;refine Jn (Nat × SlV × SlV × SlV × SlV) [3, 4, 5, 6, 7, 8, 18] [true, true, true, true, true, true] (fun ⟨g15, x69, x70, x71, x72⟩ => ⟨[(23, .v (.pointer (some ⟨g15, 0, none⟩))), (24, .v (.int .i64 (bk (life1 + 1) (aJ S11.2.h)).2))], [⟨g15, 63, [.int .i64 (bk (life1 + 1) (aJ S11.2.h)).1.life, .int .i64 (bk (life1 + 1) (aJ S11.2.h)).1.time, .int .i64 (bk (life1 + 1) (aJ S11.2.h)).1.seq, x69.val (bk (life1 + 1) (aJ S11.2.h)).1.pending.length, .int .i64 (bk (life1 + 1) (aJ S11.2.h)).1.version, x70.val (bk (life1 + 1) (aJ S11.2.h)).1.v.roots.length, x71.val (bk (life1 + 1) (aJ S11.2.h)).1.v.known.length, x72.val (bk (life1 + 1) (aJ S11.2.h)).1.v.way.length]⟩], [ownL NClient.E 63 x67.2.2.2.2.2.1 x67.2.2.2.2.2.2.1 (zipG x67.2.2.2.2.2.2.2.1 0 S11.2.c)], [RdL EOp x69 (bk (life1 + 1) (aJ S11.2.h)).1.pending, RdL EInt x70 (bk (life1 + 1) (aJ S11.2.h)).1.v.roots, RdL EPlace x71 (bk (life1 + 1) (aJ S11.2.h)).1.v.known, RdL EPlace x72 (bk (life1 + 1) (aJ S11.2.h)).1.v.way], True, 0⟩) ?_ ?_
             ·refine Rg [(11,none)] ?_;refine Dx [0,1,2,3,4] ?_;refine Rw 5 10 ?_ ?_
              ·refine Ck (gb x67.1 x67.2.1 x67.2.2.1 S11.2.h) fun _ => ?_;refine Rw 6 10 ?_ ?_
               ·refine Ck (iU (life1 + 1) (aJ S11.2.h)) fun x73 => ?_;refine Dx [7,8] ?_;refine Rp' (Fa 9 [10,11]) ?_;refine Rn 10 ?_;refine AlT fun g16 => ?_;refine Rn 11 ?_;refine Wa ?_;refine Ra 12 rfl Qp ?_;refine Re0 ?_;refine ⟨⟨g16, x73.1, x73.2.1, x73.2.2.1, x73.2.2.2⟩, trivial, Le4⟩
               ·refine AlT fun g17 => ?_;refine Rn 6 ?_;refine Ck (iU (life1 + 1) (aJ S11.2.h)) fun x74 => ?_;refine Dx [7,8] ?_;refine Rp' (Fa 9 [11]) ?_;refine Rn 11 ?_;refine Wa ?_;refine Ra 12 rfl Qp ?_;refine Re0 ?_;refine ⟨⟨g17, x74.1, x74.2.1, x74.2.2.1, x74.2.2.2⟩, trivial, Le4⟩
              ·refine AlT fun g18 => ?_;refine Rn 5 ?_;refine Ck (gb x67.1 x67.2.1 x67.2.2.1 S11.2.h) fun _ => ?_;refine Rn 6 ?_;refine Ck (iU (life1 + 1) (aJ S11.2.h)) fun x75 => ?_;refine Dx [7,8] ?_;refine Rp' (Fa 9 [11]) ?_;refine Rn 11 ?_;refine Wa ?_;refine Ra 12 rfl Qp ?_;refine Re0 ?_;refine ⟨⟨g18, x75.1, x75.2.1, x75.2.2.1, x75.2.2.2⟩, trivial, Le4⟩
             ·rintro ⟨g15, x69, x70, x71, x72⟩ -;simp only [Lc];generalize hS12 : (bk (life1 + 1) (aJ S11.2.h)) = S12;try rw [hS12] at hf
              refine Cn hf (fun hc25 hc25p hf => ?_) fun hc25 hc25p hf => ?_
              ·refine Cv (aE S12.2) fun x76 => ?_;refine Rx ?_; exact Rr ⟨x76.1, x76.2.1, x76.2.2.1, x76.2.2.2.1, x76.2.2.2.2.1, x76.2.2.2.2.2.1, x76.2.2.2.2.2.2⟩
              ·refine Tx ?_;refine Oq NClient.E x67.2.2.2.2.2.1 (zipG x67.2.2.2.2.2.2.2.1 0 S11.2.c) .sq (Xn x1.who.toNat) ?_;refine Wn NClient x67.2.2.2.2.2.2.2.1 S11.2.c x1.who.toNat 0 (x69, x70, x71, x72) S12.1 x67.2.2.2.2.2.2.1 ?_;refine Fu NClient x67.2.2.2.2.2.2.2.1 S11.2.c x1.who.toNat (x69, x70, x71, x72) S12.1 ?_;have hv6 : x67.2.2.2.2.2.1.val S11.2.c.length = x67.2.2.2.2.2.1.val (S11.2.c.set x1.who.toNat S12.1).length := congrArg (SlV.val x67.2.2.2.2.2.1) List.length_set.symm;(try simp only [cB, cC, cW]); try rw [hv6]
               refine Tx ?_;refine Fz x67.2.2.2.2.2.1 ?_;refine Fj NClient x67.2.2.2.2.2.1 (updG x67.2.2.2.2.2.2.2.1 x1.who.toNat (x69, x70, x71, x72)) (S11.2.c.set x1.who.toNat S12.1) ?_;refine Rx ?_; exact Rr ⟨x67.1, x67.2.1, x67.2.2.1, x67.2.2.2.1, x67.2.2.2.2.1, x67.2.2.2.2.2.1, x67.2.2.2.2.2.2.2.2⟩
           ·refine Ce hf (fun hc26 hc26p hf => ?_) fun hc26 hc26p hf => ?_
            ·refine Tx ?_;refine Fx x3 ?_;refine Fk NMail x3 γ2 was1.mail ?_;refine Cw (gu y8 (⟨3, x1.who, 0, x1.roots, (⟨0, 0, 0, 0, 0, 0, 0⟩ : Op)⟩ : Rec) g4 y1 y2 y3 y4 y5 x2 b1 γ1 x3 was1 Zc Zc) fun x77 => ?_;generalize hS13 : (aP (⟨3, x1.who, 0, x1.roots, (⟨0, 0, 0, 0, 0, 0, 0⟩ : Op)⟩ : Rec) was1) = S13;try rw [hS13] at hf
             refine Cn hf (fun hc27 hc27p hf => ?_) fun hc27 hc27p hf => ?_
             ·refine Cv (aE S13.1) fun x78 => ?_;refine Rx ?_; exact Rr ⟨x78.1, x78.2.1, x78.2.2.1, x78.2.2.2.1, x78.2.2.2.2.1, x78.2.2.2.2.2.1, x78.2.2.2.2.2.2⟩
             ·refine Tx ?_;refine Fz x77.2.2.2.2.2.1 ?_;refine Fj NClient x77.2.2.2.2.2.1 x77.2.2.2.2.2.2.2.1 S13.2.c ?_;refine Rx ?_; exact Rr ⟨x77.1, x77.2.1, x77.2.2.1, x77.2.2.2.1, x77.2.2.2.2.1, x77.2.2.2.2.2.1, x77.2.2.2.2.2.2.2.2⟩
            ·refine Ce hf (fun hc28 hc28p hf => ?_) fun hc28 hc28p hf => ?_
             ·refine Cv (aE 7) fun x79 => ?_;refine Rx ?_; exact Rr ⟨x79.1, x79.2.1, x79.2.2.1, x79.2.2.2.1, x79.2.2.2.2.1, x79.2.2.2.2.2.1, x79.2.2.2.2.2.2⟩
             ·refine Ck (fV y2 was1.h.h.t x60 roots1) fun x80 => ?_;generalize hS14 : (bs was1.h.h.t roots1) = S14;try rw [hS14] at hf
              refine AlT fun g19 => ?_;refine Tx ?_;refine my [3, 4, 5, 6, 7, 8, 18, 26] [true, true, true, true, true, true, true] (fun (g20 : Nat) => [(28, .v (.pointer (some ⟨g20, 0, none⟩)))]) (fun (g20 : Nat) => [⟨g20, 108, [.int .i64 2, .int .i64 x1.who, .int .i64 life1, .int .i64 seq1, .int .i64 (aJ was1.h), .int .i64 was1.h.version, .int .i64 0, .int .i64 0, .int .i64 0, .int .i64 0, .int .i64 0, .int .i64 0, .int .i64 0, .int .i64 0, x80.1.val S14.1.roots.length, x80.2.1.val S14.1.known.length, x80.2.2.val S14.1.way.length, .slice none 0 0, .slice none 0 0, .slice none 0 0, .slice none 0 0]⟩]) (fun (g20 : Nat) => [ownL NClient.E 63 x2 b1 (zipG γ1 0 was1.c), ownL NMail.E 108 x3 b2 (zipG γ2 0 was1.mail)]) (fun (g20 : Nat) => [RdL EInt x80.1 S14.1.roots, RdL EPlace x80.2.1 S14.1.known, RdL EPlace x80.2.2 S14.1.way]) (fun _ => True) (.cons rfl (.cons rfl (.cons rfl (.cons rfl (.cons rfl (.cons rfl (.cons rfl (.cons rfl (.nil _))))))))) (.keep (.keep (.keep (.keep (.keep (.keep (.keep (.nil)))))))) ?_ ?_
              ·refine Rg [(15,none)] ?_;refine Dx [0,1,2,3,4,5,6,7,9,10,11,12] ?_;refine Rw 8 14 ?_ ?_
               ·refine Ck (gb y1 y2 y3 was1.h) fun _ => ?_;refine Ra 13 rfl Qp ?_;refine Rn 14 ?_;refine AlT fun g21 => ?_;refine Rn 15 ?_;refine Wa ?_;refine Re0 ?_;refine ⟨g21, trivial, Le4⟩
               ·refine AlT fun g22 => ?_;refine Rn 8 ?_;refine Ck (gb y1 y2 y3 was1.h) fun _ => ?_;refine Ra 13 rfl Qp ?_;refine Rn 15 ?_;refine Wa ?_;refine Re0 ?_;refine ⟨g22, trivial, Le4⟩
              ·rintro g20 -;simp only [Lc];refine Ce hf (fun hc29 hc29p hf => ?_) fun hc29 hc29p hf => ?_
               ·refine Tx ?_;refine Fr EInt ?_;refine Fr EPlace ?_;refine Fx x2 ?_;refine Fk NClient x2 γ1 was1.c ?_;refine Cw (fy x80.1 x80.2.1 x80.2.2 Z0 Z0 Z0 Z0 (⟨2, x1.who, life1, seq1, (aJ was1.h), was1.h.version, 0, (⟨0, 0, 0, 0, 0, 0, 0⟩ : Op), S14.1, (⟨[], [], [], []⟩ : Delta)⟩ : Mail) g4 y1 y2 y3 y4 y5 x2 x3 b2 γ2 was1) fun x81 => ?_;generalize hS15 : (aw (⟨2, x1.who, life1, seq1, (aJ was1.h), was1.h.version, 0, (⟨0, 0, 0, 0, 0, 0, 0⟩ : Op), S14.1, (⟨[], [], [], []⟩ : Delta)⟩ : Mail) was1) = S15;try rw [hS15] at hf
                refine Rx ?_; exact Rr ⟨x81.1, x81.2.1, x81.2.2.1, x81.2.2.2.1, x81.2.2.2.2.1, x81.2.2.2.2.2.1, x81.2.2.2.2.2.2.1⟩
               ·refine Ck (aB x1.n 0 (was1.h.version - 1)) fun _ => ?_;generalize hS16 : (ak x1.n 0 (was1.h.version - 1)) = S16;try rw [hS16] at hf
                refine Ch hf (fun hc30 hf => ?_) fun hc30 hf => ?_
                ·refine Cv (aE 3) fun x82 => ?_;refine Rx ?_; exact Rr ⟨x82.1, x82.2.1, x82.2.2.1, x82.2.2.2.1, x82.2.2.2.2.1, x82.2.2.2.2.2.1, x82.2.2.2.2.2.2⟩
                ·have hin29 := wv (by first | assumption | rfl) hc30;have hvr2 := hvr (hup (by omega));refine Ck (gK y4 y5 was1.d Zc) fun x83 => ?_;refine AlT fun g23 => ?_;refine Sy Tz (xl NRec x1.n.toNat rfl rfl Zf rfl Zf rfl rfl Mm Zo Zo) ?_;refine iq (F := RdN NRec x83.2.2 ((aC was1.d).2.take x1.n.toNat)) [RdN NRec x83.2.2 (aC was1.d).2] Sm (fun M w h => (allF1 h).take _) ?_;refine Ck (gH x83.2.2 ((aC was1.d).2.take x1.n.toNat)) fun x84 => ?_;generalize hS17 : (bv ((aC was1.d).2.take x1.n.toNat)) = S17;try rw [hS17] at hf
                 refine AlT fun g24 => ?_;refine Cn hf (fun hc31 hc31p hf => ?_) fun hc31 hc31p hf => ?_
                 ·refine Cv (aE S17.2) fun x85 => ?_;refine Rx ?_; exact Rr ⟨x85.1, x85.2.1, x85.2.2.1, x85.2.2.2.1, x85.2.2.2.2.1, x85.2.2.2.2.2.1, x85.2.2.2.2.2.2⟩
                 ·have hrp := xR (by assumption) (ag hc31);refine Tx ?_;refine Ex NPeer x84.2.2 fun (γ4 : Nat → SlV) => ?_;refine Sq (Xn x1.who.toNat) ?_;refine Sq (Xe (cE (γ4 x1.who.toNat) (gt S17.1.peers x1.who.toNat))) ?_;refine Gg NPeer γ4 x1.who.toNat 0 ?_;refine Pr EInt (γ4 x1.who.toNat) (gt S17.1.peers x1.who.toNat).roots 8 fun hlen25 => ?_;refine AlT fun g25 => ?_;refine Cy (fun hG_ => (fun y1 a y2 b => cl y1 y2 a b) (γ4 x1.who.toNat) (gt S17.1.peers x1.who.toNat).roots x60 roots1) ?_;refine Ch hf (fun hc32 hf => ?_) fun hc32 hf => ?_
                  ·refine Cv (aE 7) fun x86 => ?_;refine Rx ?_; exact Rr ⟨x86.1, x86.2.1, x86.2.2.1, x86.2.2.2.1, x86.2.2.2.2.1, x86.2.2.2.2.2.1, x86.2.2.2.2.2.2⟩
                  ·refine Ck (fV x84.2.1 S17.1.h.t (γ4 x1.who.toNat) (gt S17.1.peers x1.who.toNat).roots) fun x87 => ?_;generalize hS18 : (bs S17.1.h.t (gt S17.1.peers x1.who.toNat).roots) = S18;try rw [hS18] at hf
                   refine AlT fun g26 => ?_;refine Ck (mP x87.1 x87.2.1 x87.2.2 S18.1 x80.1 x80.2.1 x80.2.2 S14.1) fun x88 => ?_;generalize hS19 : (di S18.1 S14.1) = S19;try rw [hS19] at hf
                   refine AlT fun g27 => ?_;refine Cn hf (fun hc33 hc33p hf => ?_) fun hc33 hc33p hf => ?_
                   ·refine Cv (aE S19.2) fun x89 => ?_;refine Rx ?_; exact Rr ⟨x89.1, x89.2.1, x89.2.2.1, x89.2.2.2.1, x89.2.2.2.2.1, x89.2.2.2.2.2.1, x89.2.2.2.2.2.2⟩
                   ·refine Rg [(5,some [g20]),(7,some [g20]),(9,some [g20]),(11,some [g20])] ?_;refine Rq (Fa 0 [2,3,4,5]) (.keep (.keep (.keep (.keep (.keep (.drop Sa)))))) Xv ?_;refine Rq (Fa 1 [2,3,4,5]) (.keep (.keep (.keep (.keep (.keep (.drop Sa)))))) (q_ld1 rfl rfl Zf rfl Mm rfl) ?_;refine Rq (Fa 2 [3,4,5,6,7]) (.keep (.keep (.keep (.keep (.keep (.drop Sa)))))) Xv ?_;refine Rq (Fa 3 [4,5,6,7,8,9]) (.keep (.keep (.keep (.keep (.keep (.drop Sa)))))) XA ?_;refine Ra 4 rfl Qp ?_;refine Rn 5 ?_;refine W1 ?_;refine Ra 6 rfl Qp ?_;refine Rn 7 ?_;refine W1 ?_;refine Ra 8 rfl Qp ?_;refine Rn 9 ?_;refine Wp ?_;refine Ra 10 rfl Qp ?_;refine Rn 11 ?_;refine Wp ?_;refine Re0 ?_;refine Tx ?_;refine Fr EInt ?_;refine Fr EPlace ?_;refine Fx x2 ?_;refine Fk NClient x2 γ1 was1.c ?_;refine Cw (fy Z0 Z0 Z0 x88.1 x88.2.1 x88.2.2.1 x88.2.2.2 (⟨3, x1.who, life1, seq1, (aJ was1.h), was1.h.version, x1.n, (⟨0, 0, 0, 0, 0, 0, 0⟩ : Op), (⟨[], [], []⟩ : View), S19.1⟩ : Mail) g4 y1 y2 y3 y4 y5 x2 x3 b2 γ2 was1) fun x90 => ?_;generalize hS20 : (aw (⟨3, x1.who, life1, seq1, (aJ was1.h), was1.h.version, x1.n, (⟨0, 0, 0, 0, 0, 0, 0⟩ : Op), (⟨[], [], []⟩ : View), S19.1⟩ : Mail) was1) = S20;try rw [hS20] at hf
                    refine Rx ?_; exact Rr ⟨x90.1, x90.2.1, x90.2.2.1, x90.2.2.2.1, x90.2.2.2.2.1, x90.2.2.2.2.2.1, x90.2.2.2.2.2.2.1⟩
theorem sk (d : Disk) : cy d = ck d := by
 unfold cy ck;cases hb : (decide ((d.safe.length : Int) > 60000) || decide ((d.wait.length : Int) > (60000 - (d.safe.length : Int)))) with
 | true => rfl
 | false =>
  have := oY hb;simp only [cond_false];rw [lj (by omega) (by decide)]
variable {d : Disk}
theorem Cj (c : Rec) (h : ck d = 0) : bB d c = fJ d c := by
 have hdl := jc h;have h0 : (ck d != 0) = false := by simpa using h
 unfold bB fJ;rw [uR];simp only [h0, cond_false];cases ((du c).2 != 0) with
 | true => rfl
 | false =>
  simp only [cond_false];have e : decide (((((d.safe.length : Int) + (d.wait.length : Int)) + ((du c).1.length : Int)) + 1) > 60000) = decide ((((du c).1.length : Int) + 1) > ((60000 - (d.safe.length : Int)) - (d.wait.length : Int))) := by
   apply decide_eq_decide.2; omega
  rw [e];simp
theorem A8 (h : ck d = 0) : cX d = f8 d := by
 have h0 : (ck d != 0) = false := by simpa using h
 unfold cX f8;simp only [h0, cond_false, sk]
theorem mg (h : ck d = 0) : aC d = ((az d).1, (az d).2.1) ∧ (az d).2.2 = 0 := by
 have hdl := jc h;have h0 : (ck d != 0) = false := by simpa using h
 have hm := rX (s := d.safe) (most := 60) (by omega) (by decide);rw [lj (by omega) (by decide)] at hm;unfold aC az;rw [lj (s := d.safe) (most := 60) (by omega) (by decide), lj (s := d.wait) (by omega) (by omega)];simp only [h0, cond_false];simp
theorem nV : ∀ (l : List Client) (n : Nat), bV l n = dI l n
 | [], _ => rfl
 | c :: l, n => by rw [bV, dI, kB, nV l]
theorem lM (d : Disk) : (az d).2.2 = ck d := by
 unfold az;cases h : (ck d != 0) with
 | true => rw [cond_true]
 | false => rw [cond_false]; exact (ag h).symm
theorem lg (w : Wld) : cI w = bT w := by
 unfold cI bT;rw [wY, sk, lM];congr 1;congr 1;cases hd : (ck w.d != 0) with
 | true => rfl
 | false =>
  rw [cond_false, cond_false];have hr := mg (ag hd);rw [hr.1];simp only [sG, zz, nV];cases w.up with
  | true =>
   rw [cond_true, Bool.true_and];rfl
  | false => rfl
abbrev wld0 : Wld := ⟨⟨⟨[], []⟩, 0, []⟩, ⟨[], []⟩, false, [], []⟩
def did (p : Int × Wld) : Wld × Int := bif p.1 != 0 then (wld0, p.1) else (p.2, 0)
theorem r9 : ∀ (l : List Step) (m : Int), (∀ s ∈ l, m ≤ s.o.time) → Rise (l.map (·.o)) → eA l m = bif decide ((l.length : Int) > 0) then (gt l (l.length - 1)).o.time else m
 | [], m, _, _ => rfl
 | s :: l, m, h, hr => by
  have h1 := h s (.head _);have hr' : Rise (l.map (·.o)) ∧ ∀ q ∈ l, before s.o q.o = true := by
   unfold Rise at *; rw [List.map_cons, List.pairwise_cons] at hr; exact ⟨hr.2, fun q hq => hr.1 _ (List.mem_map_of_mem hq)⟩
  have e1 : (if s.o.time > m then s.o.time else m) = s.o.time := by split <;> omega
  rw [eA, e1, r9 l s.o.time (fun q hq => by have := (ln _ _).1 (hr'.2 q hq); omega) hr'.1];cases l with
  | nil => rfl
  | cons q l =>
   have e2 : ∀ (a : Step) (r : List Step), decide (((a :: r).length : Int) > 0) = true := fun a r => by simp only [List.length_cons, decide_eq_true_eq]; omega
   rw [e2, e2]; rfl
variable {o : Op}
theorem AY (h : chkO o = 0) : 1 ≤ o.time ∧ o.time ≤ 10000 := by
 have hb : (decide (o.time < 1) || decide (o.time > 10000)) = false := by
  cases hb : (decide (o.time < 1) || decide (o.time > 10000)) with
  | false => rfl
  | true => unfold chkO at h; rw [hb] at h; simp at h
 simp only [Bo] at hb; omega
variable {h : Hub}
theorem wP (hh : IsHub h) : aJ h = fu h ∧ 0 ≤ fu h ∧ fu h ≤ 10000 := by
 have hi := (lN h.h).1 hh.hist;have hk : ∀ s ∈ h.h.l, 1 ≤ s.o.time ∧ s.o.time ≤ 10000 := fun s hs => AY (hi.ok _ (List.mem_map_of_mem hs));refine ⟨r9 _ _ (fun s hs => by have := hk s hs; omega) hi.rise, ?_⟩;unfold fu;cases hd : decide ((h.h.l.length : Int) > 0) with
 | false => exact ⟨Int.le_refl _, by show (0 : Int) ≤ 10000; decide⟩
 | true => have hp := of_decide_eq_true hd; have := hk _ (gJ (l := h.h.l) (i := h.h.l.length - 1) (by omega)); rw [cond_true]; omega
variable {who : Int}
theorem ya (hh : IsHub h) (hw : 0 ≤ who ∧ who < 3) : bZ h who = (j6 h.h.t (gt h.peers who.toNat).roots, 0) ∧ bs h.h.t (gt h.peers who.toNat).roots = (j6 h.h.t (gt h.peers who.toNat).roots, 0) ∧ pb (j6 h.h.t (gt h.peers who.toNat).roots) := by
 have hp := (hh.peers (gt h.peers who.toNat) (gJ (by rw [hh.three]; omega))).roots;have e1 := De hh (k := who.toNat) (by omega) hp rfl;have hi := (lN h.h).1 hh.hist;have ht : ed h.h.t = 0 := by rw [hi.eq]; exact pm _ e0 rfl hi.ok
 rw [Int.toNat_of_nonneg hw.1] at e1;refine ⟨e1, ?_, zM ((es _).1 ht) ((qY _).1 hp)⟩;rw [Bc, Of_eq, ht, hp]; rfl
theorem yr (hk : 0 ≤ who ∧ who < 3) (how : o.who = who) (hc : chkO o = 0) : cr (wi who o) = 0 := by
 have e3 : gE (wi who o) (want1 (wi who o)) = true := (gP _ _).2 rfl;have e2 : (decide (who < 0) || decide (who ≥ 3)) = false := by simp only [Bo]; omega
 rw [kD, e3];simp [e2, how, hc]
variable {m : Mail}
theorem BP (hk : 0 ≤ m.who ∧ m.who < 3) (h2 : m.kind = 2) (hs : m = want2 m) (hb : oS m = false) (hv : pb m.v) : cr m = 0 := by
 have e2 : (decide (m.who < 0) || decide (m.who ≥ 3)) = false := by simp only [Bo]; omega
 rw [kD, h2, e2, (gP m _).2 hs, hb, (ef _).2 hv]; rfl
theorem BO (hk : 0 ≤ m.who ∧ m.who < 3) (h2 : m.kind = 3) (hs : m = want3 m) (hb : oS m = false) (hv : dk m.d = 0) : cr m = 0 := by
 have e2 : (decide (m.who < 0) || decide (m.who ≥ 3)) = false := by simp only [Bo]; omega
 rw [kD, h2, e2, (gP m _).2 hs, hb, hv]; rfl
theorem post2 {u : Bool} {c : List Client} {q : List Mail} (hq : cx q = 0) (hm : cr m = 0) : aw m ⟨h, d, u, c, q⟩ = (dP ⟨h, d, u, c, q⟩ m, 0, dP ⟨h, d, u, c, q⟩ m) := by
 unfold aw dP;rw [Bb, hq, hm, bne_self_eq_false, cond_false, cond_false];cases decide ((q.length : Int) < 30) <;> rfl
theorem zy (h : (f8 d).2 = 0) : ck d = 0 := by
 unfold f8 at h;cases h1 : (ck d != 0) with
 | true => rw [h1, cond_true] at h; exact h
 | false => exact ag h1
theorem write3 (h : IsW w l) (hu : w.up = true) (r : Rec) : aP r w = bL w r := by
 have hh := h.hub;have hc := (eo _).2 hh.1;rw [qi h hu];unfold aP;rw [lQ];cases h1 : (aH r != 0) with
 | true =>
  have e : bd w.h r = (hub0, aH r) := by unfold bd; rw [h1]; rfl
  rw [e, cond_true, if_neg (by simpa using h1)]
 | false =>
  have hn := ag h1;rw [cond_false, td hc hn];by_cases h0 : (bd w.h r).2 = 0
  ·have hv := vt h0;have hv2 := hh.2 hu;have hs := h.sixty;have hq1 : AllR [r] := fun x hx => by rw [List.mem_singleton] at hx; subst hx; exact hn
   have hd : ck w.d = 0 := by rw [← lM, h.recd]
   have hy := wQ h.all hq1 (by simp only [List.length_cons, List.length_nil]; omega);rw [Cj r hd, (h.up hu).1, yQ h.all hn (by omega), A8 (zy (by rw [hy])), hy, if_pos h0, h0];rfl
  ·rw [if_neg h0];have : ((bd w.h r).2 != 0) = true := by simpa using h0
   rw [this, cond_true]
theorem qc (n : Int) : (n = 0 ∧ (n != 0) = false ∧ (n == 0) = true) ∨ (n ≠ 0 ∧ (n != 0) = true ∧ (n == 0) = false) := by
 by_cases h : n = 0
 ·subst h; exact .inl ⟨rfl, rfl, rfl⟩
 ·exact .inr ⟨h, bne_iff_ne.2 h, beq_eq_false_iff_ne.2 h⟩
variable {k : Int} {t : Bool}
theorem xI {l : List Mail} (hc : cx l = 0) (hn : 0 ≤ k ∧ k < (l.length : Int)) : aL l k t = (bif t then l else l.take k.toNat ++ l.drop (k + 1).toNat, gt l k.toNat, 0) := by
 refine (lq ?_).2.2.2;unfold aL;have e2 : (decide (k < 0) || decide (k ≥ (l.length : Int))) = false := by simp only [Bo]; omega
 rw [hc, e2];cases t <;> rfl
theorem Cc {l : List Mail} (hc : cx l = 0) (hn : ¬ (0 ≤ k ∧ k < (l.length : Int))) : (aL l k t).2.2 = 5 := by
 unfold aL;have e2 : (decide (k < 0) || decide (k ≥ (l.length : Int))) = true := by simp only [Bq]; omega
 rw [hc, e2]; rfl
variable {x : Happening}
theorem DG (h : IsW w l) (hx : x.kind ≠ 9) (hn : 0 ≤ x.n ∧ x.n < (w.mail.length : Int)) :
  d9 w x (bif x.kind == 8 then w.mail else w.mail.take x.n.toNat ++ w.mail.drop (x.n + 1).toNat) = did (cU w x) := by
 have hq := A7 (l := w.mail) (k := x.n) (t := x.kind == 8) (by rw [xI h.mail hn]);unfold d9 cU did;rw [xI h.mail hn] at hq ⊢;simp only [zE, beq_eq_false_iff_ne.2 hx, cond_false, bne_self_eq_false];cases (gt w.mail x.n.toNat).kind != 1 with
 | true =>
  generalize bF _ _ _ = S;rcases qc S.2 with ⟨a, b, c⟩ | ⟨a, b, c⟩ <;> simp [a, b, c, am]
 | false =>
  cases hu : w.up with
  | false => rfl
  | true => have := write3 (h.withMail hq) hu; rw [hu] at this; rw [this]; rfl
theorem BM (h : IsW w l) (hx : x.kind = 10 ∨ x.kind = 11) :
  did (dH w x) = bif x.kind == 10 then (bif !w.up then (wld0, 7) else (⟨dU, w.d, false, w.c, w.mail⟩, 0)) else bif w.up then (wld0, 7) else bif (aF l).2 != 0 then (wld0, (aF l).2) else (⟨(aF l).1, ⟨bw l, []⟩, true, w.c, w.mail⟩, 0) := by
 unfold dH did;rw [h.recd];generalize aF l = S;rcases hx with hx | hx <;> rw [hx] <;> cases w.up <;> rcases qc S.2 with ⟨a, b, c⟩ | ⟨a, b, c⟩ <;> simp [a, b, c]
variable {n name node parent : Int} {r : List Int}
theorem DB (h : IsW w l) (hw : 0 ≤ who ∧ who < 3) :
  bJ w ⟨1, who, n, node, parent, name, r⟩ 0 0 [] = did (ax w ⟨1, who, n, node, parent, name, r⟩) := by
 have e2 : (decide (who < 0) || decide (who ≥ (w.c.length : Int))) = false := by rw [h.three]; simp only [Bo]; omega
 unfold bJ ax did;simp only [Co, e2, cond_false, beq_self_eq_true, cond_true];rcases qc (c9 (gt w.c who.toNat) who node parent name).2.2 with ⟨a, b, c⟩ | ⟨a, b, c⟩
 ·obtain ⟨_, _, _, _, _, a6, a7⟩ := vQ a;rw [post2 h.mail (yr (o := (c9 (gt w.c who.toNat) who node parent name).2.1) hw (by rw [a7]) (by rw [a7]; exact a6)), b];rfl
 ·simp [a, b, am]
theorem B9 (h : IsW w l) (hw : 0 ≤ who ∧ who < 3) :
  bJ w ⟨2, who, n, node, parent, name, r⟩ 0 0 [] = did (ax w ⟨2, who, n, node, parent, name, r⟩) := by
 have e2 : (decide (who < 0) || decide (who ≥ (w.c.length : Int))) = false := by rw [h.three]; simp only [Bo]; omega
 have hc := (fF _ _).1 (h.cli who.toNat (by omega));unfold bJ ax did ak;simp only [e2, cond_false];by_cases h0 : 0 ≤ n ∧ n < ((gt w.c who.toNat).pending.length : Int)
 ·have hp := hc.pend n.toNat (by omega);rw [post2 h.mail (yr hw (by rw [hp.who, Int.toNat_of_nonneg hw.1]) hp.ok)];have e3 : (decide (n < 0) || decide (n ≥ ((gt w.c who.toNat).pending.length : Int))) = false := by simp only [Bo]; omega
  have e4 : (decide (0 ≤ n) && decide (n ≤ ((gt w.c who.toNat).pending.length : Int) - 1)) = true := by simp only [Ba]; omega
  simp [e3, e4]
 ·have e3 : (decide (n < 0) || decide (n ≥ ((gt w.c who.toNat).pending.length : Int))) = true := by simp only [Bq]; omega
  have e4 : (decide (0 ≤ n) && decide (n ≤ ((gt w.c who.toNat).pending.length : Int) - 1)) = false := by rw [Bool.eq_false_iff]; simp only [ne_eq, Ba]; omega
  simp [e3, e4, am]
variable {r' : List Int} {s : Int}
theorem B6 (h : IsW w l) (hu : w.up = true) (hw : 0 ≤ who ∧ who < 3) :
  bJ w ⟨6, who, n, node, parent, name, r⟩ (gt w.h.peers who.toNat).life s r' = did (ax w ⟨6, who, n, node, parent, name, r⟩) := by
 have e2 : (decide (who < 0) || decide (who ≥ (w.c.length : Int))) = false := by rw [h.three]; simp only [Bo]; omega
 unfold bJ ax did dh;simp only [e2, hu, write3 h hu, qi h hu, Cz, cond_false];by_cases h0 : (bd w.h (mx w who)).2 = 0
 ·have ht := (wP (uY h hu h0).hub.1).1;simp only at ht;simp only [h0, if_true, ht];generalize db _ _ = S;rcases qc S.2 with ⟨a, b, c⟩ | ⟨a, b, c⟩ <;> simp [a, b, c, am]
 ·have b := bne_iff_ne.2 h0;simp only [h0, if_false, b, cond_true, am]; simp [b]
theorem BJ (h : IsW w l) (hu : w.up = true) {f : Int} (hw : 0 ≤ who ∧ who < 3) :
  bJ w ⟨5, who, n, node, parent, name, r⟩ f s r' = did (ax w ⟨5, who, n, node, parent, name, r⟩) := by
 have e2 : (decide (who < 0) || decide (who ≥ (w.c.length : Int))) = false := by rw [h.three]; simp only [Bo]; omega
 unfold bJ ax did;simp only [e2, hu, write3 h hu, cond_false];generalize bL _ _ = S;rcases qc S.1 with ⟨a, b, c⟩ | ⟨a, b, c⟩ <;> simp [a, b, c, am]
theorem AE (h : IsW w l) (hu : w.up = true) (hw : 0 ≤ who ∧ who < 3) (hl : (gt w.h.peers who.toNat).life ≠ 0) : 1 ≤ w.h.version ∧ w.h.version ≤ 60 := by
 have hv := h.hub.2 hu;have h60 := h.sixty;rcases l with _ | ⟨a, l⟩
 ·have e := (h.up hu).2;rw [rB] at e;have e : dU = w.h := congrArg Prod.fst e;rw [← e] at hl;rcases (by omega : who.toNat = 0 ∨ who.toNat = 1 ∨ who.toNat = 2) with e | e | e <;> rw [e] at hl <;> exact absurd rfl hl
 ·simp only [List.length_cons] at hv h60; omega
theorem Dc (h : IsW w l) (hu : w.up = true) (hk : k = 3 ∨ k = 4) (hw : 0 ≤ who ∧ who < 3) :
  bJ w ⟨k, who, n, node, parent, name, r⟩ (gt w.h.peers who.toNat).life (gt w.h.peers who.toNat).seq (gt w.h.peers who.toNat).roots = did (ax w ⟨k, who, n, node, parent, name, r⟩) := by
 have e2 : (decide (who < 0) || decide (who ≥ (w.c.length : Int))) = false := by rw [h.three]; simp only [Bo]; omega
 have hh := h.hub.1;obtain ⟨s1, s2, s3⟩ := ya hh hw;obtain ⟨t1, t2⟩ := wP hh;have hd : ck w.d = 0 := by rw [← lM, h.recd]
 have hr : (aC w.d).2 = l := by rw [(mg hd).1, h.recd]
 have hp := (hh.peers (gt w.h.peers who.toNat) (gJ (by rw [hh.three]; omega))).rng;have o : (k == 1) = false ∧ (k == 2) = false ∧ (k == 6) = false ∧ (k == 5) = false := by rcases hk with rfl | rfl <;> decide
 unfold bJ ax did fj ak;simp only [e2, hu, s1, s2, t1, h.recd, hr, o, cond_false, Bool.not_true, bne_self_eq_false, sG, zF];by_cases hl : (gt w.h.peers who.toNat).life = 0
 ·simp [hl, am]
 ·have hv := AE h hu hw hl;have e0 : ((gt w.h.peers who.toNat).life == 0) = false := beq_eq_false_iff_ne.2 hl;simp only [e0, cond_false];rcases hk with rfl | rfl
  ·rw [post2 h.mail (BP hw rfl rfl ((nv _).2 (by simp only; omega)) s3)]; rfl
  ·have o3 : ((4 : Int) == 3) = false := rfl;simp only [o3, beq_self_eq_true, cond_false, cond_true];by_cases h0 : 0 ≤ n ∧ n < w.h.version
   ·have e3 : (decide (n < 0) || decide (n ≥ w.h.version)) = false := by simp only [Bo]; omega
    have e4 : (decide (0 ≤ n) && decide (n ≤ w.h.version - 1)) = true := by simp only [Ba]; omega
    simp only [e3, e4, Bool.not_true, cond_false];cases h5 : ((aF (l.take n.toNat)).2 != 0) with
    | true => simp [h5, am]
    | false =>
     have hg := (rC (ag h5)).1;obtain ⟨g1, g2, g3⟩ := ya hg hw;simp only [cond_false, g1, g2];cases h6 : (((gt (aF (l.take n.toNat)).1.peers who.toNat).life != (gt w.h.peers who.toNat).life) || !(decide ((gt (aF (l.take n.toNat)).1.peers who.toNat).roots = (gt w.h.peers who.toNat).roots))) with
     | true => simp [am]
     | false =>
      simp only [Bool.or_eq_false_iff, Bool.not_eq_false', decide_eq_true_eq] at h6;have hdl := xC g3 s3 h6.2;rw [hdl];rw [post2 h.mail (BO hw rfl rfl ((nv _).2 (by simp only; omega)) ((kj _).2 ⟨AM g3.known s3.known, AM g3.way s3.way⟩))]; rfl
   ·have e3 : (decide (n < 0) || decide (n ≥ w.h.version)) = true := by simp only [Bq]; omega
    have e4 : (decide (0 ≤ n) && decide (n ≤ w.h.version - 1)) = false := by rw [Bool.eq_false_iff]; simp only [ne_eq, Ba]; omega
    simp [e3, e4, am]
theorem tZ (h : IsW w l) (x : Happening) : aX w x = did (aY w x) := by
 have hr : (aC w.d).2 = l ∧ (aC w.d).1 = ⟨bw l, []⟩ := by
  rw [(mg (by rw [← lM, h.recd])).1, h.recd]; exact ⟨rfl, rfl⟩
 by_cases ha : x.kind = 7 ∨ x.kind = 8 ∨ x.kind = 9
 ·have hv : bX x = true := by unfold bX; rcases ha with e | e | e <;> rw [e] <;> rfl
  unfold aX aY;rw [hv, cond_true];by_cases hn : 0 ≤ x.n ∧ x.n < (w.mail.length : Int)
  ·have e4 : ak x.n 0 ((w.mail.length : Int) - 1) = true := by unfold ak; simp only [Ba]; omega
   have hh : x.kind ≠ 9 → _ := fun hx => DG h hx hn;rw [e4, Bool.not_true, cond_false, List.flatten_cons, List.flatten_cons, List.flatten_nil, List.append_nil];rcases ha with e | e | e <;> rw [e] at hh ⊢
   ·exact hh (by decide)
   ·exact hh (by decide)
   ·simp only [xI h.mail hn, d9, e]; rfl
  ·have e4 : ak x.n 0 ((w.mail.length : Int) - 1) = false := by unfold ak; rw [Bool.eq_false_iff]; simp only [ne_eq, Ba]; omega
   rw [e4];rcases ha with e | e | e <;> rw [e] <;> simp [cU, Cc h.mail hn, did, am]
 ·have hv : bX x = false := by unfold bX; simp only [not_or] at ha; simp [ha]
  unfold aX;rw [hv, cond_false, hr.1, hr.2, sG];by_cases hb : x.kind = 10 ∨ x.kind = 11
  ·have hp := BM h hb;have e : aY w x = dH w x := by unfold aY; rcases hb with e | e <;> rw [e] <;> rfl
   rw [e, hp];rcases hb with e | e <;> rw [e] <;> rfl
  ·obtain ⟨k, who, n, node, parent, name, r⟩ := x;simp only at ha hb ⊢;simp only [not_or] at ha hb;have e1 : (k == 10) = false := beq_eq_false_iff_ne.2 hb.1;have e2 : (k == 11) = false := beq_eq_false_iff_ne.2 hb.2;rw [e1, e2, cond_false, cond_false];by_cases hc : 1 ≤ k ∧ k ≤ 6
   ·have e4 : ak k 1 11 = true := by unfold ak; simp only [Ba]; omega
    have hk : k = 1 ∨ k = 2 ∨ k = 3 ∨ k = 4 ∨ k = 5 ∨ k = 6 := by omega
    have e5 : aY w ⟨k, who, n, node, parent, name, r⟩ = ax w ⟨k, who, n, node, parent, name, r⟩ := by unfold aY; rcases hk with rfl | rfl | rfl | rfl | rfl | rfl <;> rfl
    rw [e4, e5, Bool.not_true, cond_false];by_cases hw : 0 ≤ who ∧ who < 3
    ·have e6 : ak who 0 2 = true := by unfold ak; simp only [Ba]; omega
     rw [e6, Bool.not_true, cond_false];by_cases hk2 : k ≤ 2
     ·rw [show decide (k > 2) = false by simp only [decide_eq_false_iff_not]; omega, cond_false];rcases (by omega : k = 1 ∨ k = 2) with rfl | rfl
      ·exact DB h hw
      ·exact B9 h hw
     ·rw [show decide (k > 2) = true by simp only [decide_eq_true_eq]; omega, cond_true];cases hu : w.up with
      | false =>
       have e7 : (decide (who < 0) || decide (who ≥ (w.c.length : Int))) = false := by rw [h.three]; simp only [Bo]; omega
       unfold ax;rw [e7, beq_eq_false_iff_ne.2 (show k ≠ 1 by omega), beq_eq_false_iff_ne.2 (show k ≠ 2 by omega), hu]; rfl
      | true =>
       simp only [Bool.not_true, cond_false];rcases (by omega : k = 6 ∨ k = 5 ∨ (k = 3 ∨ k = 4)) with rfl | rfl | hk
       ·exact B6 h hu hw
       ·exact BJ h hu hw
       ·exact Dc h hu hk hw
    ·have e6 : ak who 0 2 = false := by unfold ak; rw [Bool.eq_false_iff]; simp only [ne_eq, Ba]; omega
     have e7 : (decide (who < 0) || decide (who ≥ (w.c.length : Int))) = true := by rw [h.three]; simp only [Bq]; omega
     unfold ax;rw [e6, e7]; rfl
   ·have e4 : ak k 1 11 = false := by unfold ak; rw [Bool.eq_false_iff]; simp only [ne_eq, Ba]; omega
    have hne : ∀ j : Int, 1 ≤ j → j ≤ 11 → (k == j) = false := fun j _ _ => beq_eq_false_iff_ne.2 (by omega);unfold aY;simp only [e4, hne 7 (by decide) (by decide), hne 8 (by decide) (by decide), hne 9 (by decide) (by decide), e1, e2, hne 1 (by decide) (by decide), hne 2 (by decide) (by decide), hne 3 (by decide) (by decide), hne 4 (by decide) (by decide), hne 5 (by decide) (by decide), hne 6 (by decide) (by decide)];rfl
theorem wH (h : bT w = 0) : dj w.h = 0 ∧ (w.d.safe.length ≤ 60000 ∧ w.d.safe.length + w.d.wait.length ≤ 60000) ∧ cx w.mail = 0 ∧ w.c.length = 3 ∧ (w.up = true → w.h.version ≤ ((aC w.d).2.length : Int)) := by
 obtain ⟨l, hw⟩ := (gn w).1 h;refine ⟨(ql h).1, pZ (t7 ((lg w).trans h)), hw.mail, hw.three, fun hu => ?_⟩;rw [(mg (by rw [← lM, hw.recd])).1, hw.hub.2 hu, hw.recd]; exact Int.le_refl _
theorem wy {S : Wld × Int} (h : bT w = 0) (hS : aX w x = S) (h0 : (S.2 == 0) = true) : bT S.1 = 0 := by
 obtain ⟨l, hl⟩ := (gn w).1 h;rw [tZ hl x] at hS;subst hS;unfold did at h0 ⊢;cases h1 : ((aY w x).1 != 0) with
 | true => rw [h1, cond_true] at h0; simp only at h0; rw [eq_of_beq h0] at h1; cases h1
 | false => exact kL h (ag h1)
def cY (w1 : Wld) (l1 : List Happening) : List Happening → (List Int) → Wld → Bool
 | [], want1, w2 => ((((cQ w1 l1).2.2 == 0) && (decide ((cQ w1 l1).2.1 = want1))) && (eC (cQ w1 l1).1 w2))
 | pn1 :: rn1, want1, w2 => (bif ((aX w2 pn1).2 == 0) then (cY w1 l1 rn1 (want1 ++ [(aX w2 pn1).2]) (aX w2 pn1).1) else (cY w1 l1 rn1 (want1 ++ [(aX w2 pn1).2]) w2))
def fm (w1 : Wld) (l1 : List Happening) (bad1 : Int) : Bool :=
 (bif ((!gZ) || (bad1 != 0)) then (((gZ && ((cQ w1 l1).2.2 == bad1)) && (((cQ w1 l1).2.1.length : Int) == 0)) && (eC (cQ w1 l1).1 (⟨(⟨(⟨[], []⟩ : History), 0, ([] : List Peer)⟩ : Hub), (⟨[], []⟩ : Disk), false, ([] : List Client), ([] : List Mail)⟩ : Wld))) else (cY w1 l1 l1 [] w1))
def fo (w1 : Wld) (l1 : List Happening) : Bool :=
 (bif (((cI w1) == 0) && decide ((l1.length : Int) > 100)) then (fm w1 l1 2) else (fm w1 l1 (cI w1)))
theorem t8 (y1 : SlV) (y2 : SlV) (y3 : SlV) (y4 : SlV) (y5 : SlV) (y6 : SlV) (y7 : SlV) (w1 : Wld) (y8 : SlV) (l1 : List Happening) : Du 3 [.agg ⟨cW y1 y2 y3 y4 y5 y6 y7 w1⟩, y8.val l1.length] [RdL EStep y1 w1.h.h.l, RdL EPlace y2 w1.h.h.t, RdN NPeer y3 w1.h.peers, RdL EByte y4 w1.d.safe, RdL EByte y5 w1.d.wait, RdN NClient y6 w1.c, RdN NMail y7 w1.mail, RdN NHap y8 l1, LibP Tryz.prog] (.bool (fo w1 l1)) := by
 refine Dp Tryz.func3 fun C => ?_;refine Qc y1 88 fun hlen1 => ?_;refine Qc y2 24 fun hlen2 => ?_;refine Qn y3 40 fun hlen3 => ?_;refine Qc y4 1 fun hlen4 => ?_;refine Qc y5 1 fun hlen5 => ?_;refine Qn y6 128 fun hlen6 => ?_;refine Qn y7 280 fun hlen7 => ?_;refine Qn y8 72 fun hlen8 => ?_;refine BxT fun g1 => ?_;refine Ck (pK y1 y2 y3 y4 y5 y6 y7 w1 y8 l1) fun x1 => ?_;refine AlT fun g2 => ?_;refine Ck (lF y1 y2 y3 y4 y5 y6 y7 w1) fun _ => ?_;refine Tx ?_;refine my [1, 2, 4, 5, 6, 7] [true, true] (fun (bad1 : Int) => [(8, .v (.int .i64 bad1))]) (fun (bad1 : Int) => []) (fun (bad1 : Int) => []) (fun (bad1 : Int) => []) (fun (bad1 : Int) => (bad1 = 0 → bT w1 = 0) ∧ (fm w1 l1 bad1) = (fo w1 l1)) (.cons rfl (.cons rfl (.cons rfl (.cons rfl (.cons rfl (.cons rfl (.nil _))))))) (.keep (.keep (.nil))) ?_ ?_
 ·have hf := Ri (fo.eq_1 w1 l1);refine Ch hf (fun hc1 hf => ?_) fun hc1 hf => ?_
  ·refine Tx ?_;refine ⟨2, ⟨(by first | exact (lg w1).symm.trans | (intro h; cases h)), hf.symm⟩, Le4⟩
  ·refine Tx ?_;refine ⟨(cI w1), ⟨(by first | exact (lg w1).symm.trans | (intro h; cases h)), hf.symm⟩, Le4⟩
 ·rintro bad1 ⟨hbd, hj1⟩;simp only [Lc];refine Ck (j9 ) fun _ => ?_;have hf := Ri hj1.symm;rw [fm] at hf;refine Ch hf (fun hc2 hf => ?_) fun hc2 hf => ?_
  ·refine Ck (j9 ) fun _ => ?_;refine Tx ?_;refine Fr EStep ?_;refine Fr EPlace ?_;refine Fm NPeer ?_;refine Fr EByte ?_;refine Fm NClient ?_;refine Fm NMail ?_;refine Cy (fun hG_ => jp x1.1 x1.2.1 x1.2.2.1 x1.2.2.2.1 x1.2.2.2.2.1 x1.2.2.2.2.2.1 x1.2.2.2.2.2.2.1 (cQ w1 l1).1 Z0 Z0 Z0 Z0 Z0 Z0 Z0 (⟨(⟨(⟨[], []⟩ : History), 0, ([] : List Peer)⟩ : Hub), (⟨[], []⟩ : Disk), false, ([] : List Client), ([] : List Mail)⟩ : Wld)) ?_;exact Ru
  ·refine Lq (List Int × SlV × Option Nat × Nat × Wld × SlV × SlV × SlV × SlV × SlV × SlV × SlV) [2,4,5,6,7,52,53] [true, false] (fun ⟨want1, x2, x2b, n1, w2, x3, x4, x5, x6, x7, x8, x9⟩ => ⟨[(9, .v (x2.val want1.length)), (54, .v (.int .i64 (n1 : Int)))], [⟨g1, 37, cW x3 x4 x5 x6 x7 x8 x9 w2⟩], [ownL EInt 40 x2 x2b want1], [RdL EStep x3 w2.h.h.l, RdL EPlace x4 w2.h.h.t, RdN NPeer x5 w2.h.peers, RdL EByte x6 w2.d.safe, RdL EByte x7 w2.d.wait, RdN NClient x8 w2.c, RdN NMail x9 w2.mail], (n1 ≤ l1.length) ∧ (want1.length ≤ n1) ∧ (bT w2 = 0) ∧ (cY w1 l1 (l1.drop n1) want1 w2) = (fo w1 l1), l1.length - n1⟩) ⟨[], ⟨none, 0⟩, none, 0, w1, y1, y2, y3, y4, y5, y6, y7⟩ ⟨N0, Nz, (hbd (ag (Bool.or_eq_false_iff.1 (by assumption)).2)), hf.symm⟩ ?_ (hs := Le.trans (eI EInt 40) Le4);rintro ⟨want1, x2, x2b, n1, w2, x3, x4, x5, x6, x7, x8, x9⟩ ⟨hkn1, hwant1, hinv, hf1⟩;simp only [Lc];refine Cu (fun hlt0 => ?_) fun hge0 => ?_
   ·refine Tx ?_;refine Ex NHap y8 fun (γ1 : Nat → SlV) => ?_;refine Sq (Xn n1) ?_;refine Sq (Xe (cA (γ1 n1) (gt l1 n1))) ?_;refine Gg NHap γ1 n1 0 ?_;refine AlT fun g3 => ?_;refine Ck (mt x3 x4 x5 x6 x7 x8 x9 w2 (γ1 n1) (gt l1 n1) (wH hinv).1 (wH hinv).2.1 (wH hinv).2.2.1 (wH hinv).2.2.2.1 (wH hinv).2.2.2.2) fun x10 => ?_;generalize hS1 : (aX w2 (gt l1 n1)) = S1;have hf := Ri hf1.symm;rw [aK hlt0, cY] at hf;try rw [hS1] at hf
    refine AlT fun g4 => ?_;refine Ce hf (fun hc4 hc4p hf => ?_) fun hc4 hc4p hf => ?_
    ·refine Bl EInt [S1.2] fun x11 x11b => ?_;refine Ap EInt 8 want1 [S1.2] x2b fun x12 x12b => ?_;refine Tt ?_;refine ⟨⟨(want1 ++ [S1.2]), x12, x12b, (n1 + 1), S1.1, x10.1, x10.2.1, x10.2.2.1, x10.2.2.2.1, x10.2.2.2.2.1, x10.2.2.2.2.2.1, x10.2.2.2.2.2.2⟩, ⟨hlt0, (by (try simp only [Ln]); omega), (by first | exact hinv | exact wy hinv (by assumption) (by assumption)), hf.symm⟩, Oo, Le4⟩
    ·refine Bl EInt [S1.2] fun x13 x13b => ?_;refine Ap EInt 8 want1 [S1.2] x2b fun x14 x14b => ?_;refine Tt ?_;refine ⟨⟨(want1 ++ [S1.2]), x14, x14b, (n1 + 1), w2, x3, x4, x5, x6, x7, x8, x9⟩, ⟨hlt0, (by (try simp only [Ln]); omega), (by first | exact hinv | exact wy hinv (by assumption) (by assumption)), hf.symm⟩, Oo, Le4⟩
   ·refine Tx ?_;refine v4 (fun hG_ => (fun y1 a y2 b => mD y1 y2 a b) x1.2.2.2.2.2.2.2 (cQ w1 l1).2.1 x2 want1) Zf .sq (ce rfl rfl rfl) rfl rfl rfl Kr rfl Bt (.fact Mm (.own Mm (.nil _ _))) ?_;refine Cy (fun hG_ => jp x1.1 x1.2.1 x1.2.2.1 x1.2.2.2.1 x1.2.2.2.2.1 x1.2.2.2.2.2.1 x1.2.2.2.2.2.2.1 (cQ w1 l1).1 x3 x4 x5 x6 x7 x8 x9 w2) ?_;have hf := Ri hf1.symm;rw [Dl hge0, cY] at hf;exact Ru
theorem wR (a b : Wld) : eC a b = ph a b := by
 unfold eC ph;rw [xJ, (funext fun x => funext fun y => vI x y : em = jN)];rfl
theorem mz (a : Wld) : eC a a = true := (wR a a).trans (sL a)
theorem xK (W : Wld) (L : List Happening) : ∀ (r : List Happening) (said : List Int) (w : Wld), bT w = 0 → cQ W L = eO r said w → cY W L r said w = true
 | [], said, w, _, e => by rw [cY, e, eO]; simp [mz]
 | x :: r, said, w, h, e => by
  obtain ⟨l, hl⟩ := (gn w).1 h;rw [eO] at e;rw [cY, tZ hl x];unfold did;rcases qc (aY w x).1 with ⟨a, b, c⟩ | ⟨a, b, c⟩
  ·rw [c, cond_true, a] at e;rw [b];exact xK W L r _ _ (kL h a) e
  ·rw [c, cond_false] at e;simp only [b, cond_true, c, cond_false];exact xK W L r _ _ h e
theorem Bs (w : Wld) (l : List Happening) : fo w l = true := by
 unfold fo fm;rw [xf, lg];rcases qc (bT w) with ⟨a, b, c⟩ | ⟨a, b, c⟩
 ·cases hl : decide ((l.length : Int) > 100) with
  | true =>
   have e : cQ w l = (wld0, [], 2) := by unfold cQ; rw [b, hl]; rfl
   rw [e, mz, c]; rfl
  | false =>
   have hl := of_decide_eq_false hl;simp only [b, c, Bool.and_false, Bool.not_true, Bool.or_self, cond_false];exact xK w l l [] w a (CZ a (by omega))
 ·have e : cQ w l = (wld0, [], bT w) := by unfold cQ; rw [b]; rfl
  simp only [b, c, e, mz]; simp
end Go.Proofs.YtkjccbdeaflekaaGreatDoor
