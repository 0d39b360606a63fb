/- Part of this claim. No condition. -/
import Derived.Test.YtkjccbdeaflekaaGreatDoorS3
import Derived.Test.YtkjccbdeaflekaaGreatDoorS10
import Derived.Test.YtkjccbdeaflekaaGreatDoorS7
import Derived.Lib.Join
import Derived.Lib.ItoaLen
import Derived.Test.YtkjccbdeaflekaaGreatDoorS4
import Derived.Test.YtkjccbdeaflekaaGreatDoorS8
import Derived.Test.YtkjccbdeaflekaaGreatDoorS5
set_option linter.unusedVariables false
set_option linter.unusedSimpArgs false
namespace Go.Proofs.YtkjccbdeaflekaaGreatDoor
open Go Go.Proofs.YtkjccbdeaflekaaGreatDoor.Fw Go.Proofs Go.RowKit Go.Sort
theorem rg (w : World) (k : Nat) (os : Array Obj) : Below w.heap.size w (grow (w.drewN k) os) :=
 ⟨rfl, rfl, rfl, by show w.heap.size ≤ (w.heap ++ os).size; rw [Array.size_append]; omega, fun j hj => heap_grow_old (w.drewN k) os hj⟩
theorem vE (n : Int) (h : -9223372036854775808 ≤ n ∧ n ≤ 9223372036854775807) : Does Tryz.prog 147 [.int .i64 n] [LibP Tryz.prog] (fun (_ : Unit) => sV (Lib.itoa n)) (fun (_ : Unit) => []) :=
 kP (fun _ => inferInstance) fun M w _ hp => (Tryz.strconv_Itoa n h.1 h.2 w (hp _ (.head _)).2.tab).mono fun e w' ⟨he, k, os, hw⟩ => ⟨(), he, hw ▸ rg _ _ _, fun F hF => by cases hF⟩
theorem s8 (n b : Int) (hb : b = 10) (h : -9223372036854775808 ≤ n ∧ n ≤ 9223372036854775807) : Does Tryz.prog 167 [.int .i64 n, .int .i64 b] [LibP Tryz.prog] (fun (_ : Unit) => sV (Lib.itoa n)) (fun (_ : Unit) => []) := by
 subst hb
 exact kP (fun _ => inferInstance) fun M w _ hp => (Tryz.strconv_FormatInt_10 n h.1 h.2 w (hp _ (.head _)).2.tab).mono fun e w' ⟨he, k, os, hw⟩ => ⟨(), he, hw ▸ rg _ _ _, fun F hF => by cases hF⟩
theorem yT (t : Str) (h : t.length ≤ 281474976710656) : Does Tryz.prog 192 [sV t] [LibP Tryz.prog] (fun (X : Nat) => .tuple #[.int .i64 (atv t), eV (ate t) 270 (.pointer (some ⟨X, 0, none⟩))]) (fun (_ : Nat) => []) :=
 kP (fun _ => inferInstance) fun M w _ hp => by
  have hs := kk t
  obtain ⟨_, _, ⟨tp, p, h1⟩, ⟨tp', p', h2⟩⟩ := (hp _ (.head _)).2
  cases he : Lib.atoiAll t with
  | ok v =>
   refine (Tryz.strconv_Atoi_ok ⟨t.toArray⟩ (by rw [hs]; omega) v he w).mono fun e w' ⟨h3, h4⟩ => ⟨0, by rw [h3, atv, ate, he]; rfl, ?_, fun F hF => by cases hF⟩
   rcases h4 with rfl | ⟨u, rfl⟩
   ·exact Below.refl _ _
   ·exact rh _ _ _
  | range =>
   exact (Any.strconv_Atoi_range_var Tryz.laysC172 ⟨t.toArray⟩ (by rw [hs]; omega) he tp' p' w h2).mono fun e w' ⟨N, h3, _, _, h5⟩ => ⟨N, by rw [h3, atv, ate, he]; rfl, h5, fun F hF => by cases hF⟩
  | _ =>
   exact (Any.strconv_Atoi_syntax_var Tryz.laysC172 ⟨t.toArray⟩ (by rw [hs]; omega) he tp p w h1).mono fun e w' ⟨N, h3, _, _, h5⟩ => ⟨N, by rw [h3, atv, ate, he]; rfl, h5, fun F hF => by cases hF⟩
theorem ua (t : Str) (b c : Int) (hb : b = 10 ∧ c = 64) (h : t.length ≤ 281474976710656) : Does Tryz.prog 166 [sV t, .int .i64 b, .int .i64 c] [LibP Tryz.prog] (fun (X : Nat) => .tuple #[.int .i64 (ptv t), eV (ate t) 270 (.pointer (some ⟨X, 0, none⟩))]) (fun (_ : Nat) => []) := by
 obtain ⟨rfl, rfl⟩ := hb
 exact kP (fun _ => inferInstance) fun M w _ hp => by
  have hs := kk t
  have hpt := Lib.parseIntB_64 t
  obtain ⟨_, _, ⟨tp, p, h1⟩, ⟨tp', p', h2⟩⟩ := (hp _ (.head _)).2
  cases he : Lib.atoiAll t with
  | ok v =>
   refine (Tryz.strconv_ParseInt_10_at64_ok ⟨t.toArray⟩ (by rw [hs]; omega) v (hpt.trans he) w).mono fun e w' ⟨h3, h4⟩ => ⟨0, by rw [h3, ptv, ate, he]; rfl, ?_, fun F hF => by cases hF⟩
   rcases h4 with rfl | ⟨u, rfl⟩
   ·exact Below.refl _ _
   ·exact rh _ _ _
  | range =>
   exact (Any.strconv_ParseInt_10_at64_range_var Tryz.laysC174 ⟨t.toArray⟩ (by rw [hs]; omega) (hpt.trans he) tp' p' w h2).mono fun e w' ⟨N, h3, _, _, h5⟩ => ⟨N, by rw [h3, ptv, ate, he]; rfl, h5, fun F hF => by cases hF⟩
  | _ =>
   exact (Any.strconv_ParseInt_10_at64_syntax_var Tryz.laysC174 ⟨t.toArray⟩ (by rw [hs]; omega) (hpt.trans he) tp p w h1).mono fun e w' ⟨N, h3, _, _, h5⟩ => ⟨N, by rw [h3, ptv, ate, he]; rfl, h5, fun F hF => by cases hF⟩
theorem uQ {M : Nat → Prop} {w : World} (h : LibP Tryz.prog M w) : ∃ m, w.cell? ⟨0, 0, none⟩ = some (.int .i64 m) := by
 obtain ⟨g, m, hg, hc⟩ := h.2.len
 obtain rfl := Option.some.inj ((show Tryz.prog.globalNamed "internal/bytealg.MaxLen" = some 0 by kernel_rfl).symm.trans hg)
 exact ⟨m, hc⟩
theorem xQ (s sep : Str) (hs : sep = [32]) (h : s.length < 4294967281) : Does Tryz.prog 191 [sV s, sV sep] [LibP Tryz.prog] (fun (X : SlV) => X.val (spl 32 s).length) (fun (X : SlV) => [RdL EStr X (spl 32 s)]) := by
 subst hs
 exact kP (fun _ => inferInstance) fun M w hM hp => by
  obtain ⟨m, hm⟩ := uQ (hp _ (.head _))
  refine (Tryz.strings_Split ⟨s.toArray⟩ ⟨#[32]⟩ m w (by rw [kk]; exact h) hm (by decide)).mono fun e w' ⟨h1, h2⟩ => ?_
  have hl := wn 32 s
  have hlen : Lib.countB ⟨s.toArray⟩ ⟨#[32]⟩ + 1 = (spl 32 s).length := by
   have h3 := congrArg List.length hl
   rw [List.length_map, List.length_map] at h3
   rw [← h3, Lib.splitB_all ⟨#[32]⟩ (by decide) 0 _ _ rfl]
  rw [hl] at h2
  rw [hlen] at h1
  subst h2
  have hb := (uG 32 s).2
  refine ⟨⟨some ⟨w.heap.size, 0, none⟩, (spl 32 s).length⟩, h1, ri _ _, fun F hF => ?_⟩
  rw [List.mem_singleton] at hF
  subst hF
  exact tQ hM _ _ (by omega)
theorem uR {c : UInt8} (s sep : Str) (hs : sep = [c]) (h : s.length < 4294967281) : Does Tryz.prog 153 [sV s, sV sep] [LibP Tryz.prog] (fun (_ : Unit) => .tuple #[sV (cutc c s).1, sV (cutc c s).2.1, .bool (cutc c s).2.2]) (fun (_ : Unit) => []) := by
 subst hs
 exact kP (fun _ => inferInstance) fun M w hM hp => by
  obtain ⟨m, hm⟩ := uQ (hp _ (.head _))
  refine (Tryz.strings_Cut ⟨s.toArray⟩ ⟨#[c]⟩ m w (by rw [kk]; exact h) hm).mono fun e w' ⟨h1, n, h2⟩ => ⟨(), ?_, h2 ▸ u9 n, fun F hF => by cases hF⟩
  rw [h1, show Lib.cut (ByteArray.mk s.toArray).data.toList (ByteArray.mk #[c]).data.toList = cutc c s from zf c s]
theorem s7 (s p : Str) (h : s.length ≤ 9223372036854775807) : Does Tryz.prog 121 [sV s, sV p] [] (fun (_ : Unit) => .bool (Lib.hasSuffix s p)) (fun (_ : Unit) => []) :=
 kP (fun _ => inferInstance) fun M w hM hp => by
  refine (Tryz.strings_HasSuffix ⟨s.toArray⟩ ⟨p.toArray⟩ w (by rw [kk]; exact h)).mono fun e w' ⟨h1, h2⟩ => ⟨(), h1, h2 ▸ Below.refl _ _, fun F hF => by cases hF⟩
end Go.Proofs.YtkjccbdeaflekaaGreatDoor

set_option maxHeartbeats 2000000
namespace Go.Proofs.YtkjccbdeaflekaaGreatDoor
open Go Go.Proofs.YtkjccbdeaflekaaGreatDoor.Fw Go.Proofs
attribute [local irreducible] RdL RdN VarP LibP RW CW
theorem dJ (x : SlV) (l : List UInt8) : DoesG Tryz.prog 83 [x.val l.length] [RdL EByte x l] ⟨[], []⟩ (fun (X : SlV × Option Nat) => X.1.val l.length) (fun _ => []) (fun X => ⟨[], [ownL EByte 5 X.1 X.2 l]⟩) := by
 refine Dq aH Tryz.func83 Tryz.ntmps83 Tryz.results83 fun C => ?_
 refine eI (φ := l.length * EByte.by_ ≤ 140737488355328) [RdL EByte x l] Sm (fun M w h => (allF1 h).len) fun hlen => ?_
 refine Sy Tz (lJ rfl rfl Zf rfl) ?_
 refine eo ?_
 (repeat refine aI ?_); refine jR rfl rfl (fun hc0 => ?_) (fun hc0 => ?_)
 ·refine eI [RdL EByte x l] Sm (fun M w h => (allF1 h).nil_of hc0) fun hnil => ?_
  subst hnil
  refine cw_le (eu EByte 5) ?_
  refine Tx ?_
  (repeat refine aI ?_); refine d8 ?_
  exact ⟨(⟨none, 0⟩, none), _, (.cons (.tmp rfl) .nil), rfl, .nil _, .nil _, Sp⟩
 ·refine Bl EByte [] fun x1 x1b => ?_
  refine Rp rfl rfl rfl rfl ?_
  refine Ap EByte 1 [] l x1b (hb := by simp only [List.length_nil, Nat.zero_add]; exact hlen) fun x2 x2b => ?_
  refine Tx ?_
  (repeat refine aI ?_); refine d8 ?_
  exact ⟨(x2, x2b), _, (.cons (.tmp rfl) .nil), rfl, .nil _, .nil _, Sp⟩
theorem mp (y : SlV) (l : List UInt8) (n : Int) (hy : y = ⟨none, 0⟩ ∧ l = []) (hn : 0 ≤ n ∧ n * 1 ≤ 140737488355328) : DoesG Tryz.prog 123 [y.val l.length, .int .i64 n] [RdL EByte y l] ⟨[], []⟩ (fun (X : SlV × Option Nat) => X.1.val ([] : List UInt8).length) (fun _ => []) (fun X => ⟨[], [ownL EByte 5 X.1 X.2 []]⟩) := by
 obtain ⟨hy1, hy2⟩ := hy
 subst hy1; subst hy2
 obtain ⟨k, rfl⟩ : ∃ k : Nat, n = k := ⟨n.toNat, by omega⟩
 refine Dq aH Tryz.func123 Tryz.ntmps123 Tryz.results123 fun C => ?_
 refine cw_le (eu EByte 5) ?_
 refine Cd' (fun hc => ?_) fun hc => ?_
 ·exact absurd (of_decide_eq_true hc) (by omega)
 ·refine Sy Tz (q_cap rfl rfl Zf rfl) ?_
  refine Tx ?_
  refine Sq (q_is (v' := .int .i64 0) (q_sub rfl rfl Zf rfl Zf (fun _ => by decide)) rfl) ?_
  refine Sq (q_is (v' := .int .i64 (k : Int)) (q_sub rfl rfl Zf rfl Zf Zo) (by simp)) ?_
  refine Cd' (fun hc1 => ?_) fun hc1 => ?_
  ·have hk := of_decide_eq_true hc1
   refine Sy Tz (q_cap rfl rfl Zf rfl) ?_
   refine Sq (qC (h := 0) rfl rfl Zf rfl Zf rfl rfl Zf (fun _ => Nat.le_refl _)) ?_
   refine Rp rfl rfl rfl rfl ?_
   refine pa (n := k) (e := 5) (by_ := 1) .sq (am rfl) rfl rfl rfl rfl rfl rfl rfl rfl und_3 (fun _ _ _ => .here _ _ _) rfl rfl rfl rfl rfl rfl (by omega) (by omega) (by omega) fun x1 b1 zs => ?_
   refine Tx ?_
   refine qa (k := 0) .sq (am rfl) rfl rfl rfl rfl rfl rfl rfl rfl rfl (.here _ _ _) rfl (Nat.zero_le _) ?_
   refine Tx ?_
   (repeat refine aI ?_); refine d8 ?_
   exact ⟨(x1, b1), _, (.cons (.tmp rfl) .nil), rfl, .nil _, .nil _, Sp⟩
  ·refine Tx ?_
   (repeat refine aI ?_); refine d8 ?_
   exact ⟨(⟨none, 0⟩, none), _, (.cons (.tmp rfl) .nil), rfl, .nil _, .nil _, Sp⟩
def bZ  : List (List UInt8) → (List UInt8) → (List UInt8)
 | [], newslice1 => newslice1
 | pn2 :: rn2, newslice1 => (bZ rn2 (newslice1 ++ pn2))
def dv (slices1 : List (List UInt8)) : List (List UInt8) → Nat → (List UInt8)
 | [], size1 => (bZ slices1 ([] : List UInt8))
 | pn1 :: rn1, size1 => (bif decide (((size1 : Int) + (pn1.length : Int)) < 0) then [] else (dv slices1 rn1 (size1 + pn1.length)))
def dm (slices1 : List (List UInt8)) : List UInt8 :=
 (dv slices1 slices1 0)
theorem lc (y1 : SlV) (slices1 : List (List UInt8)) (hct : slices1.flatten.length * 1 ≤ 140737488355328) : DoesG Tryz.prog 74 [y1.val slices1.length] [RdN NBytes y1 slices1] ⟨[], []⟩ (fun (X : SlV × Option Nat) => X.1.val (dm slices1).length) (fun X => []) (fun X => ⟨[], [ownL EByte 5 X.1 X.2 (dm slices1)]⟩) := by
 refine Dq aH Tryz.func74 Tryz.ntmps74 Tryz.results74 fun C => ?_
 refine Pn NBytes y1 slices1 24 fun hlen1 => ?_
 refine Lq (Nat × Nat) [0,2,9,10] [] (fun ⟨size1, n1⟩ => ⟨[(3, .v (.int .i64 (size1 : Int))), (11, .v (.int .i64 (n1 : Int)))], [], [], [], (n1 ≤ slices1.length) ∧ (size1 = ((slices1.take n1).flatten.length : Int)) ∧ (dv slices1 (slices1.drop n1) size1) = (dm slices1), slices1.length - n1⟩) ⟨0, 0⟩ ⟨Nat.zero_le _, (by simp), (by simp only [dm, Cf] : (dm slices1) = (dv slices1 slices1 0)).symm⟩ ?_
 rintro ⟨size1, n1⟩ ⟨hkn1, hsz, hf1⟩
 simp only [Lc]
 refine Cu (fun hlt0 => ?_) fun hge0 => ?_
 ·refine Tx ?_
  refine e8 NBytes (X := y1) (l := slices1) Mm fun (γ1 : Nat → SlV) => ?_
  refine Sq (Xn NBytes n1) ?_
  refine Sq (iy NBytes γ1 (v := (γ1 n1).val (gt slices1 n1).length) rfl rfl Zf rfl rfl Mm (fun _ => by first | assumption | omega) rfl) ?_
  refine Fg NBytes γ1 slices1 n1 0 ?_
  refine Tx ?_
  refine Sq (q_add rfl rfl Zf rfl Zf (fun _ => by have := (iC slices1 hlt0).2; omega)) ?_
  have hf := Ri hf1.symm
  rw [aU hlt0, dv] at hf
  refine Cp hf (fun hc2 hc2p hf => ?_) fun hc2 hc2p hf => ?_
  ·exact absurd (of_decide_eq_true hc2) (by omega)
  ·refine Tt ?_
   refine ⟨⟨(size1 + (gt slices1 n1).length), (n1 + 1)⟩, ⟨hlt0, (by rw [(iC slices1 hlt0).1, List.length_append]; simp only [hsz]; omega), hf.symm⟩, Oo, Le4⟩
 ·refine Tx ?_
  refine Fr EByte ?_
  refine Cm (mp Z0 ([] : List UInt8) (size1 : Int) ⟨rfl, rfl⟩ (by have h_ : (slices1.take n1).flatten.length ≤ slices1.flatten.length := (by rw [List.take_of_length_le hge0]; exact Nat.le_refl _); omega)) fun x1 => ?_
  refine Lq (List UInt8 × SlV × Option Nat × Nat) [2,25,26] [] (fun ⟨newslice1, x2, x2b, n2⟩ => ⟨[(6, .v (x2.val newslice1.length)), (27, .v (.int .i64 (n2 : Int)))], [], [ownL EByte 5 x2 x2b newslice1], [], (n2 ≤ slices1.length) ∧ (newslice1.length = (slices1.take n2).flatten.length) ∧ (bZ (slices1.drop n2) newslice1) = (dm slices1), slices1.length - n2⟩) ⟨([] : List UInt8), x1.1, x1.2, 0⟩ ⟨Nat.zero_le _, (by simp), (by rw [← hf1, List.drop_of_length_le hge0]; simp only [dv, Cf] : (dm slices1) = (bZ slices1 ([] : List UInt8))).symm⟩ ?_
  rintro ⟨newslice1, x2, x2b, n2⟩ ⟨hkn2, hnl, hf2⟩
  simp only [Lc]
  refine Cu (fun hlt1 => ?_) fun hge1 => ?_
  ·refine Tx ?_
   refine e8 NBytes (X := y1) (l := slices1) Mm fun (γ2 : Nat → SlV) => ?_
   refine Sq (Xn NBytes n2) ?_
   refine Sq (iy NBytes γ2 (v := (γ2 n2).val (gt slices1 n2).length) rfl rfl Zf rfl rfl Mm (fun _ => by first | assumption | omega) rfl) ?_
   refine Fg NBytes γ2 slices1 n2 0 ?_
   refine Ap EByte 1 newslice1 (gt slices1 n2) x2b (hb := (by have := (iC slices1 hlt1).2; show (_ + _) * 1 ≤ _; omega)) fun x3 x3b => ?_
   refine Tt ?_
   refine ⟨⟨(newslice1 ++ (gt slices1 n2)), x3, x3b, (n2 + 1)⟩, ⟨hlt1, (by rw [(iC slices1 hlt1).1]; simp only [List.length_append]; omega), (by rw [← hf2, aU hlt1]; simp only [bZ, Cf] : (dm slices1) = (bZ (slices1.drop (n2 + 1)) (newslice1 ++ (gt slices1 n2)))).symm⟩, Oo, Le4⟩
  ·have hf := Ri hf2.symm
   rw [List.drop_of_length_le hge1, bZ] at hf
   refine Rx ?_; exact Re ⟨x2, x2b⟩ Rv
theorem mw (ls : List (List UInt8)) : dm ls = ls.flatten := by
 have h1 : ∀ (l : List (List UInt8)) (acc : List UInt8), bZ l acc = acc ++ l.flatten := by
  intro l
  induction l with
  | nil => intro acc; simp [bZ]
  | cons a r ih => intro acc; rw [bZ, ih]; simp
 have h0 : ∀ (l : List (List UInt8)) (k : Nat), dv ls l k = bZ ls [] := by
  intro l
  induction l with
  | nil => intro k; rfl
  | cons a r ih =>
   intro k
   have : decide (((k : Int) + (a.length : Int)) < 0) = false := by simp; omega
   rw [dv, this, cond_false, ih]
 rw [dm, h0, h1, List.nil_append]
theorem ek (y1 : SlV) (ls : List (List UInt8)) (hct : ls.flatten.length * 1 ≤ 140737488355328) : DoesG Tryz.prog 74 [y1.val ls.length] [RdN NBytes y1 ls] ⟨[], []⟩ (fun (X : SlV × Option Nat) => X.1.val ls.flatten.length) (fun _ => []) (fun X => ⟨[], [ownL EByte 5 X.1 X.2 ls.flatten]⟩) := by
 have := lc y1 ls hct
 rw [mw] at this
 exact this
end Go.Proofs.YtkjccbdeaflekaaGreatDoor

namespace Go.Proofs.YtkjccbdeaflekaaGreatDoor
open Go Go.Proofs.YtkjccbdeaflekaaGreatDoor.Fw Go.Proofs
abbrev I64 (n : Int) : Prop := -9223372036854775808 ≤ n ∧ n ≤ 9223372036854775807
theorem ka {n a b : Int} : ap n a b = true ↔ a ≤ n ∧ n ≤ b := by simp [ap]
theorem nF (o : Op) : c8 o = 0 ↔ (1 ≤ o.time ∧ o.time ≤ 10000) ∧ (0 ≤ o.who ∧ o.who ≤ 2) ∧ (1 ≤ o.node ∧ o.node ≤ 15) ∧ (0 ≤ o.parent ∧ o.parent ≤ 16) ∧ (0 ≤ o.name ∧ o.name ≤ 99) ∧ (1 ≤ o.life ∧ o.life ≤ 50) ∧ (1 ≤ o.seq ∧ o.seq ≤ 30) := by
 unfold c8
 generalize hb : (((((((((((((decide (o.time < 1) || decide (o.time > 10000)) || decide (o.who < 0)) || decide (o.who ≥ 3)) || decide (o.node < 1)) || decide (o.node ≥ 16)) || decide (o.parent < 0)) || decide (o.parent > 16)) || decide (o.name < 0)) || decide (o.name > 99)) || decide (o.life < 1)) || decide (o.life > 50)) || decide (o.seq < 1)) || decide (o.seq > 30)) = b
 cases b with
 | true =>
  simp only [cond_true]
  simp only [Bool.or_eq_true, decide_eq_true_eq] at hb
  constructor
  ·intro h; exact absurd h (by decide)
  ·intro h; simp only [or_assoc] at hb; rcases hb with hb | hb | hb | hb | hb | hb | hb | hb | hb | hb | hb | hb | hb | hb <;> omega
 | false =>
  simp only [cond_false]
  simp only [Bool.or_eq_false_iff, decide_eq_false_iff_not] at hb
  refine ⟨fun _ => ?_, fun _ => trivial⟩
  refine ⟨⟨?_, ?_⟩, ⟨?_, ?_⟩, ⟨?_, ?_⟩, ⟨?_, ?_⟩, ⟨?_, ?_⟩, ⟨?_, ?_⟩, ?_, ?_⟩ <;> omega
theorem rH (o : Op) : aJ o = c8 o := by
 have h1 := nF o
 have h2 : aJ o = 0 ↔ c8 o = 0 := by
  rw [h1]
  unfold aJ aQ
  generalize hb : (((!(ap o.node 1 15)) || (!(ap o.parent 0 16))) || (!(ap o.name 0 99))) = b
  cases b with
  | true =>
   simp only [Bool.or_eq_true, Bool.not_eq_true', ← Bool.not_eq_true, ka] at hb
   simp
   omega
  | false =>
   simp only [Bool.or_eq_false_iff, Bool.not_eq_false', ka] at hb
   simp only [cond_false]
   generalize hc : (((((!(ap o.time 1 10000)) || (!(ap o.who 0 2))) || ((0 : Int) != 0)) || (!(ap o.life 1 50))) || (!(ap o.seq 1 30))) = c
   cases c with
   | true =>
    simp only [Bool.or_eq_true, Bool.not_eq_true', ← Bool.not_eq_true, ka, bne_self_eq_false, Bool.false_eq_true, or_false] at hc
    simp
    omega
   | false =>
    simp only [Bool.or_eq_false_iff, Bool.not_eq_false', ka] at hc
    simp
    omega
 have h3 : ∀ o, aJ o = 0 ∨ aJ o = 3 := fun o => by unfold aJ; cases (((((!(ap o.time 1 10000)) || (!(ap o.who 0 2))) || ((aQ (⟨o.node, o.parent, o.name⟩ : Place)) != 0)) || (!(ap o.life 1 50))) || (!(ap o.seq 1 30))) <;> simp
 have h4 : c8 o = 0 ∨ c8 o = 3 := by unfold c8; cases (((((((((((((decide (o.time < 1) || decide (o.time > 10000)) || decide (o.who < 0)) || decide (o.who ≥ 3)) || decide (o.node < 1)) || decide (o.node ≥ 16)) || decide (o.parent < 0)) || decide (o.parent > 16)) || decide (o.name < 0)) || decide (o.name > 99)) || decide (o.life < 1)) || decide (o.life > 50)) || decide (o.seq < 1)) || decide (o.seq > 30)) <;> simp
 have h3 := h3 o
 omega
theorem rn (l : List Int) : ∀ (r : List Int) (k : Nat) (last : Int), r = l.drop k → (k = 0 → last = -1) → (0 < k → last = gt l (k - 1)) → (0 < k → 0 ≤ last) → em l r k = bR r last
 | [], k, last, _, _, _, _ => rfl
 | n :: r, k, last, hr, h0, h1, h2 => by
  have hk : k < l.length := by
   have := congrArg List.length hr
   simp at this; omega
  rw [aU hk] at hr
  injection hr with hn hr
  rw [em, bR]
  have e1 : (decide (n < 0) || decide (n > 16)) = !(ap n 0 16) := by
   rw [Bool.eq_iff_iff]; simp [ap]; try omega
  rw [e1]
  cases hb : ap n 0 16 with
  | false => rfl
  | true =>
   rw [ka] at hb
   have e2 : (decide ((k : Int) > 0) && decide ((gt l (k - 1)) ≥ n)) = decide (n ≤ last) := by
    rw [Bool.eq_iff_iff]
    simp only [Bool.and_eq_true, decide_eq_true_eq]
    rcases Nat.eq_zero_or_pos k with h | h
    ·have := h0 h; omega
    ·have := h1 h; omega
   rw [e2]
   simp only [Bool.not_true, cond_false]
   rw [rn l r (k + 1) n hr (by omega) (fun _ => by rw [Nat.add_sub_cancel, hn]) (fun _ => hb.1)]
theorem wc (l : List Int) : bT l = bs l := by
 unfold bT bs
 rw [rn l l 0 (-1) rfl (fun _ => rfl) (fun h => absurd h (by omega)) (fun h => absurd h (by omega))]
theorem qN (r : Rec) : aK r = bL r := by
 unfold aK bL
 rw [rH, wc]
 have e0 : ∀ n : Nat, decide ((n : Int) > 0) = ((n : Int) != 0) := fun n => by rw [Bool.eq_iff_iff]; simp; try omega
 have e3 : ∀ n a b : Int, (!(ap n a b)) = (decide (n < a) || decide (n > b)) := fun n a b => by rw [Bool.eq_iff_iff]; simp [ap]; try omega
 rw [e0, e3, e3]
 have e4 : decide (r.who ≥ 3) = decide (r.who > 2) := by rw [Bool.eq_iff_iff]; simp; try omega
 rw [e4]
 obtain ⟨kind, who, life, roots, o⟩ := r
 simp only
 generalize (decide (who < 0) || decide (who > 2)) = c1
 generalize (decide (life < 1) || decide (life > 50)) = c2
 generalize decide (o = (⟨0, 0, 0, 0, 0, 0, 0⟩ : Op)) = c3
 generalize h9 : ((roots.length : Int) != 0) = c4
 generalize (life != 0) = c5
 generalize (who != 0) = c6
 by_cases h1 : kind = 1
 ·subst h1; cases c6 <;> cases c5 <;> cases c4 <;> rfl
 ·by_cases h2 : kind = 2
  ·subst h2
   cases c4 with
   | true => cases c1 <;> cases c2 <;> cases c3 <;> rfl
   | false =>
    have : roots = [] := List.eq_nil_of_length_eq_zero (by simpa using h9)
    subst this
    cases c1 <;> cases c2 <;> cases c3 <;> rfl
  ·by_cases h3 : kind = 3
   ·subst h3; cases c1 <;> cases c3 <;> cases c5 <;> rfl
   ·have h4 : (decide (kind < 1) || decide (kind > 3)) = true := by simp; omega
    have h5 : (kind == 1) = false := by simpa using h1
    have h6 : (kind == 2) = false := by simpa using h2
    have h7 : (kind == 3) = false := by simpa using h3
    rw [h4, h5, h6, h7]
    rfl
def wordOf (r : Rec) : Str := bif r.kind == 1 then [111, 112] else bif r.kind == 2 then [108, 105, 102, 101] else [114, 111, 111, 116, 115]
def kr (r : Rec) : List Int := bif r.kind == 1 then [r.o.time, r.o.who, r.o.node, r.o.parent, r.o.name, r.o.life, r.o.seq] else bif r.kind == 2 then [r.who, r.life] else r.who :: r.roots
theorem zA {l : List Int} (h : bT l = 0) : l.length ≤ 4 ∧ ∀ n ∈ l, 0 ≤ n ∧ n ≤ 16 := by
 rw [wc] at h
 unfold bs at h
 cases hb : decide ((l.length : Int) > 4) with
 | true => rw [hb] at h; simp at h
 | false =>
  rw [hb, cond_false] at h
  refine ⟨by have := of_decide_eq_false hb; omega, ?_⟩
  clear hb
  generalize (-1 : Int) = last at h
  induction l generalizing last with
  | nil => intro n hn; cases hn
  | cons a r ih =>
   rw [bR] at h
   cases hi : ap a 0 16 with
   | false => rw [hi] at h; simp at h
   | true =>
    rw [hi] at h
    cases hd : decide (a ≤ last) with
    | true => rw [hd] at h; simp at h
    | false =>
     rw [hd] at h
     simp only [Bool.not_true, cond_false] at h
     intro n hn
     rcases List.mem_cons.1 hn with rfl | hn
     ·exact ka.1 hi
     ·exact ih a h n hn
inductive Right (r : Rec) : Prop
 | op (h : r = ⟨1, 0, 0, [], r.o⟩) (ho : c8 r.o = 0)
 | life (h : r = ⟨2, r.who, r.life, [], ⟨0, 0, 0, 0, 0, 0, 0⟩⟩) (hw : 0 ≤ r.who ∧ r.who ≤ 2) (hl : 1 ≤ r.life ∧ r.life ≤ 50)
 | roots (h : r = ⟨3, r.who, 0, r.roots, ⟨0, 0, 0, 0, 0, 0, 0⟩⟩) (hw : 0 ≤ r.who ∧ r.who ≤ 2) (hr : bT r.roots = 0)
theorem j5 (r : Rec) : aK r = 0 ↔ Right r := by
 constructor
 ·intro h
  unfold aK at h
  obtain ⟨kind, who, life, roots, o⟩ := r
  simp only at h
  cases hk : (decide (kind < 1) || decide (kind > 3)) with
  | true => rw [hk] at h; simp at h
  | false =>
   rw [hk, cond_false] at h
   simp only [Bool.or_eq_false_iff, decide_eq_false_iff_not] at hk
   by_cases h1 : kind = 1
   ·subst h1
    simp only [beq_self_eq_true, cond_true] at h
    cases hb : ((who != 0) || (life != 0)) || decide ((roots.length : Int) > 0) with
    | true => rw [hb] at h; simp at h
    | false =>
     rw [hb, cond_false] at h
     simp only [Bool.or_eq_false_iff, decide_eq_false_iff_not, bne_eq_false_iff_eq] at hb
     obtain ⟨⟨rfl, rfl⟩, h3⟩ := hb
     have : roots = [] := List.eq_nil_of_length_eq_zero (by omega)
     subst this
     exact .op rfl h
   ·have h1' : (kind == 1) = false := by simpa using h1
    rw [h1', cond_false] at h
    cases hb : (((!(decide (o = (⟨0, 0, 0, 0, 0, 0, 0⟩ : Op)))) || ((kind == 3) && (life != 0))) || ((kind == 2) && decide ((roots.length : Int) > 0))) with
    | true => rw [hb] at h; simp at h
    | false =>
     rw [hb, cond_false] at h
     simp only [Bool.or_eq_false_iff, Bool.not_eq_false', decide_eq_true_eq] at hb
     obtain ⟨⟨rfl, hb1⟩, hb2⟩ := hb
     cases hc : ((decide (who < 0) || decide (who ≥ 3)) || ((kind == 2) && (decide (life < 1) || decide (life > 50)))) with
     | true => rw [hc] at h; simp at h
     | false =>
      rw [hc, cond_false] at h
      simp only [Bool.or_eq_false_iff, decide_eq_false_iff_not] at hc
      obtain ⟨⟨hc1, hc2⟩, hc3⟩ := hc
      by_cases h2 : kind = 2
      ·subst h2
       simp at hb2 hc3
       subst hb2
       exact .life rfl (by simp only; omega) (by simp only; omega)
      ·have h3 : kind = 3 := by omega
       subst h3
       simp at hb1
       subst hb1
       exact .roots rfl (by simp only; omega) h
 ·intro h
  unfold aK
  cases h with
  | op h ho => rw [h]; simpa using ho
  | life h hw hl =>
   rw [h]
   have e1 : (decide (r.who < 0) || decide (r.who ≥ 3)) = false := by simp; omega
   have e2 : (decide (r.life < 1) || decide (r.life > 50)) = false := by simp; omega
   simp only [e1, e2]
   rfl
  | roots h hw hr =>
   rw [h]
   have e1 : (decide (r.who < 0) || decide (r.who ≥ 3)) = false := by simp; omega
   simp only [e1]
   exact hr
theorem qK {r : Rec} (h : aK r = 0) : (kr r).length ≤ 7 ∧ ∀ n ∈ kr r, I64 n := by
 rcases (j5 r).1 h with ⟨h1, ho⟩ | ⟨h1, hw, hl⟩ | ⟨h1, hw, hr⟩
 ·have h2 := (nF r.o).1 ho
  have : kr r = [r.o.time, r.o.who, r.o.node, r.o.parent, r.o.name, r.o.life, r.o.seq] := by rw [h1]; rfl
  rw [this]
  refine ⟨by simp, fun n hn => ?_⟩
  simp only [List.mem_cons, List.not_mem_nil, or_false] at hn
  rcases hn with rfl | rfl | rfl | rfl | rfl | rfl | rfl <;> (simp only [I64]; omega)
 ·have : kr r = [r.who, r.life] := by rw [h1]; rfl
  rw [this]
  refine ⟨by simp, fun n hn => ?_⟩
  simp only [List.mem_cons, List.not_mem_nil, or_false] at hn
  rcases hn with rfl | rfl <;> (simp only [I64]; omega)
 ·have : kr r = r.who :: r.roots := by rw [h1]; rfl
  rw [this]
  have h2 := zA hr
  refine ⟨by simp only [List.length_cons]; omega, fun n hn => ?_⟩
  rcases List.mem_cons.1 hn with rfl | hn
  ·simp only [I64]; omega
  ·have := h2.2 n hn; simp only [I64]; omega
theorem AA {r : Rec} (h : aK r = 0) (hk : (r.kind == 1) = true) : ∀ n ∈ [r.o.time, r.o.who, r.o.node, r.o.parent, r.o.name, r.o.life, r.o.seq], I64 n := by
 have := (qK h).2; rwa [kr, hk] at this
theorem xJ {r : Rec} (h : aK r = 0) (hk : (r.kind == 2) = true) : ∀ n ∈ [r.who, r.life], I64 n := by
 have hk1 : (r.kind == 1) = false := by have := eq_of_beq hk; rw [this]; rfl
 have := (qK h).2; rwa [kr, hk1, hk] at this
theorem wD {r : Rec} (h : aK r = 0) (hk1 : (r.kind == 1) = false) (hk : (r.kind == 2) = false) : (r.roots.length ≤ 6) ∧ ∀ n ∈ r.who :: r.roots, I64 n := by
 have := qK h; rw [kr, hk1, hk] at this; simp only [cond_false, List.length_cons] at this; exact ⟨by omega, this.2⟩
theorem wH {r : Rec} (h : aK r = 0) (h1 : (r.kind == 2) = false) (h2 : (r.kind == 3) = false) : (r.kind == 1) = true := by
 rcases (j5 r).1 h with ⟨e, _⟩ | ⟨e, _, _⟩ | ⟨e, _, _⟩
 ·rw [e]; rfl
 ·rw [e] at h1; cases h1
 ·rw [e] at h2; cases h2
theorem AB {r : Rec} {k : Int} (h : (r.kind == k) = true) (hk : (k == 1) = false) : (r.kind == 1) = false := by rw [eq_of_beq h]; exact hk
end Go.Proofs.YtkjccbdeaflekaaGreatDoor

set_option maxHeartbeats 2000000
namespace Go.Proofs.YtkjccbdeaflekaaGreatDoor
open Go Go.Proofs.YtkjccbdeaflekaaGreatDoor.Fw Go.Proofs
attribute [local irreducible] RdL RdN VarP LibP RW CW
def fk  : List Int → Str → (Str × Int)
 | [], s2 => (s2, 0)
 | pn1 :: rn1, s2 => (fk rn1 (s2 ++ (([32] : Str) ++ (Lib.itoa pn1))))
def bO (r1 : Rec) : Str × (List Int) :=
 (bif (r1.kind == 2) then (([108, 105, 102, 101] : Str), [r1.who, r1.life]) else (bif (r1.kind == 3) then (([114, 111, 111, 116, 115] : Str), ([r1.who] ++ r1.roots)) else (([111, 112] : Str), [r1.o.time, r1.o.who, r1.o.node, r1.o.parent, r1.o.name, r1.o.life, r1.o.seq])))
def dr (r1 : Rec) : Str × Int :=
 (bif ((aK r1) != 0) then (([] : Str), (aK r1)) else (fk (bO r1).2 (bO r1).1))
theorem qL (y1 : SlV) (r1 : Rec) : Does Tryz.prog 206 [.agg ⟨cR y1 r1⟩] [RdL EInt y1 r1.roots, LibP Tryz.prog] (fun (_ : Unit) => .tuple #[sV (dr r1).1, .int .i64 (dr r1).2]) (fun _ => []) := by
 refine Dp aH Tryz.func206 Tryz.ntmps206 Tryz.results206 fun C => ?_
 refine Pc EInt y1 r1.roots 8 fun hlen1 => ?_
 refine BxT fun g1 => ?_
 refine Ck (hC y1 r1) fun _ => ?_
 have hf := Ri (dr.eq_1 r1)
 refine Cn hf (fun hc1 hc1p hf => ?_) fun hc1 hc1p hf => ?_
 ·exact Ru
 ·have hck := ai hc1
  refine Tx ?_
  (repeat refine aI ?_); refine aq (fun _ => some []) ?_
  refine Dx [0,1,2,3,4,5,6,7,8,9,10,11,12,13,14,15,16,17,18,19,20,21,22,24] ?_
  refine Rn 23 ?_
  refine Bl EInt [r1.o.time, r1.o.who, r1.o.node, r1.o.parent, r1.o.name, r1.o.life, r1.o.seq] fun x1 x1b => ?_
  refine Ra 25 rfl Qp ?_
  refine Re0 ?_
  (repeat refine aI ?_); refine oU ?_
  refine Rp rfl rfl rfl rfl ?_
  refine Sq (q_ld1 rfl rfl Zf rfl Mm rfl) ?_
  refine eo ?_
  (repeat refine aI ?_); refine oV ?_
  refine Ty ?_
  refine l3 [2, 3] [true] (fun (i_ : Str × List Int × SlV × Option Nat) => match i_ with | ⟨s1, l1, x2, x2b⟩ => [(5, .v (sV s1)), (6, .v (x2.val l1.length))]) (fun (i_ : Str × List Int × SlV × Option Nat) => match i_ with | ⟨s1, l1, x2, x2b⟩ => []) (fun (i_ : Str × List Int × SlV × Option Nat) => match i_ with | ⟨s1, l1, x2, x2b⟩ => [ownL EInt 3 x2 x2b l1]) (fun (i_ : Str × List Int × SlV × Option Nat) => match i_ with | ⟨s1, l1, x2, x2b⟩ => []) (fun (i_ : Str × List Int × SlV × Option Nat) => match i_ with | ⟨s1, l1, x2, x2b⟩ => (s1.length ≤ 5) ∧ (∀ n ∈ l1, I64 n) ∧ s1 = (bO r1).1 ∧ l1 = (bO r1).2) (.cons rfl (.cons rfl (.nil _))) (.keep (.nil)) ?_ ?_
  ·refine Cd' (fun hc2 => ?_) fun hc2 => ?_
   ·have hc2p := eq_of_beq hc2
    have hbn := xJ hck hc2
    (repeat refine aI ?_); refine aq (fun _ => some []) ?_
    refine Dx [0,1,2,3,5] ?_
    refine Rn 4 ?_
    refine Bl EInt [r1.who, r1.life] fun x3 x3b => ?_
    refine Ra 6 rfl Qp ?_
    refine Re0 ?_
    have hv1 : (bO r1) = (([108, 105, 102, 101] : Str), [r1.who, r1.life]) := by simp only [bO, hc2, Bool.true_and, Bool.and_true, Cf]
    refine ⟨⟨([108, 105, 102, 101] : Str), [r1.who, r1.life], x3, x3b⟩, ⟨(by decide), hbn, (by rw [hv1]), (by rw [hv1])⟩, Le4⟩
   ·have hc2p := ne_of_beq_false hc2
    have hk2 := hc2
    refine Cd' (fun hc3 => ?_) fun hc3 => ?_
    ·have hc3p := eq_of_beq hc3
     have hbn0 := wD hck (AB hc3 rfl) hk2; have hbn := hbn0.2; have hrl := hbn0.1
     refine Bl EInt [r1.who] fun x4 x4b => ?_
     refine Ap EInt 8 [r1.who] r1.roots x4b fun x5 x5b => ?_
     refine Tx ?_
     have hv2 : (bO r1) = (([114, 111, 111, 116, 115] : Str), ([r1.who] ++ r1.roots)) := by simp only [bO, hc2, hc3, Bool.true_and, Bool.and_true, Cf]
     refine ⟨⟨([114, 111, 111, 116, 115] : Str), ([r1.who] ++ r1.roots), x5, x5b⟩, ⟨(by decide), hbn, (by rw [hv2]), (by rw [hv2])⟩, Le4⟩
    ·have hc3p := ne_of_beq_false hc3
     have hbn := AA hck (wH hck hk2 hc3)
     refine Tx ?_
     have hv3 : (bO r1) = (([111, 112] : Str), [r1.o.time, r1.o.who, r1.o.node, r1.o.parent, r1.o.name, r1.o.life, r1.o.seq]) := by simp only [bO, hc2, hc3, Bool.true_and, Bool.and_true, Cf]
     refine ⟨⟨([111, 112] : Str), [r1.o.time, r1.o.who, r1.o.node, r1.o.parent, r1.o.name, r1.o.life, r1.o.seq], x1, x1b⟩, ⟨(by decide), hbn, (by rw [hv3]), (by rw [hv3])⟩, Le4⟩
  ·rintro ⟨s1, l1, x2, x2b⟩ ⟨hs5, hbn, rfl, rfl⟩
   simp only [Lc]
   refine Tx ?_
   refine cw_le (ao EInt 3 x2 x2b (bO r1).2 Uo) ?_
   refine Pc EInt x2 (bO r1).2 8 fun hlen2 => ?_
   refine Lq (Str × Nat) [2,3,55,56] [true] (fun ⟨s2, n1⟩ => ⟨[(5, .v (sV s2)), (57, .v (.int .i64 (n1 : Int)))], [], [], [], (n1 ≤ (bO r1).2.length) ∧ (s2.length ≤ 5 + 22 * n1) ∧ (fk ((bO r1).2.drop n1) s2) = (dr r1), (bO r1).2.length - n1⟩) ⟨(bO r1).1, 0⟩ ⟨Nat.zero_le _, Nz, hf.symm⟩ ?_
   rintro ⟨s2, n1⟩ ⟨hkn1, hsl, hf1⟩
   simp only [Lc]
   refine Cu (fun hlt0 => ?_) fun hge0 => ?_
   ·have hit := Lib.itoa_length_le _ (hbn _ (im hlt0)).1 (hbn _ (im hlt0)).2
    refine Sy Tz (Xi EInt n1) ?_
    refine Sq (X1 EInt) ?_
    refine Ck (vE (gt (bO r1).2 n1) (hbn _ (im hlt0))) fun _ => ?_
    refine Sq (zN (a := ([32] : Str)) (b := (Lib.itoa (gt (bO r1).2 n1))) rfl rfl Zf rfl Zf (fun _ => by (show ([32] : Str).length + _ ≤ _; simp only [List.length_cons, List.length_nil]; omega))) ?_
    refine Sq (zN (a := s2) (b := (([32] : Str) ++ (Lib.itoa (gt (bO r1).2 n1)))) rfl rfl Zf rfl Zf (fun _ => by (simp only [List.length_append, List.length_cons, List.length_nil]; omega))) ?_
    refine Tt ?_
    refine ⟨⟨(s2 ++ (([32] : Str) ++ (Lib.itoa (gt (bO r1).2 n1)))), (n1 + 1)⟩, ⟨hlt0, Zl, (by rw [← hf1, aU hlt0]; simp only [fk, Cf] : (dr r1) = (fk ((bO r1).2.drop (n1 + 1)) (s2 ++ (([32] : Str) ++ (Lib.itoa (gt (bO r1).2 n1)))))).symm⟩, Oo, Le4⟩
   ·have hf := Ri hf1.symm
    rw [List.drop_of_length_le hge0, fk] at hf
    exact Ru
theorem vF {p : Bool} {n : Nat} {k : Int} (h : (p && ((n : Int) == k)) = true) : (n : Int) = k := by simp at h; exact h.2
theorem len_gt {p : Bool} {n : Nat} (h : (p && decide ((n : Int) > 0)) = true) : 0 < n := by simp at h; exact h.2
theorem len_ge {p : Bool} {n : Nat} (h : (p && decide ((n : Int) ≥ 1)) = true) : 0 < n := by simp at h; omega
theorem wJ {c : UInt8} {s : Str} {i : Nat} (h : i < ((spl c s).drop 1).length) : (gt ((spl c s).drop 1) i).length ≤ s.length := lB (List.mem_of_mem_drop (im h))
def fT (s1 : Str) : List Str → (List Int) → (Rec × Int)
 | [], n1 => (bif (((gt (spl 32 s1) 0) == ([111, 112] : Str)) && ((n1.length : Int) == 7)) then (bif ((aK (⟨1, 0, 0, ([] : List Int), (⟨(gt n1 0), (gt n1 1), (gt n1 2), (gt n1 3), (gt n1 4), (gt n1 5), (gt n1 6)⟩ : Op)⟩ : Rec)) != 0) then ((⟨0, 0, 0, ([] : List Int), (⟨0, 0, 0, 0, 0, 0, 0⟩ : Op)⟩ : Rec), (aK (⟨1, 0, 0, ([] : List Int), (⟨(gt n1 0), (gt n1 1), (gt n1 2), (gt n1 3), (gt n1 4), (gt n1 5), (gt n1 6)⟩ : Op)⟩ : Rec))) else ((⟨1, 0, 0, ([] : List Int), (⟨(gt n1 0), (gt n1 1), (gt n1 2), (gt n1 3), (gt n1 4), (gt n1 5), (gt n1 6)⟩ : Op)⟩ : Rec), 0)) else (bif (((gt (spl 32 s1) 0) == ([108, 105, 102, 101] : Str)) && ((n1.length : Int) == 2)) then (bif ((aK (⟨2, (gt n1 0), (gt n1 1), ([] : List Int), (⟨0, 0, 0, 0, 0, 0, 0⟩ : Op)⟩ : Rec)) != 0) then ((⟨0, 0, 0, ([] : List Int), (⟨0, 0, 0, 0, 0, 0, 0⟩ : Op)⟩ : Rec), (aK (⟨2, (gt n1 0), (gt n1 1), ([] : List Int), (⟨0, 0, 0, 0, 0, 0, 0⟩ : Op)⟩ : Rec))) else ((⟨2, (gt n1 0), (gt n1 1), ([] : List Int), (⟨0, 0, 0, 0, 0, 0, 0⟩ : Op)⟩ : Rec), 0)) else (bif (((gt (spl 32 s1) 0) == ([114, 111, 111, 116, 115] : Str)) && decide ((n1.length : Int) > 0)) then (bif ((aK (⟨3, (gt n1 0), 0, (n1.drop 1), (⟨0, 0, 0, 0, 0, 0, 0⟩ : Op)⟩ : Rec)) != 0) then ((⟨0, 0, 0, ([] : List Int), (⟨0, 0, 0, 0, 0, 0, 0⟩ : Op)⟩ : Rec), (aK (⟨3, (gt n1 0), 0, (n1.drop 1), (⟨0, 0, 0, 0, 0, 0, 0⟩ : Op)⟩ : Rec))) else ((⟨3, (gt n1 0), 0, (n1.drop 1), (⟨0, 0, 0, 0, 0, 0, 0⟩ : Op)⟩ : Rec), 0)) else ((⟨0, 0, 0, ([] : List Int), (⟨0, 0, 0, 0, 0, 0, 0⟩ : Op)⟩ : Rec), 1))))
 | pn2 :: rn2, n1 => (bif ((ate pn2) || ((Lib.itoa (atv pn2)) != pn2)) then ((⟨0, 0, 0, ([] : List Int), (⟨0, 0, 0, 0, 0, 0, 0⟩ : Op)⟩ : Rec), 1) else (fT s1 rn2 (n1 ++ [(atv pn2)])))
def bv (s1 : Str) : Rec × Int :=
 (bif decide ((s1.length : Int) > 60000) then ((⟨0, 0, 0, ([] : List Int), (⟨0, 0, 0, 0, 0, 0, 0⟩ : Op)⟩ : Rec), 2) else (fT s1 ((spl 32 s1).drop 1) []))
theorem qM (s1 : Str) : Does Tryz.prog 154 [sV s1] [LibP Tryz.prog] (fun (X : SlV) => .tuple #[.agg ⟨cR X (bv s1).1⟩, .int .i64 (bv s1).2]) (fun X => [RdL EInt X (bv s1).1.roots]) := by
 refine Dp aH Tryz.func154 Tryz.ntmps154 Tryz.results154 fun C => ?_
 refine AlT fun g1 => ?_
 refine Sy Tz (nC (a := s1) rfl rfl Zf und_9) ?_
 have hf := Ri (bv.eq_1 s1)
 refine Cp hf (fun hc1 hc1p hf => ?_) fun hc1 hc1p hf => ?_
 ·refine Tx ?_
  refine Fc EInt ?_
  refine Rx ?_; exact Re Z0 (Va (Vt Vn))
 ·refine Ck (xQ s1 ([32] : Str) rfl (by omega)) fun x1 => ?_
  refine Pr EStr x1 (spl 32 s1) 16 fun hlen1 => ?_
  have hspl := (uG 32 s1).1
  refine Sy Tz (qD EStr 1 rfl rfl Zf rfl Zf rfl rfl Zo Zo) ?_
  refine dC (F := RdL EStr (⟨slA x1.a x1.c 1 EStr.esz, x1.c - 1⟩ : SlV) ((spl 32 s1).drop 1)) [RdL EStr x1 (spl 32 s1)] Sm (fun M w h => (allF1 h).drop _ (by omega)) ?_
  refine Tx ?_
  refine Pc EStr (⟨slA x1.a x1.c 1 EStr.esz, x1.c - 1⟩ : SlV) ((spl 32 s1).drop 1) 16 fun hlen2 => ?_
  (repeat refine aI ?_); refine Lp [2,3,4,19,20] [true] (fun (i_ : List Int × SlV × Option Nat × Nat) => match i_ with | ⟨n1, x2, x2b, n2⟩ => (⟨[(5, .v (x2.val n1.length)), (21, .v (.int .i64 (n2 : Int)))], [], [ownL EInt 3 x2 x2b n1], [], (n2 ≤ ((spl 32 s1).drop 1).length) ∧ (n1.length ≤ n2) ∧ (fT s1 (((spl 32 s1).drop 1).drop n2) n1) = (bv s1), ((spl 32 s1).drop 1).length - n2⟩ : Ls)) ⟨[], ⟨none, 0⟩, none, 0⟩ (Sc (Sc (Sc (Sc (Sc Sn))))) (.keep (.nil)) ⟨Nat.zero_le _, (by first | exact Nat.le_refl _ | exact Nat.zero_le _ | omega), hf.symm⟩ (Le.trans (eu EInt 3) Le4) ?_
  rintro ⟨n1, x2, x2b, n2⟩ ⟨hkn2, hn1, hf1⟩
  simp only [Lc]
  refine Cu (fun hlt0 => ?_) fun hge0 => ?_
  ·refine Sy Tz (Xi EStr n2) ?_
   refine Sq (X1 EStr) ?_
   refine Ck (yT (gt ((spl 32 s1).drop 1) n2) (Nat.le_trans (wJ hlt0) (by omega))) fun x3 => ?_
   refine Sy Tz (xq rfl rfl Zf sK) ?_
   refine Cy (fun hG_ => vE (atv (gt ((spl 32 s1).drop 1) n2)) (wP _)) ?_
   refine Tx ?_
   refine Sg Gz (q_neS (a := (Lib.itoa (atv (gt ((spl 32 s1).drop 1) n2)))) (b := (gt ((spl 32 s1).drop 1) n2)) rfl rfl Bt rfl Bt) ?_
   have hf := Ri hf1.symm
   rw [aU hlt0, fT] at hf
   refine Ch hf (fun hc3 hf => ?_) fun hc3 hf => ?_
   ·refine Tx ?_
    refine Fc EInt ?_
    refine Rx ?_; exact Re Z0 (Va (Vt Vn))
   ·refine Bl EInt [(atv (gt ((spl 32 s1).drop 1) n2))] fun x4 x4b => ?_
    refine Ap EInt 8 n1 [(atv (gt ((spl 32 s1).drop 1) n2))] x2b fun x5 x5b => ?_
    refine Tt ?_
    refine ⟨⟨(n1 ++ [(atv (gt ((spl 32 s1).drop 1) n2))]), x5, x5b, (n2 + 1)⟩, ⟨hlt0, Zl, hf.symm⟩, Oo, Le4⟩
  ·refine cw_le (ao EInt 3 x2 x2b n1 Uo) ?_
   refine AlT fun g2 => ?_
   refine Sy Tz (Xi EStr 0) ?_
   refine Sq (X1 EStr) ?_
   refine Sq (q_eqS (a := (gt (spl 32 s1) 0)) (b := ([111, 112] : Str)) rfl rfl Zf rfl Zf) ?_
   have hf := Ri hf1.symm
   rw [List.drop_of_length_le hge0, fT] at hf
   refine Ch hf (fun hc4 hf => ?_) fun hc4 hf => ?_
   ·have hl7 := vF hc4
    (repeat refine aI ?_); refine aq (fun j => match j with | 24 => some [g2] | _ => some []) ?_
    refine Rb 0 rfl Qp ?_
    refine Rb 1 rfl (Xi EInt 0) ?_
    refine Rb 2 rfl (X1 EInt) ?_
    refine Rb 3 rfl Qp ?_
    refine Rb 4 rfl (Xi EInt 1) ?_
    refine Rb 5 rfl (X1 EInt) ?_
    refine Dx [6,7] ?_
    refine Rb 8 rfl (Xi EInt 2) ?_
    refine Rb 9 rfl (X1 EInt) ?_
    refine Rb 10 rfl Qp ?_
    refine Rb 11 rfl (Xi EInt 3) ?_
    refine Rb 12 rfl (X1 EInt) ?_
    refine Rb 13 rfl Qp ?_
    refine Rb 14 rfl (Xi EInt 4) ?_
    refine Rb 15 rfl (X1 EInt) ?_
    refine Rb 16 rfl Qp ?_
    refine Rb 17 rfl (Xi EInt 5) ?_
    refine Rb 18 rfl (X1 EInt) ?_
    refine Rb 19 rfl Qp ?_
    refine Rb 20 rfl (Xi EInt 6) ?_
    refine Rb 21 rfl (X1 EInt) ?_
    refine Dx [22,23] ?_
    refine Rn 24 ?_
    refine Wa ?_
    refine Re0 ?_
    refine Tx ?_
    refine Fr EInt ?_
    refine Ck (hC Z0 (⟨1, 0, 0, ([] : List Int), (⟨(gt n1 0), (gt n1 1), (gt n1 2), (gt n1 3), (gt n1 4), (gt n1 5), (gt n1 6)⟩ : Op)⟩ : Rec)) fun _ => ?_
    refine Cn hf (fun hc5 hc5p hf => ?_) fun hc5 hc5p hf => ?_
    ·refine Rx ?_; exact Re Z0 (Va (Vt Vn))
    ·refine Rx ?_; exact Re Z0 (Va (Vt Vn))
   ·refine Sy Tz (Xi EStr 0) ?_
    refine Sq (X1 EStr) ?_
    refine Sq (q_eqS (a := (gt (spl 32 s1) 0)) (b := ([108, 105, 102, 101] : Str)) rfl rfl Zf rfl Zf) ?_
    refine Ch hf (fun hc6 hf => ?_) fun hc6 hf => ?_
    ·have hl7 := vF hc6
     (repeat refine aI ?_); refine aq (fun j => match j with | 7 => some [g2] | _ => some []) ?_
     refine Rb 0 rfl Qp ?_
     refine Rb 1 rfl (Xi EInt 0) ?_
     refine Ra 2 rfl (X1 EInt) ?_
     refine Rb 3 rfl Qp ?_
     refine Rb 4 rfl (Xi EInt 1) ?_
     refine Ra 5 rfl (X1 EInt) ?_
     refine Ra 6 rfl Qp ?_
     refine Rn 7 ?_
     refine Wa ?_
     refine Re0 ?_
     refine Tx ?_
     refine Fr EInt ?_
     refine Ck (hC Z0 (⟨2, (gt n1 0), (gt n1 1), ([] : List Int), (⟨0, 0, 0, 0, 0, 0, 0⟩ : Op)⟩ : Rec)) fun _ => ?_
     refine Cn hf (fun hc7 hc7p hf => ?_) fun hc7 hc7p hf => ?_
     ·refine Rx ?_; exact Re Z0 (Va (Vt Vn))
     ·refine Rx ?_; exact Re Z0 (Va (Vt Vn))
    ·refine Sy Tz (Xi EStr 0) ?_
     refine Sq (X1 EStr) ?_
     refine Sq (q_eqS (a := (gt (spl 32 s1) 0)) (b := ([114, 111, 111, 116, 115] : Str)) rfl rfl Zf rfl Zf) ?_
     refine Ch hf (fun hc8 hf => ?_) fun hc8 hf => ?_
     ·have hl7 := len_gt hc8
      (repeat refine aI ?_); refine aq (fun j => match j with | 6 => some [g2] | _ => some []) ?_
      refine Rb 0 rfl Qp ?_
      refine Rb 1 rfl (Xi EInt 0) ?_
      refine Ra 2 rfl (X1 EInt) ?_
      refine Rb 3 rfl Qp ?_
      refine Ra 4 rfl (qD EInt 1 rfl rfl Zf rfl Zf rfl rfl Zo Zo) ?_
      refine dC (F := RdL EInt (⟨slA x2.a x2.c 1 EInt.esz, x2.c - 1⟩ : SlV) (n1.drop 1)) [RdL EInt x2 n1] Sm (fun M w h => (allF1 h).drop _ (by omega)) ?_
      refine Ra 5 rfl Qp ?_
      refine Rn 6 ?_
      refine Wa ?_
      refine Re0 ?_
      refine Ck (hC (⟨slA x2.a x2.c 1 EInt.esz, x2.c - 1⟩ : SlV) (⟨3, (gt n1 0), 0, (n1.drop 1), (⟨0, 0, 0, 0, 0, 0, 0⟩ : Op)⟩ : Rec)) fun _ => ?_
      refine Cn hf (fun hc9 hc9p hf => ?_) fun hc9 hc9p hf => ?_
      ·refine Tx ?_
       refine Fc EInt ?_
       refine Rx ?_; exact Re Z0 (Va (Vt Vn))
      ·refine Rx ?_; exact Re (⟨slA x2.a x2.c 1 EInt.esz, x2.c - 1⟩ : SlV) (Va (Vt Vn))
     ·refine Tx ?_
      refine Fc EInt ?_
      refine Rx ?_; exact Re Z0 (Va (Vt Vn))
def bG (s1 : Str) (most1 : Int) : Nat → Str → (List Rec) → ((List Rec) × Int × Int)
 | 0, s2, l1 => default
 | f_k0 + 1, s2, l1 => (bif (s2 != ([] : Str)) then (bif (!(cutc 10 s2).2.2) then (l1, ((s1.length : Int) - (s2.length : Int)), 8) else (bif ((bv (cutc 10 s2).1).2 != 0) then (l1, ((s1.length : Int) - (s2.length : Int)), (bv (cutc 10 s2).1).2) else (bif ((l1.length : Int) == most1) then (l1, ((s1.length : Int) - (s2.length : Int)), 2) else (bG s1 most1 f_k0 (cutc 10 s2).2.1 (l1 ++ [(bv (cutc 10 s2).1).1]))))) else (l1, (s1.length : Int), 0))
def aD (s1 : Str) (most1 : Int) : (List Rec) × Int × Int :=
 (bG s1 most1 (s1.length + 1) s1 [])
theorem kv (s1 : Str) (most1 : Int) (hs : s1.length ≤ 60000) : DoesG Tryz.prog 108 [sV s1, .int .i64 most1] [LibP Tryz.prog] ⟨[], []⟩ (fun (X : SlV × Option Nat × (Nat → SlV)) => .tuple #[X.1.val (aD s1 most1).1.length, .int .i64 (aD s1 most1).2.1, .int .i64 (aD s1 most1).2.2]) (fun X => [FactsG NRec X.2.2 (aD s1 most1).1]) (fun X => ⟨[], [ownL NRec.E 78 X.1 X.2.1 (zipG X.2.2 0 (aD s1 most1).1)]⟩) := by
 refine Dq aH Tryz.func108 Tryz.ntmps108 Tryz.results108 fun C => ?_
 refine Sy Tz (nC (a := s1) rfl rfl Zf und_9) ?_
 refine Tx ?_
 (repeat refine aI ?_); refine Lp [1,4,5,6,8] [] (fun (i_ : Str × List Rec × SlV × Option Nat × (Nat → SlV) × Nat) => match i_ with | ⟨s2, l1, x1, x1b, γ1, fz1⟩ => (⟨[(0, .v (sV s2)), (7, .v (x1.val l1.length))], [], [ownL NRec.E 78 x1 x1b (zipG γ1 0 l1)], [FactsG NRec γ1 l1], (s2.length + l1.length ≤ s1.length) ∧ (s2.length < fz1) ∧ (bG s1 most1 fz1 s2 l1) = (aD s1 most1), fz1⟩ : Ls)) ⟨s1, [], ⟨none, 0⟩, none, (fun _ => default), s1.length + 1⟩ (Sc (Sc (Sc (Sc (Sc Sn))))) (.nil) ⟨(by simp only [List.length_nil]; omega), (by first | exact Nat.le_refl _ | exact Nat.zero_le _ | omega), (by simp only [aD, Cf] : (aD s1 most1) = (bG s1 most1 (s1.length + 1) s1 [])).symm⟩ (Le.trans (eu NRec.E 78) (Le.trans (s9 (FactsG NRec (fun _ => default) ([] : List Rec)) [] (.nil _) (fun M w _ => FactsG.nil NRec _ M w)) Le4)) ?_
 rintro ⟨s2, l1, x1, x1b, γ1, fz1⟩ ⟨hinv, hzfz1, hf1⟩
 simp only [Lc]
 have hlt0_ : (fz1 - 1) + 1 = fz1 := by omega
 refine Sy Tz (q_neS (a := s2) (b := ([] : Str)) rfl rfl Zf rfl Zf) ?_
 refine eo ?_
 have hf := Ri hf1.symm
 rw [← hlt0_, bG] at hf
 refine Cn hf (fun hc1 hc1p hf => ?_) fun hc1 hc1p hf => ?_
 ·refine Ck (uR s2 ([10] : Str) rfl (by omega)) fun _ => ?_
  have hcn := tg 10 s2; have hcl := rc 10 s2
  refine Ch hf (fun hc2 hf => ?_) fun hc2 hf => ?_
  ·refine Sy Tz (nC (a := s2) rfl rfl Zf und_9) ?_
   refine Rx ?_; exact Re ⟨x1, x1b, γ1⟩ Rv
  ·have hcl2 := hcl (by simpa using hc2)
   refine Ck (qM (cutc 10 s2).1) fun x2 => ?_
   refine Pr EInt x2 (bv (cutc 10 s2).1).1.roots 8 fun hlen1 => ?_
   refine AlT fun g1 => ?_
   refine Cn hf (fun hc3 hc3p hf => ?_) fun hc3 hc3p hf => ?_
   ·refine Sy Tz (nC (a := s2) rfl rfl Zf und_9) ?_
    refine Rx ?_; exact Re ⟨x1, x1b, γ1⟩ Rv
   ·refine Ce hf (fun hc4 hc4p hf => ?_) fun hc4 hc4p hf => ?_
    ·refine Sy Tz (nC (a := s2) rfl rfl Zf und_9) ?_
     refine Rx ?_; exact Re ⟨x1, x1b, γ1⟩ Rv
    ·refine Bl NRec.E [(x2, (bv (cutc 10 s2).1).1)] (hfill := lr rfl rfl) fun x3 x3b => ?_
     refine rw_le (ao NRec.E 78 x3 x3b [(x2, (bv (cutc 10 s2).1).1)] Uo) ?_
     refine dC (F := RdN NRec x3 [(bv (cutc 10 s2).1).1]) [RdL NRec.E x3 [(x2, (bv (cutc 10 s2).1).1)], RdL EInt x2 (bv (cutc 10 s2).1).1.roots] Sm (fun M w h => RdN.of NRec (hs := [(x2, (bv (cutc 10 s2).1).1)]) rfl (h _ (.head _)) (aE (dA Sm h) (fun p hp => by cases hp))) ?_
     refine e8 NRec (X := x3) (l := [(bv (cutc 10 s2).1).1]) Mm fun (γ2 : Nat → SlV) => ?_
     refine j9 NRec γ1 γ2 l1 [(bv (cutc 10 s2).1).1] (b := x1b) .sq (fun _ _ => .inl ⟨_, rfl⟩) (am rfl) rfl rfl rfl rfl rfl rfl rfl (fun _ _ => Uo) rfl rfl rfl rfl rfl rfl rfl (mP (EN := NRec) (X := x3) (γ := γ2) (l := [(bv (cutc 10 s2).1).1]) Mm) (by show (l1.length + [(bv (cutc 10 s2).1).1].length) * 104 ≤ 140737488355328; (try simp only [List.length_append, List.length_cons, List.length_nil]); omega) fun x4 x4b => ?_
     refine dC (F := FactsG NRec (appG γ1 l1.length γ2) (l1 ++ [(bv (cutc 10 s2).1).1])) [FactsG NRec γ1 l1, FactsG NRec γ2 [(bv (cutc 10 s2).1).1]] Sm (fun M w h => FactsG.app NRec (h _ (.head _)) (h _ (.tail _ (.head _)))) ?_
     refine Tx ?_
     refine ⟨⟨(cutc 10 s2).2.1, (l1 ++ [(bv (cutc 10 s2).1).1]), x4, x4b, (appG γ1 l1.length γ2), (fz1 - 1)⟩, ⟨Zl, (by (try simp only []); first | omega | (simp only [List.length_append, List.length_cons, List.length_nil]; omega)), (hf : (aD s1 most1) = (bG s1 most1 (fz1 - 1) (cutc 10 s2).2.1 (l1 ++ [(bv (cutc 10 s2).1).1]))).symm⟩, Oo, Le4⟩
 ·refine Rx ?_; exact Re ⟨x1, x1b, γ1⟩ Rv
theorem mh (s0 : Str) (most : Int) : ∀ (f : Nat) (s : Str) (l : List Rec), s.length < f → s.length + l.length ≤ s0.length →
  (bG s0 most f s l).1.length ≤ s0.length ∧ 0 ≤ (bG s0 most f s l).2.1 ∧ (bG s0 most f s l).2.1 ≤ (s0.length : Int)
 | 0, s, l, h, _ => absurd h (Nat.not_lt_zero _)
 | f + 1, s, l, h, hl => by
  rw [bG]
  cases h1 : (s != ([] : Str)) with
  | false => simp only [cond_false]; omega
  | true =>
   simp only [cond_true]
   cases h2 : (!(cutc 10 s).2.2) with
   | true => simp only [cond_true]; omega
   | false =>
    have h2 : (cutc 10 s).2.2 = true := by simpa using h2
    have h3 := rc 10 s h2
    simp only [cond_false]
    cases ((bv (cutc 10 s).1).2 != 0) with
    | true => simp only [cond_true]; omega
    | false =>
     simp only [cond_false]
     cases ((l.length : Int) == most) with
     | true => simp only [cond_true]; omega
     | false => exact mh s0 most f _ _ (by omega) Zl
theorem lY (s : Str) (most : Int) : (aD s most).1.length ≤ s.length ∧ 0 ≤ (aD s most).2.1 ∧ (aD s most).2.1 ≤ (s.length : Int) :=
 mh s most _ s [] (by omega) (by simp)
end Go.Proofs.YtkjccbdeaflekaaGreatDoor

namespace Go.Proofs.YtkjccbdeaflekaaGreatDoor
open Go Go.Proofs.YtkjccbdeaflekaaGreatDoor.Fw Go.Proofs
def lf (r : Rec) : Str := wordOf r ++ glue 32 ((kr r).map Lib.itoa)
theorem rq : ∀ (l : List Int) (s : Str), fk l s = (s ++ glue 32 (l.map Lib.itoa), 0)
 | [], s => by simp [fk, glue]
 | n :: l, s => by rw [fk, rq l]; simp [glue]
theorem V1_eq {r : Rec} (h : aK r = 0) : bO r = (wordOf r, kr r) := by
 unfold bO wordOf kr
 rcases (j5 r).1 h with ⟨h1, _⟩ | ⟨h1, _, _⟩ | ⟨h1, _, _⟩ <;> (rw [h1]; rfl)
theorem wd (r : Rec) : dr r = if aK r = 0 then (lf r, 0) else ([], aK r) := by
 unfold dr
 by_cases h : aK r = 0
 ·rw [if_pos h, V1_eq h, rq, h]
  rfl
 ·rw [if_neg h]
  have : (aK r != 0) = true := by simpa using h
  rw [this, cond_true]
def pn : List Str → Option (List Int)
 | [] => some []
 | t :: r => bif ate t || (Lib.itoa (atv t) != t) then none else (pn r).map (atv t :: ·)
abbrev noRec : Rec := ⟨0, 0, 0, [], ⟨0, 0, 0, 0, 0, 0, 0⟩⟩
def mkRec (w : Str) (n : List Int) : Option Rec :=
 if w = [111, 112] ∧ n.length = 7 then some ⟨1, 0, 0, [], ⟨gt n 0, gt n 1, gt n 2, gt n 3, gt n 4, gt n 5, gt n 6⟩⟩
 else if w = [108, 105, 102, 101] ∧ n.length = 2 then some ⟨2, gt n 0, gt n 1, [], ⟨0, 0, 0, 0, 0, 0, 0⟩⟩
 else if w = [114, 111, 111, 116, 115] ∧ 0 < n.length then some ⟨3, gt n 0, 0, n.drop 1, ⟨0, 0, 0, 0, 0, 0, 0⟩⟩
 else none
def finR (w : Str) (n : List Int) : Rec × Int := match mkRec w n with
 | none => (noRec, 1)
 | some r => if aK r = 0 then (r, 0) else (noRec, aK r)
def readP (w : Str) : Option (List Int) → Rec × Int
 | none => (noRec, 1)
 | some n => finR w n
theorem tn {w u : Str} {n : List Int} {k : Nat} : ((w == u) && ((n.length : Int) == (k : Int))) = decide (w = u ∧ n.length = k) := by
 rw [Bool.eq_iff_iff]; simp only [Bool.and_eq_true, beq_iff_eq, decide_eq_true_eq]; exact and_congr_right fun _ => by omega
theorem and_gt {w u : Str} {n : List Int} : ((w == u) && decide ((n.length : Int) > 0)) = decide (w = u ∧ 0 < n.length) := by
 rw [Bool.eq_iff_iff]; simp only [Bool.and_eq_true, beq_iff_eq, decide_eq_true_eq]; exact and_congr_right fun _ => by omega
theorem and_ge {w u : Str} {n : List Int} : ((w == u) && decide ((n.length : Int) ≥ 1)) = decide (w = u ∧ 0 < n.length) := by
 rw [Bool.eq_iff_iff]; simp only [Bool.and_eq_true, beq_iff_eq, decide_eq_true_eq]; exact and_congr_right fun _ => by omega
theorem xX (r : Rec) : (bif (aK r != 0) then (noRec, aK r) else (r, (0 : Int))) = if aK r = 0 then (r, 0) else (noRec, aK r) := by
 by_cases h : aK r = 0
 ·rw [if_pos h, h]; rfl
 ·rw [if_neg h]
  have : (aK r != 0) = true := by simpa using h
  rw [this, cond_true]
theorem pq {α : Type} {p : Prop} [Decidable p] (a b : α) : (bif decide p then a else b) = if p then a else b := by
 by_cases h : p <;> simp [h]
theorem rt (s : Str) : ∀ (l : List Str) (acc : List Int), fT s l acc = readP (gt (spl 32 s) 0) ((pn l).map (acc ++ ·))
 | [], acc => by
  rw [fT]
  have e7 : (7 : Int) = ((7 : Nat) : Int) := rfl
  have e2 : (2 : Int) = ((2 : Nat) : Int) := rfl
  simp only [pn, Option.map_some, List.append_nil, readP, finR, mkRec]
  simp only [xX]
  rw [show (((gt (spl 32 s) 0) == ([111, 112] : Str)) && ((acc.length : Int) == 7)) = decide (gt (spl 32 s) 0 = [111, 112] ∧ acc.length = 7) from tn (k := 7),
   show (((gt (spl 32 s) 0) == ([108, 105, 102, 101] : Str)) && ((acc.length : Int) == 2)) = decide (gt (spl 32 s) 0 = [108, 105, 102, 101] ∧ acc.length = 2) from tn (k := 2), and_gt, pq, pq, pq]
  by_cases h1 : gt (spl 32 s) 0 = [111, 112] ∧ acc.length = 7
  ·rw [if_pos h1, if_pos h1]
  ·rw [if_neg h1, if_neg h1]
   by_cases h2 : gt (spl 32 s) 0 = [108, 105, 102, 101] ∧ acc.length = 2
   ·rw [if_pos h2, if_pos h2]
   ·rw [if_neg h2, if_neg h2]
    by_cases h3 : gt (spl 32 s) 0 = [114, 111, 111, 116, 115] ∧ 0 < acc.length
    ·rw [if_pos h3, if_pos h3]
    ·rw [if_neg h3, if_neg h3]
 | t :: r, acc => by
  rw [fT, pn]
  cases (ate t || (Lib.itoa (atv t) != t)) with
  | true => rfl
  | false =>
   simp only [cond_false]
   rw [rt s r, Option.map_map]
   congr 2
   funext x; simp
theorem tx {s : Str} (h : s.length ≤ 60000) : bv s = readP (gt (spl 32 s) 0) (pn ((spl 32 s).drop 1)) := by
 unfold bv
 have : decide ((s.length : Int) > 60000) = false := by simp; omega
 rw [this, cond_false, rt]
 congr 1
 cases pn ((spl 32 s).drop 1) <;> simp
theorem wS {s : Str} (h : 60000 < s.length) : bv s = (noRec, 2) := by
 unfold bv
 have : decide ((s.length : Int) > 60000) = true := by simp; omega
 rw [this, cond_true]
theorem xv : ∀ {l : List Int}, (∀ n ∈ l, I64 n) → pn (l.map Lib.itoa) = some l
 | [], _ => rfl
 | n :: l, h => by
  have hn := h n (.head _)
  rw [List.map_cons, pn, zw hn, zu hn, xv (fun m hm => h m (.tail _ hm))]
  simp
theorem xu : ∀ {l : List Str} {n : List Int}, pn l = some n → l = n.map Lib.itoa
 | [], n, h => by simp [pn] at h; subst h; rfl
 | t :: l, n, h => by
  rw [pn] at h
  cases hb : (ate t || (Lib.itoa (atv t) != t)) with
  | true => rw [hb] at h; cases h
  | false =>
   rw [hb, cond_false] at h
   simp only [Bool.or_eq_false_iff, bne_eq_false_iff_eq] at hb
   cases hp : pn l with
   | none => rw [hp] at h; cases h
   | some m =>
    rw [hp] at h
    simp only [Option.map_some, Option.some.injEq] at h
    subst h
    rw [List.map_cons, hb.2, ← xu hp]
theorem Ag (r : Rec) : (32 : UInt8) ∉ wordOf r := by
 unfold wordOf
 cases r.kind == 1 with
 | true => rw [cond_true]; decide
 | false => rw [cond_false]; cases r.kind == 2 with
  | true => rw [cond_true]; decide
  | false => rw [cond_false]; decide
theorem mk_of {r : Rec} (h : aK r = 0) : mkRec (wordOf r) (kr r) = some r := by
 rcases (j5 r).1 h with ⟨h1, _⟩ | ⟨h1, _, _⟩ | ⟨h1, _, _⟩ <;> (rw [h1]; rfl)
theorem AC {w : Str} {n : List Int} {r : Rec} (h : mkRec w n = some r) : wordOf r = w ∧ kr r = n := by
 unfold mkRec at h
 split at h
 ·rename_i hw
  obtain ⟨rfl, hl⟩ := hw
  simp only [Option.some.injEq] at h
  subst h
  match n, hl with
  | [a, b, c, d, e, f, g], _ => exact ⟨rfl, rfl⟩
 ·split at h
  ·rename_i hw
   obtain ⟨rfl, hl⟩ := hw
   simp only [Option.some.injEq] at h
   subst h
   match n, hl with
   | [a, b], _ => exact ⟨rfl, rfl⟩
  ·split at h
   ·rename_i hw
    obtain ⟨rfl, hl⟩ := hw
    simp only [Option.some.injEq] at h
    subst h
    match n, hl with
    | a :: l, _ => exact ⟨rfl, rfl⟩
   ·cases h
theorem vK : ∀ {l : List Int}, (∀ n ∈ l, I64 n) → (glue 32 (l.map Lib.itoa)).length ≤ 22 * l.length
 | [], _ => by simp [glue]
 | n :: l, h => by
  have h1 := vK (fun m hm => h m (.tail n hm))
  have h2 := Lib.itoa_length_le n (h n (.head _)).1 (h n (.head _)).2
  simp only [glue, List.map_cons, List.flatMap_cons, List.length_append, List.length_cons] at h1 ⊢
  omega
theorem yG (r : Rec) : (wordOf r).length ≤ 5 := by
 unfold wordOf
 cases r.kind == 1 with
 | true => rw [cond_true]; decide
 | false => rw [cond_false]; cases r.kind == 2 with
  | true => rw [cond_true]; decide
  | false => rw [cond_false]; decide
theorem nk {r : Rec} (h : aK r = 0) : (lf r).length ≤ 159 := by
 have h1 := qK h
 have h2 := vK h1.2
 have h3 := yG r
 rw [lf, List.length_append]
 omega
theorem spl_pr {r : Rec} : spl 32 (lf r) = wordOf r :: (kr r).map Lib.itoa :=
 vo _ _ (Ag r) (fun t ht => by
  obtain ⟨n, _, rfl⟩ := List.mem_map.1 ht
  exact xS (by decide))
theorem vd {r : Rec} (h : aK r = 0) : bv (lf r) = (r, 0) := by
 rw [tx (by have := nk h; omega), spl_pr, show gt (wordOf r :: (kr r).map Lib.itoa) 0 = wordOf r from rfl, List.drop_succ_cons, List.drop_zero, xv (qK h).2, readP, finR, mk_of h]
 simp only [h, if_pos]
theorem zD {s : Str} {x : Rec} (h : bv s = (x, 0)) : aK x = 0 ∧ lf x = s := by
 by_cases hs : s.length ≤ 60000
 ·rw [tx hs] at h
  obtain ⟨w, l, h1, h2⟩ := vJ 32 s.length s (Nat.le_refl _)
  rw [h1] at h
  have e : gt (w :: l) 0 = w := rfl
  rw [e, List.drop_succ_cons, List.drop_zero] at h
  cases hp : pn l with
  | none => rw [hp, readP] at h; cases h
  | some n =>
   rw [hp, readP, finR] at h
   cases hm : mkRec w n with
   | none => rw [hm] at h; cases h
   | some r =>
    rw [hm] at h
    simp only at h
    split at h
    ·rename_i hc
     simp only [Prod.mk.injEq, and_true] at h
     subst h
     obtain ⟨h3, h4⟩ := AC hm
     refine ⟨hc, ?_⟩
     rw [lf, h3, h4, h2, xu hp]
    ·rename_i hc
     simp only [Prod.mk.injEq] at h
     exact absurd h.2 hc
 ·rw [wS (by omega)] at h; cases h
end Go.Proofs.YtkjccbdeaflekaaGreatDoor

set_option maxHeartbeats 2000000
namespace Go.Proofs.YtkjccbdeaflekaaGreatDoor
open Go Go.Proofs.YtkjccbdeaflekaaGreatDoor.Fw Go.Proofs
attribute [local irreducible] RdL RdN VarP LibP RW CW
theorem m3 {a b : Nat} (h : (decide ((a : Int) > 60000) || decide ((b : Int) > (60000 - (a : Int)))) = false) : a ≤ 60000 ∧ a + b ≤ 60000 := by
 simp only [Bool.or_eq_false_iff, decide_eq_false_iff_not] at h; omega
theorem yy (r : Rec) : (dr r).1.length ≤ 159 := by
 rw [wd]
 split
 ·rename_i h; exact nk h
 ·simp
def cn (d1 : Disk) : Int :=
 (bif (decide ((d1.safe.length : Int) > 60000) || decide ((d1.wait.length : Int) > (60000 - (d1.safe.length : Int)))) then 2 else (aD d1.safe 60).2.2)
theorem jb (y1 : SlV) (y2 : SlV) (d1 : Disk) : Does Tryz.prog 107 [.agg ⟨cK y1 y2 d1⟩] [RdL EByte y1 d1.safe, RdL EByte y2 d1.wait, LibP Tryz.prog] (fun (_ : Unit) => .int .i64 (cn d1)) (fun _ => []) := by
 refine Dp aH Tryz.func107 Tryz.ntmps107 Tryz.results107 fun C => ?_
 refine Pc EByte y1 d1.safe 1 fun hlen1 => ?_
 refine Pc EByte y2 d1.wait 1 fun hlen2 => ?_
 refine BxT fun g1 => ?_
 have hf := Ri (cn.eq_1 d1)
 refine Ch hf (fun hc1 hf => ?_) fun hc1 hf => ?_
 ·exact Ru
 ·have hdl := m3 hc1
  refine Sy Tz (rV (X := y1) (l := d1.safe) rP und_5 und_9 rfl rfl Zf Mm) ?_
  refine Cm (kv d1.safe 60 Zc) fun x1 => ?_
  exact Ru
theorem jc {d : Disk} (h : cn d = 0) : d.safe.length ≤ 60000 ∧ d.safe.length + d.wait.length ≤ 60000 := by
 unfold cn at h
 generalize hb : (decide ((d.safe.length : Int) > 60000) || decide ((d.wait.length : Int) > (60000 - (d.safe.length : Int)))) = b at h
 cases b with
 | true => simp at h
 | false => exact m3 hb
def fe (d1 : Disk) (r1 : Rec) : Disk × Int :=
 (bif ((cn d1) != 0) then ((⟨[], []⟩ : Disk), (cn d1)) else (bif ((dr r1).2 != 0) then ((⟨[], []⟩ : Disk), (dr r1).2) else (bif decide ((((dr r1).1.length : Int) + 1) > ((60000 - (d1.safe.length : Int)) - (d1.wait.length : Int))) then ((⟨[], []⟩ : Disk), 2) else ((⟨d1.safe, ((d1.wait ++ (dr r1).1) ++ [10])⟩ : Disk), 0))))
theorem oT (y1 : SlV) (y2 : SlV) (d1 : Disk) (y3 : SlV) (r1 : Rec) : Does Tryz.prog 177 [.agg ⟨cK y1 y2 d1⟩, .agg ⟨cR y3 r1⟩] [RdL EByte y1 d1.safe, RdL EByte y2 d1.wait, RdL EInt y3 r1.roots, LibP Tryz.prog] (fun (X : SlV × SlV) => .tuple #[.agg ⟨cK X.1 X.2 (fe d1 r1).1⟩, .int .i64 (fe d1 r1).2]) (fun X => [RdL EByte X.1 (fe d1 r1).1.safe, RdL EByte X.2 (fe d1 r1).1.wait]) := by
 refine Dp aH Tryz.func177 Tryz.ntmps177 Tryz.results177 fun C => ?_
 refine Pc EByte y1 d1.safe 1 fun hlen1 => ?_
 refine Pc EByte y2 d1.wait 1 fun hlen2 => ?_
 refine Pc EInt y3 r1.roots 8 fun hlen3 => ?_
 refine BxT fun g1 => ?_
 refine BxT fun g2 => ?_
 refine AlT fun g3 => ?_
 refine Ck (jb y1 y2 d1) fun _ => ?_
 have hf := Ri (fe.eq_1 d1 r1)
 refine Cn hf (fun hc1 hc1p hf => ?_) fun hc1 hc1p hf => ?_
 ·refine Tx ?_
  refine Fc EByte ?_
  refine Rx ?_; exact Re ⟨Z0, Z0⟩ Rv
 ·have hdl := jc (ai hc1)
  refine Ck (qL y3 r1) fun _ => ?_
  refine Cn hf (fun hc2 hc2p hf => ?_) fun hc2 hc2p hf => ?_
  ·refine Tx ?_
   refine Fc EByte ?_
   refine Rx ?_; exact Re ⟨Z0, Z0⟩ Rv
  ·have hpl := yy r1
   refine Sy Tz (nC (a := (dr r1).1) rfl rfl Zf und_9) ?_
   refine Cp hf (fun hc3 hc3p hf => ?_) fun hc3 hc3p hf => ?_
   ·refine Tx ?_
    refine Fc EByte ?_
    refine Rx ?_; exact Re ⟨Z0, Z0⟩ Rv
   ·refine Tx ?_
    refine Jn (SlV × Option Nat × SlV × Option Nat) [4, 5] [false, true, true] (fun ⟨x1, b1, x2, b2⟩ => ⟨[], [⟨g3, 33, [x1.val d1.safe.length, x2.val ((d1.wait ++ (dr r1).1) ++ [10]).length]⟩], [ownL EByte 5 x1 b1 d1.safe, ownL EByte 5 x2 b2 ((d1.wait ++ (dr r1).1) ++ [10])], [], True, 0⟩) ?_ ?_
    ·refine aq (fun j => match j with | 7 => none | 9 => none | 11 => some [g3] | _ => some []) ?_
     refine Dx [0,1,3,4,6] ?_
     refine Rw 2 8 ?_ ?_
     ·refine Cm (dJ y1 d1.safe) fun x3 => ?_
      refine Rw 5 8 ?_ ?_
      ·refine Cm (dJ y2 d1.wait) fun x4 => ?_
       refine Rw 7 8 ?_ ?_
       ·refine nh d1.wait (dr r1).1 (b := x4.2) (.lo (x4.2 : Option Nat).toList rfl rfl) (fun g h => .inr (by simp [h])) (am rfl) rfl rfl rfl rfl rfl rfl rfl und_9 (fun _ _ => Uo) rfl rfl rfl rfl rfl (by omega) fun x5 x5b => ?_
        refine Rn 8 ?_
        refine Bl EByte [10] fun x6 x6b => ?_
        refine Rn 9 ?_
        refine Ap EByte 1 (d1.wait ++ (dr r1).1) [10] x5b fun x7 x7b => ?_
        refine Ra 10 rfl Qp ?_
        refine Rn 11 ?_
        refine Wa ?_
        refine Ra 12 rfl Qp ?_
        refine Re0 ?_
        refine ⟨⟨x3.1, x3.2, x7, x7b⟩, trivial, Le4⟩
       ·refine Bl EByte [10] fun x8 x8b => ?_
        refine Rn 7 ?_
        refine nh d1.wait (dr r1).1 (b := x4.2) (.lo (x4.2 : Option Nat).toList rfl rfl) (fun g h => .inr (by simp [h])) (am rfl) rfl rfl rfl rfl rfl rfl rfl und_9 (fun _ _ => Uo) rfl rfl rfl rfl rfl (by omega) fun x9 x9b => ?_
        refine Rn 9 ?_
        refine Ap EByte 1 (d1.wait ++ (dr r1).1) [10] x9b fun x10 x10b => ?_
        refine Ra 10 rfl Qp ?_
        refine Rn 11 ?_
        refine Wa ?_
        refine Ra 12 rfl Qp ?_
        refine Re0 ?_
        refine ⟨⟨x3.1, x3.2, x10, x10b⟩, trivial, Le4⟩
      ·refine Bl EByte [10] fun x11 x11b => ?_
       refine Rn 5 ?_
       refine Cm (dJ y2 d1.wait) fun x12 => ?_
       refine Rn 7 ?_
       refine nh d1.wait (dr r1).1 (b := x12.2) (.lo (x12.2 : Option Nat).toList rfl rfl) (fun g h => .inr (by simp [h])) (am rfl) rfl rfl rfl rfl rfl rfl rfl und_9 (fun _ _ => Uo) rfl rfl rfl rfl rfl (by omega) fun x13 x13b => ?_
       refine Rn 9 ?_
       refine Ap EByte 1 (d1.wait ++ (dr r1).1) [10] x13b fun x14 x14b => ?_
       refine Ra 10 rfl Qp ?_
       refine Rn 11 ?_
       refine Wa ?_
       refine Ra 12 rfl Qp ?_
       refine Re0 ?_
       refine ⟨⟨x3.1, x3.2, x14, x14b⟩, trivial, Le4⟩
     ·refine Bl EByte [10] fun x15 x15b => ?_
      refine Rn 2 ?_
      refine Cm (dJ y1 d1.safe) fun x16 => ?_
      refine Rn 5 ?_
      refine Cm (dJ y2 d1.wait) fun x17 => ?_
      refine Rn 7 ?_
      refine nh d1.wait (dr r1).1 (b := x17.2) (.lo (x17.2 : Option Nat).toList rfl rfl) (fun g h => .inr (by simp [h])) (am rfl) rfl rfl rfl rfl rfl rfl rfl und_9 (fun _ _ => Uo) rfl rfl rfl rfl rfl (by omega) fun x18 x18b => ?_
      refine Rn 9 ?_
      refine Ap EByte 1 (d1.wait ++ (dr r1).1) [10] x18b fun x19 x19b => ?_
      refine Ra 10 rfl Qp ?_
      refine Rn 11 ?_
      refine Wa ?_
      refine Ra 12 rfl Qp ?_
      refine Re0 ?_
      refine ⟨⟨x16.1, x16.2, x19, x19b⟩, trivial, Le4⟩
    ·rintro ⟨x1, b1, x2, b2⟩ -
     simp only [Lc]
     (repeat refine aI ?_)
     refine cw_le (ao EByte 5 x1 b1 d1.safe Uo) ?_
     refine cw_le (ao EByte 5 x2 b2 ((d1.wait ++ (dr r1).1) ++ [10]) Uo) ?_
     refine Rx ?_; exact Re ⟨x1, x2⟩ Rv
def gz (d1 : Disk) : Disk × Int :=
 (bif ((cn d1) != 0) then ((⟨[], []⟩ : Disk), (cn d1)) else (bif ((cn (⟨([d1.safe, d1.wait].flatten), ([] : List UInt8)⟩ : Disk)) != 0) then ((⟨[], []⟩ : Disk), (cn (⟨([d1.safe, d1.wait].flatten), ([] : List UInt8)⟩ : Disk))) else ((⟨([d1.safe, d1.wait].flatten), ([] : List UInt8)⟩ : Disk), 0)))
theorem rI (y1 : SlV) (y2 : SlV) (d1 : Disk) : Does Tryz.prog 178 [.agg ⟨cK y1 y2 d1⟩] [RdL EByte y1 d1.safe, RdL EByte y2 d1.wait, LibP Tryz.prog] (fun (X : SlV × SlV) => .tuple #[.agg ⟨cK X.1 X.2 (gz d1).1⟩, .int .i64 (gz d1).2]) (fun X => [RdL EByte X.1 (gz d1).1.safe, RdL EByte X.2 (gz d1).1.wait]) := by
 refine Dp aH Tryz.func178 Tryz.ntmps178 Tryz.results178 fun C => ?_
 refine Pc EByte y1 d1.safe 1 fun hlen1 => ?_
 refine Pc EByte y2 d1.wait 1 fun hlen2 => ?_
 refine BxT fun g1 => ?_
 refine AlT fun g2 => ?_
 refine Ck (jb y1 y2 d1) fun _ => ?_
 have hf := Ri (gz.eq_1 d1)
 refine Cn hf (fun hc1 hc1p hf => ?_) fun hc1 hc1p hf => ?_
 ·refine Tx ?_
  refine Fc EByte ?_
  refine Rx ?_; exact Re ⟨Z0, Z0⟩ Rv
 ·have hdl := jc (ai hc1)
  refine Bl NBytes.E [(y1, d1.safe), (y2, d1.wait)] fun x1 x1b => ?_
  refine rw_le (ao NBytes.E 31 x1 x1b [(y1, d1.safe), (y2, d1.wait)] Uo) ?_
  refine dC (F := RdN NBytes x1 [d1.safe, d1.wait]) [RdL NBytes.E x1 [(y1, d1.safe), (y2, d1.wait)], RdL EByte y1 d1.safe, RdL EByte y2 d1.wait] Sm (fun M w h => RdN.of NBytes (hs := [(y1, d1.safe), (y2, d1.wait)]) rfl (h _ (.head _)) (aE (dA Sm h) (aE (dA Sm h) (fun p hp => by cases hp)))) ?_
  refine Cm (ek x1 [d1.safe, d1.wait] (by simp only [List.flatten_cons, List.flatten_nil, List.length_append, List.length_nil, List.length_take]; omega)) fun x2 => ?_
  refine Rp rfl rfl rfl rfl ?_
  refine AlT fun g3 => ?_
  refine Tx ?_
  refine Fr EByte ?_
  refine ol (jb x2.1 Z0 (⟨([d1.safe, d1.wait].flatten), ([] : List UInt8)⟩ : Disk)) .sq (am rfl) rfl rfl rfl Kr rfl rfl (.own Mm (.fact Mm (.fact Mm (.nil _ _)))) ?_
  intro _
  refine Cn hf (fun hc2 hc2p hf => ?_) fun hc2 hc2p hf => ?_
  ·refine Rx ?_; exact Re ⟨Z0, Z0⟩ Rv
  ·refine Tx ?_
   refine cw_le (ao EByte 5 x2.1 x2.2 ([d1.safe, d1.wait].flatten) Uo) ?_
   refine Rx ?_; exact Re ⟨x2.1, Z0⟩ Rv
def ar (d1 : Disk) : Disk × (List Rec) × Int :=
 (bif ((cn d1) != 0) then ((⟨[], []⟩ : Disk), ([] : List Rec), (cn d1)) else ((⟨([d1.safe, (d1.wait.take (aD d1.wait (60 - ((aD d1.safe 60).1.length : Int))).2.1.toNat)].flatten), ([] : List UInt8)⟩ : Disk), ((aD d1.safe 60).1 ++ (aD d1.wait (60 - ((aD d1.safe 60).1.length : Int))).1), 0))
theorem ge (y1 : SlV) (y2 : SlV) (d1 : Disk) : Does Tryz.prog 63 [.agg ⟨cK y1 y2 d1⟩] [RdL EByte y1 d1.safe, RdL EByte y2 d1.wait, LibP Tryz.prog] (fun (X : SlV × SlV × SlV) => .tuple #[.agg ⟨cK X.1 X.2.1 (ar d1).1⟩, X.2.2.val (ar d1).2.1.length, .int .i64 (ar d1).2.2]) (fun X => [RdL EByte X.1 (ar d1).1.safe, RdL EByte X.2.1 (ar d1).1.wait, RdN NRec X.2.2 (ar d1).2.1]) := by
 refine Dp aH Tryz.func63 Tryz.ntmps63 Tryz.results63 fun C => ?_
 refine Pc EByte y1 d1.safe 1 fun hlen1 => ?_
 refine Pc EByte y2 d1.wait 1 fun hlen2 => ?_
 refine BxT fun g1 => ?_
 refine AlT fun g2 => ?_
 refine Ck (jb y1 y2 d1) fun _ => ?_
 have hf := Ri (ar.eq_1 d1)
 refine Cn hf (fun hc1 hc1p hf => ?_) fun hc1 hc1p hf => ?_
 ·refine Tx ?_
  refine Fc EByte ?_
  refine Ft NRec ?_
  refine Rx ?_; exact Re ⟨Z0, Z0, Z0⟩ Rv
 ·have hdl := jc (ai hc1)
  refine Sy Tz (rV (X := y1) (l := d1.safe) rP und_5 und_9 rfl rfl Zf Mm) ?_
  refine Cm (kv d1.safe 60 Zc) fun x1 => ?_
  have hl1 := lY d1.safe 60
  refine Sy Tz (rV (X := y2) (l := d1.wait) rP und_5 und_9 rfl rfl Zf Mm) ?_
  refine Cm (kv d1.wait (60 - ((aD d1.safe 60).1.length : Int)) Zc) fun x2 => ?_
  have hl2 := lY d1.wait (60 - ((aD d1.safe 60).1.length : Int))
  refine Tx ?_
  (repeat refine aI ?_); refine aq (fun j => match j with | 11 => some x1.2.1.toList | 12 => some [g2] | _ => some []) ?_
  refine Dx [0,1,2,3,4] ?_
  refine Rb 5 rfl (xp EByte (aD d1.wait (60 - ((aD d1.safe 60).1.length : Int))).2.1.toNat rfl rfl Zf rfl Zf rfl rfl Mm Zo Zo) ?_
  refine dC (F := RdL EByte y2 (d1.wait.take (aD d1.wait (60 - ((aD d1.safe 60).1.length : Int))).2.1.toNat)) [RdL EByte y2 d1.wait] Sm (fun M w h => (allF1 h).take _) ?_
  refine Dx [9,10] ?_
  refine Rn 6 ?_
  refine Bl NBytes.E [(y1, d1.safe), (y2, (d1.wait.take (aD d1.wait (60 - ((aD d1.safe 60).1.length : Int))).2.1.toNat))] fun x3 x3b => ?_
  refine Rn 7 ?_
  refine rw_le (ao NBytes.E 31 x3 x3b [(y1, d1.safe), (y2, (d1.wait.take (aD d1.wait (60 - ((aD d1.safe 60).1.length : Int))).2.1.toNat))] Uo) ?_
  refine dC (F := RdN NBytes x3 [d1.safe, (d1.wait.take (aD d1.wait (60 - ((aD d1.safe 60).1.length : Int))).2.1.toNat)]) [RdL NBytes.E x3 [(y1, d1.safe), (y2, (d1.wait.take (aD d1.wait (60 - ((aD d1.safe 60).1.length : Int))).2.1.toNat))], RdL EByte y1 d1.safe, RdL EByte y2 (d1.wait.take (aD d1.wait (60 - ((aD d1.safe 60).1.length : Int))).2.1.toNat)] Sm (fun M w h => RdN.of NBytes (hs := [(y1, d1.safe), (y2, (d1.wait.take (aD d1.wait (60 - ((aD d1.safe 60).1.length : Int))).2.1.toNat))]) rfl (h _ (.head _)) (aE (dA Sm h) (aE (dA Sm h) (fun p hp => by cases hp)))) ?_
  refine Cm (ek x3 [d1.safe, (d1.wait.take (aD d1.wait (60 - ((aD d1.safe 60).1.length : Int))).2.1.toNat)] (by simp only [List.flatten_cons, List.flatten_nil, List.length_append, List.length_nil, List.length_take]; omega)) fun x4 => ?_
  refine Rq (Fa 8 [11]) Sa Xv ?_
  refine Rn 11 ?_
  refine j9 NRec x1.2.2 x2.2.2 (aD d1.safe 60).1 (aD d1.wait (60 - ((aD d1.safe 60).1.length : Int))).1 (b := x1.2.1) (.an rfl rfl) (fun g h => .inr (by simp [h])) (am rfl) rfl rfl rfl rfl rfl rfl rfl (fun _ _ => Uo) rfl rfl rfl rfl rfl rfl rfl (rT (e := 78) (b := x2.2.1) Mm) (by show ((aD d1.safe 60).1.length + (aD d1.wait (60 - ((aD d1.safe 60).1.length : Int))).1.length) * 104 ≤ 140737488355328; (try simp only [List.length_append, List.length_cons, List.length_nil]); omega) fun x5 x5b => ?_
  refine dC (F := FactsG NRec (appG x1.2.2 (aD d1.safe 60).1.length x2.2.2) ((aD d1.safe 60).1 ++ (aD d1.wait (60 - ((aD d1.safe 60).1.length : Int))).1)) [FactsG NRec x1.2.2 (aD d1.safe 60).1, FactsG NRec x2.2.2 (aD d1.wait (60 - ((aD d1.safe 60).1.length : Int))).1] Sm (fun M w h => FactsG.app NRec (h _ (.head _)) (h _ (.tail _ (.head _)))) ?_
  refine Rn 12 ?_
  refine Wa ?_
  refine Dx [13,14] ?_
  refine Re0 ?_
  (repeat refine aI ?_)
  refine cw_le (ao EByte 5 x4.1 x4.2 ([d1.safe, (d1.wait.take (aD d1.wait (60 - ((aD d1.safe 60).1.length : Int))).2.1.toNat)].flatten) Uo) ?_
  refine Fc EByte ?_
  refine cw_le (ao NRec.E 78 x5 x5b (zipG (appG x1.2.2 (aD d1.safe 60).1.length x2.2.2) 0 ((aD d1.safe 60).1 ++ (aD d1.wait (60 - ((aD d1.safe 60).1.length : Int))).1)) Uo) ?_
  refine Fj NRec x5 (appG x1.2.2 (aD d1.safe 60).1.length x2.2.2) ((aD d1.safe 60).1 ++ (aD d1.wait (60 - ((aD d1.safe 60).1.length : Int))).1) ?_
  refine Rx ?_; exact Re ⟨x4.1, Z0, x5⟩ Rv
theorem k4 (x : SlV) (l : List (NClient.G × Client)) : DoesG Tryz.prog 81 [x.val l.length] [RdL NClient.E x l] ⟨[], []⟩ (fun (X : SlV × Option Nat) => X.1.val l.length) (fun _ => []) (fun X => ⟨[], [ownL NClient.E 63 X.1 X.2 l]⟩) := by
 refine Dq aH Tryz.func81 Tryz.ntmps81 Tryz.results81 fun C => ?_
 refine eI (φ := l.length * NClient.E.by_ ≤ 140737488355328) [RdL NClient.E x l] Sm (fun M w h => (allF1 h).len) fun hlen => ?_
 refine Sy Tz (lJ rfl rfl Zf rfl) ?_
 refine eo ?_
 (repeat refine aI ?_); refine jR rfl rfl (fun hc0 => ?_) (fun hc0 => ?_)
 ·refine eI [RdL NClient.E x l] Sm (fun M w h => (allF1 h).nil_of hc0) fun hnil => ?_
  subst hnil
  refine cw_le (eu NClient.E 63) ?_
  refine Tx ?_
  (repeat refine aI ?_); refine d8 ?_
  exact ⟨(⟨none, 0⟩, none), _, (.cons (.tmp rfl) .nil), rfl, .nil _, .nil _, Sp⟩
 ·refine Bl NClient.E [] fun x1 x1b => ?_
  refine Rp rfl rfl rfl rfl ?_
  refine jk NClient.E [] l (b := x1b) .sq (fun _ _ => .inl ⟨_, rfl⟩) (am rfl) rfl rfl rfl rfl rfl rfl rfl (fun _ _ => Uo) rfl rfl rfl rfl rfl rfl rfl (mQ Mm) (by simpa using hlen) fun x2 x2b => ?_
  refine Tx ?_
  (repeat refine aI ?_); refine d8 ?_
  exact ⟨(x2, x2b), _, (.cons (.tmp rfl) .nil), rfl, .nil _, .nil _, Sp⟩
theorem le (x : SlV) (γ : Nat → NClient.G) (l : List Client) : DoesG Tryz.prog 81 [x.val l.length] [RdG NClient x γ l] ⟨[], []⟩ (fun (X : SlV × Option Nat) => X.1.val l.length) (fun _ => []) (fun X => ⟨[], [ownL NClient.E 63 X.1 X.2 (zipG γ 0 l)]⟩) := by
 have := k4 x (zipG γ 0 l)
 rw [dy] at this
 exact this
def ej  : Wld :=
 (⟨dj, (⟨[], []⟩ : Disk), true, [(⟨0, 0, 0, ([] : List Op), 0, (⟨[], [], []⟩ : View)⟩ : Client), (⟨0, 0, 0, ([] : List Op), 0, (⟨[], [], []⟩ : View)⟩ : Client), (⟨0, 0, 0, ([] : List Op), 0, (⟨[], [], []⟩ : View)⟩ : Client)], ([] : List Mail)⟩ : Wld)
theorem rE  : Does Tryz.prog 16 [] [] (fun (X : SlV × SlV × SlV × SlV × SlV × SlV × SlV) => .agg ⟨cW X.1 X.2.1 X.2.2.1 X.2.2.2.1 X.2.2.2.2.1 X.2.2.2.2.2.1 X.2.2.2.2.2.2 ej⟩) (fun X => [RdL EStep X.1 ej.h.h.l, RdL EPlace X.2.1 ej.h.h.t, RdN NPeer X.2.2.1 ej.h.peers, RdL EByte X.2.2.2.1 ej.d.safe, RdL EByte X.2.2.2.2.1 ej.d.wait, RdN NClient X.2.2.2.2.2.1 ej.c, RdN NMail X.2.2.2.2.2.2 ej.mail]) := by
 refine Dp aH Tryz.func16 Tryz.ntmps16 Tryz.results16 fun C => ?_
 refine AlT fun g1 => ?_
 refine Tx ?_
 refine Jn (SlV × SlV × SlV × SlV × Option Nat) [0] [false] (fun ⟨x1, x2, x3, x4, b1⟩ => ⟨[], [⟨g1, 37, [x1.val dj.h.l.length, x2.val dj.h.t.length, .int .i64 dj.version, x3.val dj.peers.length, .slice none 0 0, .slice none 0 0, .bool true, x4.val [(⟨0, 0, 0, ([] : List Op), 0, (⟨[], [], []⟩ : View)⟩ : Client), (⟨0, 0, 0, ([] : List Op), 0, (⟨[], [], []⟩ : View)⟩ : Client), (⟨0, 0, 0, ([] : List Op), 0, (⟨[], [], []⟩ : View)⟩ : Client)].length, .slice none 0 0]⟩], [ownL NClient.E 63 x4 b1 (zipG (fun _ => (Z0, Z0, Z0, Z0)) 0 [(⟨0, 0, 0, ([] : List Op), 0, (⟨[], [], []⟩ : View)⟩ : Client), (⟨0, 0, 0, ([] : List Op), 0, (⟨[], [], []⟩ : View)⟩ : Client), (⟨0, 0, 0, ([] : List Op), 0, (⟨[], [], []⟩ : View)⟩ : Client)])], [RdL EStep x1 dj.h.l, RdL EPlace x2 dj.h.t, RdN NPeer x3 dj.peers, FactsG NClient (fun _ => (Z0, Z0, Z0, Z0)) [(⟨0, 0, 0, ([] : List Op), 0, (⟨[], [], []⟩ : View)⟩ : Client), (⟨0, 0, 0, ([] : List Op), 0, (⟨[], [], []⟩ : View)⟩ : Client), (⟨0, 0, 0, ([] : List Op), 0, (⟨[], [], []⟩ : View)⟩ : Client)]], True, 0⟩) ?_ ?_
 ·refine aq (fun j => match j with | 3 => some [g1] | _ => some []) ?_
  refine Rw 0 1 ?_ ?_
  ·refine Ck (kL ) fun x5 => ?_
   refine Pr EStep x5.1 dj.h.l 88 fun hlen1 => ?_
   refine Pr EPlace x5.2.1 dj.h.t 24 fun hlen2 => ?_
   refine Pm NPeer x5.2.2 dj.peers 40 fun hlen3 => ?_
   refine Rn 1 ?_
   refine lH NClient.E (zipG (fun _ => (Z0, Z0, Z0, Z0)) 0 [(⟨0, 0, 0, ([] : List Op), 0, (⟨[], [], []⟩ : View)⟩ : Client), (⟨0, 0, 0, ([] : List Op), 0, (⟨[], [], []⟩ : View)⟩ : Client), (⟨0, 0, 0, ([] : List Op), 0, (⟨[], [], []⟩ : View)⟩ : Client)]) (.an rfl rfl) (am rfl) rfl rfl rfl rfl rfl rfl rfl rfl rfl rfl rfl rfl rfl rfl rfl rfl rfl fun x6 x6b => ?_
   refine Fr EOp ?_
   refine Fr EInt ?_
   refine Fr EPlace ?_
   refine dC (F := FactsG NClient (fun _ => (Z0, Z0, Z0, Z0)) [(⟨0, 0, 0, ([] : List Op), 0, (⟨[], [], []⟩ : View)⟩ : Client), (⟨0, 0, 0, ([] : List Op), 0, (⟨[], [], []⟩ : View)⟩ : Client), (⟨0, 0, 0, ([] : List Op), 0, (⟨[], [], []⟩ : View)⟩ : Client)]) [RdL EOp Z0 ([] : List Op), RdL EInt Z0 ([] : List Int), RdL EPlace Z0 ([] : List Place), RdL EPlace Z0 ([] : List Place)] Sm (fun M w h => FactsG.const NClient (by intro a ha; simp only [List.mem_cons, List.not_mem_nil, or_false, or_self] at ha; subst ha; exact dA Sm h)) ?_
   refine Ra 2 rfl Qp ?_
   refine Rn 3 ?_
   refine Wa ?_
   refine Re0 ?_
   refine ⟨⟨x5.1, x5.2.1, x5.2.2, x6, x6b⟩, trivial, Le4⟩
  ·refine lH NClient.E (zipG (fun _ => (Z0, Z0, Z0, Z0)) 0 [(⟨0, 0, 0, ([] : List Op), 0, (⟨[], [], []⟩ : View)⟩ : Client), (⟨0, 0, 0, ([] : List Op), 0, (⟨[], [], []⟩ : View)⟩ : Client), (⟨0, 0, 0, ([] : List Op), 0, (⟨[], [], []⟩ : View)⟩ : Client)]) (.an rfl rfl) (am rfl) rfl rfl rfl rfl rfl rfl rfl rfl rfl rfl rfl rfl rfl rfl rfl rfl rfl fun x7 x7b => ?_
   refine Fr EOp ?_
   refine Fr EInt ?_
   refine Fr EPlace ?_
   refine dC (F := FactsG NClient (fun _ => (Z0, Z0, Z0, Z0)) [(⟨0, 0, 0, ([] : List Op), 0, (⟨[], [], []⟩ : View)⟩ : Client), (⟨0, 0, 0, ([] : List Op), 0, (⟨[], [], []⟩ : View)⟩ : Client), (⟨0, 0, 0, ([] : List Op), 0, (⟨[], [], []⟩ : View)⟩ : Client)]) [RdL EOp Z0 ([] : List Op), RdL EInt Z0 ([] : List Int), RdL EPlace Z0 ([] : List Place), RdL EPlace Z0 ([] : List Place)] Sm (fun M w h => FactsG.const NClient (by intro a ha; simp only [List.mem_cons, List.not_mem_nil, or_false, or_self] at ha; subst ha; exact dA Sm h)) ?_
   refine Rn 0 ?_
   refine Ck (kL ) fun x8 => ?_
   refine Pr EStep x8.1 dj.h.l 88 fun hlen4 => ?_
   refine Pr EPlace x8.2.1 dj.h.t 24 fun hlen5 => ?_
   refine Pm NPeer x8.2.2 dj.peers 40 fun hlen6 => ?_
   refine Ra 2 rfl Qp ?_
   refine Rn 3 ?_
   refine Wa ?_
   refine Re0 ?_
   refine ⟨⟨x8.1, x8.2.1, x8.2.2, x7, x7b⟩, trivial, Le4⟩
 ·rintro ⟨x1, x2, x3, x4, b1⟩ -
  simp only [Lc]
  (repeat refine aI ?_)
  refine Fc EByte ?_
  refine cw_le (ao NClient.E 63 x4 b1 (zipG (fun _ => (Z0, Z0, Z0, Z0)) 0 [(⟨0, 0, 0, ([] : List Op), 0, (⟨[], [], []⟩ : View)⟩ : Client), (⟨0, 0, 0, ([] : List Op), 0, (⟨[], [], []⟩ : View)⟩ : Client), (⟨0, 0, 0, ([] : List Op), 0, (⟨[], [], []⟩ : View)⟩ : Client)]) Uo) ?_
  refine Fj NClient x4 (fun _ => (Z0, Z0, Z0, Z0)) [(⟨0, 0, 0, ([] : List Op), 0, (⟨[], [], []⟩ : View)⟩ : Client), (⟨0, 0, 0, ([] : List Op), 0, (⟨[], [], []⟩ : View)⟩ : Client), (⟨0, 0, 0, ([] : List Op), 0, (⟨[], [], []⟩ : View)⟩ : Client)] ?_
  refine Ft NMail ?_
  have hf := Ri ej.eq_1
  refine Rx ?_; exact Re ⟨x1, x2, x3, Z0, Z0, x4, Z0⟩ Rv
def fi (w1 : Wld) : List Client → Nat → (List Client) → Wld
 | [], n1, l1 => (⟨w1.h, w1.d, w1.up, l1, w1.mail⟩ : Wld)
 | pn1 :: rn1, n1, l1 => (fi w1 rn1 (n1 + 1) (l1.set n1 (gt l1 n1)))
def e6 (w1 : Wld) : Wld :=
 (fi w1 w1.c 0 w1.c)
theorem qq (y1 : SlV) (y2 : SlV) (y3 : SlV) (y4 : SlV) (y5 : SlV) (y6 : SlV) (y7 : SlV) (w1 : Wld) : DoesG Tryz.prog 31 [.agg ⟨cW y1 y2 y3 y4 y5 y6 y7 w1⟩] [RdL EStep y1 w1.h.h.l, RdL EPlace y2 w1.h.h.t, RdN NPeer y3 w1.h.peers, RdL EByte y4 w1.d.safe, RdL EByte y5 w1.d.wait, RdN NClient y6 w1.c, RdN NMail y7 w1.mail] ⟨[], []⟩ (fun (X : SlV × SlV × SlV × SlV × SlV × SlV × Option Nat × (Nat → SlV × SlV × SlV × SlV) × SlV) => .agg ⟨cW X.1 X.2.1 X.2.2.1 X.2.2.2.1 X.2.2.2.2.1 X.2.2.2.2.2.1 X.2.2.2.2.2.2.2.2 (e6 w1)⟩) (fun X => [RdL EStep X.1 (e6 w1).h.h.l, RdL EPlace X.2.1 (e6 w1).h.h.t, RdN NPeer X.2.2.1 (e6 w1).h.peers, RdL EByte X.2.2.2.1 (e6 w1).d.safe, RdL EByte X.2.2.2.2.1 (e6 w1).d.wait, RdN NMail X.2.2.2.2.2.2.2.2 (e6 w1).mail, FactsG NClient X.2.2.2.2.2.2.2.1 (e6 w1).c]) (fun X => ⟨[], [ownL NClient.E 63 X.2.2.2.2.2.1 X.2.2.2.2.2.2.1 (zipG X.2.2.2.2.2.2.2.1 0 (e6 w1).c)]⟩) := by
 refine Dq aH Tryz.func31 Tryz.ntmps31 Tryz.results31 fun C => ?_
 refine Pc EStep y1 w1.h.h.l 88 fun hlen1 => ?_
 refine Pc EPlace y2 w1.h.h.t 24 fun hlen2 => ?_
 refine Pn NPeer y3 w1.h.peers 40 fun hlen3 => ?_
 refine Pc EByte y4 w1.d.safe 1 fun hlen4 => ?_
 refine Pc EByte y5 w1.d.wait 1 fun hlen5 => ?_
 refine Pn NClient y6 w1.c 128 fun hlen6 => ?_
 refine Pn NMail y7 w1.mail 280 fun hlen7 => ?_
 refine BxT fun g1 => ?_
 refine AlT fun g2 => ?_
 refine eo ?_
 (repeat refine aI ?_); refine aq (fun j => match j with | 10 => some [g1] | 12 => some [g1] | 14 => some [g1] | _ => some []) ?_
 refine Dx [0,1,3,4,6,7] ?_
 refine Rn 2 ?_
 refine Cm (nH y1 y2 y3 w1.h) fun x1 => ?_
 refine Pr EStep x1.1 w1.h.h.l 88 fun hlen8 => ?_
 refine Pr EPlace x1.2.1 w1.h.h.t 24 fun hlen9 => ?_
 refine Ra 9 rfl Qp ?_
 refine Rn 5 ?_
 refine e8 NClient (X := y6) (l := w1.c) Mm fun (γ1 : Nat → SlV × SlV × SlV × SlV) => ?_
 refine Cm (le y6 γ1 w1.c) fun x2 => ?_
 refine Rn 8 ?_
 refine Cm (jo y7 w1.mail) fun x3 => ?_
 refine Rn 10 ?_
 refine Wp ?_
 refine Ra 11 rfl Qp ?_
 refine Rn 12 ?_
 refine W1 ?_
 refine Ra 13 rfl Qp ?_
 refine Rn 14 ?_
 refine W1 ?_
 refine Re0 ?_
 (repeat refine aI ?_); refine aq (fun j => match j with | 10 => some [g1] | _ => some []) ?_
 refine Dx [0,1,2,4,5,6] ?_
 refine Rn 3 ?_
 refine Cm (dJ y4 w1.d.safe) fun x4 => ?_
 refine Rn 7 ?_
 refine Cm (dJ y5 w1.d.wait) fun x5 => ?_
 refine Dx [8,9] ?_
 refine Rn 10 ?_
 refine Wp ?_
 refine Re0 ?_
 refine Lq (List Client × (Nat → SlV × SlV × SlV × SlV) × Nat) [1,2,29] [true, false] (fun ⟨l1, γ2, n1⟩ => ⟨[(28, .v (x2.1.val l1.length)), (30, .v (.int .i64 (n1 : Int)))], [⟨g1, 37, [x1.1.val w1.h.h.l.length, x1.2.1.val w1.h.h.t.length, .int .i64 w1.h.version, x1.2.2.1.val w1.h.peers.length, x4.1.val w1.d.safe.length, x5.1.val w1.d.wait.length, .bool w1.up, x2.1.val l1.length, x3.1.val w1.mail.length]⟩], [ownL NClient.E 63 x2.1 x2.2 (zipG γ2 0 l1), ownL NPeer.E 84 x1.2.2.1 x1.2.2.2.1 (zipG x1.2.2.2.2 0 w1.h.peers), ownL EByte 5 x4.1 x4.2 w1.d.safe, ownL EByte 5 x5.1 x5.2 w1.d.wait, ownL NMail.E 108 x3.1 x3.2.1 (zipG x3.2.2 0 w1.mail)], [FactsG NClient γ2 l1], (n1 ≤ w1.c.length) ∧ (l1.length = w1.c.length) ∧ (fi w1 (w1.c.drop n1) n1 l1) = (e6 w1), w1.c.length - n1⟩) ⟨w1.c, γ1, 0⟩ ⟨Nat.zero_le _, rfl, (by simp only [e6, Cf] : (e6 w1) = (fi w1 w1.c 0 w1.c)).symm⟩ ?_
 rintro ⟨l1, γ2, n1⟩ ⟨hkn1, hll, hf1⟩
 simp only [Lc]
 refine Cu (fun hlt0 => ?_) fun hge0 => ?_
 ·refine Tx ?_
  refine Oq NClient.E x2.1 (zipG γ2 0 l1) .sq (fQ NClient γ2 n1 rfl rfl Zf rfl Zf rfl rfl rfl (.head _) rfl Zf Za) ?_
  refine Oq NClient.E x2.1 (zipG γ2 0 l1) .sq (q_is (v' := .agg ⟨cC (γ2 n1).1 (γ2 n1).2.1 (γ2 n1).2.2.1 (γ2 n1).2.2.2 (gt l1 n1)⟩) (ij NClient γ2 rfl rfl Zf rfl rfl (.head _) Za) rfl) ?_
  refine Fg NClient γ2 l1 n1 0 ?_
  refine Fg NClient γ2 l1 n1 1 ?_
  refine Fg NClient γ2 l1 n1 2 ?_
  refine Fg NClient γ2 l1 n1 3 ?_
  refine AlT fun g3 => ?_
  refine Tx ?_
  (repeat refine aI ?_); refine aq (fun j => match j with | 6 => some x2.2.toList | _ => some []) ?_
  refine Dx [0,1,2,3] ?_
  refine Rn 4 ?_
  refine Cm (jS (γ2 n1).1 (γ2 n1).2.1 (γ2 n1).2.2.1 (γ2 n1).2.2.2 (gt l1 n1)) fun x8 => ?_
  refine Pr EInt x8.2.2.1 (gt l1 n1).v.roots 8 fun hlen10 => ?_
  refine Pr EPlace x8.2.2.2.1 (gt l1 n1).v.known 24 fun hlen11 => ?_
  refine Pr EPlace x8.2.2.2.2 (gt l1 n1).v.way 24 fun hlen12 => ?_
  refine Oq NClient.E x2.1 (zipG γ2 0 l1) (Fa 5 []) (fQ NClient γ2 n1 rfl rfl Zf rfl Zf rfl rfl rfl (.head _) rfl Zf Za) ?_
  refine Rn 6 ?_
  refine rw_le (ao EOp 76 x8.1 x8.2.1 (gt l1 n1).pending Uo) ?_
  refine Wn NClient γ2 l1 n1 0 (x8.1, x8.2.2.1, x8.2.2.2.1, x8.2.2.2.2) (gt l1 n1) x2.2 ?_
  refine Fu NClient γ2 l1 n1 (x8.1, x8.2.2.1, x8.2.2.2.1, x8.2.2.2.2) (gt l1 n1) ?_
  have hv1 : x2.1.val l1.length = x2.1.val (l1.set n1 (gt l1 n1)).length := congrArg (SlV.val x2.1) List.length_set.symm
  (try simp only [cB, cC, cW]); try rw [hv1]
  refine Re0 ?_
  refine Tt ?_
  refine ⟨⟨(l1.set n1 (gt l1 n1)), (updG γ2 n1 (x8.1, x8.2.2.1, x8.2.2.2.1, x8.2.2.2.2)), (n1 + 1)⟩, ⟨hlt0, (by (try simp only [List.length_set]); omega), (by rw [← hf1, aU hlt0]; simp only [fi, Cf] : (e6 w1) = (fi w1 (w1.c.drop (n1 + 1)) (n1 + 1) (l1.set n1 (gt l1 n1)))).symm⟩, Oo, Le4⟩
 ·refine Tx ?_
  refine cw_le (ao NPeer.E 84 x1.2.2.1 x1.2.2.2.1 (zipG x1.2.2.2.2 0 w1.h.peers) Uo) ?_
  refine Fj NPeer x1.2.2.1 x1.2.2.2.2 w1.h.peers ?_
  refine cw_le (ao EByte 5 x4.1 x4.2 w1.d.safe Uo) ?_
  refine cw_le (ao EByte 5 x5.1 x5.2 w1.d.wait Uo) ?_
  refine cw_le (ao NMail.E 108 x3.1 x3.2.1 (zipG x3.2.2 0 w1.mail) Uo) ?_
  refine Fj NMail x3.1 x3.2.2 w1.mail ?_
  have hf := Ri hf1.symm
  rw [List.drop_of_length_le hge0, fi] at hf
  refine Rx ?_; exact Re ⟨x1.1, x1.2.1, x1.2.2.1, x4.1, x5.1, x2.1, x2.2, γ2, x3.1⟩ Rv
theorem mb (w : Wld) : ∀ (r : List Client) (n : Nat) (l : List Client), fi w r n l = ⟨w.h, w.d, w.up, l, w.mail⟩
 | [], _, _ => rfl
 | _ :: r, n, l => by
  have : l.set n (gt l n) = l := by
   by_cases h : n < l.length
   ·rw [gt_eq h]; exact List.set_getElem_self h
   ·exact List.set_eq_of_length_le (Nat.le_of_not_lt h)
  rw [fi, this]; exact mb w r (n + 1) l
theorem sG (w : Wld) : e6 w = w := mb w _ 0 w.c
theorem ma (y1 : SlV) (y2 : SlV) (y3 : SlV) (y4 : SlV) (y5 : SlV) (y6 : SlV) (y7 : SlV) (w1 : Wld) : DoesG Tryz.prog 31 [.agg ⟨cW y1 y2 y3 y4 y5 y6 y7 w1⟩] [RdL EStep y1 w1.h.h.l, RdL EPlace y2 w1.h.h.t, RdN NPeer y3 w1.h.peers, RdL EByte y4 w1.d.safe, RdL EByte y5 w1.d.wait, RdN NClient y6 w1.c, RdN NMail y7 w1.mail] ⟨[], []⟩ (fun (X : SlV × SlV × SlV × SlV × SlV × SlV × Option Nat × (Nat → SlV × SlV × SlV × SlV) × SlV) => .agg ⟨cW X.1 X.2.1 X.2.2.1 X.2.2.2.1 X.2.2.2.2.1 X.2.2.2.2.2.1 X.2.2.2.2.2.2.2.2 w1⟩) (fun X => [RdL EStep X.1 w1.h.h.l, RdL EPlace X.2.1 w1.h.h.t, RdN NPeer X.2.2.1 w1.h.peers, RdL EByte X.2.2.2.1 w1.d.safe, RdL EByte X.2.2.2.2.1 w1.d.wait, RdN NMail X.2.2.2.2.2.2.2.2 w1.mail, FactsG NClient X.2.2.2.2.2.2.2.1 w1.c]) (fun X => ⟨[], [ownL NClient.E 63 X.2.2.2.2.2.1 X.2.2.2.2.2.2.1 (zipG X.2.2.2.2.2.2.2.1 0 w1.c)]⟩) := by
 have := qq y1 y2 y3 y4 y5 y6 y7 w1
 rw [sG] at this
 exact this
def dQ (f1 : Int → Bool) : List Int → Nat → Int
 | [], n1 => (-1)
 | pn1 :: rn1, n1 => (bif (f1 pn1) then (n1 : Int) else (dQ f1 rn1 (n1 + 1)))
def eJ (s1 : List Int) (f1 : Int → Bool) : Int :=
 (dQ f1 s1 0)
theorem ki (y1 : SlV) (s1 : List Int) (f2 : Nat) (caps1 : List Value) (pre1 : List Pred) [StabL pre1] (f1 : Int → Bool) (hfb1 : tab.fnb f2 = true) (hfn1 : ∀ (a0_ : Int), Does Tryz.prog f2 ([.int .i64 a0_] ++ caps1) pre1 (fun (_ : Unit) => .bool (f1 a0_)) (fun _ => [])) : Does Tryz.prog 95 [y1.val s1.length, .func (.func f2) #[] ⟨caps1⟩] (RdL EInt y1 s1 :: pre1) (fun (_ : Unit) => .int .i64 (eJ s1 f1)) (fun _ => []) := by
 refine Dp aH Tryz.func95 Tryz.ntmps95 Tryz.results95 fun C => ?_
 refine eI (φ := s1.length * 8 ≤ 140737488355328) [RdL EInt y1 s1] Sf (fun M w h => (allF1 h).len) fun hlen1 => ?_
 refine Lq Nat [0,1,4,7] [] (fun n1 => ⟨[(8, .v (.int .i64 (n1 : Int)))], [], [], [], (n1 ≤ s1.length) ∧ (dQ f1 (s1.drop n1) n1) = (eJ s1 f1), s1.length - n1⟩) 0 ⟨Nat.zero_le _, (by simp only [eJ, Cf] : (eJ s1 f1) = (dQ f1 s1 0)).symm⟩ ?_
 rintro n1 ⟨hkn1, hf1⟩
 simp only [Lc]
 refine Cu (fun hlt0 => ?_) fun hge0 => ?_
 ·refine Sy Tz (Xi EInt n1) ?_
  refine Sq (X1 EInt) ?_
  refine iZ (hfn1 (gt s1 n1)) .sq (am rfl) rfl rfl rfl rfl rfl (by assumption) rfl rfl rfl Sf ?_
  intro _
  refine eo ?_
  have hf := Ri hf1.symm
  rw [aU hlt0, dQ] at hf
  refine Ch hf (fun hc2 hf => ?_) fun hc2 hf => ?_
  ·refine Tx ?_
   refine d8 ?_
   rw [hf.to]
   exact ⟨(), _, (.cons (.tmp rfl) .nil), rfl, Sf, .nil _, .nil _⟩
  ·refine Tt ?_
   refine ⟨(n1 + 1), ⟨hlt0, hf.symm⟩, Oo, Le5⟩
 ·refine Tx ?_
  have hf := Ri hf1.symm
  rw [List.drop_of_length_le hge0, dQ] at hf
  refine d8 ?_
  rw [hf.to]
  exact ⟨(), _, (.cons (.tmp rfl) .nil), rfl, Sf, .nil _, .nil _⟩
def f0 (s1 : List Int) (f1 : Int → Bool) : Bool :=
 decide ((eJ s1 f1) ≥ 0)
theorem jB (y1 : SlV) (s1 : List Int) (f2 : Nat) (caps1 : List Value) (pre1 : List Pred) [StabL pre1] (f1 : Int → Bool) (hfb1 : tab.fnb f2 = true) (hfn1 : ∀ (a0_ : Int), Does Tryz.prog f2 ([.int .i64 a0_] ++ caps1) pre1 (fun (_ : Unit) => .bool (f1 a0_)) (fun _ => [])) : Does Tryz.prog 39 [y1.val s1.length, .func (.func f2) #[] ⟨caps1⟩] (RdL EInt y1 s1 :: pre1) (fun (_ : Unit) => .bool (f0 s1 f1)) (fun _ => []) := by
 refine Dp aH Tryz.func39 Tryz.ntmps39 Tryz.results39 fun C => ?_
 refine eI (φ := s1.length * 8 ≤ 140737488355328) [RdL EInt y1 s1] Sf (fun M w h => (allF1 h).len) fun hlen1 => ?_
 refine Ck (ki y1 s1 _ _ _ f1 (by assumption) hfn1) fun _ => ?_
 refine Tx ?_
 have hf := Ri (f0.eq_1 s1 f1)
 refine d8 ?_
 rw [hf.to]
 exact ⟨(), _, (.cons (.tmp rfl) .nil), rfl, Sf, .nil _, .nil _⟩
def dl  : List Client → Nat → Int
 | [], n1 => 0
 | pn1 :: rn1, n1 => (bif ((bH pn1 (n1 : Int)) != 0) then (bH pn1 (n1 : Int)) else (dl rn1 (n1 + 1)))
def dc (w1 : Wld) : Int :=
 (bif ((w1.c.length : Int) != 3) then 4 else (bif ((cj w1.mail) != 0) then (cj w1.mail) else (bif ((ar w1.d).2.2 != 0) then (ar w1.d).2.2 else (bif (w1.up && decide ((w1.d.wait.length : Int) > 0)) then 4 else (bif (!w1.up) then (bif ((aB ([] : List Rec)).2 != 0) then (aB ([] : List Rec)).2 else (bif (!(iB (aB ([] : List Rec)).1 w1.h)) then 4 else (dl w1.c 0))) else (bif ((aB (ar w1.d).2.1).2 != 0) then (aB (ar w1.d).2.1).2 else (bif (!(iB (aB (ar w1.d).2.1).1 w1.h)) then 4 else (dl w1.c 0))))))))
theorem jM (y1 : SlV) (y2 : SlV) (y3 : SlV) (y4 : SlV) (y5 : SlV) (y6 : SlV) (y7 : SlV) (w1 : Wld) : Does Tryz.prog 14 [.agg ⟨cW y1 y2 y3 y4 y5 y6 y7 w1⟩] [RdL EStep y1 w1.h.h.l, RdL EPlace y2 w1.h.h.t, RdN NPeer y3 w1.h.peers, RdL EByte y4 w1.d.safe, RdL EByte y5 w1.d.wait, RdN NClient y6 w1.c, RdN NMail y7 w1.mail, LibP Tryz.prog] (fun (_ : Unit) => .int .i64 (dc w1)) (fun _ => []) := by
 refine Dp aH Tryz.func14 Tryz.ntmps14 Tryz.results14 fun C => ?_
 refine Pc EStep y1 w1.h.h.l 88 fun hlen1 => ?_
 refine Pc EPlace y2 w1.h.h.t 24 fun hlen2 => ?_
 refine Pn NPeer y3 w1.h.peers 40 fun hlen3 => ?_
 refine Pc EByte y4 w1.d.safe 1 fun hlen4 => ?_
 refine Pc EByte y5 w1.d.wait 1 fun hlen5 => ?_
 refine Pn NClient y6 w1.c 128 fun hlen6 => ?_
 refine Pn NMail y7 w1.mail 280 fun hlen7 => ?_
 refine BxT fun g1 => ?_
 have hf := Ri (dc.eq_1 w1)
 refine Cn hf (fun hc1 hc1p hf => ?_) fun hc1 hc1p hf => ?_
 ·exact Ru
 ·refine Ck (ir y7 w1.mail) fun _ => ?_
  refine Cn hf (fun hc2 hc2p hf => ?_) fun hc2 hc2p hf => ?_
  ·exact Ru
  ·refine Ck (ge y4 y5 w1.d) fun x1 => ?_
   refine AlT fun g2 => ?_
   refine Cn hf (fun hc3 hc3p hf => ?_) fun hc3 hc3p hf => ?_
   ·exact Ru
   ·refine Ch hf (fun hc4 hf => ?_) fun hc4 hf => ?_
    ·exact Ru
    ·refine Ch hf (fun hc5 hf => ?_) fun hc5 hf => ?_
     ·refine Tx ?_
      refine Fm NRec ?_
      refine Ck (hI Z0 ([] : List Rec)) fun x2 => ?_
      refine AlT fun g3 => ?_
      refine Cn hf (fun hc6 hc6p hf => ?_) fun hc6 hc6p hf => ?_
      ·exact Ru
      ·refine Ck (oG x2.1 x2.2.1 x2.2.2 (aB ([] : List Rec)).1 y1 y2 y3 w1.h) fun _ => ?_
       generalize hS1 : (iB (aB ([] : List Rec)).1 w1.h) = S1
       try rw [hS1] at hf
       refine Ch hf (fun hc7 hf => ?_) fun hc7 hf => ?_
       ·exact Ru
       ·refine Lq Nat [2,57,58] [true, true, true] (fun n1 => ⟨[(59, .v (.int .i64 (n1 : Int)))], [], [], [], (n1 ≤ w1.c.length) ∧ (dl (w1.c.drop n1) n1) = (dc w1), w1.c.length - n1⟩) 0 ⟨Nat.zero_le _, hf.symm⟩ ?_
        rintro n1 ⟨hkn1, hf1⟩
        simp only [Lc]
        refine Cu (fun hlt0 => ?_) fun hge0 => ?_
        ·refine Tx ?_
         refine e8 NClient (X := y6) (l := w1.c) Mm fun (γ1 : Nat → SlV × SlV × SlV × SlV) => ?_
         refine Sq (Xn NClient n1) ?_
         refine Sq (q_is (v' := .agg ⟨cC (γ1 n1).1 (γ1 n1).2.1 (γ1 n1).2.2.1 (γ1 n1).2.2.2 (gt w1.c n1)⟩) (ij NClient γ1 rfl rfl Zf rfl rfl Mm (fun _ => by first | assumption | omega)) rfl) ?_
         refine Fg NClient γ1 w1.c n1 0 ?_
         refine Fg NClient γ1 w1.c n1 1 ?_
         refine Fg NClient γ1 w1.c n1 2 ?_
         refine Fg NClient γ1 w1.c n1 3 ?_
         refine AlT fun g4 => ?_
         refine Ck (ie (γ1 n1).1 (γ1 n1).2.1 (γ1 n1).2.2.1 (γ1 n1).2.2.2 (gt w1.c n1) (n1 : Int)) fun _ => ?_
         generalize hS2 : (bH (gt w1.c n1) (n1 : Int)) = S2
         have hf := Ri hf1.symm
         rw [aU hlt0, dl] at hf
         try rw [hS2] at hf
         refine Cn hf (fun hc9 hc9p hf => ?_) fun hc9 hc9p hf => ?_
         ·exact Ru
         ·refine Tt ?_
          refine ⟨(n1 + 1), ⟨hlt0, hf.symm⟩, Oo, Le4⟩
        ·have hf := Ri hf1.symm
         rw [List.drop_of_length_le hge0, dl] at hf
         exact Ru
     ·refine Ck (hI x1.2.2 (ar w1.d).2.1) fun x3 => ?_
      generalize hS3 : (aB (ar w1.d).2.1) = S3
      try rw [hS3] at hf
      refine AlT fun g5 => ?_
      refine Cn hf (fun hc10 hc10p hf => ?_) fun hc10 hc10p hf => ?_
      ·exact Ru
      ·refine Ck (oG x3.1 x3.2.1 x3.2.2 S3.1 y1 y2 y3 w1.h) fun _ => ?_
       refine Ch hf (fun hc11 hf => ?_) fun hc11 hf => ?_
       ·exact Ru
       ·refine Lq Nat [2,57,58] [true, true, true] (fun n2 => ⟨[(59, .v (.int .i64 (n2 : Int)))], [], [], [], (n2 ≤ w1.c.length) ∧ (dl (w1.c.drop n2) n2) = (dc w1), w1.c.length - n2⟩) 0 ⟨Nat.zero_le _, hf.symm⟩ ?_
        rintro n2 ⟨hkn2, hf2⟩
        simp only [Lc]
        refine Cu (fun hlt0 => ?_) fun hge0 => ?_
        ·refine Tx ?_
         refine e8 NClient (X := y6) (l := w1.c) Mm fun (γ2 : Nat → SlV × SlV × SlV × SlV) => ?_
         refine Sq (Xn NClient n2) ?_
         refine Sq (q_is (v' := .agg ⟨cC (γ2 n2).1 (γ2 n2).2.1 (γ2 n2).2.2.1 (γ2 n2).2.2.2 (gt w1.c n2)⟩) (ij NClient γ2 rfl rfl Zf rfl rfl Mm (fun _ => by first | assumption | omega)) rfl) ?_
         refine Fg NClient γ2 w1.c n2 0 ?_
         refine Fg NClient γ2 w1.c n2 1 ?_
         refine Fg NClient γ2 w1.c n2 2 ?_
         refine Fg NClient γ2 w1.c n2 3 ?_
         refine AlT fun g6 => ?_
         refine Ck (ie (γ2 n2).1 (γ2 n2).2.1 (γ2 n2).2.2.1 (γ2 n2).2.2.2 (gt w1.c n2) (n2 : Int)) fun _ => ?_
         generalize hS4 : (bH (gt w1.c n2) (n2 : Int)) = S4
         have hf := Ri hf2.symm
         rw [aU hlt0, dl] at hf
         try rw [hS4] at hf
         refine Cn hf (fun hc13 hc13p hf => ?_) fun hc13 hc13p hf => ?_
         ·exact Ru
         ·refine Tt ?_
          refine ⟨(n2 + 1), ⟨hlt0, hf.symm⟩, Oo, Le4⟩
        ·have hf := Ri hf2.symm
         rw [List.drop_of_length_le hge0, dl] at hf
         exact Ru
def dx (s1 : Str) : Nat → Str → Bool → (List Int) → (Rec × Int)
 | 0, rest1, more1, n1 => default
 | f_k0 + 1, rest1, more1, n1 => (bif more1 then (bif ((ate (cutc 32 rest1).1) || ((Lib.itoa (ptv (cutc 32 rest1).1)) != (cutc 32 rest1).1)) then ((⟨0, 0, 0, ([] : List Int), (⟨0, 0, 0, 0, 0, 0, 0⟩ : Op)⟩ : Rec), 1) else (dx s1 f_k0 (cutc 32 rest1).2.1 (cutc 32 rest1).2.2 (n1 ++ [(ptv (cutc 32 rest1).1)]))) else (bif (((cutc 32 s1).1 == ([111, 112] : Str)) && ((n1.length : Int) == 7)) then (bif ((bL (⟨1, 0, 0, ([] : List Int), (⟨(gt n1 0), (gt n1 1), (gt n1 2), (gt n1 3), (gt n1 4), (gt n1 5), (gt n1 6)⟩ : Op)⟩ : Rec)) != 0) then ((⟨0, 0, 0, ([] : List Int), (⟨0, 0, 0, 0, 0, 0, 0⟩ : Op)⟩ : Rec), (bL (⟨1, 0, 0, ([] : List Int), (⟨(gt n1 0), (gt n1 1), (gt n1 2), (gt n1 3), (gt n1 4), (gt n1 5), (gt n1 6)⟩ : Op)⟩ : Rec))) else ((⟨1, 0, 0, ([] : List Int), (⟨(gt n1 0), (gt n1 1), (gt n1 2), (gt n1 3), (gt n1 4), (gt n1 5), (gt n1 6)⟩ : Op)⟩ : Rec), 0)) else (bif (((cutc 32 s1).1 == ([108, 105, 102, 101] : Str)) && ((n1.length : Int) == 2)) then (bif ((bL (⟨2, (gt n1 0), (gt n1 1), ([] : List Int), (⟨0, 0, 0, 0, 0, 0, 0⟩ : Op)⟩ : Rec)) != 0) then ((⟨0, 0, 0, ([] : List Int), (⟨0, 0, 0, 0, 0, 0, 0⟩ : Op)⟩ : Rec), (bL (⟨2, (gt n1 0), (gt n1 1), ([] : List Int), (⟨0, 0, 0, 0, 0, 0, 0⟩ : Op)⟩ : Rec))) else ((⟨2, (gt n1 0), (gt n1 1), ([] : List Int), (⟨0, 0, 0, 0, 0, 0, 0⟩ : Op)⟩ : Rec), 0)) else (bif (((cutc 32 s1).1 == ([114, 111, 111, 116, 115] : Str)) && decide ((n1.length : Int) ≥ 1)) then (bif ((bL (⟨3, (gt n1 0), 0, (n1.drop 1), (⟨0, 0, 0, 0, 0, 0, 0⟩ : Op)⟩ : Rec)) != 0) then ((⟨0, 0, 0, ([] : List Int), (⟨0, 0, 0, 0, 0, 0, 0⟩ : Op)⟩ : Rec), (bL (⟨3, (gt n1 0), 0, (n1.drop 1), (⟨0, 0, 0, 0, 0, 0, 0⟩ : Op)⟩ : Rec))) else ((⟨3, (gt n1 0), 0, (n1.drop 1), (⟨0, 0, 0, 0, 0, 0, 0⟩ : Op)⟩ : Rec), 0)) else ((⟨0, 0, 0, ([] : List Int), (⟨0, 0, 0, 0, 0, 0, 0⟩ : Op)⟩ : Rec), 1)))))
def ax (s1 : Str) : Rec × Int :=
 (dx s1 (s1.length + 3) (cutc 32 s1).2.1 (cutc 32 s1).2.2 [])
theorem lg (s1 : Str) (hs : s1.length ≤ 60000) : Does Tryz.prog 122 [sV s1] [LibP Tryz.prog] (fun (X : SlV) => .tuple #[.agg ⟨cR X (ax s1).1⟩, .int .i64 (ax s1).2]) (fun X => [RdL EInt X (ax s1).1.roots]) := by
 refine Dp aH Tryz.func122 Tryz.ntmps122 Tryz.results122 fun C => ?_
 refine AlT fun g1 => ?_
 refine Ck (uR s1 ([32] : Str) rfl (by omega)) fun _ => ?_
 have hcm := qh 32 s1
 refine Tx ?_
 (repeat refine aI ?_); refine Lp [2,3,4] [true] (fun (i_ : Str × Bool × List Int × SlV × Option Nat × Nat) => match i_ with | ⟨rest1, more1, n1, x1, x1b, fz1⟩ => (⟨[(5, .v (sV rest1)), (6, .v (.bool more1)), (7, .v (x1.val n1.length))], [], [ownL EInt 3 x1 x1b n1], [], (n1.length + (bif more1 then rest1.length + 1 else 0) ≤ s1.length + 1) ∧ ((bif more1 then rest1.length + 1 else 0) < fz1) ∧ (dx s1 fz1 rest1 more1 n1) = (ax s1), fz1⟩ : Ls)) ⟨(cutc 32 s1).2.1, (cutc 32 s1).2.2, [], ⟨none, 0⟩, none, s1.length + 3⟩ (Sc (Sc (Sc Sn))) (.keep (.nil)) ⟨(by simp only [List.length_nil]; omega), (by first | exact Nat.le_refl _ | exact Nat.zero_le _ | omega), (by simp only [ax, Cf] : (ax s1) = (dx s1 (s1.length + 3) (cutc 32 s1).2.1 (cutc 32 s1).2.2 [])).symm⟩ (Le.trans (eu EInt 3) Le4) ?_
 rintro ⟨rest1, more1, n1, x1, x1b, fz1⟩ ⟨hinv, hzfz1, hf1⟩
 simp only [Lc]
 have hlt0_ : (fz1 - 1) + 1 = fz1 := by omega
 have hf := Ri hf1.symm
 rw [← hlt0_, dx] at hf
 refine Ch hf (fun hc1 hf => ?_) fun hc1 hf => ?_
 ·have hinv2 := hinv; rw [hc1, cond_true] at hinv2; have hz2 := hzfz1; rw [hc1, cond_true] at hz2
  refine Ck (uR rest1 ([32] : Str) rfl (by omega)) fun _ => ?_
  have hcm2 := qh 32 rest1; have hcl2 := tg 32 rest1
  refine Ck (ua (cutc 32 rest1).1 10 64 ⟨rfl, rfl⟩ (by omega)) fun x2 => ?_
  refine Sy Tz (xq rfl rfl Zf sK) ?_
  refine Cy (fun hG_ => s8 (ptv (cutc 32 rest1).1) 10 rfl (ww _)) ?_
  refine Tx ?_
  refine Sg Gz (q_neS (a := (Lib.itoa (ptv (cutc 32 rest1).1))) (b := (cutc 32 rest1).1) rfl rfl Bt rfl Bt) ?_
  refine Ch hf (fun hc2 hf => ?_) fun hc2 hf => ?_
  ·refine Tx ?_
   refine Fc EInt ?_
   refine Rx ?_; exact Re Z0 (Va (Vt Vn))
  ·refine Bl EInt [(ptv (cutc 32 rest1).1)] fun x3 x3b => ?_
   refine Ap EInt 8 n1 [(ptv (cutc 32 rest1).1)] x1b fun x4 x4b => ?_
   refine Tx ?_
   refine ⟨⟨(cutc 32 rest1).2.1, (cutc 32 rest1).2.2, (n1 ++ [(ptv (cutc 32 rest1).1)]), x4, x4b, (fz1 - 1)⟩, ⟨Zl, (by (try simp only []); first | omega | (simp only [List.length_append, List.length_cons, List.length_nil]; omega)), (hf : (ax s1) = (dx s1 (fz1 - 1) (cutc 32 rest1).2.1 (cutc 32 rest1).2.2 (n1 ++ [(ptv (cutc 32 rest1).1)]))).symm⟩, Oo, Le4⟩
 ·refine cw_le (ao EInt 3 x1 x1b n1 Uo) ?_
  refine AlT fun g2 => ?_
  refine Sy Tz (q_eqS (a := (cutc 32 s1).1) (b := ([111, 112] : Str)) rfl rfl Zf rfl Zf) ?_
  refine Ch hf (fun hc3 hf => ?_) fun hc3 hf => ?_
  ·have hl7 := vF hc3
   refine Tx ?_
   (repeat refine aI ?_); refine aq (fun j => match j with | 24 => some [g2] | _ => some []) ?_
   refine Rb 0 rfl Qp ?_
   refine Rb 1 rfl (Xi EInt 0) ?_
   refine Rb 2 rfl (X1 EInt) ?_
   refine Rb 3 rfl Qp ?_
   refine Rb 4 rfl (Xi EInt 1) ?_
   refine Rb 5 rfl (X1 EInt) ?_
   refine Dx [6,7] ?_
   refine Rb 8 rfl (Xi EInt 2) ?_
   refine Ra 9 rfl (X1 EInt) ?_
   refine Rb 10 rfl Qp ?_
   refine Rb 11 rfl (Xi EInt 3) ?_
   refine Ra 12 rfl (X1 EInt) ?_
   refine Rb 13 rfl Qp ?_
   refine Rb 14 rfl (Xi EInt 4) ?_
   refine Ra 15 rfl (X1 EInt) ?_
   refine Rb 16 rfl Qp ?_
   refine Rb 17 rfl (Xi EInt 5) ?_
   refine Ra 18 rfl (X1 EInt) ?_
   refine Rb 19 rfl Qp ?_
   refine Rb 20 rfl (Xi EInt 6) ?_
   refine Ra 21 rfl (X1 EInt) ?_
   refine Dx [22,23] ?_
   refine Rn 24 ?_
   refine Wp ?_
   refine Re0 ?_
   refine Tx ?_
   refine Fr EInt ?_
   refine Ck (eR Z0 (⟨1, 0, 0, ([] : List Int), (⟨(gt n1 0), (gt n1 1), (gt n1 2), (gt n1 3), (gt n1 4), (gt n1 5), (gt n1 6)⟩ : Op)⟩ : Rec)) fun _ => ?_
   refine Cn hf (fun hc4 hc4p hf => ?_) fun hc4 hc4p hf => ?_
   ·refine Rx ?_; exact Re Z0 (Va (Vt Vn))
   ·refine Rx ?_; exact Re Z0 (Va (Vt Vn))
  ·refine Sy Tz (q_eqS (a := (cutc 32 s1).1) (b := ([108, 105, 102, 101] : Str)) rfl rfl Zf rfl Zf) ?_
   refine Ch hf (fun hc5 hf => ?_) fun hc5 hf => ?_
   ·have hl7 := vF hc5
    (repeat refine aI ?_); refine aq (fun j => match j with | 7 => some [g2] | 9 => some [g2] | 11 => some [g2] | _ => some []) ?_
    refine Rq (Fb 0 [3,4,5,6,7]) (.drop Sa) Xv ?_
    refine Rq (Fa 1 [3,4,5,6,7]) (.drop Sa) (Xi EInt 0) ?_
    refine Rq (Fa 2 [3,4,5,6,7]) (.drop Sa) (X1 EInt) ?_
    refine Rq (Fb 3 [6,7,8,9]) (.drop Sa) Xv ?_
    refine Rq (Fa 4 [6,7,8,9]) (.drop Sa) (Xi EInt 1) ?_
    refine Rq (Fa 5 [6,7,8,9]) (.drop Sa) (X1 EInt) ?_
    refine Ra 6 rfl Qp ?_
    refine Rn 7 ?_
    refine W1 ?_
    refine Ra 8 rfl Qp ?_
    refine Rn 9 ?_
    refine W1 ?_
    refine Ra 10 rfl Qp ?_
    refine Rn 11 ?_
    refine W1 ?_
    refine Re0 ?_
    refine Tx ?_
    refine Fr EInt ?_
    refine Ck (eR Z0 (⟨2, (gt n1 0), (gt n1 1), ([] : List Int), (⟨0, 0, 0, 0, 0, 0, 0⟩ : Op)⟩ : Rec)) fun _ => ?_
    refine Cn hf (fun hc6 hc6p hf => ?_) fun hc6 hc6p hf => ?_
    ·refine Rx ?_; exact Re Z0 (Va (Vt Vn))
    ·refine Rx ?_; exact Re Z0 (Va (Vt Vn))
   ·refine Sy Tz (q_eqS (a := (cutc 32 s1).1) (b := ([114, 111, 111, 116, 115] : Str)) rfl rfl Zf rfl Zf) ?_
    refine Ch hf (fun hc7 hf => ?_) fun hc7 hf => ?_
    ·have hl7 := len_ge hc7
     (repeat refine aI ?_); refine aq (fun j => match j with | 6 => some [g2] | 8 => some [g2] | 10 => some [g2] | _ => some []) ?_
     refine Rq (Fb 0 [3,4,5,6]) (.drop Sa) Xv ?_
     refine Rq (Fa 1 [3,4,5,6]) (.drop Sa) (Xi EInt 0) ?_
     refine Rq (Fa 2 [3,4,5,6]) (.drop Sa) (X1 EInt) ?_
     refine Rq (Fa 3 [5,6,7,8]) (.drop Sa) Xv ?_
     refine Rq (Fa 4 [5,6,7,8]) (.drop Sa) (qD EInt 1 rfl rfl Zf rfl Zf rfl rfl Zo Zo) ?_
     refine dC (F := RdL EInt (⟨slA x1.a x1.c 1 EInt.esz, x1.c - 1⟩ : SlV) (n1.drop 1)) [RdL EInt x1 n1] Sm (fun M w h => (allF1 h).drop _ (by omega)) ?_
     refine Ra 5 rfl Qp ?_
     refine Rn 6 ?_
     refine W1 ?_
     refine Ra 7 rfl Qp ?_
     refine Rn 8 ?_
     refine W1 ?_
     refine Ra 9 rfl Qp ?_
     refine Rn 10 ?_
     refine W1 ?_
     refine Re0 ?_
     refine Ck (eR (⟨slA x1.a x1.c 1 EInt.esz, x1.c - 1⟩ : SlV) (⟨3, (gt n1 0), 0, (n1.drop 1), (⟨0, 0, 0, 0, 0, 0, 0⟩ : Op)⟩ : Rec)) fun _ => ?_
     refine Cn hf (fun hc8 hc8p hf => ?_) fun hc8 hc8p hf => ?_
     ·refine Tx ?_
      refine Fc EInt ?_
      refine Rx ?_; exact Re Z0 (Va (Vt Vn))
     ·refine Rx ?_; exact Re (⟨slA x1.a x1.c 1 EInt.esz, x1.c - 1⟩ : SlV) (Va (Vt Vn))
    ·refine Tx ?_
     refine Fc EInt ?_
     refine Rx ?_; exact Re Z0 (Va (Vt Vn))
end Go.Proofs.YtkjccbdeaflekaaGreatDoor

namespace Go.Proofs.YtkjccbdeaflekaaGreatDoor
open Go Go.Proofs.YtkjccbdeaflekaaGreatDoor.Fw Go.Proofs
theorem yd (s : Str) : (cutc 32 s).1 = gt (spl 32 s) 0 ∧ (spl 32 s).drop 1 = bif (cutc 32 s).2.2 then spl 32 (cutc 32 s).2.1 else [] := by
 rcases at_c 32 s with h | ⟨p, r, h1, h2⟩
 ·rw [po h, rR h]; exact ⟨rfl, rfl⟩
 ·rw [h1, ns r h2, o9 r h2]; exact ⟨rfl, rfl⟩
theorem spl_eq (s : Str) : spl 32 s = (cutc 32 s).1 :: (bif (cutc 32 s).2.2 then spl 32 (cutc 32 s).2.1 else []) := by
 rcases at_c 32 s with h | ⟨p, r, h1, h2⟩
 ·rw [po h, rR h]; rfl
 ·rw [h1, ns r h2, o9 r h2]; rfl
theorem oZ (s : Str) : ∀ (f : Nat) (rest : Str) (more : Bool) (n : List Int), (bif more then rest.length + 1 else 0) < f → dx s f rest more n = readP (cutc 32 s).1 ((pn (bif more then spl 32 rest else [])).map (n ++ ·))
 | 0, _, _, _, h => absurd h (Nat.not_lt_zero _)
 | f + 1, rest, more, n, h => by
  rw [dx]
  cases more with
  | false =>
   simp only [cond_false, pn, Option.map_some, List.append_nil, readP, finR, mkRec]
   simp only [← qN, xX]
   rw [show (((cutc 32 s).1 == ([111, 112] : Str)) && ((n.length : Int) == 7)) = decide ((cutc 32 s).1 = [111, 112] ∧ n.length = 7) from tn (k := 7),
    show (((cutc 32 s).1 == ([108, 105, 102, 101] : Str)) && ((n.length : Int) == 2)) = decide ((cutc 32 s).1 = [108, 105, 102, 101] ∧ n.length = 2) from tn (k := 2), and_ge, pq, pq, pq]
   by_cases h1 : (cutc 32 s).1 = [111, 112] ∧ n.length = 7
   ·rw [if_pos h1, if_pos h1]
   ·rw [if_neg h1, if_neg h1]
    by_cases h2 : (cutc 32 s).1 = [108, 105, 102, 101] ∧ n.length = 2
    ·rw [if_pos h2, if_pos h2]
    ·rw [if_neg h2, if_neg h2]
     by_cases h3 : (cutc 32 s).1 = [114, 111, 111, 116, 115] ∧ 0 < n.length
     ·rw [if_pos h3, if_pos h3]
     ·rw [if_neg h3, if_neg h3]
  | true =>
   simp only [cond_true] at h ⊢
   rw [spl_eq rest, pn]
   cases he : ate (cutc 32 rest).1 with
   | true => simp [readP]
   | false =>
    rw [ptv_eq he]
    cases (Lib.itoa (atv (cutc 32 rest).1) != (cutc 32 rest).1) with
    | true => rfl
    | false =>
     simp only [Bool.or_false, cond_false]
     have hm := qh 32 rest
     rw [oZ s f _ _ _ (by omega), Option.map_map]
     congr 2
     funext x; simp
theorem wR {s : Str} (h : s.length ≤ 60000) : ax s = bv s := by
 rw [tx h, ax, oZ _ _ _ _ _ (by have := qh 32 s; omega), (yd s).1, (yd s).2]
 congr 1
 cases pn (bif (cutc 32 s).2.2 then spl 32 (cutc 32 s).2.1 else []) <;> simp
end Go.Proofs.YtkjccbdeaflekaaGreatDoor

set_option maxHeartbeats 2000000
namespace Go.Proofs.YtkjccbdeaflekaaGreatDoor
open Go Go.Proofs.YtkjccbdeaflekaaGreatDoor.Fw Go.Proofs
attribute [local irreducible] RdL RdN VarP LibP RW CW
theorem nv (y : SlV) (l : List Rec) (n : Int) (hy : y = ⟨none, 0⟩ ∧ l = []) (hn : 0 ≤ n ∧ n * 104 ≤ 140737488355328) : DoesG Tryz.prog 124 [y.val l.length, .int .i64 n] [RdN NRec y l] ⟨[], []⟩ (fun (X : SlV × Option Nat × (Nat → SlV)) => X.1.val ([] : List Rec).length) (fun X => [FactsG NRec X.2.2 ([] : List Rec)]) (fun X => ⟨[], [ownL NRec.E 78 X.1 X.2.1 (zipG X.2.2 0 ([] : List Rec))]⟩) := by
 obtain ⟨hy1, hy2⟩ := hy
 subst hy1; subst hy2
 obtain ⟨k, rfl⟩ : ∃ k : Nat, n = k := ⟨n.toNat, by omega⟩
 refine Dq aH Tryz.func124 Tryz.ntmps124 Tryz.results124 fun C => ?_
 refine cw_le (eu NRec.E 78) ?_
 refine Cd' (fun hc => ?_) fun hc => ?_
 ·exact absurd (of_decide_eq_true hc) (by omega)
 ·refine Sy Tz (q_cap rfl rfl Zf rfl) ?_
  refine Tx ?_
  refine Sq (q_is (v' := .int .i64 0) (q_sub rfl rfl Zf rfl Zf (fun _ => by decide)) rfl) ?_
  refine Sq (q_is (v' := .int .i64 (k : Int)) (q_sub rfl rfl Zf rfl Zf Zo) (by simp)) ?_
  refine Cd' (fun hc1 => ?_) fun hc1 => ?_
  ·have hk := of_decide_eq_true hc1
   refine Sy Tz (q_cap rfl rfl Zf rfl) ?_
   refine Sq (qC (h := 0) rfl rfl Zf rfl Zf rfl rfl Zf (fun _ => Nat.le_refl _)) ?_
   refine Rp rfl rfl rfl rfl ?_
   refine pa (n := k) (e := 78) (by_ := 104) .sq (am rfl) rfl rfl rfl rfl rfl rfl rfl rfl und_3 (fun _ _ _ => .here _ _ _) rfl rfl rfl rfl rfl rfl (by omega) (by omega) (by omega) fun x1 b1 zs => ?_
   refine Tx ?_
   refine qa (k := 0) .sq (am rfl) rfl rfl rfl rfl rfl rfl rfl rfl rfl (.here _ _ _) rfl (Nat.zero_le _) ?_
   refine Tx ?_
   (repeat refine aI ?_); refine pm (F := FactsG NRec (fun _ => default) ([] : List Rec)) [] (.nil _) (fun M w _ => FactsG.nil NRec _ M w) ?_; refine d8 ?_
   exact ⟨(x1, b1, fun _ => default), _, (.cons (.tmp rfl) .nil), rfl, Sm, .nil _, Sp⟩
  ·refine Tx ?_
   (repeat refine aI ?_); refine pm (F := FactsG NRec (fun _ => default) ([] : List Rec)) [] (.nil _) (fun M w _ => FactsG.nil NRec _ M w) ?_; refine d8 ?_
   exact ⟨(⟨none, 0⟩, none, fun _ => default), _, (.cons (.tmp rfl) .nil), rfl, Sm, .nil _, Sp⟩
def ck  : List (List Rec) → (List Rec) → (List Rec)
 | [], newslice1 => newslice1
 | pn2 :: rn2, newslice1 => (ck rn2 (newslice1 ++ pn2))
def dV (slices1 : List (List Rec)) : List (List Rec) → Nat → (List Rec)
 | [], size1 => (ck slices1 ([] : List Rec))
 | pn1 :: rn1, size1 => (bif decide (((size1 : Int) + (pn1.length : Int)) < 0) then [] else (dV slices1 rn1 (size1 + pn1.length)))
def dB (slices1 : List (List Rec)) : List Rec :=
 (dV slices1 slices1 0)
theorem mx (y1 : SlV) (slices1 : List (List Rec)) (hct : slices1.flatten.length * 104 ≤ 140737488355328) : DoesG Tryz.prog 75 [y1.val slices1.length] [RdN NRecs y1 slices1] ⟨[], []⟩ (fun (X : SlV × Option Nat × (Nat → SlV)) => X.1.val (dB slices1).length) (fun X => [FactsG NRec X.2.2 (dB slices1)]) (fun X => ⟨[], [ownL NRec.E 78 X.1 X.2.1 (zipG X.2.2 0 (dB slices1))]⟩) := by
 refine Dq aH Tryz.func75 Tryz.ntmps75 Tryz.results75 fun C => ?_
 refine Pn NRecs y1 slices1 24 fun hlen1 => ?_
 refine Lq (Nat × Nat) [0,2,9,10] [] (fun ⟨size1, n1⟩ => ⟨[(3, .v (.int .i64 (size1 : Int))), (11, .v (.int .i64 (n1 : Int)))], [], [], [], (n1 ≤ slices1.length) ∧ (size1 = ((slices1.take n1).flatten.length : Int)) ∧ (dV slices1 (slices1.drop n1) size1) = (dB slices1), slices1.length - n1⟩) ⟨0, 0⟩ ⟨Nat.zero_le _, (by simp), (by simp only [dB, Cf] : (dB slices1) = (dV slices1 slices1 0)).symm⟩ ?_
 rintro ⟨size1, n1⟩ ⟨hkn1, hsz, hf1⟩
 simp only [Lc]
 refine Cu (fun hlt0 => ?_) fun hge0 => ?_
 ·refine Tx ?_
  refine e8 NRecs (X := y1) (l := slices1) Mm fun (γ1 : Nat → SlV) => ?_
  refine Sq (Xn NRecs n1) ?_
  refine Sq (iy NRecs γ1 (v := (γ1 n1).val (gt slices1 n1).length) rfl rfl Zf rfl rfl Mm (fun _ => by first | assumption | omega) rfl) ?_
  refine Fg NRecs γ1 slices1 n1 0 ?_
  refine Tx ?_
  refine Sq (q_add rfl rfl Zf rfl Zf (fun _ => by have := (iC slices1 hlt0).2; omega)) ?_
  have hf := Ri hf1.symm
  rw [aU hlt0, dV] at hf
  refine Cp hf (fun hc2 hc2p hf => ?_) fun hc2 hc2p hf => ?_
  ·exact absurd (of_decide_eq_true hc2) (by omega)
  ·refine Tt ?_
   refine ⟨⟨(size1 + (gt slices1 n1).length), (n1 + 1)⟩, ⟨hlt0, (by rw [(iC slices1 hlt0).1, List.length_append]; simp only [hsz]; omega), hf.symm⟩, Oo, Le4⟩
 ·refine Tx ?_
  refine Fm NRec ?_
  refine Cm (nv Z0 ([] : List Rec) (size1 : Int) ⟨rfl, rfl⟩ (by have h_ : (slices1.take n1).flatten.length ≤ slices1.flatten.length := (by rw [List.take_of_length_le hge0]; exact Nat.le_refl _); omega)) fun x1 => ?_
  refine Lq (List Rec × SlV × Option Nat × (Nat → SlV) × Nat) [2,25,26] [] (fun ⟨newslice1, x2, x2b, γ2, n2⟩ => ⟨[(6, .v (x2.val newslice1.length)), (27, .v (.int .i64 (n2 : Int)))], [], [ownL NRec.E 78 x2 x2b (zipG γ2 0 newslice1)], [FactsG NRec γ2 newslice1], (n2 ≤ slices1.length) ∧ (newslice1.length = (slices1.take n2).flatten.length) ∧ (ck (slices1.drop n2) newslice1) = (dB slices1), slices1.length - n2⟩) ⟨([] : List Rec), x1.1, x1.2.1, x1.2.2, 0⟩ ⟨Nat.zero_le _, (by simp), (by rw [← hf1, List.drop_of_length_le hge0]; simp only [dV, Cf] : (dB slices1) = (ck slices1 ([] : List Rec))).symm⟩ ?_
  rintro ⟨newslice1, x2, x2b, γ2, n2⟩ ⟨hkn2, hnl, hf2⟩
  simp only [Lc]
  refine Cu (fun hlt1 => ?_) fun hge1 => ?_
  ·refine Tx ?_
   refine e8 NRecs (X := y1) (l := slices1) Mm fun (γ3 : Nat → SlV) => ?_
   refine Sq (Xn NRecs n2) ?_
   refine Sq (iy NRecs γ3 (v := (γ3 n2).val (gt slices1 n2).length) rfl rfl Zf rfl rfl Mm (fun _ => by first | assumption | omega) rfl) ?_
   refine Fg NRecs γ3 slices1 n2 0 ?_
   refine Tx ?_
   refine e8 NRec (X := (γ3 n2)) (l := (gt slices1 n2)) Mm fun (γ4 : Nat → SlV) => ?_
   refine j9 NRec γ2 γ4 newslice1 (gt slices1 n2) (b := x2b) .sq (fun _ _ => .inl ⟨_, rfl⟩) (am rfl) rfl rfl rfl rfl rfl rfl rfl (fun _ _ => Uo) rfl rfl rfl rfl rfl rfl rfl (mP (EN := NRec) (X := (γ3 n2)) (γ := γ4) (l := (gt slices1 n2)) Mm) (by have := (iC slices1 hlt1).2; show (_ + _) * 104 ≤ _; omega) fun x3 x3b => ?_
   refine dC (F := FactsG NRec (appG γ2 newslice1.length γ4) (newslice1 ++ (gt slices1 n2))) [FactsG NRec γ2 newslice1, FactsG NRec γ4 (gt slices1 n2)] Sm (fun M w h => FactsG.app NRec (h _ (.head _)) (h _ (.tail _ (.head _)))) ?_
   refine Tt ?_
   refine ⟨⟨(newslice1 ++ (gt slices1 n2)), x3, x3b, (appG γ2 newslice1.length γ4), (n2 + 1)⟩, ⟨hlt1, (by rw [(iC slices1 hlt1).1]; simp only [List.length_append]; omega), (by rw [← hf2, aU hlt1]; simp only [ck, Cf] : (dB slices1) = (ck (slices1.drop (n2 + 1)) (newslice1 ++ (gt slices1 n2)))).symm⟩, Oo, Le4⟩
  ·have hf := Ri hf2.symm
   rw [List.drop_of_length_le hge1, ck] at hf
   refine Rx ?_; exact Re ⟨x2, x2b, γ2⟩ Rv
theorem ny (ls : List (List Rec)) : dB ls = ls.flatten := by
 have h1 : ∀ (l : List (List Rec)) (acc : List Rec), ck l acc = acc ++ l.flatten := by
  intro l
  induction l with
  | nil => intro acc; simp [ck]
  | cons a r ih => intro acc; rw [ck, ih]; simp
 have h0 : ∀ (l : List (List Rec)) (k : Nat), dV ls l k = ck ls [] := by
  intro l
  induction l with
  | nil => intro k; rfl
  | cons a r ih =>
   intro k
   have : decide (((k : Int) + (a.length : Int)) < 0) = false := by simp; omega
   rw [dV, this, cond_false, ih]
 rw [dB, h0, h1, List.nil_append]
theorem gk (y1 : SlV) (ls : List (List Rec)) (hct : ls.flatten.length * 104 ≤ 140737488355328) : DoesG Tryz.prog 75 [y1.val ls.length] [RdN NRecs y1 ls] ⟨[], []⟩ (fun (X : SlV × Option Nat × (Nat → SlV)) => X.1.val ls.flatten.length) (fun X => [FactsG NRec X.2.2 ls.flatten]) (fun X => ⟨[], [ownL NRec.E 78 X.1 X.2.1 (zipG X.2.2 0 ls.flatten)]⟩) := by
 have := mx y1 ls hct
 rw [ny] at this
 exact this
end Go.Proofs.YtkjccbdeaflekaaGreatDoor

namespace Go.Proofs.YtkjccbdeaflekaaGreatDoor
open Go Go.Proofs.YtkjccbdeaflekaaGreatDoor.Fw Go.Proofs
theorem t8 (s sep : Str) (sv n : Int) (hs : sep = [10]) (hsv : sv = 1) (hn : n = -1) (h : s.length < 4294967281) :
  Does Tryz.prog 164 [sV s, sV sep, .int .i64 sv, .int .i64 n] [LibP Tryz.prog] (fun (X : SlV) => X.val (splA 10 s).length) (fun (X : SlV) => [RdL EStr X (splA 10 s)]) := by
 subst hs; subst hsv; subst hn
 exact kP (fun _ => inferInstance) fun M w hM hp => by
  obtain ⟨m, hm⟩ := uQ (hp _ (.head _))
  have hl := uF 10 s
  have hlen : Lib.countB ⟨s.toArray⟩ ⟨#[10]⟩ + 1 = (splA 10 s).length := by
   have h3 := congrArg List.length hl
   rw [List.length_map, List.length_map] at h3
   rw [← h3, Lib.splitB_all ⟨#[10]⟩ (by decide) 1 _ _ rfl]
  have hb := (sN 10 s).2
  refine (Tryz.strings_genSplit ⟨s.toArray⟩ ⟨#[10]⟩ 1 (-1) (Lib.countB ⟨s.toArray⟩ ⟨#[10]⟩ + 1) m w (by rw [kk]; exact h) hm (by decide) (by decide) (by decide) (by decide) ?_).mono fun e w' ⟨h1, h2⟩ => ?_
  ·rw [if_pos (by decide), kk]
   omega
  ·rw [Nat.add_sub_cancel] at h1 h2
   have hl2 : (Lib.splitB ⟨#[10]⟩ 1 (Lib.countB ⟨s.toArray⟩ ⟨#[10]⟩) ⟨s.toArray⟩).length = (splA 10 s).length := by
    have h3 := congrArg List.length hl
    rwa [List.length_map, List.length_map] at h3
   rw [hl2, hlen] at h1
   rw [hlen] at h2
   subst h2
   refine ⟨⟨some ⟨w.heap.size, 0, none⟩, (splA 10 s).length⟩, h1, ri _ _, fun F hF => ?_⟩
   rw [List.mem_singleton] at hF
   subst hF
   have : Lib.cellsOf (Lib.splitB ⟨#[10]⟩ 1 (Lib.countB ⟨s.toArray⟩ ⟨#[10]⟩) ⟨s.toArray⟩) (splA 10 s).length = ((splA 10 s).map sV).toArray := by
    rw [Lib.cellsOf, hl, hl2, Nat.sub_self, List.replicate_zero, List.append_nil]
   rw [this]
   exact tQ hM _ _ (by omega)
end Go.Proofs.YtkjccbdeaflekaaGreatDoor

set_option maxHeartbeats 2000000
namespace Go.Proofs.YtkjccbdeaflekaaGreatDoor
open Go Go.Proofs.YtkjccbdeaflekaaGreatDoor.Fw Go.Proofs
attribute [local irreducible] RdL RdN VarP LibP RW CW
def ah (s1 : Str) (sep1 : Str) : List Str :=
 (splA 10 s1)
theorem lA (s1 : Str) (sep1 : Str) (hs : sep1 = [10]) (hl : s1.length < 4294967281) : Does Tryz.prog 120 [sV s1, sV sep1] [LibP Tryz.prog] (fun (X : SlV) => X.val (ah s1 sep1).length) (fun X => [RdL EStr X (ah s1 sep1)]) := by
 refine Dp aH Tryz.func120 Tryz.ntmps120 Tryz.results120 fun C => ?_
 refine Sy Tz (nC (a := sep1) rfl rfl Zf und_9) ?_
 refine Ck (t8 s1 sep1 (sep1.length : Int) (-1) hs (by rw [hs]; rfl) rfl hl) fun x1 => ?_
 refine Pr EStr x1 (splA 10 s1) 16 fun hlen1 => ?_
 have hf := Ri (ah.eq_1 s1 sep1)
 refine Rx ?_; exact Re x1 Rv
theorem mm (s sep : Str) : 0 < (ah s sep).length ∧ (ah s sep).length ≤ s.length + 1 := sN 10 s
theorem uX {s sep : Str} {i : Nat} (h : i < (ah s sep).length) : (gt (ah s sep) i).length ≤ s.length := kH (im h)
def ci (most1 : Int) : List Str → (List Rec) → Nat → ((List Rec) × Int × Int)
 | [], l1, n1 => (l1, (n1 : Int), 0)
 | pn2 :: rn2, l1, n1 => (bif (pn2 == ([] : Str)) then (l1, (n1 : Int), 0) else (bif (!(Lib.hasSuffix pn2 ([10] : Str))) then (l1, (n1 : Int), 8) else (bif (((ax (pn2.take (pn2.length - 1))).2 == 0) && decide ((l1.length : Int) ≥ most1)) then (bif ((2 : Int) != 0) then (l1, (n1 : Int), 2) else (ci most1 rn2 (l1 ++ [(ax (pn2.take (pn2.length - 1))).1]) (n1 + pn2.length))) else (bif ((ax (pn2.take (pn2.length - 1))).2 != 0) then (l1, (n1 : Int), (ax (pn2.take (pn2.length - 1))).2) else (ci most1 rn2 (l1 ++ [(ax (pn2.take (pn2.length - 1))).1]) (n1 + pn2.length))))))
def ac (s1 : Str) (most1 : Int) : (List Rec) × Int × Int :=
 (ci most1 (ah s1 ([10] : Str)) [] 0)
theorem f9 (s1 : Str) (most1 : Int) (hs : s1.length ≤ 60000) : Does Tryz.prog 73 [sV s1, .int .i64 most1] [LibP Tryz.prog] (fun (X : SlV) => .tuple #[X.val (ac s1 most1).1.length, .int .i64 (ac s1 most1).2.1, .int .i64 (ac s1 most1).2.2]) (fun X => [RdN NRec X (ac s1 most1).1]) := by
 refine Dp aH Tryz.func73 Tryz.ntmps73 Tryz.results73 fun C => ?_
 refine Ck (lA s1 ([10] : Str) rfl (by omega)) fun x1 => ?_
 refine Pr EStr x1 (ah s1 ([10] : Str)) 16 fun hlen1 => ?_
 have hsl := mm s1 [10]
 refine Tx ?_
 (repeat refine aI ?_); refine Lp [1,4,5,6,14,15] [] (fun (i_ : List Rec × SlV × Option Nat × (Nat → SlV) × Nat × Nat) => match i_ with | ⟨l1, x2, x2b, γ1, n1, n2⟩ => (⟨[(7, .v (x2.val l1.length)), (8, .v (.int .i64 (n1 : Int))), (16, .v (.int .i64 (n2 : Int)))], [], [ownL NRec.E 78 x2 x2b (zipG γ1 0 l1)], [FactsG NRec γ1 l1], (n2 ≤ (ah s1 ([10] : Str)).length) ∧ (l1.length ≤ n2) ∧ (0 ≤ n1 ∧ n1 ≤ n2 * 60001) ∧ (ci most1 ((ah s1 ([10] : Str)).drop n2) l1 n1) = (ac s1 most1), (ah s1 ([10] : Str)).length - n2⟩ : Ls)) ⟨[], ⟨none, 0⟩, none, (fun _ => default), 0, 0⟩ (Sc (Sc (Sc (Sc (Sc (Sc Sn)))))) (.nil) ⟨Nat.zero_le _, (by first | exact Nat.le_refl _ | exact Nat.zero_le _ | omega), (by first | exact Nat.le_refl _ | exact Nat.zero_le _ | omega), (by simp only [ac, Cf] : (ac s1 most1) = (ci most1 (ah s1 ([10] : Str)) [] 0)).symm⟩ (Le.trans (eu NRec.E 78) (Le.trans (s9 (FactsG NRec (fun _ => default) ([] : List Rec)) [] (.nil _) (fun M w _ => FactsG.nil NRec _ M w)) Le4)) ?_
 rintro ⟨l1, x2, x2b, γ1, n1, n2⟩ ⟨hkn2, hl1, hn, hf1⟩
 simp only [Lc]
 refine Cu (fun hlt0 => ?_) fun hge0 => ?_
 ·have hpl := uX hlt0
  refine Sy Tz (Xi EStr n2) ?_
  refine Sq (X1 EStr) ?_
  refine Sy Tz (q_eqS (a := (gt (ah s1 ([10] : Str)) n2)) (b := ([] : Str)) rfl rfl Zf rfl Zf) ?_
  refine eo ?_
  have hf := Ri hf1.symm
  rw [aU hlt0, ci] at hf
  refine Ce hf (fun hc2 hc2p hf => ?_) fun hc2 hc2p hf => ?_
  ·refine Tx ?_
   refine cw_le (ao NRec.E 78 x2 x2b (zipG γ1 0 l1) Uo) ?_
   refine Fj NRec x2 γ1 l1 ?_
   refine Rx ?_; exact Re x2 Rv
  ·have hpos := List.length_pos_iff.2 (ne_of_beq_false hc2)
   refine Ck (s7 (gt (ah s1 ([10] : Str)) n2) ([10] : Str) (by omega)) fun _ => ?_
   refine Ch hf (fun hc3 hf => ?_) fun hc3 hf => ?_
   ·refine Tx ?_
    refine cw_le (ao NRec.E 78 x2 x2b (zipG γ1 0 l1) Uo) ?_
    refine Fj NRec x2 γ1 l1 ?_
    refine Rx ?_; exact Re x2 Rv
   ·refine Sy Tz (nC (a := (gt (ah s1 ([10] : Str)) n2)) rfl rfl Zf und_9) ?_
    refine Sy Tz (xo (a := (gt (ah s1 ([10] : Str)) n2)) ((gt (ah s1 ([10] : Str)) n2).length - 1) rfl rfl Zf rfl Zf und_9 Zo Zo) ?_
    refine Ck (lg ((gt (ah s1 ([10] : Str)) n2).take ((gt (ah s1 ([10] : Str)) n2).length - 1)) (Nat.le_trans (List.length_take_le _ _) (by omega))) fun x3 => ?_
    refine Pr EInt x3 (ax ((gt (ah s1 ([10] : Str)) n2).take ((gt (ah s1 ([10] : Str)) n2).length - 1))).1.roots 8 fun hlen2 => ?_
    refine AlT fun g1 => ?_
    refine Ch hf (fun hc4 hf => ?_) fun hc4 hf => ?_
    ·refine Cn hf (fun hc5 hc5p hf => ?_) fun hc5 hc5p hf => ?_
     ·refine Tx ?_
      refine cw_le (ao NRec.E 78 x2 x2b (zipG γ1 0 l1) Uo) ?_
      refine Fj NRec x2 γ1 l1 ?_
      refine Rx ?_; exact Re x2 Rv
     ·refine Bl NRec.E [(x3, (ax ((gt (ah s1 ([10] : Str)) n2).take ((gt (ah s1 ([10] : Str)) n2).length - 1))).1)] (hfill := lr rfl rfl) fun x4 x4b => ?_
      refine rw_le (ao NRec.E 78 x4 x4b [(x3, (ax ((gt (ah s1 ([10] : Str)) n2).take ((gt (ah s1 ([10] : Str)) n2).length - 1))).1)] Uo) ?_
      refine dC (F := RdN NRec x4 [(ax ((gt (ah s1 ([10] : Str)) n2).take ((gt (ah s1 ([10] : Str)) n2).length - 1))).1]) [RdL NRec.E x4 [(x3, (ax ((gt (ah s1 ([10] : Str)) n2).take ((gt (ah s1 ([10] : Str)) n2).length - 1))).1)], RdL EInt x3 (ax ((gt (ah s1 ([10] : Str)) n2).take ((gt (ah s1 ([10] : Str)) n2).length - 1))).1.roots] Sm (fun M w h => RdN.of NRec (hs := [(x3, (ax ((gt (ah s1 ([10] : Str)) n2).take ((gt (ah s1 ([10] : Str)) n2).length - 1))).1)]) rfl (h _ (.head _)) (aE (dA Sm h) (fun p hp => by cases hp))) ?_
      refine e8 NRec (X := x4) (l := [(ax ((gt (ah s1 ([10] : Str)) n2).take ((gt (ah s1 ([10] : Str)) n2).length - 1))).1]) Mm fun (γ2 : Nat → SlV) => ?_
      refine j9 NRec γ1 γ2 l1 [(ax ((gt (ah s1 ([10] : Str)) n2).take ((gt (ah s1 ([10] : Str)) n2).length - 1))).1] (b := x2b) .sq (fun _ _ => .inl ⟨_, rfl⟩) (am rfl) rfl rfl rfl rfl rfl rfl rfl (fun _ _ => Uo) rfl rfl rfl rfl rfl rfl rfl (mP (EN := NRec) (X := x4) (γ := γ2) (l := [(ax ((gt (ah s1 ([10] : Str)) n2).take ((gt (ah s1 ([10] : Str)) n2).length - 1))).1]) Mm) (by show (l1.length + [(ax ((gt (ah s1 ([10] : Str)) n2).take ((gt (ah s1 ([10] : Str)) n2).length - 1))).1].length) * 104 ≤ 140737488355328; (try simp only [List.length_append, List.length_cons, List.length_nil]); omega) fun x5 x5b => ?_
      refine dC (F := FactsG NRec (appG γ1 l1.length γ2) (l1 ++ [(ax ((gt (ah s1 ([10] : Str)) n2).take ((gt (ah s1 ([10] : Str)) n2).length - 1))).1])) [FactsG NRec γ1 l1, FactsG NRec γ2 [(ax ((gt (ah s1 ([10] : Str)) n2).take ((gt (ah s1 ([10] : Str)) n2).length - 1))).1]] Sm (fun M w h => FactsG.app NRec (h _ (.head _)) (h _ (.tail _ (.head _)))) ?_
      refine Sy Tz (nC (a := (gt (ah s1 ([10] : Str)) n2)) rfl rfl Zf und_9) ?_
      refine Tt ?_
      refine ⟨⟨(l1 ++ [(ax ((gt (ah s1 ([10] : Str)) n2).take ((gt (ah s1 ([10] : Str)) n2).length - 1))).1]), x5, x5b, (appG γ1 l1.length γ2), (n1 + (gt (ah s1 ([10] : Str)) n2).length), (n2 + 1)⟩, ⟨hlt0, Zl, Zl, hf.symm⟩, Oo, Le4⟩
    ·refine Cn hf (fun hc6 hc6p hf => ?_) fun hc6 hc6p hf => ?_
     ·refine Tx ?_
      refine cw_le (ao NRec.E 78 x2 x2b (zipG γ1 0 l1) Uo) ?_
      refine Fj NRec x2 γ1 l1 ?_
      refine Rx ?_; exact Re x2 Rv
     ·refine Bl NRec.E [(x3, (ax ((gt (ah s1 ([10] : Str)) n2).take ((gt (ah s1 ([10] : Str)) n2).length - 1))).1)] (hfill := lr rfl rfl) fun x6 x6b => ?_
      refine rw_le (ao NRec.E 78 x6 x6b [(x3, (ax ((gt (ah s1 ([10] : Str)) n2).take ((gt (ah s1 ([10] : Str)) n2).length - 1))).1)] Uo) ?_
      refine dC (F := RdN NRec x6 [(ax ((gt (ah s1 ([10] : Str)) n2).take ((gt (ah s1 ([10] : Str)) n2).length - 1))).1]) [RdL NRec.E x6 [(x3, (ax ((gt (ah s1 ([10] : Str)) n2).take ((gt (ah s1 ([10] : Str)) n2).length - 1))).1)], RdL EInt x3 (ax ((gt (ah s1 ([10] : Str)) n2).take ((gt (ah s1 ([10] : Str)) n2).length - 1))).1.roots] Sm (fun M w h => RdN.of NRec (hs := [(x3, (ax ((gt (ah s1 ([10] : Str)) n2).take ((gt (ah s1 ([10] : Str)) n2).length - 1))).1)]) rfl (h _ (.head _)) (aE (dA Sm h) (fun p hp => by cases hp))) ?_
      refine e8 NRec (X := x6) (l := [(ax ((gt (ah s1 ([10] : Str)) n2).take ((gt (ah s1 ([10] : Str)) n2).length - 1))).1]) Mm fun (γ3 : Nat → SlV) => ?_
      refine j9 NRec γ1 γ3 l1 [(ax ((gt (ah s1 ([10] : Str)) n2).take ((gt (ah s1 ([10] : Str)) n2).length - 1))).1] (b := x2b) .sq (fun _ _ => .inl ⟨_, rfl⟩) (am rfl) rfl rfl rfl rfl rfl rfl rfl (fun _ _ => Uo) rfl rfl rfl rfl rfl rfl rfl (mP (EN := NRec) (X := x6) (γ := γ3) (l := [(ax ((gt (ah s1 ([10] : Str)) n2).take ((gt (ah s1 ([10] : Str)) n2).length - 1))).1]) Mm) (by show (l1.length + [(ax ((gt (ah s1 ([10] : Str)) n2).take ((gt (ah s1 ([10] : Str)) n2).length - 1))).1].length) * 104 ≤ 140737488355328; (try simp only [List.length_append, List.length_cons, List.length_nil]); omega) fun x7 x7b => ?_
      refine dC (F := FactsG NRec (appG γ1 l1.length γ3) (l1 ++ [(ax ((gt (ah s1 ([10] : Str)) n2).take ((gt (ah s1 ([10] : Str)) n2).length - 1))).1])) [FactsG NRec γ1 l1, FactsG NRec γ3 [(ax ((gt (ah s1 ([10] : Str)) n2).take ((gt (ah s1 ([10] : Str)) n2).length - 1))).1]] Sm (fun M w h => FactsG.app NRec (h _ (.head _)) (h _ (.tail _ (.head _)))) ?_
      refine Sy Tz (nC (a := (gt (ah s1 ([10] : Str)) n2)) rfl rfl Zf und_9) ?_
      refine Tt ?_
      refine ⟨⟨(l1 ++ [(ax ((gt (ah s1 ([10] : Str)) n2).take ((gt (ah s1 ([10] : Str)) n2).length - 1))).1]), x7, x7b, (appG γ1 l1.length γ3), (n1 + (gt (ah s1 ([10] : Str)) n2).length), (n2 + 1)⟩, ⟨hlt0, Zl, Zl, hf.symm⟩, Oo, Le4⟩
 ·refine Tx ?_
  refine cw_le (ao NRec.E 78 x2 x2b (zipG γ1 0 l1) Uo) ?_
  refine Fj NRec x2 γ1 l1 ?_
  have hf := Ri hf1.symm
  rw [List.drop_of_length_le hge0, ci] at hf
  refine Rx ?_; exact Re x2 Rv
end Go.Proofs.YtkjccbdeaflekaaGreatDoor

namespace Go.Proofs.YtkjccbdeaflekaaGreatDoor
open Go Go.Proofs.YtkjccbdeaflekaaGreatDoor.Fw Go.Proofs
theorem suf_no {t : Str} (h : (10 : UInt8) ∉ t) : Lib.hasSuffix t [10] = false := by
 cases hb : Lib.hasSuffix t [10] with
 | false => rfl
 | true =>
  have h2 : [10].isSuffixOf t = true := hb
  have h3 := List.isSuffixOf_iff_suffix.1 h2
  exact absurd (h3.subset (.head _)) h
theorem Ai (p : Str) : Lib.hasSuffix (p ++ [10]) [10] = true := by
 have : [10].isSuffixOf (p ++ [10]) = true := List.isSuffixOf_iff_suffix.2 ⟨p, rfl⟩
 exact this
theorem oB (s0 : Str) (most : Int) (hs : s0.length ≤ 60000) : ∀ (f : Nat) (s : Str) (acc : List Rec) (n : Nat), s.length < f → n + s.length = s0.length → (acc.length : Int) ≤ most →
  ci most (splA 10 s) acc n = bG s0 most f s acc
 | 0, s, acc, n, h, _, _ => absurd h (Nat.not_lt_zero _)
 | f + 1, s, acc, n, h, hn, hm => by
  rw [bG]
  rcases at_c 10 s with hno | ⟨p, r, rfl, hp⟩
  ·rw [uH hno, ci, po hno]
   by_cases h0 : s = []
   ·subst h0
    simp only [List.length_nil] at hn
    simp
    omega
   ·have h1 : (s == ([] : Str)) = false := by simpa using h0
    have h2 : (s != ([] : Str)) = true := by simpa using h0
    simp only [h1, h2, suf_no hno, cond_true, cond_false, Bool.not_false]
    congr 2
    omega
  ·simp only [List.length_append, List.length_cons] at h hn
   have h1 : ((p ++ [10]) == ([] : Str)) = false := by simp
   have h2 : ((p ++ 10 :: r) != ([] : Str)) = true := by simp
   have h3 : (p ++ [10]).take ((p ++ [10]).length - 1) = p := by simp
   have hpl : p.length ≤ 60000 := by omega
   have h4 : (n : Int) = (s0.length : Int) - ((p ++ 10 :: r).length : Int) := by simp only [List.length_append, List.length_cons]; omega
   rw [sO r hp, ci, ns r hp]
   simp only [h1, h2, Ai, h3, wR hpl, cond_true, cond_false, Bool.not_true, ← h4]
   by_cases he : (bv p).2 = 0
   ·have e1 : ((bv p).2 == 0) = true := by simpa using he
    have e2 : ((bv p).2 != 0) = false := by simpa using he
    simp only [e1, e2, Bool.true_and, cond_false]
    by_cases hq : (acc.length : Int) = most
    ·have q1 : decide ((acc.length : Int) ≥ most) = true := by simp; omega
     have q2 : ((acc.length : Int) == most) = true := by simpa using hq
     simp only [q1, q2, cond_true]
     rfl
    ·have q1 : decide ((acc.length : Int) ≥ most) = false := by simp; omega
     have q2 : ((acc.length : Int) == most) = false := by simpa using hq
     simp only [q1, q2, cond_false]
     exact oB s0 most hs f r _ _ (by omega) (by simp only [List.length_append, List.length_cons, List.length_nil]; omega) (by simp only [List.length_append, List.length_cons, List.length_nil]; omega)
   ·have e1 : ((bv p).2 == 0) = false := by simpa using he
    have e2 : ((bv p).2 != 0) = true := by simpa using he
    simp only [e1, e2, Bool.false_and, cond_false, cond_true]
theorem kb {s : Str} {most : Int} (hs : s.length ≤ 60000) (hm : 0 ≤ most) : ac s most = aD s most := by
 unfold ac aD ah
 exact oB s most hs _ s [] 0 (by omega) (by omega) (by simpa using hm)
theorem sd {s : Str} {most : Int} (hs : s.length ≤ 60000) (hm : 0 ≤ most) : (ac s most).1.length ≤ s.length ∧ 0 ≤ (ac s most).2.1 ∧ (ac s most).2.1 ≤ (s.length : Int) := by
 rw [kb hs hm]; exact lY s most
theorem sc (s0 : Str) (most : Int) : ∀ (f : Nat) (s : Str) (l : List Rec), (l.length : Int) ≤ most → (((bG s0 most f s l).1.length : Nat) : Int) ≤ most
 | 0, s, l, h => by
  have : (bG s0 most 0 s l) = default := rfl
  rw [this]
  show (0 : Int) ≤ most
  omega
 | f + 1, s, l, h => by
  rw [bG]
  cases (s != ([] : Str)) with
  | false => exact h
  | true =>
   simp only [cond_true]
   cases (!(cutc 10 s).2.2) with
   | true => exact h
   | false =>
    simp only [cond_false]
    cases ((bv (cutc 10 s).1).2 != 0) with
    | true => exact h
    | false =>
     simp only [cond_false]
     cases hq : ((l.length : Int) == most) with
     | true => exact h
     | false =>
      have hq : (l.length : Int) ≠ most := by simpa using hq
      exact sc s0 most f _ _ (by simp only [List.length_append, List.length_cons, List.length_nil]; omega)
theorem pI {s : Str} {most : Int} (hs : s.length ≤ 60000) (hm : 0 ≤ most) : ((ac s most).1.length : Int) ≤ most := by
 rw [kb hs hm]; exact sc s most _ s [] (by simpa using hm)
end Go.Proofs.YtkjccbdeaflekaaGreatDoor

set_option maxHeartbeats 2000000
namespace Go.Proofs.YtkjccbdeaflekaaGreatDoor
open Go Go.Proofs.YtkjccbdeaflekaaGreatDoor.Fw Go.Proofs
attribute [local irreducible] RdL RdN VarP LibP RW CW
def cz (d1 : Disk) : Int :=
 (bif (decide ((d1.safe.length : Int) > 60000) || decide ((d1.wait.length : Int) > (60000 - (d1.safe.length : Int)))) then 2 else (ac d1.safe 60).2.2)
theorem kG (y1 : SlV) (y2 : SlV) (d1 : Disk) : Does Tryz.prog 34 [.agg ⟨cK y1 y2 d1⟩] [RdL EByte y1 d1.safe, RdL EByte y2 d1.wait, LibP Tryz.prog] (fun (_ : Unit) => .int .i64 (cz d1)) (fun _ => []) := by
 refine Dp aH Tryz.func34 Tryz.ntmps34 Tryz.results34 fun C => ?_
 refine Pc EByte y1 d1.safe 1 fun hlen1 => ?_
 refine Pc EByte y2 d1.wait 1 fun hlen2 => ?_
 refine BxT fun g1 => ?_
 have hf := Ri (cz.eq_1 d1)
 refine Ch hf (fun hc1 hf => ?_) fun hc1 hf => ?_
 ·exact Ru
 ·have hdl := m3 hc1
  refine Sy Tz (rV (X := y1) (l := d1.safe) rP und_5 und_9 rfl rfl Zf Mm) ?_
  refine Ck (f9 d1.safe 60 Zc) fun x1 => ?_
  refine Pm NRec x1 (ac d1.safe 60).1 104 fun hlen3 => ?_
  exact Ru
theorem nN {d : Disk} (h : cz d = 0) : d.safe.length ≤ 60000 ∧ d.safe.length + d.wait.length ≤ 60000 := by
 unfold cz at h
 generalize hb : (decide ((d.safe.length : Int) > 60000) || decide ((d.wait.length : Int) > (60000 - (d.safe.length : Int)))) = b at h
 cases b with
 | true => simp at h
 | false => exact m3 hb
def aw (d1 : Disk) : Disk × (List Rec) :=
 ((⟨([d1.safe, (d1.wait.take (ac d1.wait (60 - ((ac d1.safe 60).1.length : Int))).2.1.toNat)].flatten), ([] : List UInt8)⟩ : Disk), ([(ac d1.safe 60).1, (ac d1.wait (60 - ((ac d1.safe 60).1.length : Int))).1].flatten))
theorem ik (y1 : SlV) (y2 : SlV) (d1 : Disk) (hdl : d1.safe.length ≤ 60000 ∧ d1.safe.length + d1.wait.length ≤ 60000) : Does Tryz.prog 27 [.agg ⟨cK y1 y2 d1⟩] [RdL EByte y1 d1.safe, RdL EByte y2 d1.wait, LibP Tryz.prog] (fun (X : SlV × SlV × SlV) => .tuple #[.agg ⟨cK X.1 X.2.1 (aw d1).1⟩, X.2.2.val (aw d1).2.length]) (fun X => [RdL EByte X.1 (aw d1).1.safe, RdL EByte X.2.1 (aw d1).1.wait, RdN NRec X.2.2 (aw d1).2]) := by
 refine Dp aH Tryz.func27 Tryz.ntmps27 Tryz.results27 fun C => ?_
 refine Pc EByte y1 d1.safe 1 fun hlen1 => ?_
 refine Pc EByte y2 d1.wait 1 fun hlen2 => ?_
 refine BxT fun g1 => ?_
 refine AlT fun g2 => ?_
 refine Sy Tz (rV (X := y1) (l := d1.safe) rP und_5 und_9 rfl rfl Zf Mm) ?_
 refine Ck (f9 d1.safe 60 Zc) fun x1 => ?_
 refine Pm NRec x1 (ac d1.safe 60).1 104 fun hlen3 => ?_
 have hl1 := sd (s := d1.safe) (most := 60) (by omega) (by decide); have hm1 := pI (s := d1.safe) (most := 60) (by omega) (by decide)
 refine Sy Tz (rV (X := y2) (l := d1.wait) rP und_5 und_9 rfl rfl Zf Mm) ?_
 refine Ck (f9 d1.wait (60 - ((ac d1.safe 60).1.length : Int)) Zc) fun x2 => ?_
 refine Pm NRec x2 (ac d1.wait (60 - ((ac d1.safe 60).1.length : Int))).1 104 fun hlen4 => ?_
 have hl2 := sd (s := d1.wait) (most := 60 - ((ac d1.safe 60).1.length : Int)) (by omega) (by omega)
 refine Tx ?_
 refine Jn (SlV × SlV × Option Nat) [2] [false, true] (fun ⟨x3, x4, b1⟩ => ⟨[(3, .v (x3.val ([(ac d1.safe 60).1, (ac d1.wait (60 - ((ac d1.safe 60).1.length : Int))).1].flatten).length))], [⟨g2, 33, [x4.val ([d1.safe, (d1.wait.take (ac d1.wait (60 - ((ac d1.safe 60).1.length : Int))).2.1.toNat)].flatten).length, .slice none 0 0]⟩], [ownL EByte 5 x4 b1 ([d1.safe, (d1.wait.take (ac d1.wait (60 - ((ac d1.safe 60).1.length : Int))).2.1.toNat)].flatten)], [RdN NRec x3 ([(ac d1.safe 60).1, (ac d1.wait (60 - ((ac d1.safe 60).1.length : Int))).1].flatten)], True, 0⟩) ?_ ?_
 ·refine aq (fun j => match j with | 13 => some [g2] | _ => some []) ?_
  refine Dx [0,1,2,3,4] ?_
  refine Rb 5 rfl (xp EByte (ac d1.wait (60 - ((ac d1.safe 60).1.length : Int))).2.1.toNat rfl rfl Zf rfl Zf rfl rfl Mm Zo Zo) ?_
  refine dC (F := RdL EByte y2 (d1.wait.take (ac d1.wait (60 - ((ac d1.safe 60).1.length : Int))).2.1.toNat)) [RdL EByte y2 d1.wait] Sm (fun M w h => (allF1 h).take _) ?_
  refine Dx [9,10] ?_
  refine Rw 6 11 ?_ ?_
  ·refine Bl NBytes.E [(y1, d1.safe), (y2, (d1.wait.take (ac d1.wait (60 - ((ac d1.safe 60).1.length : Int))).2.1.toNat))] fun x5 x5b => ?_
   refine Rw 7 11 ?_ ?_
   ·refine rw_le (ao NBytes.E 31 x5 x5b [(y1, d1.safe), (y2, (d1.wait.take (ac d1.wait (60 - ((ac d1.safe 60).1.length : Int))).2.1.toNat))] Uo) ?_
    refine dC (F := RdN NBytes x5 [d1.safe, (d1.wait.take (ac d1.wait (60 - ((ac d1.safe 60).1.length : Int))).2.1.toNat)]) [RdL NBytes.E x5 [(y1, d1.safe), (y2, (d1.wait.take (ac d1.wait (60 - ((ac d1.safe 60).1.length : Int))).2.1.toNat))], RdL EByte y1 d1.safe, RdL EByte y2 (d1.wait.take (ac d1.wait (60 - ((ac d1.safe 60).1.length : Int))).2.1.toNat)] Sm (fun M w h => RdN.of NBytes (hs := [(y1, d1.safe), (y2, (d1.wait.take (ac d1.wait (60 - ((ac d1.safe 60).1.length : Int))).2.1.toNat))]) rfl (h _ (.head _)) (aE (dA Sm h) (aE (dA Sm h) (fun p hp => by cases hp)))) ?_
    refine Cm (ek x5 [d1.safe, (d1.wait.take (ac d1.wait (60 - ((ac d1.safe 60).1.length : Int))).2.1.toNat)] (by simp only [List.flatten_cons, List.flatten_nil, List.length_append, List.length_nil, List.length_take]; omega)) fun x6 => ?_
    refine Ra 8 rfl Qp ?_
    refine Rn 11 ?_
    refine Bl NRecs.E [(x1, (ac d1.safe 60).1), (x2, (ac d1.wait (60 - ((ac d1.safe 60).1.length : Int))).1)] fun x7 x7b => ?_
    refine Rn 12 ?_
    refine rw_le (ao NRecs.E 70 x7 x7b [(x1, (ac d1.safe 60).1), (x2, (ac d1.wait (60 - ((ac d1.safe 60).1.length : Int))).1)] Uo) ?_
    refine dC (F := RdN NRecs x7 [(ac d1.safe 60).1, (ac d1.wait (60 - ((ac d1.safe 60).1.length : Int))).1]) [RdL NRecs.E x7 [(x1, (ac d1.safe 60).1), (x2, (ac d1.wait (60 - ((ac d1.safe 60).1.length : Int))).1)], RdN NRec x1 (ac d1.safe 60).1, RdN NRec x2 (ac d1.wait (60 - ((ac d1.safe 60).1.length : Int))).1] Sm (fun M w h => RdN.of NRecs (hs := [(x1, (ac d1.safe 60).1), (x2, (ac d1.wait (60 - ((ac d1.safe 60).1.length : Int))).1)]) rfl (h _ (.head _)) (aE (dA Sm h) (aE (dA Sm h) (fun p hp => by cases hp)))) ?_
    refine Cm (gk x7 [(ac d1.safe 60).1, (ac d1.wait (60 - ((ac d1.safe 60).1.length : Int))).1] (by simp only [List.flatten_cons, List.flatten_nil, List.length_append, List.length_nil]; omega)) fun x8 => ?_
    refine rw_le (ao NRec.E 78 x8.1 x8.2.1 (zipG x8.2.2 0 ([(ac d1.safe 60).1, (ac d1.wait (60 - ((ac d1.safe 60).1.length : Int))).1].flatten)) Uo) ?_
    refine Fk NRec x8.1 x8.2.2 ([(ac d1.safe 60).1, (ac d1.wait (60 - ((ac d1.safe 60).1.length : Int))).1].flatten) ?_
    refine Rn 13 ?_
    refine Wa ?_
    refine Ra 14 rfl Qp ?_
    refine Re0 ?_
    refine ⟨⟨x8.1, x6.1, x6.2⟩, trivial, Le4⟩
   ·refine Bl NRecs.E [(x1, (ac d1.safe 60).1), (x2, (ac d1.wait (60 - ((ac d1.safe 60).1.length : Int))).1)] fun x9 x9b => ?_
    refine Rn 7 ?_
    refine rw_le (ao NBytes.E 31 x5 x5b [(y1, d1.safe), (y2, (d1.wait.take (ac d1.wait (60 - ((ac d1.safe 60).1.length : Int))).2.1.toNat))] Uo) ?_
    refine dC (F := RdN NBytes x5 [d1.safe, (d1.wait.take (ac d1.wait (60 - ((ac d1.safe 60).1.length : Int))).2.1.toNat)]) [RdL NBytes.E x5 [(y1, d1.safe), (y2, (d1.wait.take (ac d1.wait (60 - ((ac d1.safe 60).1.length : Int))).2.1.toNat))], RdL EByte y1 d1.safe, RdL EByte y2 (d1.wait.take (ac d1.wait (60 - ((ac d1.safe 60).1.length : Int))).2.1.toNat)] Sm (fun M w h => RdN.of NBytes (hs := [(y1, d1.safe), (y2, (d1.wait.take (ac d1.wait (60 - ((ac d1.safe 60).1.length : Int))).2.1.toNat))]) rfl (h _ (.head _)) (aE (dA Sm h) (aE (dA Sm h) (fun p hp => by cases hp)))) ?_
    refine Cm (ek x5 [d1.safe, (d1.wait.take (ac d1.wait (60 - ((ac d1.safe 60).1.length : Int))).2.1.toNat)] (by simp only [List.flatten_cons, List.flatten_nil, List.length_append, List.length_nil, List.length_take]; omega)) fun x10 => ?_
    refine Ra 8 rfl Qp ?_
    refine Rn 12 ?_
    refine rw_le (ao NRecs.E 70 x9 x9b [(x1, (ac d1.safe 60).1), (x2, (ac d1.wait (60 - ((ac d1.safe 60).1.length : Int))).1)] Uo) ?_
    refine dC (F := RdN NRecs x9 [(ac d1.safe 60).1, (ac d1.wait (60 - ((ac d1.safe 60).1.length : Int))).1]) [RdL NRecs.E x9 [(x1, (ac d1.safe 60).1), (x2, (ac d1.wait (60 - ((ac d1.safe 60).1.length : Int))).1)], RdN NRec x1 (ac d1.safe 60).1, RdN NRec x2 (ac d1.wait (60 - ((ac d1.safe 60).1.length : Int))).1] Sm (fun M w h => RdN.of NRecs (hs := [(x1, (ac d1.safe 60).1), (x2, (ac d1.wait (60 - ((ac d1.safe 60).1.length : Int))).1)]) rfl (h _ (.head _)) (aE (dA Sm h) (aE (dA Sm h) (fun p hp => by cases hp)))) ?_
    refine Cm (gk x9 [(ac d1.safe 60).1, (ac d1.wait (60 - ((ac d1.safe 60).1.length : Int))).1] (by simp only [List.flatten_cons, List.flatten_nil, List.length_append, List.length_nil]; omega)) fun x11 => ?_
    refine rw_le (ao NRec.E 78 x11.1 x11.2.1 (zipG x11.2.2 0 ([(ac d1.safe 60).1, (ac d1.wait (60 - ((ac d1.safe 60).1.length : Int))).1].flatten)) Uo) ?_
    refine Fk NRec x11.1 x11.2.2 ([(ac d1.safe 60).1, (ac d1.wait (60 - ((ac d1.safe 60).1.length : Int))).1].flatten) ?_
    refine Rn 13 ?_
    refine Wa ?_
    refine Ra 14 rfl Qp ?_
    refine Re0 ?_
    refine ⟨⟨x11.1, x10.1, x10.2⟩, trivial, Le4⟩
  ·refine Bl NRecs.E [(x1, (ac d1.safe 60).1), (x2, (ac d1.wait (60 - ((ac d1.safe 60).1.length : Int))).1)] fun x12 x12b => ?_
   refine Rn 6 ?_
   refine Bl NBytes.E [(y1, d1.safe), (y2, (d1.wait.take (ac d1.wait (60 - ((ac d1.safe 60).1.length : Int))).2.1.toNat))] fun x13 x13b => ?_
   refine Rn 7 ?_
   refine rw_le (ao NBytes.E 31 x13 x13b [(y1, d1.safe), (y2, (d1.wait.take (ac d1.wait (60 - ((ac d1.safe 60).1.length : Int))).2.1.toNat))] Uo) ?_
   refine dC (F := RdN NBytes x13 [d1.safe, (d1.wait.take (ac d1.wait (60 - ((ac d1.safe 60).1.length : Int))).2.1.toNat)]) [RdL NBytes.E x13 [(y1, d1.safe), (y2, (d1.wait.take (ac d1.wait (60 - ((ac d1.safe 60).1.length : Int))).2.1.toNat))], RdL EByte y1 d1.safe, RdL EByte y2 (d1.wait.take (ac d1.wait (60 - ((ac d1.safe 60).1.length : Int))).2.1.toNat)] Sm (fun M w h => RdN.of NBytes (hs := [(y1, d1.safe), (y2, (d1.wait.take (ac d1.wait (60 - ((ac d1.safe 60).1.length : Int))).2.1.toNat))]) rfl (h _ (.head _)) (aE (dA Sm h) (aE (dA Sm h) (fun p hp => by cases hp)))) ?_
   refine Cm (ek x13 [d1.safe, (d1.wait.take (ac d1.wait (60 - ((ac d1.safe 60).1.length : Int))).2.1.toNat)] (by simp only [List.flatten_cons, List.flatten_nil, List.length_append, List.length_nil, List.length_take]; omega)) fun x14 => ?_
   refine Ra 8 rfl Qp ?_
   refine Rn 12 ?_
   refine rw_le (ao NRecs.E 70 x12 x12b [(x1, (ac d1.safe 60).1), (x2, (ac d1.wait (60 - ((ac d1.safe 60).1.length : Int))).1)] Uo) ?_
   refine dC (F := RdN NRecs x12 [(ac d1.safe 60).1, (ac d1.wait (60 - ((ac d1.safe 60).1.length : Int))).1]) [RdL NRecs.E x12 [(x1, (ac d1.safe 60).1), (x2, (ac d1.wait (60 - ((ac d1.safe 60).1.length : Int))).1)], RdN NRec x1 (ac d1.safe 60).1, RdN NRec x2 (ac d1.wait (60 - ((ac d1.safe 60).1.length : Int))).1] Sm (fun M w h => RdN.of NRecs (hs := [(x1, (ac d1.safe 60).1), (x2, (ac d1.wait (60 - ((ac d1.safe 60).1.length : Int))).1)]) rfl (h _ (.head _)) (aE (dA Sm h) (aE (dA Sm h) (fun p hp => by cases hp)))) ?_
   refine Cm (gk x12 [(ac d1.safe 60).1, (ac d1.wait (60 - ((ac d1.safe 60).1.length : Int))).1] (by simp only [List.flatten_cons, List.flatten_nil, List.length_append, List.length_nil]; omega)) fun x15 => ?_
   refine rw_le (ao NRec.E 78 x15.1 x15.2.1 (zipG x15.2.2 0 ([(ac d1.safe 60).1, (ac d1.wait (60 - ((ac d1.safe 60).1.length : Int))).1].flatten)) Uo) ?_
   refine Fk NRec x15.1 x15.2.2 ([(ac d1.safe 60).1, (ac d1.wait (60 - ((ac d1.safe 60).1.length : Int))).1].flatten) ?_
   refine Rn 13 ?_
   refine Wa ?_
   refine Ra 14 rfl Qp ?_
   refine Re0 ?_
   refine ⟨⟨x15.1, x14.1, x14.2⟩, trivial, Le4⟩
 ·rintro ⟨x3, x4, b1⟩ -
  simp only [Lc]
  (repeat refine aI ?_)
  refine cw_le (ao EByte 5 x4 b1 ([d1.safe, (d1.wait.take (ac d1.wait (60 - ((ac d1.safe 60).1.length : Int))).2.1.toNat)].flatten) Uo) ?_
  refine Fc EByte ?_
  have hf := Ri (aw.eq_1 d1)
  refine Rx ?_; exact Re ⟨x4, Z0, x3⟩ Rv
end Go.Proofs.YtkjccbdeaflekaaGreatDoor
