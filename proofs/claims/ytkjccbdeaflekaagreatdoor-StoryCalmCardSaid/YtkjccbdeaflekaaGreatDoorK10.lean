/- Part of this claim. No condition. -/
import Derived.Test.YtkjccbdeaflekaaGreatDoorK3
import Derived.Test.YtkjccbdeaflekaaGreatDoorK9
import Derived.Test.YtkjccbdeaflekaaGreatDoorK7
import Derived.Lib.Join
import Derived.Lib.ItoaLen
import Derived.Test.YtkjccbdeaflekaaGreatDoorK4
import Derived.Test.YtkjccbdeaflekaaGreatDoorK5
set_option linter.unusedVariables false
set_option linter.unusedSimpArgs false
namespace Go.Proofs.YtkjccbdeaflekaaGreatDoor
open Go Go.Proofs.YtkjccbdeaflekaaGreatDoor.Fw Go.Proofs Go.RowKit Go.Sort
theorem rQ (w : World) (k : Nat) (os : Array Obj) : Below w.heap.size w (grow (w.drewN k) os) :=
 ⟨rfl, rfl, rfl, by show w.heap.size ≤ (w.heap ++ os).size; rw [Array.size_append]; omega, fun j hj => heap_grow_old (w.drewN k) os hj⟩
theorem sy (n : Int) (h : -9223372036854775808 ≤ n ∧ n ≤ 9223372036854775807) : Does Tryz.prog 147 [.int .i64 n] [LibP Tryz.prog] (fun (_ : Unit) => sV (Lib.itoa n)) (fun (_ : Unit) => []) :=
 nA (fun _ => inferInstance) fun M w _ hp => (Tryz.strconv_Itoa n h.1 h.2 w (hp _ (.head _)).2.tab).mono fun e w' ⟨he, k, os, hw⟩ => ⟨(), he, hw ▸ rQ _ _ _, fun F hF => by cases hF⟩
theorem vA (t : Str) (h : t.length ≤ 281474976710656) : Does Tryz.prog 192 [sV t] [LibP Tryz.prog] (fun (X : Nat) => .tuple #[.int .i64 (atv t), eV (ate t) 270 (.pointer (some ⟨X, 0, none⟩))]) (fun (_ : Nat) => []) :=
 nA (fun _ => inferInstance) fun M w _ hp => by
  have hs := mH t
  obtain ⟨_, _, ⟨tp, p, h1⟩, ⟨tp', p', h2⟩⟩ := (hp _ (.head _)).2
  cases he : Lib.atoiAll t with
  | ok v =>
   refine (Tryz.strconv_Atoi_ok ⟨t.toArray⟩ (by rw [hs]; omega) v he w).mono fun e w' ⟨h3, h4⟩ => ⟨0, by rw [h3, atv, ate, he]; rfl, ?_, fun F hF => by cases hF⟩
   rcases h4 with rfl | ⟨u, rfl⟩
   ·exact Below.refl _ _
   ·exact rS _ _ _
  | range =>
   exact (Any.strconv_Atoi_range_var Tryz.laysC172 ⟨t.toArray⟩ (by rw [hs]; omega) he tp' p' w h2).mono fun e w' ⟨N, h3, _, _, h5⟩ => ⟨N, by rw [h3, atv, ate, he]; rfl, h5, fun F hF => by cases hF⟩
  | _ =>
   exact (Any.strconv_Atoi_syntax_var Tryz.laysC172 ⟨t.toArray⟩ (by rw [hs]; omega) he tp p w h1).mono fun e w' ⟨N, h3, _, _, h5⟩ => ⟨N, by rw [h3, atv, ate, he]; rfl, h5, fun F hF => by cases hF⟩
theorem uD {M : Nat → Prop} {w : World} (h : LibP Tryz.prog M w) : ∃ m, w.cell? ⟨0, 0, none⟩ = some (.int .i64 m) := by
 obtain ⟨g, m, hg, hc⟩ := h.2.len
 obtain rfl := Option.some.inj ((show Tryz.prog.globalNamed "internal/bytealg.MaxLen" = some 0 by kernel_rfl).symm.trans hg)
 exact ⟨m, hc⟩
theorem uE (s sep : Str) (hs : sep = [32]) (h : s.length < 4294967281) : Does Tryz.prog 191 [sV s, sV sep] [LibP Tryz.prog] (fun (X : SlV) => X.val (spl 32 s).length) (fun (X : SlV) => [RdL EStr X (spl 32 s)]) := by
 subst hs
 exact nA (fun _ => inferInstance) fun M w hM hp => by
  obtain ⟨m, hm⟩ := uD (hp _ (.head _))
  refine (Tryz.strings_Split ⟨s.toArray⟩ ⟨#[32]⟩ m w (by rw [mH]; exact h) hm (by decide)).mono fun e w' ⟨h1, h2⟩ => ?_
  have hl := td 32 s
  have hlen : Lib.countB ⟨s.toArray⟩ ⟨#[32]⟩ + 1 = (spl 32 s).length := by
   have h3 := congrArg List.length hl
   rw [List.length_map, List.length_map] at h3
   rw [← h3, Lib.splitB_all ⟨#[32]⟩ (by decide) 0 _ _ rfl]
  rw [hl] at h2
  rw [hlen] at h1
  subst h2
  have hb := (rp 32 s).2
  refine ⟨⟨some ⟨w.heap.size, 0, none⟩, (spl 32 s).length⟩, h1, rT _ _, fun F hF => ?_⟩
  rw [List.mem_singleton] at hF
  subst hF
  exact uj hM _ _ (by omega)
theorem xg {c : UInt8} (s sep : Str) (hs : sep = [c]) (h : s.length < 4294967281) : Does Tryz.prog 153 [sV s, sV sep] [LibP Tryz.prog] (fun (_ : Unit) => .tuple #[sV (cutc c s).1, sV (cutc c s).2.1, .bool (cutc c s).2.2]) (fun (_ : Unit) => []) := by
 subst hs
 exact nA (fun _ => inferInstance) fun M w hM hp => by
  obtain ⟨m, hm⟩ := uD (hp _ (.head _))
  refine (Tryz.strings_Cut ⟨s.toArray⟩ ⟨#[c]⟩ m w (by rw [mH]; exact h) hm).mono fun e w' ⟨h1, n, h2⟩ => ⟨(), ?_, h2 ▸ rR n, fun F hF => by cases hF⟩
  rw [h1, show Lib.cut (ByteArray.mk s.toArray).data.toList (ByteArray.mk #[c]).data.toList = cutc c s from vL c s]
end Go.Proofs.YtkjccbdeaflekaaGreatDoor

set_option maxHeartbeats 2000000
namespace Go.Proofs.YtkjccbdeaflekaaGreatDoor
open Go Go.Proofs.YtkjccbdeaflekaaGreatDoor.Fw Go.Proofs
attribute [local irreducible] RdL RdN VarP LibP RW CW
theorem cr (x : SlV) (l : List UInt8) : DoesG Tryz.prog 83 [x.val l.length] [RdL EByte x l] ⟨[], []⟩ (fun (X : SlV × Option Nat) => X.1.val l.length) (fun _ => []) (fun X => ⟨[], [ownL EByte 5 X.1 X.2 l]⟩) := by
 refine Dq aK Tryz.func83 Tryz.ntmps83 Tryz.results83 fun C => ?_
 refine dx (φ := l.length * EByte.by_ ≤ 140737488355328) [RdL EByte x l] Sm (fun M w h => (allF1 h).len) fun hlen => ?_
 refine Sy Tz (jZ rfl rfl Zf rfl) ?_
 refine dD ?_
 (repeat refine aD ?_); refine ij rfl rfl (fun hc0 => ?_) (fun hc0 => ?_)
 ·refine dx [RdL EByte x l] Sm (fun M w h => (allF1 h).nil_of hc0) fun hnil => ?_
  subst hnil
  refine cw_le (eH EByte 5) ?_
  refine Tx ?_
  (repeat refine aD ?_); refine di ?_
  exact ⟨(⟨none, 0⟩, none), _, (.cons (.tmp rfl) .nil), rfl, .nil _, .nil _, Sp⟩
 ·refine Bl EByte [] fun x1 x1b => ?_
  refine Rp rfl rfl rfl rfl ?_
  refine Ap EByte 1 [] l x1b (hb := by simp only [List.length_nil, Nat.zero_add]; exact hlen) fun x2 x2b => ?_
  refine Tx ?_
  (repeat refine aD ?_); refine di ?_
  exact ⟨(x2, x2b), _, (.cons (.tmp rfl) .nil), rfl, .nil _, .nil _, Sp⟩
theorem ky (y : SlV) (l : List UInt8) (n : Int) (hy : y = ⟨none, 0⟩ ∧ l = []) (hn : 0 ≤ n ∧ n * 1 ≤ 140737488355328) : DoesG Tryz.prog 123 [y.val l.length, .int .i64 n] [RdL EByte y l] ⟨[], []⟩ (fun (X : SlV × Option Nat) => X.1.val ([] : List UInt8).length) (fun _ => []) (fun X => ⟨[], [ownL EByte 5 X.1 X.2 []]⟩) := by
 obtain ⟨hy1, hy2⟩ := hy
 subst hy1; subst hy2
 obtain ⟨k, rfl⟩ : ∃ k : Nat, n = k := ⟨n.toNat, by omega⟩
 refine Dq aK Tryz.func123 Tryz.ntmps123 Tryz.results123 fun C => ?_
 refine cw_le (eH EByte 5) ?_
 refine Cd' (fun hc => ?_) fun hc => ?_
 ·exact absurd (of_decide_eq_true hc) (by omega)
 ·refine Sy Tz (q_cap rfl rfl Zf rfl) ?_
  refine Tx ?_
  refine Sq (q_is (v' := .int .i64 0) (q_sub rfl rfl Zf rfl Zf (fun _ => by decide)) rfl) ?_
  refine Sq (q_is (v' := .int .i64 (k : Int)) (q_sub rfl rfl Zf rfl Zf Zo) (by simp)) ?_
  refine Cd' (fun hc1 => ?_) fun hc1 => ?_
  ·have hk := of_decide_eq_true hc1
   refine Sy Tz (q_cap rfl rfl Zf rfl) ?_
   refine Sq (qu (h := 0) rfl rfl Zf rfl Zf rfl rfl Zf (fun _ => Nat.le_refl _)) ?_
   refine Rp rfl rfl rfl rfl ?_
   refine th (n := k) (e := 5) (by_ := 1) .sq (al rfl) rfl rfl rfl rfl rfl rfl rfl rfl und_3 (fun _ _ _ => .here _ _ _) rfl rfl rfl rfl rfl rfl (by omega) (by omega) (by omega) fun x1 b1 zs => ?_
   refine Tx ?_
   refine sf (k := 0) .sq (al rfl) rfl rfl rfl rfl rfl rfl rfl rfl rfl (.here _ _ _) rfl (Nat.zero_le _) ?_
   refine Tx ?_
   (repeat refine aD ?_); refine di ?_
   exact ⟨(x1, b1), _, (.cons (.tmp rfl) .nil), rfl, .nil _, .nil _, Sp⟩
  ·refine Tx ?_
   (repeat refine aD ?_); refine di ?_
   exact ⟨(⟨none, 0⟩, none), _, (.cons (.tmp rfl) .nil), rfl, .nil _, .nil _, Sp⟩
def bx  : List (List UInt8) → (List UInt8) → (List UInt8)
 | [], newslice1 => newslice1
 | pn2 :: rn2, newslice1 => (bx rn2 (newslice1 ++ pn2))
def cf (slices1 : List (List UInt8)) : List (List UInt8) → Nat → (List UInt8)
 | [], size1 => (bx slices1 ([] : List UInt8))
 | pn1 :: rn1, size1 => (bif decide (((size1 : Int) + (pn1.length : Int)) < 0) then [] else (cf slices1 rn1 (size1 + pn1.length)))
def cb (slices1 : List (List UInt8)) : List UInt8 :=
 (cf slices1 slices1 0)
theorem jz (y1 : SlV) (slices1 : List (List UInt8)) (hct : slices1.flatten.length * 1 ≤ 140737488355328) : DoesG Tryz.prog 74 [y1.val slices1.length] [RdN NBytes y1 slices1] ⟨[], []⟩ (fun (X : SlV × Option Nat) => X.1.val (cb slices1).length) (fun X => []) (fun X => ⟨[], [ownL EByte 5 X.1 X.2 (cb slices1)]⟩) := by
 refine Dq aK Tryz.func74 Tryz.ntmps74 Tryz.results74 fun C => ?_
 refine Pn NBytes y1 slices1 24 fun hlen1 => ?_
 refine Lq (Nat × Nat) [0,2,9,10] [] (fun ⟨size1, n1⟩ => ⟨[(3, .v (.int .i64 (size1 : Int))), (11, .v (.int .i64 (n1 : Int)))], [], [], [], (n1 ≤ slices1.length) ∧ (size1 = ((slices1.take n1).flatten.length : Int)) ∧ (cf slices1 (slices1.drop n1) size1) = (cb slices1), slices1.length - n1⟩) ⟨0, 0⟩ ⟨Nat.zero_le _, (by simp), (by simp only [cb, Cf] : (cb slices1) = (cf slices1 slices1 0)).symm⟩ ?_
 rintro ⟨size1, n1⟩ ⟨hkn1, hsz, hf1⟩
 simp only [Lc]
 refine Cu (fun hlt0 => ?_) fun hge0 => ?_
 ·refine Tx ?_
  refine fl NBytes (X := y1) (l := slices1) Mm fun (γ1 : Nat → SlV) => ?_
  refine Sq (Xn NBytes n1) ?_
  refine Sq (kQ NBytes γ1 (v := (γ1 n1).val (gt slices1 n1).length) rfl rfl Zf rfl rfl Mm (fun _ => by first | assumption | omega) rfl) ?_
  refine Fg NBytes γ1 slices1 n1 0 ?_
  refine Tx ?_
  refine Sq (q_add rfl rfl Zf rfl Zf (fun _ => by have := (nC slices1 hlt0).2; omega)) ?_
  have hf := Ri hf1.symm
  rw [bd hlt0, cf] at hf
  refine Cp hf (fun hc2 hc2p hf => ?_) fun hc2 hc2p hf => ?_
  ·exact absurd (of_decide_eq_true hc2) (by omega)
  ·refine Tt ?_
   refine ⟨⟨(size1 + (gt slices1 n1).length), (n1 + 1)⟩, ⟨hlt0, (by rw [(nC slices1 hlt0).1, List.length_append]; simp only [hsz]; omega), hf.symm⟩, Oo, Le4⟩
 ·refine Tx ?_
  refine Fr EByte ?_
  refine Cm (ky Z0 ([] : List UInt8) (size1 : Int) ⟨rfl, rfl⟩ (by have h_ : (slices1.take n1).flatten.length ≤ slices1.flatten.length := (by rw [List.take_of_length_le hge0]; exact Nat.le_refl _); omega)) fun x1 => ?_
  refine Lq (List UInt8 × SlV × Option Nat × Nat) [2,25,26] [] (fun ⟨newslice1, x2, x2b, n2⟩ => ⟨[(6, .v (x2.val newslice1.length)), (27, .v (.int .i64 (n2 : Int)))], [], [ownL EByte 5 x2 x2b newslice1], [], (n2 ≤ slices1.length) ∧ (newslice1.length = (slices1.take n2).flatten.length) ∧ (bx (slices1.drop n2) newslice1) = (cb slices1), slices1.length - n2⟩) ⟨([] : List UInt8), x1.1, x1.2, 0⟩ ⟨Nat.zero_le _, (by simp), (by rw [← hf1, List.drop_of_length_le hge0]; simp only [cf, Cf] : (cb slices1) = (bx slices1 ([] : List UInt8))).symm⟩ ?_
  rintro ⟨newslice1, x2, x2b, n2⟩ ⟨hkn2, hnl, hf2⟩
  simp only [Lc]
  refine Cu (fun hlt1 => ?_) fun hge1 => ?_
  ·refine Tx ?_
   refine fl NBytes (X := y1) (l := slices1) Mm fun (γ2 : Nat → SlV) => ?_
   refine Sq (Xn NBytes n2) ?_
   refine Sq (kQ NBytes γ2 (v := (γ2 n2).val (gt slices1 n2).length) rfl rfl Zf rfl rfl Mm (fun _ => by first | assumption | omega) rfl) ?_
   refine Fg NBytes γ2 slices1 n2 0 ?_
   refine Ap EByte 1 newslice1 (gt slices1 n2) x2b (hb := (by have := (nC slices1 hlt1).2; show (_ + _) * 1 ≤ _; omega)) fun x3 x3b => ?_
   refine Tt ?_
   refine ⟨⟨(newslice1 ++ (gt slices1 n2)), x3, x3b, (n2 + 1)⟩, ⟨hlt1, (by rw [(nC slices1 hlt1).1]; simp only [List.length_append]; omega), (by rw [← hf2, bd hlt1]; simp only [bx, Cf] : (cb slices1) = (bx (slices1.drop (n2 + 1)) (newslice1 ++ (gt slices1 n2)))).symm⟩, Oo, Le4⟩
  ·have hf := Ri hf2.symm
   rw [List.drop_of_length_le hge1, bx] at hf
   refine Rx ?_; exact Re ⟨x2, x2b⟩ Rv
theorem kD (ls : List (List UInt8)) : cb ls = ls.flatten := by
 have h1 : ∀ (l : List (List UInt8)) (acc : List UInt8), bx l acc = acc ++ l.flatten := by
  intro l
  induction l with
  | nil => intro acc; simp [bx]
  | cons a r ih => intro acc; rw [bx, ih]; simp
 have h0 : ∀ (l : List (List UInt8)) (k : Nat), cf ls l k = bx ls [] := by
  intro l
  induction l with
  | nil => intro k; rfl
  | cons a r ih =>
   intro k
   have : decide (((k : Int) + (a.length : Int)) < 0) = false := by simp; omega
   rw [cf, this, cond_false, ih]
 rw [cb, h0, h1, List.nil_append]
theorem fW (y1 : SlV) (ls : List (List UInt8)) (hct : ls.flatten.length * 1 ≤ 140737488355328) : DoesG Tryz.prog 74 [y1.val ls.length] [RdN NBytes y1 ls] ⟨[], []⟩ (fun (X : SlV × Option Nat) => X.1.val ls.flatten.length) (fun _ => []) (fun X => ⟨[], [ownL EByte 5 X.1 X.2 ls.flatten]⟩) := by
 have := jz y1 ls hct
 rw [kD] at this
 exact this
end Go.Proofs.YtkjccbdeaflekaaGreatDoor

namespace Go.Proofs.YtkjccbdeaflekaaGreatDoor
open Go Go.Proofs.YtkjccbdeaflekaaGreatDoor.Fw Go.Proofs
abbrev I64 (n : Int) : Prop := -9223372036854775808 ≤ n ∧ n ≤ 9223372036854775807
theorem pb {n a b : Int} : ez n a b = true ↔ a ≤ n ∧ n ≤ b := by simp [ez]
theorem oQ (o : Op) : co o = 0 ↔ (1 ≤ o.time ∧ o.time ≤ 10000) ∧ (0 ≤ o.who ∧ o.who ≤ 2) ∧ (1 ≤ o.node ∧ o.node ≤ 15) ∧ (0 ≤ o.parent ∧ o.parent ≤ 16) ∧ (0 ≤ o.name ∧ o.name ≤ 99) ∧ (1 ≤ o.life ∧ o.life ≤ 50) ∧ (1 ≤ o.seq ∧ o.seq ≤ 30) := by
 unfold co
 generalize hb : (((((((((((((decide (o.time < 1) || decide (o.time > 10000)) || decide (o.who < 0)) || decide (o.who ≥ 3)) || decide (o.node < 1)) || decide (o.node ≥ 16)) || decide (o.parent < 0)) || decide (o.parent > 16)) || decide (o.name < 0)) || decide (o.name > 99)) || decide (o.life < 1)) || decide (o.life > 50)) || decide (o.seq < 1)) || decide (o.seq > 30)) = b
 cases b with
 | true =>
  simp only [cond_true]
  simp only [Bool.or_eq_true, decide_eq_true_eq] at hb
  constructor
  ·intro h; exact absurd h (by decide)
  ·intro h; simp only [or_assoc] at hb; rcases hb with hb | hb | hb | hb | hb | hb | hb | hb | hb | hb | hb | hb | hb | hb <;> omega
 | false =>
  simp only [cond_false]
  simp only [Bool.or_eq_false_iff, decide_eq_false_iff_not] at hb
  refine ⟨fun _ => ?_, fun _ => trivial⟩
  refine ⟨⟨?_, ?_⟩, ⟨?_, ?_⟩, ⟨?_, ?_⟩, ⟨?_, ?_⟩, ⟨?_, ?_⟩, ⟨?_, ?_⟩, ?_, ?_⟩ <;> omega
theorem oC (l : List Int) : ∀ (r : List Int) (k : Nat) (last : Int), r = l.drop k → (k = 0 → last = -1) → (0 < k → last = gt l (k - 1)) → (0 < k → 0 ≤ last) → dG l r k = de r last
 | [], k, last, _, _, _, _ => rfl
 | n :: r, k, last, hr, h0, h1, h2 => by
  have hk : k < l.length := by
   have := congrArg List.length hr
   simp at this; omega
  rw [bd hk] at hr
  injection hr with hn hr
  rw [dG, de]
  have e1 : (decide (n < 0) || decide (n > 16)) = !(ez n 0 16) := by
   rw [Bool.eq_iff_iff]; simp [ez]; try omega
  rw [e1]
  cases hb : ez n 0 16 with
  | false => rfl
  | true =>
   rw [pb] at hb
   have e2 : (decide ((k : Int) > 0) && decide ((gt l (k - 1)) ≥ n)) = decide (n ≤ last) := by
    rw [Bool.eq_iff_iff]
    simp only [Bool.and_eq_true, decide_eq_true_eq]
    rcases Nat.eq_zero_or_pos k with h | h
    ·have := h0 h; omega
    ·have := h1 h; omega
   rw [e2]
   simp only [Bool.not_true, cond_false]
   rw [oC l r (k + 1) n hr (by omega) (fun _ => by rw [Nat.add_sub_cancel, hn]) (fun _ => hb.1)]
theorem vU (l : List Int) : bF l = fi l := by
 unfold bF fi
 rw [oC l l 0 (-1) rfl (fun _ => rfl) (fun h => absurd h (by omega)) (fun h => absurd h (by omega))]
def wordOf (r : Rec) : Str := bif r.kind == 1 then [111, 112] else bif r.kind == 2 then [108, 105, 102, 101] else [114, 111, 111, 116, 115]
def iR (r : Rec) : List Int := bif r.kind == 1 then [r.o.time, r.o.who, r.o.node, r.o.parent, r.o.name, r.o.life, r.o.seq] else bif r.kind == 2 then [r.who, r.life] else r.who :: r.roots
theorem vT {l : List Int} (h : bF l = 0) : l.length ≤ 4 ∧ ∀ n ∈ l, 0 ≤ n ∧ n ≤ 16 := by
 rw [vU] at h
 unfold fi at h
 cases hb : decide ((l.length : Int) > 4) with
 | true => rw [hb] at h; simp at h
 | false =>
  rw [hb, cond_false] at h
  refine ⟨by have := of_decide_eq_false hb; omega, ?_⟩
  clear hb
  generalize (-1 : Int) = last at h
  induction l generalizing last with
  | nil => intro n hn; cases hn
  | cons a r ih =>
   rw [de] at h
   cases hi : ez a 0 16 with
   | false => rw [hi] at h; simp at h
   | true =>
    rw [hi] at h
    cases hd : decide (a ≤ last) with
    | true => rw [hd] at h; simp at h
    | false =>
     rw [hd] at h
     simp only [Bool.not_true, cond_false] at h
     intro n hn
     rcases List.mem_cons.1 hn with rfl | hn
     ·exact pb.1 hi
     ·exact ih a h n hn
inductive Right (r : Rec) : Prop
 | op (h : r = ⟨1, 0, 0, [], r.o⟩) (ho : co r.o = 0)
 | life (h : r = ⟨2, r.who, r.life, [], ⟨0, 0, 0, 0, 0, 0, 0⟩⟩) (hw : 0 ≤ r.who ∧ r.who ≤ 2) (hl : 1 ≤ r.life ∧ r.life ≤ 50)
 | roots (h : r = ⟨3, r.who, 0, r.roots, ⟨0, 0, 0, 0, 0, 0, 0⟩⟩) (hw : 0 ≤ r.who ∧ r.who ≤ 2) (hr : bF r.roots = 0)
theorem iz (r : Rec) : aH r = 0 ↔ Right r := by
 constructor
 ·intro h
  unfold aH at h
  obtain ⟨kind, who, life, roots, o⟩ := r
  simp only at h
  cases hk : (decide (kind < 1) || decide (kind > 3)) with
  | true => rw [hk] at h; simp at h
  | false =>
   rw [hk, cond_false] at h
   simp only [Bool.or_eq_false_iff, decide_eq_false_iff_not] at hk
   by_cases h1 : kind = 1
   ·subst h1
    simp only [beq_self_eq_true, cond_true] at h
    cases hb : ((who != 0) || (life != 0)) || decide ((roots.length : Int) > 0) with
    | true => rw [hb] at h; simp at h
    | false =>
     rw [hb, cond_false] at h
     simp only [Bool.or_eq_false_iff, decide_eq_false_iff_not, bne_eq_false_iff_eq] at hb
     obtain ⟨⟨rfl, rfl⟩, h3⟩ := hb
     have : roots = [] := List.eq_nil_of_length_eq_zero (by omega)
     subst this
     exact .op rfl h
   ·have h1' : (kind == 1) = false := by simpa using h1
    rw [h1', cond_false] at h
    cases hb : (((!(decide (o = (⟨0, 0, 0, 0, 0, 0, 0⟩ : Op)))) || ((kind == 3) && (life != 0))) || ((kind == 2) && decide ((roots.length : Int) > 0))) with
    | true => rw [hb] at h; simp at h
    | false =>
     rw [hb, cond_false] at h
     simp only [Bool.or_eq_false_iff, Bool.not_eq_false', decide_eq_true_eq] at hb
     obtain ⟨⟨rfl, hb1⟩, hb2⟩ := hb
     cases hc : ((decide (who < 0) || decide (who ≥ 3)) || ((kind == 2) && (decide (life < 1) || decide (life > 50)))) with
     | true => rw [hc] at h; simp at h
     | false =>
      rw [hc, cond_false] at h
      simp only [Bool.or_eq_false_iff, decide_eq_false_iff_not] at hc
      obtain ⟨⟨hc1, hc2⟩, hc3⟩ := hc
      by_cases h2 : kind = 2
      ·subst h2
       simp at hb2 hc3
       subst hb2
       exact .life rfl (by simp only; omega) (by simp only; omega)
      ·have h3 : kind = 3 := by omega
       subst h3
       simp at hb1
       subst hb1
       exact .roots rfl (by simp only; omega) h
 ·intro h
  unfold aH
  cases h with
  | op h ho => rw [h]; simpa using ho
  | life h hw hl =>
   rw [h]
   have e1 : (decide (r.who < 0) || decide (r.who ≥ 3)) = false := by simp; omega
   have e2 : (decide (r.life < 1) || decide (r.life > 50)) = false := by simp; omega
   simp only [e1, e2]
   rfl
  | roots h hw hr =>
   rw [h]
   have e1 : (decide (r.who < 0) || decide (r.who ≥ 3)) = false := by simp; omega
   simp only [e1]
   exact hr
theorem n7 {r : Rec} (h : aH r = 0) : (iR r).length ≤ 7 ∧ ∀ n ∈ iR r, I64 n := by
 rcases (iz r).1 h with ⟨h1, ho⟩ | ⟨h1, hw, hl⟩ | ⟨h1, hw, hr⟩
 ·have h2 := (oQ r.o).1 ho
  have : iR r = [r.o.time, r.o.who, r.o.node, r.o.parent, r.o.name, r.o.life, r.o.seq] := by rw [h1]; rfl
  rw [this]
  refine ⟨by simp, fun n hn => ?_⟩
  simp only [List.mem_cons, List.not_mem_nil, or_false] at hn
  rcases hn with rfl | rfl | rfl | rfl | rfl | rfl | rfl <;> (simp only [I64]; omega)
 ·have : iR r = [r.who, r.life] := by rw [h1]; rfl
  rw [this]
  refine ⟨by simp, fun n hn => ?_⟩
  simp only [List.mem_cons, List.not_mem_nil, or_false] at hn
  rcases hn with rfl | rfl <;> (simp only [I64]; omega)
 ·have : iR r = r.who :: r.roots := by rw [h1]; rfl
  rw [this]
  have h2 := vT hr
  refine ⟨by simp only [List.length_cons]; omega, fun n hn => ?_⟩
  rcases List.mem_cons.1 hn with rfl | hn
  ·simp only [I64]; omega
  ·have := h2.2 n hn; simp only [I64]; omega
theorem w9 {r : Rec} (h : aH r = 0) (hk : (r.kind == 1) = true) : ∀ n ∈ [r.o.time, r.o.who, r.o.node, r.o.parent, r.o.name, r.o.life, r.o.seq], I64 n := by
 have := (n7 h).2; rwa [iR, hk] at this
theorem uw {r : Rec} (h : aH r = 0) (hk : (r.kind == 2) = true) : ∀ n ∈ [r.who, r.life], I64 n := by
 have hk1 : (r.kind == 1) = false := by have := eq_of_beq hk; rw [this]; rfl
 have := (n7 h).2; rwa [iR, hk1, hk] at this
theorem tv {r : Rec} (h : aH r = 0) (hk1 : (r.kind == 1) = false) (hk : (r.kind == 2) = false) : (r.roots.length ≤ 6) ∧ ∀ n ∈ r.who :: r.roots, I64 n := by
 have := n7 h; rw [iR, hk1, hk] at this; simp only [cond_false, List.length_cons] at this; exact ⟨by omega, this.2⟩
theorem tx {r : Rec} (h : aH r = 0) (h1 : (r.kind == 2) = false) (h2 : (r.kind == 3) = false) : (r.kind == 1) = true := by
 rcases (iz r).1 h with ⟨e, _⟩ | ⟨e, _, _⟩ | ⟨e, _, _⟩
 ·rw [e]; rfl
 ·rw [e] at h1; cases h1
 ·rw [e] at h2; cases h2
theorem xb {r : Rec} {k : Int} (h : (r.kind == k) = true) (hk : (k == 1) = false) : (r.kind == 1) = false := by rw [eq_of_beq h]; exact hk
end Go.Proofs.YtkjccbdeaflekaaGreatDoor

set_option maxHeartbeats 2000000
namespace Go.Proofs.YtkjccbdeaflekaaGreatDoor
open Go Go.Proofs.YtkjccbdeaflekaaGreatDoor.Fw Go.Proofs
attribute [local irreducible] RdL RdN VarP LibP RW CW
def dZ  : List Int → Str → (Str × Int)
 | [], s2 => (s2, 0)
 | pn1 :: rn1, s2 => (dZ rn1 (s2 ++ (([32] : Str) ++ (Lib.itoa pn1))))
def br (r1 : Rec) : Str × (List Int) :=
 (bif (r1.kind == 2) then (([108, 105, 102, 101] : Str), [r1.who, r1.life]) else (bif (r1.kind == 3) then (([114, 111, 111, 116, 115] : Str), ([r1.who] ++ r1.roots)) else (([111, 112] : Str), [r1.o.time, r1.o.who, r1.o.node, r1.o.parent, r1.o.name, r1.o.life, r1.o.seq])))
def ce (r1 : Rec) : Str × Int :=
 (bif ((aH r1) != 0) then (([] : Str), (aH r1)) else (dZ (br r1).2 (br r1).1))
theorem n8 (y1 : SlV) (r1 : Rec) : Does Tryz.prog 206 [.agg ⟨cR y1 r1⟩] [RdL EInt y1 r1.roots, LibP Tryz.prog] (fun (_ : Unit) => .tuple #[sV (ce r1).1, .int .i64 (ce r1).2]) (fun _ => []) := by
 refine Dp aK Tryz.func206 Tryz.ntmps206 Tryz.results206 fun C => ?_
 refine Pc EInt y1 r1.roots 8 fun hlen1 => ?_
 refine BxT fun g1 => ?_
 refine Ck (fB y1 r1) fun _ => ?_
 have hf := Ri (ce.eq_1 r1)
 refine Cn hf (fun hc1 hc1p hf => ?_) fun hc1 hc1p hf => ?_
 ·exact Ru
 ·have hck := ai hc1
  refine Tx ?_
  (repeat refine aD ?_); refine ap (fun _ => some []) ?_
  refine Dx [0,1,2,3,4,5,6,7,8,9,10,11,12,13,14,15,16,17,18,19,20,21,22,24] ?_
  refine Rn 23 ?_
  refine Bl EInt [r1.o.time, r1.o.who, r1.o.node, r1.o.parent, r1.o.name, r1.o.life, r1.o.seq] fun x1 x1b => ?_
  refine Ra 25 rfl Qp ?_
  refine Re0 ?_
  (repeat refine aD ?_); refine mv ?_
  refine Rp rfl rfl rfl rfl ?_
  refine Sq (q_ld1 rfl rfl Zf rfl Mm rfl) ?_
  refine dD ?_
  (repeat refine aD ?_); refine nB ?_
  refine Ty ?_
  refine mw [2, 3] [true] (fun (i_ : Str × List Int × SlV × Option Nat) => match i_ with | ⟨s1, l1, x2, x2b⟩ => [(5, .v (sV s1)), (6, .v (x2.val l1.length))]) (fun (i_ : Str × List Int × SlV × Option Nat) => match i_ with | ⟨s1, l1, x2, x2b⟩ => []) (fun (i_ : Str × List Int × SlV × Option Nat) => match i_ with | ⟨s1, l1, x2, x2b⟩ => [ownL EInt 3 x2 x2b l1]) (fun (i_ : Str × List Int × SlV × Option Nat) => match i_ with | ⟨s1, l1, x2, x2b⟩ => []) (fun (i_ : Str × List Int × SlV × Option Nat) => match i_ with | ⟨s1, l1, x2, x2b⟩ => (s1.length ≤ 5) ∧ (∀ n ∈ l1, I64 n) ∧ s1 = (br r1).1 ∧ l1 = (br r1).2) (.cons rfl (.cons rfl (.nil _))) (.keep (.nil)) ?_ ?_
  ·refine Cd' (fun hc2 => ?_) fun hc2 => ?_
   ·have hc2p := eq_of_beq hc2
    have hbn := uw hck hc2
    (repeat refine aD ?_); refine ap (fun _ => some []) ?_
    refine Dx [0,1,2,3,5] ?_
    refine Rn 4 ?_
    refine Bl EInt [r1.who, r1.life] fun x3 x3b => ?_
    refine Ra 6 rfl Qp ?_
    refine Re0 ?_
    have hv1 : (br r1) = (([108, 105, 102, 101] : Str), [r1.who, r1.life]) := by simp only [br, hc2, Bool.true_and, Bool.and_true, Cf]
    refine ⟨⟨([108, 105, 102, 101] : Str), [r1.who, r1.life], x3, x3b⟩, ⟨(by decide), hbn, (by rw [hv1]), (by rw [hv1])⟩, Le4⟩
   ·have hc2p := ne_of_beq_false hc2
    have hk2 := hc2
    refine Cd' (fun hc3 => ?_) fun hc3 => ?_
    ·have hc3p := eq_of_beq hc3
     have hbn0 := tv hck (xb hc3 rfl) hk2; have hbn := hbn0.2; have hrl := hbn0.1
     refine Bl EInt [r1.who] fun x4 x4b => ?_
     refine Ap EInt 8 [r1.who] r1.roots x4b fun x5 x5b => ?_
     refine Tx ?_
     have hv2 : (br r1) = (([114, 111, 111, 116, 115] : Str), ([r1.who] ++ r1.roots)) := by simp only [br, hc2, hc3, Bool.true_and, Bool.and_true, Cf]
     refine ⟨⟨([114, 111, 111, 116, 115] : Str), ([r1.who] ++ r1.roots), x5, x5b⟩, ⟨(by decide), hbn, (by rw [hv2]), (by rw [hv2])⟩, Le4⟩
    ·have hc3p := ne_of_beq_false hc3
     have hbn := w9 hck (tx hck hk2 hc3)
     refine Tx ?_
     have hv3 : (br r1) = (([111, 112] : Str), [r1.o.time, r1.o.who, r1.o.node, r1.o.parent, r1.o.name, r1.o.life, r1.o.seq]) := by simp only [br, hc2, hc3, Bool.true_and, Bool.and_true, Cf]
     refine ⟨⟨([111, 112] : Str), [r1.o.time, r1.o.who, r1.o.node, r1.o.parent, r1.o.name, r1.o.life, r1.o.seq], x1, x1b⟩, ⟨(by decide), hbn, (by rw [hv3]), (by rw [hv3])⟩, Le4⟩
  ·rintro ⟨s1, l1, x2, x2b⟩ ⟨hs5, hbn, rfl, rfl⟩
   simp only [Lc]
   refine Tx ?_
   refine cw_le (ar EInt 3 x2 x2b (br r1).2 Uo) ?_
   refine Pc EInt x2 (br r1).2 8 fun hlen2 => ?_
   refine Lq (Str × Nat) [2,3,55,56] [true] (fun ⟨s2, n1⟩ => ⟨[(5, .v (sV s2)), (57, .v (.int .i64 (n1 : Int)))], [], [], [], (n1 ≤ (br r1).2.length) ∧ (s2.length ≤ 5 + 22 * n1) ∧ (dZ ((br r1).2.drop n1) s2) = (ce r1), (br r1).2.length - n1⟩) ⟨(br r1).1, 0⟩ ⟨Nat.zero_le _, Nz, hf.symm⟩ ?_
   rintro ⟨s2, n1⟩ ⟨hkn1, hsl, hf1⟩
   simp only [Lc]
   refine Cu (fun hlt0 => ?_) fun hge0 => ?_
   ·have hit := Lib.itoa_length_le _ (hbn _ (eM hlt0)).1 (hbn _ (eM hlt0)).2
    refine Sy Tz (Xi EInt n1) ?_
    refine Sq (X1 EInt) ?_
    refine Ck (sy (gt (br r1).2 n1) (hbn _ (eM hlt0))) fun _ => ?_
    refine Sq (wg (a := ([32] : Str)) (b := (Lib.itoa (gt (br r1).2 n1))) rfl rfl Zf rfl Zf (fun _ => by (show ([32] : Str).length + _ ≤ _; simp only [List.length_cons, List.length_nil]; omega))) ?_
    refine Sq (wg (a := s2) (b := (([32] : Str) ++ (Lib.itoa (gt (br r1).2 n1)))) rfl rfl Zf rfl Zf (fun _ => by (simp only [List.length_append, List.length_cons, List.length_nil]; omega))) ?_
    refine Tt ?_
    refine ⟨⟨(s2 ++ (([32] : Str) ++ (Lib.itoa (gt (br r1).2 n1)))), (n1 + 1)⟩, ⟨hlt0, Zl, (by rw [← hf1, bd hlt0]; simp only [dZ, Cf] : (ce r1) = (dZ ((br r1).2.drop (n1 + 1)) (s2 ++ (([32] : Str) ++ (Lib.itoa (gt (br r1).2 n1)))))).symm⟩, Oo, Le4⟩
   ·have hf := Ri hf1.symm
    rw [List.drop_of_length_le hge0, dZ] at hf
    exact Ru
theorem wi {p : Bool} {n : Nat} {k : Int} (h : (p && ((n : Int) == k)) = true) : (n : Int) = k := by simp at h; exact h.2
theorem len_gt {p : Bool} {n : Nat} (h : (p && decide ((n : Int) > 0)) = true) : 0 < n := by simp at h; exact h.2
theorem tz {c : UInt8} {s : Str} {i : Nat} (h : i < ((spl c s).drop 1).length) : (gt ((spl c s).drop 1) i).length ≤ s.length := jQ (List.mem_of_mem_drop (eM h))
def ep (s1 : Str) : List Str → (List Int) → (Rec × Int)
 | [], n1 => (bif (((gt (spl 32 s1) 0) == ([111, 112] : Str)) && ((n1.length : Int) == 7)) then (bif ((aH (⟨1, 0, 0, ([] : List Int), (⟨(gt n1 0), (gt n1 1), (gt n1 2), (gt n1 3), (gt n1 4), (gt n1 5), (gt n1 6)⟩ : Op)⟩ : Rec)) != 0) then ((⟨0, 0, 0, ([] : List Int), (⟨0, 0, 0, 0, 0, 0, 0⟩ : Op)⟩ : Rec), (aH (⟨1, 0, 0, ([] : List Int), (⟨(gt n1 0), (gt n1 1), (gt n1 2), (gt n1 3), (gt n1 4), (gt n1 5), (gt n1 6)⟩ : Op)⟩ : Rec))) else ((⟨1, 0, 0, ([] : List Int), (⟨(gt n1 0), (gt n1 1), (gt n1 2), (gt n1 3), (gt n1 4), (gt n1 5), (gt n1 6)⟩ : Op)⟩ : Rec), 0)) else (bif (((gt (spl 32 s1) 0) == ([108, 105, 102, 101] : Str)) && ((n1.length : Int) == 2)) then (bif ((aH (⟨2, (gt n1 0), (gt n1 1), ([] : List Int), (⟨0, 0, 0, 0, 0, 0, 0⟩ : Op)⟩ : Rec)) != 0) then ((⟨0, 0, 0, ([] : List Int), (⟨0, 0, 0, 0, 0, 0, 0⟩ : Op)⟩ : Rec), (aH (⟨2, (gt n1 0), (gt n1 1), ([] : List Int), (⟨0, 0, 0, 0, 0, 0, 0⟩ : Op)⟩ : Rec))) else ((⟨2, (gt n1 0), (gt n1 1), ([] : List Int), (⟨0, 0, 0, 0, 0, 0, 0⟩ : Op)⟩ : Rec), 0)) else (bif (((gt (spl 32 s1) 0) == ([114, 111, 111, 116, 115] : Str)) && decide ((n1.length : Int) > 0)) then (bif ((aH (⟨3, (gt n1 0), 0, (n1.drop 1), (⟨0, 0, 0, 0, 0, 0, 0⟩ : Op)⟩ : Rec)) != 0) then ((⟨0, 0, 0, ([] : List Int), (⟨0, 0, 0, 0, 0, 0, 0⟩ : Op)⟩ : Rec), (aH (⟨3, (gt n1 0), 0, (n1.drop 1), (⟨0, 0, 0, 0, 0, 0, 0⟩ : Op)⟩ : Rec))) else ((⟨3, (gt n1 0), 0, (n1.drop 1), (⟨0, 0, 0, 0, 0, 0, 0⟩ : Op)⟩ : Rec), 0)) else ((⟨0, 0, 0, ([] : List Int), (⟨0, 0, 0, 0, 0, 0, 0⟩ : Op)⟩ : Rec), 1))))
 | pn2 :: rn2, n1 => (bif ((ate pn2) || ((Lib.itoa (atv pn2)) != pn2)) then ((⟨0, 0, 0, ([] : List Int), (⟨0, 0, 0, 0, 0, 0, 0⟩ : Op)⟩ : Rec), 1) else (ep s1 rn2 (n1 ++ [(atv pn2)])))
def bs (s1 : Str) : Rec × Int :=
 (bif decide ((s1.length : Int) > 60000) then ((⟨0, 0, 0, ([] : List Int), (⟨0, 0, 0, 0, 0, 0, 0⟩ : Op)⟩ : Rec), 2) else (ep s1 ((spl 32 s1).drop 1) []))
theorem n9 (s1 : Str) : Does Tryz.prog 154 [sV s1] [LibP Tryz.prog] (fun (X : SlV) => .tuple #[.agg ⟨cR X (bs s1).1⟩, .int .i64 (bs s1).2]) (fun X => [RdL EInt X (bs s1).1.roots]) := by
 refine Dp aK Tryz.func154 Tryz.ntmps154 Tryz.results154 fun C => ?_
 refine AlT fun g1 => ?_
 refine Sy Tz (o8 (a := s1) rfl rfl Zf und_9) ?_
 have hf := Ri (bs.eq_1 s1)
 refine Cp hf (fun hc1 hc1p hf => ?_) fun hc1 hc1p hf => ?_
 ·refine Tx ?_
  refine Fc EInt ?_
  refine Rx ?_; exact Re Z0 (Va (Vt Vn))
 ·refine Ck (uE s1 ([32] : Str) rfl (by omega)) fun x1 => ?_
  refine Pr EStr x1 (spl 32 s1) 16 fun hlen1 => ?_
  have hspl := (rp 32 s1).1
  refine Sy Tz (qw EStr 1 rfl rfl Zf rfl Zf rfl rfl Zo Zo) ?_
  refine dU (F := RdL EStr (⟨slA x1.a x1.c 1 EStr.esz, x1.c - 1⟩ : SlV) ((spl 32 s1).drop 1)) [RdL EStr x1 (spl 32 s1)] Sm (fun M w h => (allF1 h).drop _ (by omega)) ?_
  refine Tx ?_
  refine Pc EStr (⟨slA x1.a x1.c 1 EStr.esz, x1.c - 1⟩ : SlV) ((spl 32 s1).drop 1) 16 fun hlen2 => ?_
  (repeat refine aD ?_); refine Lp [2,3,4,19,20] [true] (fun (i_ : List Int × SlV × Option Nat × Nat) => match i_ with | ⟨n1, x2, x2b, n2⟩ => (⟨[(5, .v (x2.val n1.length)), (21, .v (.int .i64 (n2 : Int)))], [], [ownL EInt 3 x2 x2b n1], [], (n2 ≤ ((spl 32 s1).drop 1).length) ∧ (n1.length ≤ n2) ∧ (ep s1 (((spl 32 s1).drop 1).drop n2) n1) = (bs s1), ((spl 32 s1).drop 1).length - n2⟩ : Ls)) ⟨[], ⟨none, 0⟩, none, 0⟩ (Sc (Sc (Sc (Sc (Sc Sn))))) (.keep (.nil)) ⟨Nat.zero_le _, (by first | exact Nat.le_refl _ | exact Nat.zero_le _ | omega), hf.symm⟩ (Le.trans (eH EInt 3) Le4) ?_
  rintro ⟨n1, x2, x2b, n2⟩ ⟨hkn2, hn1, hf1⟩
  simp only [Lc]
  refine Cu (fun hlt0 => ?_) fun hge0 => ?_
  ·refine Sy Tz (Xi EStr n2) ?_
   refine Sq (X1 EStr) ?_
   refine Ck (vA (gt ((spl 32 s1).drop 1) n2) (Nat.le_trans (tz hlt0) (by omega))) fun x3 => ?_
   refine Sy Tz (wW rfl rfl Zf ro) ?_
   refine Cy (fun hG_ => sy (atv (gt ((spl 32 s1).drop 1) n2)) (tE _)) ?_
   refine Tx ?_
   refine Sg Gz (q_neS (a := (Lib.itoa (atv (gt ((spl 32 s1).drop 1) n2)))) (b := (gt ((spl 32 s1).drop 1) n2)) rfl rfl Bt rfl Bt) ?_
   have hf := Ri hf1.symm
   rw [bd hlt0, ep] at hf
   refine Ch hf (fun hc3 hf => ?_) fun hc3 hf => ?_
   ·refine Tx ?_
    refine Fc EInt ?_
    refine Rx ?_; exact Re Z0 (Va (Vt Vn))
   ·refine Bl EInt [(atv (gt ((spl 32 s1).drop 1) n2))] fun x4 x4b => ?_
    refine Ap EInt 8 n1 [(atv (gt ((spl 32 s1).drop 1) n2))] x2b fun x5 x5b => ?_
    refine Tt ?_
    refine ⟨⟨(n1 ++ [(atv (gt ((spl 32 s1).drop 1) n2))]), x5, x5b, (n2 + 1)⟩, ⟨hlt0, Zl, hf.symm⟩, Oo, Le4⟩
  ·refine cw_le (ar EInt 3 x2 x2b n1 Uo) ?_
   refine AlT fun g2 => ?_
   refine Sy Tz (Xi EStr 0) ?_
   refine Sq (X1 EStr) ?_
   refine Sq (q_eqS (a := (gt (spl 32 s1) 0)) (b := ([111, 112] : Str)) rfl rfl Zf rfl Zf) ?_
   have hf := Ri hf1.symm
   rw [List.drop_of_length_le hge0, ep] at hf
   refine Ch hf (fun hc4 hf => ?_) fun hc4 hf => ?_
   ·have hl7 := wi hc4
    (repeat refine aD ?_); refine ap (fun j => match j with | 24 => some [g2] | _ => some []) ?_
    refine Rb 0 rfl Qp ?_
    refine Rb 1 rfl (Xi EInt 0) ?_
    refine Rb 2 rfl (X1 EInt) ?_
    refine Rb 3 rfl Qp ?_
    refine Rb 4 rfl (Xi EInt 1) ?_
    refine Rb 5 rfl (X1 EInt) ?_
    refine Dx [6,7] ?_
    refine Rb 8 rfl (Xi EInt 2) ?_
    refine Rb 9 rfl (X1 EInt) ?_
    refine Rb 10 rfl Qp ?_
    refine Rb 11 rfl (Xi EInt 3) ?_
    refine Rb 12 rfl (X1 EInt) ?_
    refine Rb 13 rfl Qp ?_
    refine Rb 14 rfl (Xi EInt 4) ?_
    refine Rb 15 rfl (X1 EInt) ?_
    refine Rb 16 rfl Qp ?_
    refine Rb 17 rfl (Xi EInt 5) ?_
    refine Rb 18 rfl (X1 EInt) ?_
    refine Rb 19 rfl Qp ?_
    refine Rb 20 rfl (Xi EInt 6) ?_
    refine Rb 21 rfl (X1 EInt) ?_
    refine Dx [22,23] ?_
    refine Rn 24 ?_
    refine Wa ?_
    refine Re0 ?_
    refine Tx ?_
    refine Fr EInt ?_
    refine Ck (fB Z0 (⟨1, 0, 0, ([] : List Int), (⟨(gt n1 0), (gt n1 1), (gt n1 2), (gt n1 3), (gt n1 4), (gt n1 5), (gt n1 6)⟩ : Op)⟩ : Rec)) fun _ => ?_
    refine Cn hf (fun hc5 hc5p hf => ?_) fun hc5 hc5p hf => ?_
    ·refine Rx ?_; exact Re Z0 (Va (Vt Vn))
    ·refine Rx ?_; exact Re Z0 (Va (Vt Vn))
   ·refine Sy Tz (Xi EStr 0) ?_
    refine Sq (X1 EStr) ?_
    refine Sq (q_eqS (a := (gt (spl 32 s1) 0)) (b := ([108, 105, 102, 101] : Str)) rfl rfl Zf rfl Zf) ?_
    refine Ch hf (fun hc6 hf => ?_) fun hc6 hf => ?_
    ·have hl7 := wi hc6
     (repeat refine aD ?_); refine ap (fun j => match j with | 7 => some [g2] | _ => some []) ?_
     refine Rb 0 rfl Qp ?_
     refine Rb 1 rfl (Xi EInt 0) ?_
     refine Ra 2 rfl (X1 EInt) ?_
     refine Rb 3 rfl Qp ?_
     refine Rb 4 rfl (Xi EInt 1) ?_
     refine Ra 5 rfl (X1 EInt) ?_
     refine Ra 6 rfl Qp ?_
     refine Rn 7 ?_
     refine Wa ?_
     refine Re0 ?_
     refine Tx ?_
     refine Fr EInt ?_
     refine Ck (fB Z0 (⟨2, (gt n1 0), (gt n1 1), ([] : List Int), (⟨0, 0, 0, 0, 0, 0, 0⟩ : Op)⟩ : Rec)) fun _ => ?_
     refine Cn hf (fun hc7 hc7p hf => ?_) fun hc7 hc7p hf => ?_
     ·refine Rx ?_; exact Re Z0 (Va (Vt Vn))
     ·refine Rx ?_; exact Re Z0 (Va (Vt Vn))
    ·refine Sy Tz (Xi EStr 0) ?_
     refine Sq (X1 EStr) ?_
     refine Sq (q_eqS (a := (gt (spl 32 s1) 0)) (b := ([114, 111, 111, 116, 115] : Str)) rfl rfl Zf rfl Zf) ?_
     refine Ch hf (fun hc8 hf => ?_) fun hc8 hf => ?_
     ·have hl7 := len_gt hc8
      (repeat refine aD ?_); refine ap (fun j => match j with | 6 => some [g2] | _ => some []) ?_
      refine Rb 0 rfl Qp ?_
      refine Rb 1 rfl (Xi EInt 0) ?_
      refine Ra 2 rfl (X1 EInt) ?_
      refine Rb 3 rfl Qp ?_
      refine Ra 4 rfl (qw EInt 1 rfl rfl Zf rfl Zf rfl rfl Zo Zo) ?_
      refine dU (F := RdL EInt (⟨slA x2.a x2.c 1 EInt.esz, x2.c - 1⟩ : SlV) (n1.drop 1)) [RdL EInt x2 n1] Sm (fun M w h => (allF1 h).drop _ (by omega)) ?_
      refine Ra 5 rfl Qp ?_
      refine Rn 6 ?_
      refine Wa ?_
      refine Re0 ?_
      refine Ck (fB (⟨slA x2.a x2.c 1 EInt.esz, x2.c - 1⟩ : SlV) (⟨3, (gt n1 0), 0, (n1.drop 1), (⟨0, 0, 0, 0, 0, 0, 0⟩ : Op)⟩ : Rec)) fun _ => ?_
      refine Cn hf (fun hc9 hc9p hf => ?_) fun hc9 hc9p hf => ?_
      ·refine Tx ?_
       refine Fc EInt ?_
       refine Rx ?_; exact Re Z0 (Va (Vt Vn))
      ·refine Rx ?_; exact Re (⟨slA x2.a x2.c 1 EInt.esz, x2.c - 1⟩ : SlV) (Va (Vt Vn))
     ·refine Tx ?_
      refine Fc EInt ?_
      refine Rx ?_; exact Re Z0 (Va (Vt Vn))
def bD (s1 : Str) (most1 : Int) : Nat → Str → (List Rec) → ((List Rec) × Int × Int)
 | 0, s2, l1 => default
 | f_k0 + 1, s2, l1 => (bif (s2 != ([] : Str)) then (bif (!(cutc 10 s2).2.2) then (l1, ((s1.length : Int) - (s2.length : Int)), 8) else (bif ((bs (cutc 10 s2).1).2 != 0) then (l1, ((s1.length : Int) - (s2.length : Int)), (bs (cutc 10 s2).1).2) else (bif ((l1.length : Int) == most1) then (l1, ((s1.length : Int) - (s2.length : Int)), 2) else (bD s1 most1 f_k0 (cutc 10 s2).2.1 (l1 ++ [(bs (cutc 10 s2).1).1]))))) else (l1, (s1.length : Int), 0))
def ax (s1 : Str) (most1 : Int) : (List Rec) × Int × Int :=
 (bD s1 most1 (s1.length + 1) s1 [])
theorem iU (s1 : Str) (most1 : Int) (hs : s1.length ≤ 60000) : DoesG Tryz.prog 108 [sV s1, .int .i64 most1] [LibP Tryz.prog] ⟨[], []⟩ (fun (X : SlV × Option Nat × (Nat → SlV)) => .tuple #[X.1.val (ax s1 most1).1.length, .int .i64 (ax s1 most1).2.1, .int .i64 (ax s1 most1).2.2]) (fun X => [FactsG NRec X.2.2 (ax s1 most1).1]) (fun X => ⟨[], [ownL NRec.E 78 X.1 X.2.1 (zipG X.2.2 0 (ax s1 most1).1)]⟩) := by
 refine Dq aK Tryz.func108 Tryz.ntmps108 Tryz.results108 fun C => ?_
 refine Sy Tz (o8 (a := s1) rfl rfl Zf und_9) ?_
 refine Tx ?_
 (repeat refine aD ?_); refine Lp [1,4,5,6,8] [] (fun (i_ : Str × List Rec × SlV × Option Nat × (Nat → SlV) × Nat) => match i_ with | ⟨s2, l1, x1, x1b, γ1, fz1⟩ => (⟨[(0, .v (sV s2)), (7, .v (x1.val l1.length))], [], [ownL NRec.E 78 x1 x1b (zipG γ1 0 l1)], [FactsG NRec γ1 l1], (s2.length + l1.length ≤ s1.length) ∧ (s2.length < fz1) ∧ (bD s1 most1 fz1 s2 l1) = (ax s1 most1), fz1⟩ : Ls)) ⟨s1, [], ⟨none, 0⟩, none, (fun _ => default), s1.length + 1⟩ (Sc (Sc (Sc (Sc (Sc Sn))))) (.nil) ⟨(by simp only [List.length_nil]; omega), (by first | exact Nat.le_refl _ | exact Nat.zero_le _ | omega), (by simp only [ax, Cf] : (ax s1 most1) = (bD s1 most1 (s1.length + 1) s1 [])).symm⟩ (Le.trans (eH NRec.E 78) (Le.trans (uG (FactsG NRec (fun _ => default) ([] : List Rec)) [] (.nil _) (fun M w _ => FactsG.nil NRec _ M w)) Le4)) ?_
 rintro ⟨s2, l1, x1, x1b, γ1, fz1⟩ ⟨hinv, hzfz1, hf1⟩
 simp only [Lc]
 have hlt0_ : (fz1 - 1) + 1 = fz1 := by omega
 refine Sy Tz (q_neS (a := s2) (b := ([] : Str)) rfl rfl Zf rfl Zf) ?_
 refine dD ?_
 have hf := Ri hf1.symm
 rw [← hlt0_, bD] at hf
 refine Cn hf (fun hc1 hc1p hf => ?_) fun hc1 hc1p hf => ?_
 ·refine Ck (xg s2 ([10] : Str) rfl (by omega)) fun _ => ?_
  have hcn := sM 10 s2; have hcl := pX 10 s2
  refine Ch hf (fun hc2 hf => ?_) fun hc2 hf => ?_
  ·refine Sy Tz (o8 (a := s2) rfl rfl Zf und_9) ?_
   refine Rx ?_; exact Re ⟨x1, x1b, γ1⟩ Rv
  ·have hcl2 := hcl (by simpa using hc2)
   refine Ck (n9 (cutc 10 s2).1) fun x2 => ?_
   refine Pr EInt x2 (bs (cutc 10 s2).1).1.roots 8 fun hlen1 => ?_
   refine AlT fun g1 => ?_
   refine Cn hf (fun hc3 hc3p hf => ?_) fun hc3 hc3p hf => ?_
   ·refine Sy Tz (o8 (a := s2) rfl rfl Zf und_9) ?_
    refine Rx ?_; exact Re ⟨x1, x1b, γ1⟩ Rv
   ·refine Ce hf (fun hc4 hc4p hf => ?_) fun hc4 hc4p hf => ?_
    ·refine Sy Tz (o8 (a := s2) rfl rfl Zf und_9) ?_
     refine Rx ?_; exact Re ⟨x1, x1b, γ1⟩ Rv
    ·refine Bl NRec.E [(x2, (bs (cutc 10 s2).1).1)] (hfill := mo rfl rfl) fun x3 x3b => ?_
     refine rw_le (ar NRec.E 78 x3 x3b [(x2, (bs (cutc 10 s2).1).1)] Uo) ?_
     refine dU (F := RdN NRec x3 [(bs (cutc 10 s2).1).1]) [RdL NRec.E x3 [(x2, (bs (cutc 10 s2).1).1)], RdL EInt x2 (bs (cutc 10 s2).1).1.roots] Sm (fun M w h => RdN.of NRec (hs := [(x2, (bs (cutc 10 s2).1).1)]) rfl (h _ (.head _)) (aF (eC Sm h) (fun p hp => by cases hp))) ?_
     refine fl NRec (X := x3) (l := [(bs (cutc 10 s2).1).1]) Mm fun (γ2 : Nat → SlV) => ?_
     refine mI NRec γ1 γ2 l1 [(bs (cutc 10 s2).1).1] (b := x1b) .sq (fun _ _ => .inl ⟨_, rfl⟩) (al rfl) rfl rfl rfl rfl rfl rfl rfl (fun _ _ => Uo) rfl rfl rfl rfl rfl rfl rfl (uh (EN := NRec) (X := x3) (γ := γ2) (l := [(bs (cutc 10 s2).1).1]) Mm) (by show (l1.length + [(bs (cutc 10 s2).1).1].length) * 104 ≤ 140737488355328; (try simp only [List.length_append, List.length_cons, List.length_nil]); omega) fun x4 x4b => ?_
     refine dU (F := FactsG NRec (appG γ1 l1.length γ2) (l1 ++ [(bs (cutc 10 s2).1).1])) [FactsG NRec γ1 l1, FactsG NRec γ2 [(bs (cutc 10 s2).1).1]] Sm (fun M w h => FactsG.app NRec (h _ (.head _)) (h _ (.tail _ (.head _)))) ?_
     refine Tx ?_
     refine ⟨⟨(cutc 10 s2).2.1, (l1 ++ [(bs (cutc 10 s2).1).1]), x4, x4b, (appG γ1 l1.length γ2), (fz1 - 1)⟩, ⟨Zl, (by (try simp only []); first | omega | (simp only [List.length_append, List.length_cons, List.length_nil]; omega)), (hf : (ax s1 most1) = (bD s1 most1 (fz1 - 1) (cutc 10 s2).2.1 (l1 ++ [(bs (cutc 10 s2).1).1]))).symm⟩, Oo, Le4⟩
 ·refine Rx ?_; exact Re ⟨x1, x1b, γ1⟩ Rv
theorem kt (s0 : Str) (most : Int) : ∀ (f : Nat) (s : Str) (l : List Rec), s.length < f → s.length + l.length ≤ s0.length →
  (bD s0 most f s l).1.length ≤ s0.length ∧ 0 ≤ (bD s0 most f s l).2.1 ∧ (bD s0 most f s l).2.1 ≤ (s0.length : Int)
 | 0, s, l, h, _ => absurd h (Nat.not_lt_zero _)
 | f + 1, s, l, h, hl => by
  rw [bD]
  cases h1 : (s != ([] : Str)) with
  | false => simp only [cond_false]; omega
  | true =>
   simp only [cond_true]
   cases h2 : (!(cutc 10 s).2.2) with
   | true => simp only [cond_true]; omega
   | false =>
    have h2 : (cutc 10 s).2.2 = true := by simpa using h2
    have h3 := pX 10 s h2
    simp only [cond_false]
    cases ((bs (cutc 10 s).1).2 != 0) with
    | true => simp only [cond_true]; omega
    | false =>
     simp only [cond_false]
     cases ((l.length : Int) == most) with
     | true => simp only [cond_true]; omega
     | false => exact kt s0 most f _ _ (by omega) Zl
theorem mr (s : Str) (most : Int) : (ax s most).1.length ≤ s.length ∧ 0 ≤ (ax s most).2.1 ∧ (ax s most).2.1 ≤ (s.length : Int) :=
 kt s most _ s [] (by omega) (by simp)
end Go.Proofs.YtkjccbdeaflekaaGreatDoor

namespace Go.Proofs.YtkjccbdeaflekaaGreatDoor
open Go Go.Proofs.YtkjccbdeaflekaaGreatDoor.Fw Go.Proofs
def jB (r : Rec) : Str := wordOf r ++ glue 32 ((iR r).map Lib.itoa)
theorem oG : ∀ (l : List Int) (s : Str), dZ l s = (s ++ glue 32 (l.map Lib.itoa), 0)
 | [], s => by simp [dZ, glue]
 | n :: l, s => by rw [dZ, oG l]; simp [glue]
theorem V1_eq {r : Rec} (h : aH r = 0) : br r = (wordOf r, iR r) := by
 unfold br wordOf iR
 rcases (iz r).1 h with ⟨h1, _⟩ | ⟨h1, _, _⟩ | ⟨h1, _, _⟩ <;> (rw [h1]; rfl)
theorem sY (r : Rec) : ce r = if aH r = 0 then (jB r, 0) else ([], aH r) := by
 unfold ce
 by_cases h : aH r = 0
 ·rw [if_pos h, V1_eq h, oG, h]
  rfl
 ·rw [if_neg h]
  have : (aH r != 0) = true := by simpa using h
  rw [this, cond_true]
def pn : List Str → Option (List Int)
 | [] => some []
 | t :: r => bif ate t || (Lib.itoa (atv t) != t) then none else (pn r).map (atv t :: ·)
abbrev noRec : Rec := ⟨0, 0, 0, [], ⟨0, 0, 0, 0, 0, 0, 0⟩⟩
def mkRec (w : Str) (n : List Int) : Option Rec :=
 if w = [111, 112] ∧ n.length = 7 then some ⟨1, 0, 0, [], ⟨gt n 0, gt n 1, gt n 2, gt n 3, gt n 4, gt n 5, gt n 6⟩⟩
 else if w = [108, 105, 102, 101] ∧ n.length = 2 then some ⟨2, gt n 0, gt n 1, [], ⟨0, 0, 0, 0, 0, 0, 0⟩⟩
 else if w = [114, 111, 111, 116, 115] ∧ 0 < n.length then some ⟨3, gt n 0, 0, n.drop 1, ⟨0, 0, 0, 0, 0, 0, 0⟩⟩
 else none
def finR (w : Str) (n : List Int) : Rec × Int := match mkRec w n with
 | none => (noRec, 1)
 | some r => if aH r = 0 then (r, 0) else (noRec, aH r)
def readP (w : Str) : Option (List Int) → Rec × Int
 | none => (noRec, 1)
 | some n => finR w n
theorem uW {w u : Str} {n : List Int} {k : Nat} : ((w == u) && ((n.length : Int) == (k : Int))) = decide (w = u ∧ n.length = k) := by
 rw [Bool.eq_iff_iff]; simp only [Bool.and_eq_true, beq_iff_eq, decide_eq_true_eq]; exact and_congr_right fun _ => by omega
theorem and_gt {w u : Str} {n : List Int} : ((w == u) && decide ((n.length : Int) > 0)) = decide (w = u ∧ 0 < n.length) := by
 rw [Bool.eq_iff_iff]; simp only [Bool.and_eq_true, beq_iff_eq, decide_eq_true_eq]; exact and_congr_right fun _ => by omega
theorem xi (r : Rec) : (bif (aH r != 0) then (noRec, aH r) else (r, (0 : Int))) = if aH r = 0 then (r, 0) else (noRec, aH r) := by
 by_cases h : aH r = 0
 ·rw [if_pos h, h]; rfl
 ·rw [if_neg h]
  have : (aH r != 0) = true := by simpa using h
  rw [this, cond_true]
theorem rP {α : Type} {p : Prop} [Decidable p] (a b : α) : (bif decide p then a else b) = if p then a else b := by
 by_cases h : p <;> simp [h]
theorem oH (s : Str) : ∀ (l : List Str) (acc : List Int), ep s l acc = readP (gt (spl 32 s) 0) ((pn l).map (acc ++ ·))
 | [], acc => by
  rw [ep]
  have e7 : (7 : Int) = ((7 : Nat) : Int) := rfl
  have e2 : (2 : Int) = ((2 : Nat) : Int) := rfl
  simp only [pn, Option.map_some, List.append_nil, readP, finR, mkRec]
  simp only [xi]
  rw [show (((gt (spl 32 s) 0) == ([111, 112] : Str)) && ((acc.length : Int) == 7)) = decide (gt (spl 32 s) 0 = [111, 112] ∧ acc.length = 7) from uW (k := 7),
   show (((gt (spl 32 s) 0) == ([108, 105, 102, 101] : Str)) && ((acc.length : Int) == 2)) = decide (gt (spl 32 s) 0 = [108, 105, 102, 101] ∧ acc.length = 2) from uW (k := 2), and_gt, rP, rP, rP]
  by_cases h1 : gt (spl 32 s) 0 = [111, 112] ∧ acc.length = 7
  ·rw [if_pos h1, if_pos h1]
  ·rw [if_neg h1, if_neg h1]
   by_cases h2 : gt (spl 32 s) 0 = [108, 105, 102, 101] ∧ acc.length = 2
   ·rw [if_pos h2, if_pos h2]
   ·rw [if_neg h2, if_neg h2]
    by_cases h3 : gt (spl 32 s) 0 = [114, 111, 111, 116, 115] ∧ 0 < acc.length
    ·rw [if_pos h3, if_pos h3]
    ·rw [if_neg h3, if_neg h3]
 | t :: r, acc => by
  rw [ep, pn]
  cases (ate t || (Lib.itoa (atv t) != t)) with
  | true => rfl
  | false =>
   simp only [cond_false]
   rw [oH s r, Option.map_map]
   congr 2
   funext x; simp
theorem s4 {s : Str} (h : s.length ≤ 60000) : bs s = readP (gt (spl 32 s) 0) (pn ((spl 32 s).drop 1)) := by
 unfold bs
 have : decide ((s.length : Int) > 60000) = false := by simp; omega
 rw [this, cond_false, oH]
 congr 1
 cases pn ((spl 32 s).drop 1) <;> simp
theorem tG {s : Str} (h : 60000 < s.length) : bs s = (noRec, 2) := by
 unfold bs
 have : decide ((s.length : Int) > 60000) = true := by simp; omega
 rw [this, cond_true]
theorem uq : ∀ {l : List Int}, (∀ n ∈ l, I64 n) → pn (l.map Lib.itoa) = some l
 | [], _ => rfl
 | n :: l, h => by
  have hn := h n (.head _)
  rw [List.map_cons, pn, vQ hn, vP hn, uq (fun m hm => h m (.tail _ hm))]
  simp
theorem uo : ∀ {l : List Str} {n : List Int}, pn l = some n → l = n.map Lib.itoa
 | [], n, h => by simp [pn] at h; subst h; rfl
 | t :: l, n, h => by
  rw [pn] at h
  cases hb : (ate t || (Lib.itoa (atv t) != t)) with
  | true => rw [hb] at h; cases h
  | false =>
   rw [hb, cond_false] at h
   simp only [Bool.or_eq_false_iff, bne_eq_false_iff_eq] at hb
   cases hp : pn l with
   | none => rw [hp] at h; cases h
   | some m =>
    rw [hp] at h
    simp only [Option.map_some, Option.some.injEq] at h
    subst h
    rw [List.map_cons, hb.2, ← uo hp]
theorem wK (r : Rec) : (32 : UInt8) ∉ wordOf r := by
 unfold wordOf
 cases r.kind == 1 with
 | true => rw [cond_true]; decide
 | false => rw [cond_false]; cases r.kind == 2 with
  | true => rw [cond_true]; decide
  | false => rw [cond_false]; decide
theorem mk_of {r : Rec} (h : aH r = 0) : mkRec (wordOf r) (iR r) = some r := by
 rcases (iz r).1 h with ⟨h1, _⟩ | ⟨h1, _, _⟩ | ⟨h1, _, _⟩ <;> (rw [h1]; rfl)
theorem xd {w : Str} {n : List Int} {r : Rec} (h : mkRec w n = some r) : wordOf r = w ∧ iR r = n := by
 unfold mkRec at h
 split at h
 ·rename_i hw
  obtain ⟨rfl, hl⟩ := hw
  simp only [Option.some.injEq] at h
  subst h
  match n, hl with
  | [a, b, c, d, e, f, g], _ => exact ⟨rfl, rfl⟩
 ·split at h
  ·rename_i hw
   obtain ⟨rfl, hl⟩ := hw
   simp only [Option.some.injEq] at h
   subst h
   match n, hl with
   | [a, b], _ => exact ⟨rfl, rfl⟩
  ·split at h
   ·rename_i hw
    obtain ⟨rfl, hl⟩ := hw
    simp only [Option.some.injEq] at h
    subst h
    match n, hl with
    | a :: l, _ => exact ⟨rfl, rfl⟩
   ·cases h
theorem sF : ∀ {l : List Int}, (∀ n ∈ l, I64 n) → (glue 32 (l.map Lib.itoa)).length ≤ 22 * l.length
 | [], _ => by simp [glue]
 | n :: l, h => by
  have h1 := sF (fun m hm => h m (.tail n hm))
  have h2 := Lib.itoa_length_le n (h n (.head _)).1 (h n (.head _)).2
  simp only [glue, List.map_cons, List.flatMap_cons, List.length_append, List.length_cons] at h1 ⊢
  omega
theorem vo (r : Rec) : (wordOf r).length ≤ 5 := by
 unfold wordOf
 cases r.kind == 1 with
 | true => rw [cond_true]; decide
 | false => rw [cond_false]; cases r.kind == 2 with
  | true => rw [cond_true]; decide
  | false => rw [cond_false]; decide
theorem ln {r : Rec} (h : aH r = 0) : (jB r).length ≤ 159 := by
 have h1 := n7 h
 have h2 := sF h1.2
 have h3 := vo r
 rw [jB, List.length_append]
 omega
theorem spl_pr {r : Rec} : spl 32 (jB r) = wordOf r :: (iR r).map Lib.itoa :=
 se _ _ (wK r) (fun t ht => by
  obtain ⟨n, _, rfl⟩ := List.mem_map.1 ht
  exact uH (by decide))
theorem rX {r : Rec} (h : aH r = 0) : bs (jB r) = (r, 0) := by
 rw [s4 (by have := ln h; omega), spl_pr, show gt (wordOf r :: (iR r).map Lib.itoa) 0 = wordOf r from rfl, List.drop_succ_cons, List.drop_zero, uq (n7 h).2, readP, finR, mk_of h]
 simp only [h, if_pos]
theorem vY {s : Str} {x : Rec} (h : bs s = (x, 0)) : aH x = 0 ∧ jB x = s := by
 by_cases hs : s.length ≤ 60000
 ·rw [s4 hs] at h
  obtain ⟨w, l, h1, h2⟩ := sE 32 s.length s (Nat.le_refl _)
  rw [h1] at h
  have e : gt (w :: l) 0 = w := rfl
  rw [e, List.drop_succ_cons, List.drop_zero] at h
  cases hp : pn l with
  | none => rw [hp, readP] at h; cases h
  | some n =>
   rw [hp, readP, finR] at h
   cases hm : mkRec w n with
   | none => rw [hm] at h; cases h
   | some r =>
    rw [hm] at h
    simp only at h
    split at h
    ·rename_i hc
     simp only [Prod.mk.injEq, and_true] at h
     subst h
     obtain ⟨h3, h4⟩ := xd hm
     refine ⟨hc, ?_⟩
     rw [jB, h3, h4, h2, uo hp]
    ·rename_i hc
     simp only [Prod.mk.injEq] at h
     exact absurd h.2 hc
 ·rw [tG (by omega)] at h; cases h
end Go.Proofs.YtkjccbdeaflekaaGreatDoor

set_option maxHeartbeats 2000000
namespace Go.Proofs.YtkjccbdeaflekaaGreatDoor
open Go Go.Proofs.YtkjccbdeaflekaaGreatDoor.Fw Go.Proofs
attribute [local irreducible] RdL RdN VarP LibP RW CW
theorem q6 {a b : Nat} (h : (decide ((a : Int) > 60000) || decide ((b : Int) > (60000 - (a : Int)))) = false) : a ≤ 60000 ∧ a + b ≤ 60000 := by
 simp only [Bool.or_eq_false_iff, decide_eq_false_iff_not] at h; omega
theorem ve (r : Rec) : (ce r).1.length ≤ 159 := by
 rw [sY]
 split
 ·rename_i h; exact ln h
 ·simp
def cY (d1 : Disk) : Int :=
 (bif (decide ((d1.safe.length : Int) > 60000) || decide ((d1.wait.length : Int) > (60000 - (d1.safe.length : Int)))) then 2 else (ax d1.safe 60).2.2)
theorem gB (y1 : SlV) (y2 : SlV) (d1 : Disk) : Does Tryz.prog 107 [.agg ⟨cK y1 y2 d1⟩] [RdL EByte y1 d1.safe, RdL EByte y2 d1.wait, LibP Tryz.prog] (fun (_ : Unit) => .int .i64 (cY d1)) (fun _ => []) := by
 refine Dp aK Tryz.func107 Tryz.ntmps107 Tryz.results107 fun C => ?_
 refine Pc EByte y1 d1.safe 1 fun hlen1 => ?_
 refine Pc EByte y2 d1.wait 1 fun hlen2 => ?_
 refine BxT fun g1 => ?_
 have hf := Ri (cY.eq_1 d1)
 refine Ch hf (fun hc1 hf => ?_) fun hc1 hf => ?_
 ·exact Ru
 ·have hdl := q6 hc1
  refine Sy Tz (um (X := y1) (l := d1.safe) tR und_5 und_9 rfl rfl Zf Mm) ?_
  refine Cm (iU d1.safe 60 Zc) fun x1 => ?_
  exact Ru
theorem iV {d : Disk} (h : cY d = 0) : d.safe.length ≤ 60000 ∧ d.safe.length + d.wait.length ≤ 60000 := by
 unfold cY at h
 generalize hb : (decide ((d.safe.length : Int) > 60000) || decide ((d.wait.length : Int) > (60000 - (d.safe.length : Int)))) = b at h
 cases b with
 | true => simp at h
 | false => exact q6 hb
def dT (d1 : Disk) (r1 : Rec) : Disk × Int :=
 (bif ((cY d1) != 0) then ((⟨[], []⟩ : Disk), (cY d1)) else (bif ((ce r1).2 != 0) then ((⟨[], []⟩ : Disk), (ce r1).2) else (bif decide ((((ce r1).1.length : Int) + 1) > ((60000 - (d1.safe.length : Int)) - (d1.wait.length : Int))) then ((⟨[], []⟩ : Disk), 2) else ((⟨d1.safe, ((d1.wait ++ (ce r1).1) ++ [10])⟩ : Disk), 0))))
theorem mt (y1 : SlV) (y2 : SlV) (d1 : Disk) (y3 : SlV) (r1 : Rec) : Does Tryz.prog 177 [.agg ⟨cK y1 y2 d1⟩, .agg ⟨cR y3 r1⟩] [RdL EByte y1 d1.safe, RdL EByte y2 d1.wait, RdL EInt y3 r1.roots, LibP Tryz.prog] (fun (X : SlV × SlV) => .tuple #[.agg ⟨cK X.1 X.2 (dT d1 r1).1⟩, .int .i64 (dT d1 r1).2]) (fun X => [RdL EByte X.1 (dT d1 r1).1.safe, RdL EByte X.2 (dT d1 r1).1.wait]) := by
 refine Dp aK Tryz.func177 Tryz.ntmps177 Tryz.results177 fun C => ?_
 refine Pc EByte y1 d1.safe 1 fun hlen1 => ?_
 refine Pc EByte y2 d1.wait 1 fun hlen2 => ?_
 refine Pc EInt y3 r1.roots 8 fun hlen3 => ?_
 refine BxT fun g1 => ?_
 refine BxT fun g2 => ?_
 refine AlT fun g3 => ?_
 refine Ck (gB y1 y2 d1) fun _ => ?_
 have hf := Ri (dT.eq_1 d1 r1)
 refine Cn hf (fun hc1 hc1p hf => ?_) fun hc1 hc1p hf => ?_
 ·refine Tx ?_
  refine Fc EByte ?_
  refine Rx ?_; exact Re ⟨Z0, Z0⟩ Rv
 ·have hdl := iV (ai hc1)
  refine Ck (n8 y3 r1) fun _ => ?_
  refine Cn hf (fun hc2 hc2p hf => ?_) fun hc2 hc2p hf => ?_
  ·refine Tx ?_
   refine Fc EByte ?_
   refine Rx ?_; exact Re ⟨Z0, Z0⟩ Rv
  ·have hpl := ve r1
   refine Sy Tz (o8 (a := (ce r1).1) rfl rfl Zf und_9) ?_
   refine Cp hf (fun hc3 hc3p hf => ?_) fun hc3 hc3p hf => ?_
   ·refine Tx ?_
    refine Fc EByte ?_
    refine Rx ?_; exact Re ⟨Z0, Z0⟩ Rv
   ·refine Tx ?_
    refine Jn (SlV × Option Nat × SlV × Option Nat) [4, 5] [false, true, true] (fun ⟨x1, b1, x2, b2⟩ => ⟨[], [⟨g3, 33, [x1.val d1.safe.length, x2.val ((d1.wait ++ (ce r1).1) ++ [10]).length]⟩], [ownL EByte 5 x1 b1 d1.safe, ownL EByte 5 x2 b2 ((d1.wait ++ (ce r1).1) ++ [10])], [], True, 0⟩) ?_ ?_
    ·refine ap (fun j => match j with | 7 => none | 9 => none | 11 => some [g3] | _ => some []) ?_
     refine Dx [0,1,3,4,6] ?_
     refine Rw 2 8 ?_ ?_
     ·refine Cm (cr y1 d1.safe) fun x3 => ?_
      refine Rw 5 8 ?_ ?_
      ·refine Cm (cr y2 d1.wait) fun x4 => ?_
       refine Rw 7 8 ?_ ?_
       ·refine lj d1.wait (ce r1).1 (b := x4.2) (.lo (x4.2 : Option Nat).toList rfl rfl) (fun g h => .inr (by simp [h])) (al rfl) rfl rfl rfl rfl rfl rfl rfl und_9 (fun _ _ => Uo) rfl rfl rfl rfl rfl (by omega) fun x5 x5b => ?_
        refine Rn 8 ?_
        refine Bl EByte [10] fun x6 x6b => ?_
        refine Rn 9 ?_
        refine Ap EByte 1 (d1.wait ++ (ce r1).1) [10] x5b fun x7 x7b => ?_
        refine Ra 10 rfl Qp ?_
        refine Rn 11 ?_
        refine Wa ?_
        refine Ra 12 rfl Qp ?_
        refine Re0 ?_
        refine ⟨⟨x3.1, x3.2, x7, x7b⟩, trivial, Le4⟩
       ·refine Bl EByte [10] fun x8 x8b => ?_
        refine Rn 7 ?_
        refine lj d1.wait (ce r1).1 (b := x4.2) (.lo (x4.2 : Option Nat).toList rfl rfl) (fun g h => .inr (by simp [h])) (al rfl) rfl rfl rfl rfl rfl rfl rfl und_9 (fun _ _ => Uo) rfl rfl rfl rfl rfl (by omega) fun x9 x9b => ?_
        refine Rn 9 ?_
        refine Ap EByte 1 (d1.wait ++ (ce r1).1) [10] x9b fun x10 x10b => ?_
        refine Ra 10 rfl Qp ?_
        refine Rn 11 ?_
        refine Wa ?_
        refine Ra 12 rfl Qp ?_
        refine Re0 ?_
        refine ⟨⟨x3.1, x3.2, x10, x10b⟩, trivial, Le4⟩
      ·refine Bl EByte [10] fun x11 x11b => ?_
       refine Rn 5 ?_
       refine Cm (cr y2 d1.wait) fun x12 => ?_
       refine Rn 7 ?_
       refine lj d1.wait (ce r1).1 (b := x12.2) (.lo (x12.2 : Option Nat).toList rfl rfl) (fun g h => .inr (by simp [h])) (al rfl) rfl rfl rfl rfl rfl rfl rfl und_9 (fun _ _ => Uo) rfl rfl rfl rfl rfl (by omega) fun x13 x13b => ?_
       refine Rn 9 ?_
       refine Ap EByte 1 (d1.wait ++ (ce r1).1) [10] x13b fun x14 x14b => ?_
       refine Ra 10 rfl Qp ?_
       refine Rn 11 ?_
       refine Wa ?_
       refine Ra 12 rfl Qp ?_
       refine Re0 ?_
       refine ⟨⟨x3.1, x3.2, x14, x14b⟩, trivial, Le4⟩
     ·refine Bl EByte [10] fun x15 x15b => ?_
      refine Rn 2 ?_
      refine Cm (cr y1 d1.safe) fun x16 => ?_
      refine Rn 5 ?_
      refine Cm (cr y2 d1.wait) fun x17 => ?_
      refine Rn 7 ?_
      refine lj d1.wait (ce r1).1 (b := x17.2) (.lo (x17.2 : Option Nat).toList rfl rfl) (fun g h => .inr (by simp [h])) (al rfl) rfl rfl rfl rfl rfl rfl rfl und_9 (fun _ _ => Uo) rfl rfl rfl rfl rfl (by omega) fun x18 x18b => ?_
      refine Rn 9 ?_
      refine Ap EByte 1 (d1.wait ++ (ce r1).1) [10] x18b fun x19 x19b => ?_
      refine Ra 10 rfl Qp ?_
      refine Rn 11 ?_
      refine Wa ?_
      refine Ra 12 rfl Qp ?_
      refine Re0 ?_
      refine ⟨⟨x16.1, x16.2, x19, x19b⟩, trivial, Le4⟩
    ·rintro ⟨x1, b1, x2, b2⟩ -
     simp only [Lc]
     (repeat refine aD ?_)
     refine cw_le (ar EByte 5 x1 b1 d1.safe Uo) ?_
     refine cw_le (ar EByte 5 x2 b2 ((d1.wait ++ (ce r1).1) ++ [10]) Uo) ?_
     refine Rx ?_; exact Re ⟨x1, x2⟩ Rv
def fb (d1 : Disk) : Disk × Int :=
 (bif ((cY d1) != 0) then ((⟨[], []⟩ : Disk), (cY d1)) else (bif ((cY (⟨([d1.safe, d1.wait].flatten), ([] : List UInt8)⟩ : Disk)) != 0) then ((⟨[], []⟩ : Disk), (cY (⟨([d1.safe, d1.wait].flatten), ([] : List UInt8)⟩ : Disk))) else ((⟨([d1.safe, d1.wait].flatten), ([] : List UInt8)⟩ : Disk), 0)))
theorem oS (y1 : SlV) (y2 : SlV) (d1 : Disk) : Does Tryz.prog 178 [.agg ⟨cK y1 y2 d1⟩] [RdL EByte y1 d1.safe, RdL EByte y2 d1.wait, LibP Tryz.prog] (fun (X : SlV × SlV) => .tuple #[.agg ⟨cK X.1 X.2 (fb d1).1⟩, .int .i64 (fb d1).2]) (fun X => [RdL EByte X.1 (fb d1).1.safe, RdL EByte X.2 (fb d1).1.wait]) := by
 refine Dp aK Tryz.func178 Tryz.ntmps178 Tryz.results178 fun C => ?_
 refine Pc EByte y1 d1.safe 1 fun hlen1 => ?_
 refine Pc EByte y2 d1.wait 1 fun hlen2 => ?_
 refine BxT fun g1 => ?_
 refine AlT fun g2 => ?_
 refine Ck (gB y1 y2 d1) fun _ => ?_
 have hf := Ri (fb.eq_1 d1)
 refine Cn hf (fun hc1 hc1p hf => ?_) fun hc1 hc1p hf => ?_
 ·refine Tx ?_
  refine Fc EByte ?_
  refine Rx ?_; exact Re ⟨Z0, Z0⟩ Rv
 ·have hdl := iV (ai hc1)
  refine Bl NBytes.E [(y1, d1.safe), (y2, d1.wait)] fun x1 x1b => ?_
  refine rw_le (ar NBytes.E 31 x1 x1b [(y1, d1.safe), (y2, d1.wait)] Uo) ?_
  refine dU (F := RdN NBytes x1 [d1.safe, d1.wait]) [RdL NBytes.E x1 [(y1, d1.safe), (y2, d1.wait)], RdL EByte y1 d1.safe, RdL EByte y2 d1.wait] Sm (fun M w h => RdN.of NBytes (hs := [(y1, d1.safe), (y2, d1.wait)]) rfl (h _ (.head _)) (aF (eC Sm h) (aF (eC Sm h) (fun p hp => by cases hp)))) ?_
  refine Cm (fW x1 [d1.safe, d1.wait] (by simp only [List.flatten_cons, List.flatten_nil, List.length_append, List.length_nil, List.length_take]; omega)) fun x2 => ?_
  refine Rp rfl rfl rfl rfl ?_
  refine AlT fun g3 => ?_
  refine Tx ?_
  refine Fr EByte ?_
  refine pF (gB x2.1 Z0 (⟨([d1.safe, d1.wait].flatten), ([] : List UInt8)⟩ : Disk)) .sq (al rfl) rfl rfl rfl Kr rfl rfl (.own Mm (.fact Mm (.fact Mm (.nil _ _)))) ?_
  intro _
  refine Cn hf (fun hc2 hc2p hf => ?_) fun hc2 hc2p hf => ?_
  ·refine Rx ?_; exact Re ⟨Z0, Z0⟩ Rv
  ·refine Tx ?_
   refine cw_le (ar EByte 5 x2.1 x2.2 ([d1.safe, d1.wait].flatten) Uo) ?_
   refine Rx ?_; exact Re ⟨x2.1, Z0⟩ Rv
def am (d1 : Disk) : Disk × (List Rec) × Int :=
 (bif ((cY d1) != 0) then ((⟨[], []⟩ : Disk), ([] : List Rec), (cY d1)) else ((⟨([d1.safe, (d1.wait.take (ax d1.wait (60 - ((ax d1.safe 60).1.length : Int))).2.1.toNat)].flatten), ([] : List UInt8)⟩ : Disk), ((ax d1.safe 60).1 ++ (ax d1.wait (60 - ((ax d1.safe 60).1.length : Int))).1), 0))
theorem eI (y1 : SlV) (y2 : SlV) (d1 : Disk) : Does Tryz.prog 63 [.agg ⟨cK y1 y2 d1⟩] [RdL EByte y1 d1.safe, RdL EByte y2 d1.wait, LibP Tryz.prog] (fun (X : SlV × SlV × SlV) => .tuple #[.agg ⟨cK X.1 X.2.1 (am d1).1⟩, X.2.2.val (am d1).2.1.length, .int .i64 (am d1).2.2]) (fun X => [RdL EByte X.1 (am d1).1.safe, RdL EByte X.2.1 (am d1).1.wait, RdN NRec X.2.2 (am d1).2.1]) := by
 refine Dp aK Tryz.func63 Tryz.ntmps63 Tryz.results63 fun C => ?_
 refine Pc EByte y1 d1.safe 1 fun hlen1 => ?_
 refine Pc EByte y2 d1.wait 1 fun hlen2 => ?_
 refine BxT fun g1 => ?_
 refine AlT fun g2 => ?_
 refine Ck (gB y1 y2 d1) fun _ => ?_
 have hf := Ri (am.eq_1 d1)
 refine Cn hf (fun hc1 hc1p hf => ?_) fun hc1 hc1p hf => ?_
 ·refine Tx ?_
  refine Fc EByte ?_
  refine Ft NRec ?_
  refine Rx ?_; exact Re ⟨Z0, Z0, Z0⟩ Rv
 ·have hdl := iV (ai hc1)
  refine Sy Tz (um (X := y1) (l := d1.safe) tR und_5 und_9 rfl rfl Zf Mm) ?_
  refine Cm (iU d1.safe 60 Zc) fun x1 => ?_
  have hl1 := mr d1.safe 60
  refine Sy Tz (um (X := y2) (l := d1.wait) tR und_5 und_9 rfl rfl Zf Mm) ?_
  refine Cm (iU d1.wait (60 - ((ax d1.safe 60).1.length : Int)) Zc) fun x2 => ?_
  have hl2 := mr d1.wait (60 - ((ax d1.safe 60).1.length : Int))
  refine Tx ?_
  (repeat refine aD ?_); refine ap (fun j => match j with | 11 => some x1.2.1.toList | 12 => some [g2] | _ => some []) ?_
  refine Dx [0,1,2,3,4] ?_
  refine Rb 5 rfl (wd EByte (ax d1.wait (60 - ((ax d1.safe 60).1.length : Int))).2.1.toNat rfl rfl Zf rfl Zf rfl rfl Mm Zo Zo) ?_
  refine dU (F := RdL EByte y2 (d1.wait.take (ax d1.wait (60 - ((ax d1.safe 60).1.length : Int))).2.1.toNat)) [RdL EByte y2 d1.wait] Sm (fun M w h => (allF1 h).take _) ?_
  refine Dx [9,10] ?_
  refine Rn 6 ?_
  refine Bl NBytes.E [(y1, d1.safe), (y2, (d1.wait.take (ax d1.wait (60 - ((ax d1.safe 60).1.length : Int))).2.1.toNat))] fun x3 x3b => ?_
  refine Rn 7 ?_
  refine rw_le (ar NBytes.E 31 x3 x3b [(y1, d1.safe), (y2, (d1.wait.take (ax d1.wait (60 - ((ax d1.safe 60).1.length : Int))).2.1.toNat))] Uo) ?_
  refine dU (F := RdN NBytes x3 [d1.safe, (d1.wait.take (ax d1.wait (60 - ((ax d1.safe 60).1.length : Int))).2.1.toNat)]) [RdL NBytes.E x3 [(y1, d1.safe), (y2, (d1.wait.take (ax d1.wait (60 - ((ax d1.safe 60).1.length : Int))).2.1.toNat))], RdL EByte y1 d1.safe, RdL EByte y2 (d1.wait.take (ax d1.wait (60 - ((ax d1.safe 60).1.length : Int))).2.1.toNat)] Sm (fun M w h => RdN.of NBytes (hs := [(y1, d1.safe), (y2, (d1.wait.take (ax d1.wait (60 - ((ax d1.safe 60).1.length : Int))).2.1.toNat))]) rfl (h _ (.head _)) (aF (eC Sm h) (aF (eC Sm h) (fun p hp => by cases hp)))) ?_
  refine Cm (fW x3 [d1.safe, (d1.wait.take (ax d1.wait (60 - ((ax d1.safe 60).1.length : Int))).2.1.toNat)] (by simp only [List.flatten_cons, List.flatten_nil, List.length_append, List.length_nil, List.length_take]; omega)) fun x4 => ?_
  refine Rq (Fa 8 [11]) Sa Xv ?_
  refine Rn 11 ?_
  refine mI NRec x1.2.2 x2.2.2 (ax d1.safe 60).1 (ax d1.wait (60 - ((ax d1.safe 60).1.length : Int))).1 (b := x1.2.1) (.an rfl rfl) (fun g h => .inr (by simp [h])) (al rfl) rfl rfl rfl rfl rfl rfl rfl (fun _ _ => Uo) rfl rfl rfl rfl rfl rfl rfl (o6 (e := 78) (b := x2.2.1) Mm) (by show ((ax d1.safe 60).1.length + (ax d1.wait (60 - ((ax d1.safe 60).1.length : Int))).1.length) * 104 ≤ 140737488355328; (try simp only [List.length_append, List.length_cons, List.length_nil]); omega) fun x5 x5b => ?_
  refine dU (F := FactsG NRec (appG x1.2.2 (ax d1.safe 60).1.length x2.2.2) ((ax d1.safe 60).1 ++ (ax d1.wait (60 - ((ax d1.safe 60).1.length : Int))).1)) [FactsG NRec x1.2.2 (ax d1.safe 60).1, FactsG NRec x2.2.2 (ax d1.wait (60 - ((ax d1.safe 60).1.length : Int))).1] Sm (fun M w h => FactsG.app NRec (h _ (.head _)) (h _ (.tail _ (.head _)))) ?_
  refine Rn 12 ?_
  refine Wa ?_
  refine Dx [13,14] ?_
  refine Re0 ?_
  (repeat refine aD ?_)
  refine cw_le (ar EByte 5 x4.1 x4.2 ([d1.safe, (d1.wait.take (ax d1.wait (60 - ((ax d1.safe 60).1.length : Int))).2.1.toNat)].flatten) Uo) ?_
  refine Fc EByte ?_
  refine cw_le (ar NRec.E 78 x5 x5b (zipG (appG x1.2.2 (ax d1.safe 60).1.length x2.2.2) 0 ((ax d1.safe 60).1 ++ (ax d1.wait (60 - ((ax d1.safe 60).1.length : Int))).1)) Uo) ?_
  refine Fj NRec x5 (appG x1.2.2 (ax d1.safe 60).1.length x2.2.2) ((ax d1.safe 60).1 ++ (ax d1.wait (60 - ((ax d1.safe 60).1.length : Int))).1) ?_
  refine Rx ?_; exact Re ⟨x4.1, Z0, x5⟩ Rv
theorem jo (x : SlV) (l : List (NClient.G × Client)) : DoesG Tryz.prog 81 [x.val l.length] [RdL NClient.E x l] ⟨[], []⟩ (fun (X : SlV × Option Nat) => X.1.val l.length) (fun _ => []) (fun X => ⟨[], [ownL NClient.E 63 X.1 X.2 l]⟩) := by
 refine Dq aK Tryz.func81 Tryz.ntmps81 Tryz.results81 fun C => ?_
 refine dx (φ := l.length * NClient.E.by_ ≤ 140737488355328) [RdL NClient.E x l] Sm (fun M w h => (allF1 h).len) fun hlen => ?_
 refine Sy Tz (jZ rfl rfl Zf rfl) ?_
 refine dD ?_
 (repeat refine aD ?_); refine ij rfl rfl (fun hc0 => ?_) (fun hc0 => ?_)
 ·refine dx [RdL NClient.E x l] Sm (fun M w h => (allF1 h).nil_of hc0) fun hnil => ?_
  subst hnil
  refine cw_le (eH NClient.E 63) ?_
  refine Tx ?_
  (repeat refine aD ?_); refine di ?_
  exact ⟨(⟨none, 0⟩, none), _, (.cons (.tmp rfl) .nil), rfl, .nil _, .nil _, Sp⟩
 ·refine Bl NClient.E [] fun x1 x1b => ?_
  refine Rp rfl rfl rfl rfl ?_
  refine iC NClient.E [] l (b := x1b) .sq (fun _ _ => .inl ⟨_, rfl⟩) (al rfl) rfl rfl rfl rfl rfl rfl rfl (fun _ _ => Uo) rfl rfl rfl rfl rfl rfl rfl (kP Mm) (by simpa using hlen) fun x2 x2b => ?_
  refine Tx ?_
  (repeat refine aD ?_); refine di ?_
  exact ⟨(x2, x2b), _, (.cons (.tmp rfl) .nil), rfl, .nil _, .nil _, Sp⟩
theorem jA (x : SlV) (γ : Nat → NClient.G) (l : List Client) : DoesG Tryz.prog 81 [x.val l.length] [RdG NClient x γ l] ⟨[], []⟩ (fun (X : SlV × Option Nat) => X.1.val l.length) (fun _ => []) (fun X => ⟨[], [ownL NClient.E 63 X.1 X.2 (zipG γ 0 l)]⟩) := by
 have := jo x (zipG γ 0 l)
 rw [cv] at this
 exact this
def bU  : Wld :=
 (⟨bH, (⟨[], []⟩ : Disk), true, [(⟨0, 0, 0, ([] : List Op), 0, (⟨[], [], []⟩ : View)⟩ : Client), (⟨0, 0, 0, ([] : List Op), 0, (⟨[], [], []⟩ : View)⟩ : Client), (⟨0, 0, 0, ([] : List Op), 0, (⟨[], [], []⟩ : View)⟩ : Client)], ([] : List Mail)⟩ : Wld)
theorem lC  : Does Tryz.prog 16 [] [] (fun (X : SlV × SlV × SlV × SlV × SlV × SlV × SlV) => .agg ⟨cW X.1 X.2.1 X.2.2.1 X.2.2.2.1 X.2.2.2.2.1 X.2.2.2.2.2.1 X.2.2.2.2.2.2 bU⟩) (fun X => [RdL EStep X.1 bU.h.h.l, RdL EPlace X.2.1 bU.h.h.t, RdN NPeer X.2.2.1 bU.h.peers, RdL EByte X.2.2.2.1 bU.d.safe, RdL EByte X.2.2.2.2.1 bU.d.wait, RdN NClient X.2.2.2.2.2.1 bU.c, RdN NMail X.2.2.2.2.2.2 bU.mail]) := by
 refine Dp aK Tryz.func16 Tryz.ntmps16 Tryz.results16 fun C => ?_
 refine AlT fun g1 => ?_
 refine Tx ?_
 refine Jn (SlV × SlV × SlV × SlV × Option Nat) [0] [false] (fun ⟨x1, x2, x3, x4, b1⟩ => ⟨[], [⟨g1, 37, [x1.val bH.h.l.length, x2.val bH.h.t.length, .int .i64 bH.version, x3.val bH.peers.length, .slice none 0 0, .slice none 0 0, .bool true, x4.val [(⟨0, 0, 0, ([] : List Op), 0, (⟨[], [], []⟩ : View)⟩ : Client), (⟨0, 0, 0, ([] : List Op), 0, (⟨[], [], []⟩ : View)⟩ : Client), (⟨0, 0, 0, ([] : List Op), 0, (⟨[], [], []⟩ : View)⟩ : Client)].length, .slice none 0 0]⟩], [ownL NClient.E 63 x4 b1 (zipG (fun _ => (Z0, Z0, Z0, Z0)) 0 [(⟨0, 0, 0, ([] : List Op), 0, (⟨[], [], []⟩ : View)⟩ : Client), (⟨0, 0, 0, ([] : List Op), 0, (⟨[], [], []⟩ : View)⟩ : Client), (⟨0, 0, 0, ([] : List Op), 0, (⟨[], [], []⟩ : View)⟩ : Client)])], [RdL EStep x1 bH.h.l, RdL EPlace x2 bH.h.t, RdN NPeer x3 bH.peers, FactsG NClient (fun _ => (Z0, Z0, Z0, Z0)) [(⟨0, 0, 0, ([] : List Op), 0, (⟨[], [], []⟩ : View)⟩ : Client), (⟨0, 0, 0, ([] : List Op), 0, (⟨[], [], []⟩ : View)⟩ : Client), (⟨0, 0, 0, ([] : List Op), 0, (⟨[], [], []⟩ : View)⟩ : Client)]], True, 0⟩) ?_ ?_
 ·refine ap (fun j => match j with | 3 => some [g1] | _ => some []) ?_
  refine Rw 0 1 ?_ ?_
  ·refine Ck (jc ) fun x5 => ?_
   refine Pr EStep x5.1 bH.h.l 88 fun hlen1 => ?_
   refine Pr EPlace x5.2.1 bH.h.t 24 fun hlen2 => ?_
   refine Pm NPeer x5.2.2 bH.peers 40 fun hlen3 => ?_
   refine Rn 1 ?_
   refine lP NClient.E (zipG (fun _ => (Z0, Z0, Z0, Z0)) 0 [(⟨0, 0, 0, ([] : List Op), 0, (⟨[], [], []⟩ : View)⟩ : Client), (⟨0, 0, 0, ([] : List Op), 0, (⟨[], [], []⟩ : View)⟩ : Client), (⟨0, 0, 0, ([] : List Op), 0, (⟨[], [], []⟩ : View)⟩ : Client)]) (.an rfl rfl) (al rfl) rfl rfl rfl rfl rfl rfl rfl rfl rfl rfl rfl rfl rfl rfl rfl rfl rfl fun x6 x6b => ?_
   refine Fr EOp ?_
   refine Fr EInt ?_
   refine Fr EPlace ?_
   refine dU (F := FactsG NClient (fun _ => (Z0, Z0, Z0, Z0)) [(⟨0, 0, 0, ([] : List Op), 0, (⟨[], [], []⟩ : View)⟩ : Client), (⟨0, 0, 0, ([] : List Op), 0, (⟨[], [], []⟩ : View)⟩ : Client), (⟨0, 0, 0, ([] : List Op), 0, (⟨[], [], []⟩ : View)⟩ : Client)]) [RdL EOp Z0 ([] : List Op), RdL EInt Z0 ([] : List Int), RdL EPlace Z0 ([] : List Place), RdL EPlace Z0 ([] : List Place)] Sm (fun M w h => FactsG.const NClient (by intro a ha; simp only [List.mem_cons, List.not_mem_nil, or_false, or_self] at ha; subst ha; exact eC Sm h)) ?_
   refine Ra 2 rfl Qp ?_
   refine Rn 3 ?_
   refine Wa ?_
   refine Re0 ?_
   refine ⟨⟨x5.1, x5.2.1, x5.2.2, x6, x6b⟩, trivial, Le4⟩
  ·refine lP NClient.E (zipG (fun _ => (Z0, Z0, Z0, Z0)) 0 [(⟨0, 0, 0, ([] : List Op), 0, (⟨[], [], []⟩ : View)⟩ : Client), (⟨0, 0, 0, ([] : List Op), 0, (⟨[], [], []⟩ : View)⟩ : Client), (⟨0, 0, 0, ([] : List Op), 0, (⟨[], [], []⟩ : View)⟩ : Client)]) (.an rfl rfl) (al rfl) rfl rfl rfl rfl rfl rfl rfl rfl rfl rfl rfl rfl rfl rfl rfl rfl rfl fun x7 x7b => ?_
   refine Fr EOp ?_
   refine Fr EInt ?_
   refine Fr EPlace ?_
   refine dU (F := FactsG NClient (fun _ => (Z0, Z0, Z0, Z0)) [(⟨0, 0, 0, ([] : List Op), 0, (⟨[], [], []⟩ : View)⟩ : Client), (⟨0, 0, 0, ([] : List Op), 0, (⟨[], [], []⟩ : View)⟩ : Client), (⟨0, 0, 0, ([] : List Op), 0, (⟨[], [], []⟩ : View)⟩ : Client)]) [RdL EOp Z0 ([] : List Op), RdL EInt Z0 ([] : List Int), RdL EPlace Z0 ([] : List Place), RdL EPlace Z0 ([] : List Place)] Sm (fun M w h => FactsG.const NClient (by intro a ha; simp only [List.mem_cons, List.not_mem_nil, or_false, or_self] at ha; subst ha; exact eC Sm h)) ?_
   refine Rn 0 ?_
   refine Ck (jc ) fun x8 => ?_
   refine Pr EStep x8.1 bH.h.l 88 fun hlen4 => ?_
   refine Pr EPlace x8.2.1 bH.h.t 24 fun hlen5 => ?_
   refine Pm NPeer x8.2.2 bH.peers 40 fun hlen6 => ?_
   refine Ra 2 rfl Qp ?_
   refine Rn 3 ?_
   refine Wa ?_
   refine Re0 ?_
   refine ⟨⟨x8.1, x8.2.1, x8.2.2, x7, x7b⟩, trivial, Le4⟩
 ·rintro ⟨x1, x2, x3, x4, b1⟩ -
  simp only [Lc]
  (repeat refine aD ?_)
  refine Fc EByte ?_
  refine cw_le (ar NClient.E 63 x4 b1 (zipG (fun _ => (Z0, Z0, Z0, Z0)) 0 [(⟨0, 0, 0, ([] : List Op), 0, (⟨[], [], []⟩ : View)⟩ : Client), (⟨0, 0, 0, ([] : List Op), 0, (⟨[], [], []⟩ : View)⟩ : Client), (⟨0, 0, 0, ([] : List Op), 0, (⟨[], [], []⟩ : View)⟩ : Client)]) Uo) ?_
  refine Fj NClient x4 (fun _ => (Z0, Z0, Z0, Z0)) [(⟨0, 0, 0, ([] : List Op), 0, (⟨[], [], []⟩ : View)⟩ : Client), (⟨0, 0, 0, ([] : List Op), 0, (⟨[], [], []⟩ : View)⟩ : Client), (⟨0, 0, 0, ([] : List Op), 0, (⟨[], [], []⟩ : View)⟩ : Client)] ?_
  refine Ft NMail ?_
  have hf := Ri bU.eq_1
  refine Rx ?_; exact Re ⟨x1, x2, x3, Z0, Z0, x4, Z0⟩ Rv
def dX (w1 : Wld) : List Client → Nat → (List Client) → Wld
 | [], n1, l1 => (⟨w1.h, w1.d, w1.up, l1, w1.mail⟩ : Wld)
 | pn1 :: rn1, n1, l1 => (dX w1 rn1 (n1 + 1) (l1.set n1 (gt l1 n1)))
def dQ (w1 : Wld) : Wld :=
 (dX w1 w1.c 0 w1.c)
theorem nK (y1 : SlV) (y2 : SlV) (y3 : SlV) (y4 : SlV) (y5 : SlV) (y6 : SlV) (y7 : SlV) (w1 : Wld) : DoesG Tryz.prog 31 [.agg ⟨cW y1 y2 y3 y4 y5 y6 y7 w1⟩] [RdL EStep y1 w1.h.h.l, RdL EPlace y2 w1.h.h.t, RdN NPeer y3 w1.h.peers, RdL EByte y4 w1.d.safe, RdL EByte y5 w1.d.wait, RdN NClient y6 w1.c, RdN NMail y7 w1.mail] ⟨[], []⟩ (fun (X : SlV × SlV × SlV × SlV × SlV × SlV × Option Nat × (Nat → SlV × SlV × SlV × SlV) × SlV) => .agg ⟨cW X.1 X.2.1 X.2.2.1 X.2.2.2.1 X.2.2.2.2.1 X.2.2.2.2.2.1 X.2.2.2.2.2.2.2.2 (dQ w1)⟩) (fun X => [RdL EStep X.1 (dQ w1).h.h.l, RdL EPlace X.2.1 (dQ w1).h.h.t, RdN NPeer X.2.2.1 (dQ w1).h.peers, RdL EByte X.2.2.2.1 (dQ w1).d.safe, RdL EByte X.2.2.2.2.1 (dQ w1).d.wait, RdN NMail X.2.2.2.2.2.2.2.2 (dQ w1).mail, FactsG NClient X.2.2.2.2.2.2.2.1 (dQ w1).c]) (fun X => ⟨[], [ownL NClient.E 63 X.2.2.2.2.2.1 X.2.2.2.2.2.2.1 (zipG X.2.2.2.2.2.2.2.1 0 (dQ w1).c)]⟩) := by
 refine Dq aK Tryz.func31 Tryz.ntmps31 Tryz.results31 fun C => ?_
 refine Pc EStep y1 w1.h.h.l 88 fun hlen1 => ?_
 refine Pc EPlace y2 w1.h.h.t 24 fun hlen2 => ?_
 refine Pn NPeer y3 w1.h.peers 40 fun hlen3 => ?_
 refine Pc EByte y4 w1.d.safe 1 fun hlen4 => ?_
 refine Pc EByte y5 w1.d.wait 1 fun hlen5 => ?_
 refine Pn NClient y6 w1.c 128 fun hlen6 => ?_
 refine Pn NMail y7 w1.mail 280 fun hlen7 => ?_
 refine BxT fun g1 => ?_
 refine AlT fun g2 => ?_
 refine dD ?_
 (repeat refine aD ?_); refine ap (fun j => match j with | 10 => some [g1] | 12 => some [g1] | 14 => some [g1] | _ => some []) ?_
 refine Dx [0,1,3,4,6,7] ?_
 refine Rn 2 ?_
 refine Cm (lH y1 y2 y3 w1.h) fun x1 => ?_
 refine Pr EStep x1.1 w1.h.h.l 88 fun hlen8 => ?_
 refine Pr EPlace x1.2.1 w1.h.h.t 24 fun hlen9 => ?_
 refine Ra 9 rfl Qp ?_
 refine Rn 5 ?_
 refine fl NClient (X := y6) (l := w1.c) Mm fun (γ1 : Nat → SlV × SlV × SlV × SlV) => ?_
 refine Cm (jA y6 γ1 w1.c) fun x2 => ?_
 refine Rn 8 ?_
 refine Cm (gI y7 w1.mail) fun x3 => ?_
 refine Rn 10 ?_
 refine Wp ?_
 refine Ra 11 rfl Qp ?_
 refine Rn 12 ?_
 refine W1 ?_
 refine Ra 13 rfl Qp ?_
 refine Rn 14 ?_
 refine W1 ?_
 refine Re0 ?_
 (repeat refine aD ?_); refine ap (fun j => match j with | 10 => some [g1] | _ => some []) ?_
 refine Dx [0,1,2,4,5,6] ?_
 refine Rn 3 ?_
 refine Cm (cr y4 w1.d.safe) fun x4 => ?_
 refine Rn 7 ?_
 refine Cm (cr y5 w1.d.wait) fun x5 => ?_
 refine Dx [8,9] ?_
 refine Rn 10 ?_
 refine Wp ?_
 refine Re0 ?_
 refine Lq (List Client × (Nat → SlV × SlV × SlV × SlV) × Nat) [1,2,29] [true, false] (fun ⟨l1, γ2, n1⟩ => ⟨[(28, .v (x2.1.val l1.length)), (30, .v (.int .i64 (n1 : Int)))], [⟨g1, 37, [x1.1.val w1.h.h.l.length, x1.2.1.val w1.h.h.t.length, .int .i64 w1.h.version, x1.2.2.1.val w1.h.peers.length, x4.1.val w1.d.safe.length, x5.1.val w1.d.wait.length, .bool w1.up, x2.1.val l1.length, x3.1.val w1.mail.length]⟩], [ownL NClient.E 63 x2.1 x2.2 (zipG γ2 0 l1), ownL NPeer.E 84 x1.2.2.1 x1.2.2.2.1 (zipG x1.2.2.2.2 0 w1.h.peers), ownL EByte 5 x4.1 x4.2 w1.d.safe, ownL EByte 5 x5.1 x5.2 w1.d.wait, ownL NMail.E 108 x3.1 x3.2.1 (zipG x3.2.2 0 w1.mail)], [FactsG NClient γ2 l1], (n1 ≤ w1.c.length) ∧ (l1.length = w1.c.length) ∧ (dX w1 (w1.c.drop n1) n1 l1) = (dQ w1), w1.c.length - n1⟩) ⟨w1.c, γ1, 0⟩ ⟨Nat.zero_le _, rfl, (by simp only [dQ, Cf] : (dQ w1) = (dX w1 w1.c 0 w1.c)).symm⟩ ?_
 rintro ⟨l1, γ2, n1⟩ ⟨hkn1, hll, hf1⟩
 simp only [Lc]
 refine Cu (fun hlt0 => ?_) fun hge0 => ?_
 ·refine Tx ?_
  refine Oq NClient.E x2.1 (zipG γ2 0 l1) .sq (fm NClient γ2 n1 rfl rfl Zf rfl Zf rfl rfl rfl (.head _) rfl Zf Za) ?_
  refine Oq NClient.E x2.1 (zipG γ2 0 l1) .sq (q_is (v' := .agg ⟨cC (γ2 n1).1 (γ2 n1).2.1 (γ2 n1).2.2.1 (γ2 n1).2.2.2 (gt l1 n1)⟩) (fY NClient γ2 rfl rfl Zf rfl rfl (.head _) Za) rfl) ?_
  refine Fg NClient γ2 l1 n1 0 ?_
  refine Fg NClient γ2 l1 n1 1 ?_
  refine Fg NClient γ2 l1 n1 2 ?_
  refine Fg NClient γ2 l1 n1 3 ?_
  refine AlT fun g3 => ?_
  refine Tx ?_
  (repeat refine aD ?_); refine ap (fun j => match j with | 6 => some x2.2.toList | _ => some []) ?_
  refine Dx [0,1,2,3] ?_
  refine Rn 4 ?_
  refine Cm (ik (γ2 n1).1 (γ2 n1).2.1 (γ2 n1).2.2.1 (γ2 n1).2.2.2 (gt l1 n1)) fun x8 => ?_
  refine Pr EInt x8.2.2.1 (gt l1 n1).v.roots 8 fun hlen10 => ?_
  refine Pr EPlace x8.2.2.2.1 (gt l1 n1).v.known 24 fun hlen11 => ?_
  refine Pr EPlace x8.2.2.2.2 (gt l1 n1).v.way 24 fun hlen12 => ?_
  refine Oq NClient.E x2.1 (zipG γ2 0 l1) (Fa 5 []) (fm NClient γ2 n1 rfl rfl Zf rfl Zf rfl rfl rfl (.head _) rfl Zf Za) ?_
  refine Rn 6 ?_
  refine rw_le (ar EOp 76 x8.1 x8.2.1 (gt l1 n1).pending Uo) ?_
  refine Wn NClient γ2 l1 n1 0 (x8.1, x8.2.2.1, x8.2.2.2.1, x8.2.2.2.2) (gt l1 n1) x2.2 ?_
  refine Fu NClient γ2 l1 n1 (x8.1, x8.2.2.1, x8.2.2.2.1, x8.2.2.2.2) (gt l1 n1) ?_
  have hv1 : x2.1.val l1.length = x2.1.val (l1.set n1 (gt l1 n1)).length := congrArg (SlV.val x2.1) List.length_set.symm
  (try simp only [cB, cC, cW]); try rw [hv1]
  refine Re0 ?_
  refine Tt ?_
  refine ⟨⟨(l1.set n1 (gt l1 n1)), (updG γ2 n1 (x8.1, x8.2.2.1, x8.2.2.2.1, x8.2.2.2.2)), (n1 + 1)⟩, ⟨hlt0, (by (try simp only [List.length_set]); omega), (by rw [← hf1, bd hlt0]; simp only [dX, Cf] : (dQ w1) = (dX w1 (w1.c.drop (n1 + 1)) (n1 + 1) (l1.set n1 (gt l1 n1)))).symm⟩, Oo, Le4⟩
 ·refine Tx ?_
  refine cw_le (ar NPeer.E 84 x1.2.2.1 x1.2.2.2.1 (zipG x1.2.2.2.2 0 w1.h.peers) Uo) ?_
  refine Fj NPeer x1.2.2.1 x1.2.2.2.2 w1.h.peers ?_
  refine cw_le (ar EByte 5 x4.1 x4.2 w1.d.safe Uo) ?_
  refine cw_le (ar EByte 5 x5.1 x5.2 w1.d.wait Uo) ?_
  refine cw_le (ar NMail.E 108 x3.1 x3.2.1 (zipG x3.2.2 0 w1.mail) Uo) ?_
  refine Fj NMail x3.1 x3.2.2 w1.mail ?_
  have hf := Ri hf1.symm
  rw [List.drop_of_length_le hge0, dX] at hf
  refine Rx ?_; exact Re ⟨x1.1, x1.2.1, x1.2.2.1, x4.1, x5.1, x2.1, x2.2, γ2, x3.1⟩ Rv
theorem kn (w : Wld) : ∀ (r : List Client) (n : Nat) (l : List Client), dX w r n l = ⟨w.h, w.d, w.up, l, w.mail⟩
 | [], _, _ => rfl
 | _ :: r, n, l => by
  have : l.set n (gt l n) = l := by
   by_cases h : n < l.length
   ·rw [gt_eq h]; exact List.set_getElem_self h
   ·exact List.set_eq_of_length_le (Nat.le_of_not_lt h)
  rw [dX, this]; exact kn w r (n + 1) l
theorem pt (w : Wld) : dQ w = w := kn w _ 0 w.c
theorem ia (y1 : SlV) (y2 : SlV) (y3 : SlV) (y4 : SlV) (y5 : SlV) (y6 : SlV) (y7 : SlV) (w1 : Wld) : DoesG Tryz.prog 31 [.agg ⟨cW y1 y2 y3 y4 y5 y6 y7 w1⟩] [RdL EStep y1 w1.h.h.l, RdL EPlace y2 w1.h.h.t, RdN NPeer y3 w1.h.peers, RdL EByte y4 w1.d.safe, RdL EByte y5 w1.d.wait, RdN NClient y6 w1.c, RdN NMail y7 w1.mail] ⟨[], []⟩ (fun (X : SlV × SlV × SlV × SlV × SlV × SlV × Option Nat × (Nat → SlV × SlV × SlV × SlV) × SlV) => .agg ⟨cW X.1 X.2.1 X.2.2.1 X.2.2.2.1 X.2.2.2.2.1 X.2.2.2.2.2.1 X.2.2.2.2.2.2.2.2 w1⟩) (fun X => [RdL EStep X.1 w1.h.h.l, RdL EPlace X.2.1 w1.h.h.t, RdN NPeer X.2.2.1 w1.h.peers, RdL EByte X.2.2.2.1 w1.d.safe, RdL EByte X.2.2.2.2.1 w1.d.wait, RdN NMail X.2.2.2.2.2.2.2.2 w1.mail, FactsG NClient X.2.2.2.2.2.2.2.1 w1.c]) (fun X => ⟨[], [ownL NClient.E 63 X.2.2.2.2.2.1 X.2.2.2.2.2.2.1 (zipG X.2.2.2.2.2.2.2.1 0 w1.c)]⟩) := by
 have := nK y1 y2 y3 y4 y5 y6 y7 w1
 rw [pt] at this
 exact this
def cz (f1 : Int → Bool) : List Int → Nat → Int
 | [], n1 => (-1)
 | pn1 :: rn1, n1 => (bif (f1 pn1) then (n1 : Int) else (cz f1 rn1 (n1 + 1)))
def dC (s1 : List Int) (f1 : Int → Bool) : Int :=
 (cz f1 s1 0)
theorem iI (y1 : SlV) (s1 : List Int) (f2 : Nat) (caps1 : List Value) (pre1 : List Pred) [StabL pre1] (f1 : Int → Bool) (hfb1 : tab.fnb f2 = true) (hfn1 : ∀ (a0_ : Int), Does Tryz.prog f2 ([.int .i64 a0_] ++ caps1) pre1 (fun (_ : Unit) => .bool (f1 a0_)) (fun _ => [])) : Does Tryz.prog 95 [y1.val s1.length, .func (.func f2) #[] ⟨caps1⟩] (RdL EInt y1 s1 :: pre1) (fun (_ : Unit) => .int .i64 (dC s1 f1)) (fun _ => []) := by
 refine Dp aK Tryz.func95 Tryz.ntmps95 Tryz.results95 fun C => ?_
 refine dx (φ := s1.length * 8 ≤ 140737488355328) [RdL EInt y1 s1] Sf (fun M w h => (allF1 h).len) fun hlen1 => ?_
 refine Lq Nat [0,1,4,7] [] (fun n1 => ⟨[(8, .v (.int .i64 (n1 : Int)))], [], [], [], (n1 ≤ s1.length) ∧ (cz f1 (s1.drop n1) n1) = (dC s1 f1), s1.length - n1⟩) 0 ⟨Nat.zero_le _, (by simp only [dC, Cf] : (dC s1 f1) = (cz f1 s1 0)).symm⟩ ?_
 rintro n1 ⟨hkn1, hf1⟩
 simp only [Lc]
 refine Cu (fun hlt0 => ?_) fun hge0 => ?_
 ·refine Sy Tz (Xi EInt n1) ?_
  refine Sq (X1 EInt) ?_
  refine gv (hfn1 (gt s1 n1)) .sq (al rfl) rfl rfl rfl rfl rfl (by assumption) rfl rfl rfl Sf ?_
  intro _
  refine dD ?_
  have hf := Ri hf1.symm
  rw [bd hlt0, cz] at hf
  refine Ch hf (fun hc2 hf => ?_) fun hc2 hf => ?_
  ·refine Tx ?_
   refine di ?_
   rw [hf.to]
   exact ⟨(), _, (.cons (.tmp rfl) .nil), rfl, Sf, .nil _, .nil _⟩
  ·refine Tt ?_
   refine ⟨(n1 + 1), ⟨hlt0, hf.symm⟩, Oo, Le5⟩
 ·refine Tx ?_
  have hf := Ri hf1.symm
  rw [List.drop_of_length_le hge0, cz] at hf
  refine di ?_
  rw [hf.to]
  exact ⟨(), _, (.cons (.tmp rfl) .nil), rfl, Sf, .nil _, .nil _⟩
def ey (s1 : List Int) (f1 : Int → Bool) : Bool :=
 decide ((dC s1 f1) ≥ 0)
theorem gX (y1 : SlV) (s1 : List Int) (f2 : Nat) (caps1 : List Value) (pre1 : List Pred) [StabL pre1] (f1 : Int → Bool) (hfb1 : tab.fnb f2 = true) (hfn1 : ∀ (a0_ : Int), Does Tryz.prog f2 ([.int .i64 a0_] ++ caps1) pre1 (fun (_ : Unit) => .bool (f1 a0_)) (fun _ => [])) : Does Tryz.prog 39 [y1.val s1.length, .func (.func f2) #[] ⟨caps1⟩] (RdL EInt y1 s1 :: pre1) (fun (_ : Unit) => .bool (ey s1 f1)) (fun _ => []) := by
 refine Dp aK Tryz.func39 Tryz.ntmps39 Tryz.results39 fun C => ?_
 refine dx (φ := s1.length * 8 ≤ 140737488355328) [RdL EInt y1 s1] Sf (fun M w h => (allF1 h).len) fun hlen1 => ?_
 refine Ck (iI y1 s1 _ _ _ f1 (by assumption) hfn1) fun _ => ?_
 refine Tx ?_
 have hf := Ri (ey.eq_1 s1 f1)
 refine di ?_
 rw [hf.to]
 exact ⟨(), _, (.cons (.tmp rfl) .nil), rfl, Sf, .nil _, .nil _⟩
def cx  : List Client → Nat → Int
 | [], n1 => 0
 | pn1 :: rn1, n1 => (bif ((bm pn1 (n1 : Int)) != 0) then (bm pn1 (n1 : Int)) else (cx rn1 (n1 + 1)))
def aR (w1 : Wld) : Int :=
 (bif ((w1.c.length : Int) != 3) then 4 else (bif ((bJ w1.mail) != 0) then (bJ w1.mail) else (bif ((am w1.d).2.2 != 0) then (am w1.d).2.2 else (bif (w1.up && decide ((w1.d.wait.length : Int) > 0)) then 4 else (bif (!w1.up) then (bif ((aq ([] : List Rec)).2 != 0) then (aq ([] : List Rec)).2 else (bif (!(gA (aq ([] : List Rec)).1 w1.h)) then 4 else (cx w1.c 0))) else (bif ((aq (am w1.d).2.1).2 != 0) then (aq (am w1.d).2.1).2 else (bif (!(gA (aq (am w1.d).2.1).1 w1.h)) then 4 else (cx w1.c 0))))))))
theorem f4 (y1 : SlV) (y2 : SlV) (y3 : SlV) (y4 : SlV) (y5 : SlV) (y6 : SlV) (y7 : SlV) (w1 : Wld) : Does Tryz.prog 14 [.agg ⟨cW y1 y2 y3 y4 y5 y6 y7 w1⟩] [RdL EStep y1 w1.h.h.l, RdL EPlace y2 w1.h.h.t, RdN NPeer y3 w1.h.peers, RdL EByte y4 w1.d.safe, RdL EByte y5 w1.d.wait, RdN NClient y6 w1.c, RdN NMail y7 w1.mail, LibP Tryz.prog] (fun (_ : Unit) => .int .i64 (aR w1)) (fun _ => []) := by
 refine Dp aK Tryz.func14 Tryz.ntmps14 Tryz.results14 fun C => ?_
 refine Pc EStep y1 w1.h.h.l 88 fun hlen1 => ?_
 refine Pc EPlace y2 w1.h.h.t 24 fun hlen2 => ?_
 refine Pn NPeer y3 w1.h.peers 40 fun hlen3 => ?_
 refine Pc EByte y4 w1.d.safe 1 fun hlen4 => ?_
 refine Pc EByte y5 w1.d.wait 1 fun hlen5 => ?_
 refine Pn NClient y6 w1.c 128 fun hlen6 => ?_
 refine Pn NMail y7 w1.mail 280 fun hlen7 => ?_
 refine BxT fun g1 => ?_
 have hf := Ri (aR.eq_1 w1)
 refine Cn hf (fun hc1 hc1p hf => ?_) fun hc1 hc1p hf => ?_
 ·exact Ru
 ·refine Ck (fR y7 w1.mail) fun _ => ?_
  refine Cn hf (fun hc2 hc2p hf => ?_) fun hc2 hc2p hf => ?_
  ·exact Ru
  ·refine Ck (eI y4 y5 w1.d) fun x1 => ?_
   refine AlT fun g2 => ?_
   refine Cn hf (fun hc3 hc3p hf => ?_) fun hc3 hc3p hf => ?_
   ·exact Ru
   ·refine Ch hf (fun hc4 hf => ?_) fun hc4 hf => ?_
    ·exact Ru
    ·refine Ch hf (fun hc5 hf => ?_) fun hc5 hf => ?_
     ·refine Tx ?_
      refine Fm NRec ?_
      refine Ck (fE Z0 ([] : List Rec)) fun x2 => ?_
      refine AlT fun g3 => ?_
      refine Cn hf (fun hc6 hc6p hf => ?_) fun hc6 hc6p hf => ?_
      ·exact Ru
      ·refine Ck (mg x2.1 x2.2.1 x2.2.2 (aq ([] : List Rec)).1 y1 y2 y3 w1.h) fun _ => ?_
       generalize hS1 : (gA (aq ([] : List Rec)).1 w1.h) = S1
       try rw [hS1] at hf
       refine Ch hf (fun hc7 hf => ?_) fun hc7 hf => ?_
       ·exact Ru
       ·refine Lq Nat [2,57,58] [true, true, true] (fun n1 => ⟨[(59, .v (.int .i64 (n1 : Int)))], [], [], [], (n1 ≤ w1.c.length) ∧ (cx (w1.c.drop n1) n1) = (aR w1), w1.c.length - n1⟩) 0 ⟨Nat.zero_le _, hf.symm⟩ ?_
        rintro n1 ⟨hkn1, hf1⟩
        simp only [Lc]
        refine Cu (fun hlt0 => ?_) fun hge0 => ?_
        ·refine Tx ?_
         refine fl NClient (X := y6) (l := w1.c) Mm fun (γ1 : Nat → SlV × SlV × SlV × SlV) => ?_
         refine Sq (Xn NClient n1) ?_
         refine Sq (q_is (v' := .agg ⟨cC (γ1 n1).1 (γ1 n1).2.1 (γ1 n1).2.2.1 (γ1 n1).2.2.2 (gt w1.c n1)⟩) (fY NClient γ1 rfl rfl Zf rfl rfl Mm (fun _ => by first | assumption | omega)) rfl) ?_
         refine Fg NClient γ1 w1.c n1 0 ?_
         refine Fg NClient γ1 w1.c n1 1 ?_
         refine Fg NClient γ1 w1.c n1 2 ?_
         refine Fg NClient γ1 w1.c n1 3 ?_
         refine AlT fun g4 => ?_
         refine Ck (fN (γ1 n1).1 (γ1 n1).2.1 (γ1 n1).2.2.1 (γ1 n1).2.2.2 (gt w1.c n1) (n1 : Int)) fun _ => ?_
         generalize hS2 : (bm (gt w1.c n1) (n1 : Int)) = S2
         have hf := Ri hf1.symm
         rw [bd hlt0, cx] at hf
         try rw [hS2] at hf
         refine Cn hf (fun hc9 hc9p hf => ?_) fun hc9 hc9p hf => ?_
         ·exact Ru
         ·refine Tt ?_
          refine ⟨(n1 + 1), ⟨hlt0, hf.symm⟩, Oo, Le4⟩
        ·have hf := Ri hf1.symm
         rw [List.drop_of_length_le hge0, cx] at hf
         exact Ru
     ·refine Ck (fE x1.2.2 (am w1.d).2.1) fun x3 => ?_
      generalize hS3 : (aq (am w1.d).2.1) = S3
      try rw [hS3] at hf
      refine AlT fun g5 => ?_
      refine Cn hf (fun hc10 hc10p hf => ?_) fun hc10 hc10p hf => ?_
      ·exact Ru
      ·refine Ck (mg x3.1 x3.2.1 x3.2.2 S3.1 y1 y2 y3 w1.h) fun _ => ?_
       refine Ch hf (fun hc11 hf => ?_) fun hc11 hf => ?_
       ·exact Ru
       ·refine Lq Nat [2,57,58] [true, true, true] (fun n2 => ⟨[(59, .v (.int .i64 (n2 : Int)))], [], [], [], (n2 ≤ w1.c.length) ∧ (cx (w1.c.drop n2) n2) = (aR w1), w1.c.length - n2⟩) 0 ⟨Nat.zero_le _, hf.symm⟩ ?_
        rintro n2 ⟨hkn2, hf2⟩
        simp only [Lc]
        refine Cu (fun hlt0 => ?_) fun hge0 => ?_
        ·refine Tx ?_
         refine fl NClient (X := y6) (l := w1.c) Mm fun (γ2 : Nat → SlV × SlV × SlV × SlV) => ?_
         refine Sq (Xn NClient n2) ?_
         refine Sq (q_is (v' := .agg ⟨cC (γ2 n2).1 (γ2 n2).2.1 (γ2 n2).2.2.1 (γ2 n2).2.2.2 (gt w1.c n2)⟩) (fY NClient γ2 rfl rfl Zf rfl rfl Mm (fun _ => by first | assumption | omega)) rfl) ?_
         refine Fg NClient γ2 w1.c n2 0 ?_
         refine Fg NClient γ2 w1.c n2 1 ?_
         refine Fg NClient γ2 w1.c n2 2 ?_
         refine Fg NClient γ2 w1.c n2 3 ?_
         refine AlT fun g6 => ?_
         refine Ck (fN (γ2 n2).1 (γ2 n2).2.1 (γ2 n2).2.2.1 (γ2 n2).2.2.2 (gt w1.c n2) (n2 : Int)) fun _ => ?_
         generalize hS4 : (bm (gt w1.c n2) (n2 : Int)) = S4
         have hf := Ri hf2.symm
         rw [bd hlt0, cx] at hf
         try rw [hS4] at hf
         refine Cn hf (fun hc13 hc13p hf => ?_) fun hc13 hc13p hf => ?_
         ·exact Ru
         ·refine Tt ?_
          refine ⟨(n2 + 1), ⟨hlt0, hf.symm⟩, Oo, Le4⟩
        ·have hf := Ri hf2.symm
         rw [List.drop_of_length_le hge0, cx] at hf
         exact Ru
def bf (w1 : Wld) (r1 : Rec) : Int × Wld :=
 (bif ((er w1.h r1).2 != 0) then ((er w1.h r1).2, w1) else (bif ((dT w1.d r1).2 != 0) then ((dT w1.d r1).2, w1) else (bif ((fb (dT w1.d r1).1).2 != 0) then ((fb (dT w1.d r1).1).2, w1) else (0, (⟨(er w1.h r1).1, (fb (dT w1.d r1).1).1, w1.up, w1.c, w1.mail⟩ : Wld)))))
theorem hZ (c1 : Nat) (y1 : SlV) (y2 : SlV) (y3 : SlV) (y4 : SlV) (y5 : SlV) (y6 : SlV) (y6b : Option Nat) (γ1 : Nat → SlV × SlV × SlV × SlV) (y7 : SlV) (w1 : Wld) (y8 : SlV) (r1 : Rec) : DoesG Tryz.prog 135 [.pointer (some ⟨c1, 0, none⟩), .agg ⟨cR y8 r1⟩] [RdL EStep y1 w1.h.h.l, RdL EPlace y2 w1.h.h.t, RdN NPeer y3 w1.h.peers, RdL EByte y4 w1.d.safe, RdL EByte y5 w1.d.wait, FactsG NClient γ1 w1.c, RdN NMail y7 w1.mail, RdL EInt y8 r1.roots, LibP Tryz.prog] ⟨[⟨c1, 37, cW y1 y2 y3 y4 y5 y6 y7 w1⟩], [ownL NClient.E 63 y6 y6b (zipG γ1 0 w1.c)]⟩ (fun (X : SlV × SlV × SlV × SlV × SlV × SlV × Option Nat × (Nat → SlV × SlV × SlV × SlV) × SlV) => .int .i64 (bf w1 r1).1) (fun X => [RdL EStep X.1 (bf w1 r1).2.h.h.l, RdL EPlace X.2.1 (bf w1 r1).2.h.h.t, RdN NPeer X.2.2.1 (bf w1 r1).2.h.peers, RdL EByte X.2.2.2.1 (bf w1 r1).2.d.safe, RdL EByte X.2.2.2.2.1 (bf w1 r1).2.d.wait, FactsG NClient X.2.2.2.2.2.2.2.1 (bf w1 r1).2.c, RdN NMail X.2.2.2.2.2.2.2.2 (bf w1 r1).2.mail]) (fun X => ⟨[⟨c1, 37, cW X.1 X.2.1 X.2.2.1 X.2.2.2.1 X.2.2.2.2.1 X.2.2.2.2.2.1 X.2.2.2.2.2.2.2.2 (bf w1 r1).2⟩], [ownL NClient.E 63 X.2.2.2.2.2.1 X.2.2.2.2.2.2.1 (zipG X.2.2.2.2.2.2.2.1 0 (bf w1 r1).2.c)]⟩) := by
 refine Dq aK Tryz.func135 Tryz.ntmps135 Tryz.results135 fun C => ?_
 refine Pc EInt y8 r1.roots 8 fun hlen1 => ?_
 refine BxT fun g1 => ?_
 refine Tx ?_
 refine Jn (Nat × SlV × SlV × SlV) [0, 3, 4] [true, true] (fun ⟨g2, x1, x2, x3⟩ => ⟨[(5, .v (.pointer (some ⟨g2, 0, none⟩))), (6, .v (.int .i64 (er w1.h r1).2))], [⟨g2, 30, cB x1 x2 x3 (er w1.h r1).1⟩], [ownL NClient.E 63 y6 y6b (zipG γ1 0 w1.c)], [RdL EStep x1 (er w1.h r1).1.h.l, RdL EPlace x2 (er w1.h r1).1.h.t, RdN NPeer x3 (er w1.h r1).1.peers], True, 0⟩) ?_ ?_
 ·refine ap (fun j => match j with | 10 => none | _ => some []) ?_
  refine Dx [0,1,2,3,4] ?_
  refine Rw 5 9 ?_ ?_
  ·refine Ck (mi y1 y2 y3 w1.h y8 r1) fun x4 => ?_
   refine Dx [6,7] ?_
   refine ra_p (Fa 8 [9,10]) rfl rfl rfl Xv ?_
   refine Rn 9 ?_
   refine cw (.an rfl rfl) (al rfl) rfl rfl rfl rfl fun g3 => ?_
   refine Rn 10 ?_
   refine Wa ?_
   refine Ra 11 rfl Qp ?_
   refine Re0 ?_
   refine ⟨⟨g3, x4.1, x4.2.1, x4.2.2⟩, trivial, Le4⟩
  ·refine cw (.an rfl rfl) (al rfl) rfl rfl rfl rfl fun g4 => ?_
   refine Rn 5 ?_
   refine Ck (mi y1 y2 y3 w1.h y8 r1) fun x5 => ?_
   refine Dx [6,7] ?_
   refine ra_p (Fa 8 [10]) rfl rfl rfl Xv ?_
   refine Rn 10 ?_
   refine Wa ?_
   refine Ra 11 rfl Qp ?_
   refine Re0 ?_
   refine ⟨⟨g4, x5.1, x5.2.1, x5.2.2⟩, trivial, Le4⟩
 ·rintro ⟨g2, x1, x2, x3⟩ -
  simp only [Lc]
  have hf := Ri (bf.eq_1 w1 r1)
  refine Cn hf (fun hc1 hc1p hf => ?_) fun hc1 hc1p hf => ?_
  ·refine Rx ?_; exact Re ⟨y1, y2, y3, y4, y5, y6, y6b, γ1, y7⟩ Rv
  ·refine Tx ?_
   refine Jn (Nat × SlV × SlV) [0, 4, 5] [true, true, true] (fun ⟨g5, x6, x7⟩ => ⟨[(6, .v (.int .i64 (dT w1.d r1).2)), (7, .v (.pointer (some ⟨g5, 0, none⟩)))], [⟨g5, 33, cK x6 x7 (dT w1.d r1).1⟩], [ownL NClient.E 63 y6 y6b (zipG γ1 0 w1.c)], [RdL EByte x6 (dT w1.d r1).1.safe, RdL EByte x7 (dT w1.d r1).1.wait], True, 0⟩) ?_ ?_
   ·refine ap (fun j => match j with | 10 => none | _ => some []) ?_
    refine Dx [0,1,2,3,4] ?_
    refine Rw 5 9 ?_ ?_
    ·refine Ck (mt y4 y5 w1.d y8 r1) fun x8 => ?_
     refine Dx [6,7] ?_
     refine ra_p (Fa 8 [9,10]) rfl rfl rfl Xv ?_
     refine Rn 9 ?_
     refine cw (.an rfl rfl) (al rfl) rfl rfl rfl rfl fun g6 => ?_
     refine Rn 10 ?_
     refine Wa ?_
     refine Ra 11 rfl Qp ?_
     refine Re0 ?_
     refine ⟨⟨g6, x8.1, x8.2⟩, trivial, Le4⟩
    ·refine cw (.an rfl rfl) (al rfl) rfl rfl rfl rfl fun g7 => ?_
     refine Rn 5 ?_
     refine Ck (mt y4 y5 w1.d y8 r1) fun x9 => ?_
     refine Dx [6,7] ?_
     refine ra_p (Fa 8 [10]) rfl rfl rfl Xv ?_
     refine Rn 10 ?_
     refine Wa ?_
     refine Ra 11 rfl Qp ?_
     refine Re0 ?_
     refine ⟨⟨g7, x9.1, x9.2⟩, trivial, Le4⟩
   ·rintro ⟨g5, x6, x7⟩ -
    simp only [Lc]
    refine Cn hf (fun hc2 hc2p hf => ?_) fun hc2 hc2p hf => ?_
    ·refine Rx ?_; exact Re ⟨y1, y2, y3, y4, y5, y6, y6b, γ1, y7⟩ Rv
    ·refine Ck (oS x6 x7 (dT w1.d r1).1) fun x10 => ?_
     generalize hS1 : (fb (dT w1.d r1).1) = S1
     try rw [hS1] at hf
     refine Cn hf (fun hc3 hc3p hf => ?_) fun hc3 hc3p hf => ?_
     ·refine Rx ?_; exact Re ⟨y1, y2, y3, y4, y5, y6, y6b, γ1, y7⟩ Rv
     ·refine Tx ?_
      (repeat refine aD ?_); refine ap (fun j => match j with | 6 => none | 9 => none | _ => some []) ?_
      refine Ra 0 rfl Qp ?_
      refine ra_p (Fa 1 [2,3,4,5,6]) rfl rfl rfl Xv ?_
      refine Dx [2,4,5] ?_
      refine Rw 3 6 ?_ ?_
      ·refine ul rfl rfl rfl rfl (q_ldA rfl rfl Zf rfl Mm rfl) ?_
       refine Rn 6 ?_
       refine Wp ?_
       refine Dx [7,8] ?_
       refine Rn 9 ?_
       refine Wp ?_
       refine Re0 ?_
       refine Rx ?_; exact Re ⟨x1, x2, x3, x10.1, x10.2, y6, y6b, γ1, y7⟩ Rv
      ·refine Wp ?_
       refine Dx [3,7,8] ?_
       refine Rn 9 ?_
       refine Wp ?_
       refine Re0 ?_
       refine Rx ?_; exact Re ⟨x1, x2, x3, x10.1, x10.2, y6, y6b, γ1, y7⟩ Rv
def cU (w1 : Wld) (m1 : Mail) : Wld :=
 (bif ((fH w1.mail m1).2 == 0) then (⟨w1.h, w1.d, w1.up, w1.c, (fH w1.mail m1).1⟩ : Wld) else w1)
theorem gn (c1 : Nat) (y1 : SlV) (y2 : SlV) (y3 : SlV) (y4 : SlV) (y5 : SlV) (y6 : SlV) (y6b : Option Nat) (γ1 : Nat → SlV × SlV × SlV × SlV) (y7 : SlV) (w1 : Wld) (y8 : SlV) (y9 : SlV) (y10 : SlV) (y11 : SlV) (y12 : SlV) (y13 : SlV) (y14 : SlV) (m1 : Mail) : DoesG Tryz.prog 138 [.pointer (some ⟨c1, 0, none⟩), .agg ⟨cM y8 y9 y10 y11 y12 y13 y14 m1⟩] [RdL EStep y1 w1.h.h.l, RdL EPlace y2 w1.h.h.t, RdN NPeer y3 w1.h.peers, RdL EByte y4 w1.d.safe, RdL EByte y5 w1.d.wait, FactsG NClient γ1 w1.c, RdN NMail y7 w1.mail, RdL EInt y8 m1.v.roots, RdL EPlace y9 m1.v.known, RdL EPlace y10 m1.v.way, RdL EInt y11 m1.d.gone, RdL EPlace y12 m1.d.here, RdL EInt y13 m1.d.wayGone, RdL EPlace y14 m1.d.wayHere, LibP Tryz.prog] ⟨[⟨c1, 37, cW y1 y2 y3 y4 y5 y6 y7 w1⟩], [ownL NClient.E 63 y6 y6b (zipG γ1 0 w1.c)]⟩ (fun (X : SlV × SlV × SlV × SlV × SlV × SlV × Option Nat × (Nat → SlV × SlV × SlV × SlV) × SlV) => .tuple #[]) (fun X => [RdL EStep X.1 (cU w1 m1).h.h.l, RdL EPlace X.2.1 (cU w1 m1).h.h.t, RdN NPeer X.2.2.1 (cU w1 m1).h.peers, RdL EByte X.2.2.2.1 (cU w1 m1).d.safe, RdL EByte X.2.2.2.2.1 (cU w1 m1).d.wait, FactsG NClient X.2.2.2.2.2.2.2.1 (cU w1 m1).c, RdN NMail X.2.2.2.2.2.2.2.2 (cU w1 m1).mail]) (fun X => ⟨[⟨c1, 37, cW X.1 X.2.1 X.2.2.1 X.2.2.2.1 X.2.2.2.2.1 X.2.2.2.2.2.1 X.2.2.2.2.2.2.2.2 (cU w1 m1)⟩], [ownL NClient.E 63 X.2.2.2.2.2.1 X.2.2.2.2.2.2.1 (zipG X.2.2.2.2.2.2.2.1 0 (cU w1 m1).c)]⟩) := by
 refine Dq aK Tryz.func138 Tryz.ntmps138 Tryz.results138 fun C => ?_
 refine Pc EInt y8 m1.v.roots 8 fun hlen1 => ?_
 refine Pc EPlace y9 m1.v.known 24 fun hlen2 => ?_
 refine Pc EPlace y10 m1.v.way 24 fun hlen3 => ?_
 refine Pc EInt y11 m1.d.gone 8 fun hlen4 => ?_
 refine Pc EPlace y12 m1.d.here 24 fun hlen5 => ?_
 refine Pc EInt y13 m1.d.wayGone 8 fun hlen6 => ?_
 refine Pc EPlace y14 m1.d.wayHere 24 fun hlen7 => ?_
 refine BxT fun g1 => ?_
 refine dD ?_
 (repeat refine aD ?_); refine ap (fun _ => some []) ?_
 refine Dx [0,1,2,3,4] ?_
 refine Rn 5 ?_
 refine Ck (pu y7 w1.mail y8 y9 y10 y11 y12 y13 y14 m1) fun x1 => ?_
 refine Dx [6,7,8,9,10] ?_
 refine Re0 ?_
 have hf := Ri (cU.eq_1 w1 m1)
 refine Ce hf (fun hc1 hc1p hf => ?_) fun hc1 hc1p hf => ?_
 ·refine Tx ?_
  rw [hf.to]
  exact ⟨⟨y1, y2, y3, y4, y5, y6, y6b, γ1, x1⟩, _, .nil, rfl, Sm, Sp, Sp⟩
 ·refine Tx ?_
  rw [hf.to]
  exact ⟨⟨y1, y2, y3, y4, y5, y6, y6b, γ1, y7⟩, _, .nil, rfl, Sm, Sp, Sp⟩
def cZ (h1 : Hub) : Int :=
 (bif decide ((h1.h.l.length : Int) > 0) then (gt h1.h.l (h1.h.l.length - 1)).o.time else 0)
theorem kf (y1 : SlV) (y2 : SlV) (y3 : SlV) (h1 : Hub) : Does Tryz.prog 181 [.agg ⟨cB y1 y2 y3 h1⟩] [RdL EStep y1 h1.h.l, RdL EPlace y2 h1.h.t, RdN NPeer y3 h1.peers] (fun (_ : Unit) => .int .i64 (cZ h1)) (fun _ => []) := by
 refine Dp aK Tryz.func181 Tryz.ntmps181 Tryz.results181 fun C => ?_
 refine Pc EStep y1 h1.h.l 88 fun hlen1 => ?_
 refine Pc EPlace y2 h1.h.t 24 fun hlen2 => ?_
 refine Pn NPeer y3 h1.peers 40 fun hlen3 => ?_
 refine BxT fun g1 => ?_
 have hf := Ri (cZ.eq_1 h1)
 refine Cp hf (fun hc1 hc1p hf => ?_) fun hc1 hc1p hf => ?_
 ·refine Sy Tz (Xi EStep (h1.h.l.length - 1)) ?_
  refine Sq Xf ?_
  refine Sq Xf ?_
  refine Sq Xf ?_
  refine Sq (X1 EStep) ?_
  exact Ru
 ·exact Ru
def dk (w1 : Wld) (x1 : Happening) : Int × Wld :=
 (bif ((aV w1.h x1.who).2 != 0) then ((aV w1.h x1.who).2, w1) else (bif ((gt w1.h.peers x1.who.toNat).life == 0) then (7, w1) else (bif (x1.kind == 4) then (bif (decide (x1.n < 0) || decide (x1.n ≥ w1.h.version)) then (3, w1) else (bif ((am w1.d).2.2 != 0) then ((am w1.d).2.2, w1) else (bif ((aq ((am w1.d).2.1.take x1.n.toNat)).2 != 0) then ((aq ((am w1.d).2.1.take x1.n.toNat)).2, w1) else (bif (((gt (aq ((am w1.d).2.1.take x1.n.toNat)).1.peers x1.who.toNat).life != (gt w1.h.peers x1.who.toNat).life) || (!(decide ((gt (aq ((am w1.d).2.1.take x1.n.toNat)).1.peers x1.who.toNat).roots = (gt w1.h.peers x1.who.toNat).roots)))) then (7, w1) else (bif ((aV (aq ((am w1.d).2.1.take x1.n.toNat)).1 x1.who).2 != 0) then ((aV (aq ((am w1.d).2.1.take x1.n.toNat)).1 x1.who).2, w1) else (bif ((du (aV (aq ((am w1.d).2.1.take x1.n.toNat)).1 x1.who).1 (aV w1.h x1.who).1).2 != 0) then ((du (aV (aq ((am w1.d).2.1.take x1.n.toNat)).1 x1.who).1 (aV w1.h x1.who).1).2, w1) else (0, (cU w1 (⟨3, x1.who, (gt w1.h.peers x1.who.toNat).life, (gt w1.h.peers x1.who.toNat).seq, (cZ w1.h), w1.h.version, x1.n, (⟨0, 0, 0, 0, 0, 0, 0⟩ : Op), (⟨[], [], []⟩ : View), (du (aV (aq ((am w1.d).2.1.take x1.n.toNat)).1 x1.who).1 (aV w1.h x1.who).1).1⟩ : Mail))))))))) else (0, (cU w1 (⟨2, x1.who, (gt w1.h.peers x1.who.toNat).life, (gt w1.h.peers x1.who.toNat).seq, (cZ w1.h), w1.h.version, 0, (⟨0, 0, 0, 0, 0, 0, 0⟩ : Op), (aV w1.h x1.who).1, (⟨[], [], [], []⟩ : Delta)⟩ : Mail))))))
theorem nJ (c1 : Nat) (y1 : SlV) (y2 : SlV) (y3 : SlV) (y4 : SlV) (y5 : SlV) (y6 : SlV) (y6b : Option Nat) (γ1 : Nat → SlV × SlV × SlV × SlV) (y7 : SlV) (w1 : Wld) (y8 : SlV) (x1 : Happening) (hv : w1.h.version ≤ ((am w1.d).2.1.length : Int)) : DoesG Tryz.prog 140 [.pointer (some ⟨c1, 0, none⟩), .agg ⟨cA y8 x1⟩] [RdL EStep y1 w1.h.h.l, RdL EPlace y2 w1.h.h.t, RdN NPeer y3 w1.h.peers, RdL EByte y4 w1.d.safe, RdL EByte y5 w1.d.wait, FactsG NClient γ1 w1.c, RdN NMail y7 w1.mail, RdL EInt y8 x1.roots, LibP Tryz.prog] ⟨[⟨c1, 37, cW y1 y2 y3 y4 y5 y6 y7 w1⟩], [ownL NClient.E 63 y6 y6b (zipG γ1 0 w1.c)]⟩ (fun (X : SlV × SlV × SlV × SlV × SlV × SlV × Option Nat × (Nat → SlV × SlV × SlV × SlV) × SlV) => .int .i64 (dk w1 x1).1) (fun X => [RdL EStep X.1 (dk w1 x1).2.h.h.l, RdL EPlace X.2.1 (dk w1 x1).2.h.h.t, RdN NPeer X.2.2.1 (dk w1 x1).2.h.peers, RdL EByte X.2.2.2.1 (dk w1 x1).2.d.safe, RdL EByte X.2.2.2.2.1 (dk w1 x1).2.d.wait, FactsG NClient X.2.2.2.2.2.2.2.1 (dk w1 x1).2.c, RdN NMail X.2.2.2.2.2.2.2.2 (dk w1 x1).2.mail]) (fun X => ⟨[⟨c1, 37, cW X.1 X.2.1 X.2.2.1 X.2.2.2.1 X.2.2.2.2.1 X.2.2.2.2.2.1 X.2.2.2.2.2.2.2.2 (dk w1 x1).2⟩], [ownL NClient.E 63 X.2.2.2.2.2.1 X.2.2.2.2.2.2.1 (zipG X.2.2.2.2.2.2.2.1 0 (dk w1 x1).2.c)]⟩) := by
 refine Dq aK Tryz.func140 Tryz.ntmps140 Tryz.results140 fun C => ?_
 refine Pc EInt y8 x1.roots 8 fun hlen1 => ?_
 refine BxT fun g1 => ?_
 refine Tx ?_
 refine Jn (Nat × SlV × SlV × SlV) [0, 3, 4] [true, true] (fun ⟨g2, x2, x3, x4⟩ => ⟨[(5, .v (.pointer (some ⟨g2, 0, none⟩))), (6, .v (.int .i64 (aV w1.h x1.who).2))], [⟨g2, 61, cV x2 x3 x4 (aV w1.h x1.who).1⟩], [ownL NClient.E 63 y6 y6b (zipG γ1 0 w1.c)], [RdL EInt x2 (aV w1.h x1.who).1.roots, RdL EPlace x3 (aV w1.h x1.who).1.known, RdL EPlace x4 (aV w1.h x1.who).1.way], True, 0⟩) ?_ ?_
 ·refine ap (fun j => match j with | 11 => none | _ => some []) ?_
  refine Dx (.range 6) ?_
  refine Rw 6 10 ?_ ?_
  ·refine Ck (kg y1 y2 y3 w1.h x1.who) fun x5 => ?_
   refine Dx [7,8] ?_
   refine ra_p (Fa 9 [10,11]) rfl rfl rfl Xv ?_
   refine Rn 10 ?_
   refine cw (.an rfl rfl) (al rfl) rfl rfl rfl rfl fun g3 => ?_
   refine Rn 11 ?_
   refine Wa ?_
   refine Ra 12 rfl Qp ?_
   refine Re0 ?_
   refine ⟨⟨g3, x5.1, x5.2.1, x5.2.2⟩, trivial, Le4⟩
  ·refine cw (.an rfl rfl) (al rfl) rfl rfl rfl rfl fun g4 => ?_
   refine Rn 6 ?_
   refine Ck (kg y1 y2 y3 w1.h x1.who) fun x6 => ?_
   refine Dx [7,8] ?_
   refine ra_p (Fa 9 [11]) rfl rfl rfl Xv ?_
   refine Rn 11 ?_
   refine Wa ?_
   refine Ra 12 rfl Qp ?_
   refine Re0 ?_
   refine ⟨⟨g4, x6.1, x6.2.1, x6.2.2⟩, trivial, Le4⟩
 ·rintro ⟨g2, x2, x3, x4⟩ -
  simp only [Lc]
  have hf := Ri (dk.eq_1 w1 x1)
  refine Cn hf (fun hc1 hc1p hf => ?_) fun hc1 hc1p hf => ?_
  ·refine Rx ?_; exact Re ⟨y1, y2, y3, y4, y5, y6, y6b, γ1, y7⟩ Rv
  ·have hse := kh (ai hc1)
   refine Tx ?_
   (repeat refine aD ?_); refine ap (fun j => match j with | 10 => none | _ => some []) ?_
   refine Dx (.range 7) ?_
   refine fl NPeer (X := y3) (l := w1.h.peers) Mm fun (γ2 : Nat → SlV) => ?_
   refine Ra 7 rfl (Xn NPeer x1.who.toNat) ?_
   refine Ra 8 rfl (q_is (v' := .agg ⟨cE (γ2 x1.who.toNat) (gt w1.h.peers x1.who.toNat)⟩) (fY NPeer γ2 rfl rfl Zf rfl rfl Mm (fun _ => by first | assumption | omega)) rfl) ?_
   refine Fg NPeer γ2 w1.h.peers x1.who.toNat 0 ?_
   refine Rn 9 ?_
   refine cw (.an rfl rfl) (al rfl) rfl rfl rfl rfl fun g5 => ?_
   refine Rn 10 ?_
   refine Wa ?_
   refine Re0 ?_
   refine Ce hf (fun hc2 hc2p hf => ?_) fun hc2 hc2p hf => ?_
   ·refine Rx ?_; exact Re ⟨y1, y2, y3, y4, y5, y6, y6b, γ1, y7⟩ Rv
   ·refine Tx ?_
    refine pV [0, 3, 4, 5, 7] [true, true, true, true] (fun (g6 : Nat) => [(8, .v (.pointer (some ⟨g6, 0, none⟩)))]) (fun (g6 : Nat) => [⟨g6, 108, [.int .i64 2, .int .i64 x1.who, .int .i64 (gt w1.h.peers x1.who.toNat).life, .int .i64 (gt w1.h.peers x1.who.toNat).seq, .int .i64 (cZ w1.h), .int .i64 w1.h.version, .int .i64 0, .int .i64 0, .int .i64 0, .int .i64 0, .int .i64 0, .int .i64 0, .int .i64 0, .int .i64 0, x2.val (aV w1.h x1.who).1.roots.length, x3.val (aV w1.h x1.who).1.known.length, x4.val (aV w1.h x1.who).1.way.length, .slice none 0 0, .slice none 0 0, .slice none 0 0, .slice none 0 0]⟩]) (fun (g6 : Nat) => [ownL NClient.E 63 y6 y6b (zipG γ1 0 w1.c)]) (fun (g6 : Nat) => [RdL EInt x2 (aV w1.h x1.who).1.roots, RdL EPlace x3 (aV w1.h x1.who).1.known, RdL EPlace x4 (aV w1.h x1.who).1.way]) (fun _ => True) (.cons rfl (.cons rfl (.cons rfl (.cons rfl (.cons rfl (.nil _)))))) (.keep (.keep (.keep (.keep (.nil))))) ?_ ?_
    ·refine ap (fun j => match j with | 19 => none | _ => some []) ?_
     refine Dx [0,1,2,3,4,5,6,7,8,9,11,12,13,14,15,16] ?_
     refine Rw 10 18 ?_ ?_
     ·refine Ck (kf y1 y2 y3 w1.h) fun _ => ?_
      refine Ra 17 rfl Qp ?_
      refine Rn 18 ?_
      refine cw (.an rfl rfl) (al rfl) rfl rfl rfl rfl fun g7 => ?_
      refine Rn 19 ?_
      refine Wa ?_
      refine Re0 ?_
      refine ⟨g7, trivial, Le4⟩
     ·refine cw (.an rfl rfl) (al rfl) rfl rfl rfl rfl fun g8 => ?_
      refine Rn 10 ?_
      refine Ck (kf y1 y2 y3 w1.h) fun _ => ?_
      refine Ra 17 rfl Qp ?_
      refine Rn 19 ?_
      refine Wa ?_
      refine Re0 ?_
      refine ⟨g8, trivial, Le4⟩
    ·rintro g6 -
     simp only [Lc]
     refine Ce hf (fun hc3 hc3p hf => ?_) fun hc3 hc3p hf => ?_
     ·(repeat refine aD ?_); refine ap (fun _ => some []) ?_
      refine Dx (.range 13) ?_
      refine Re0 ?_
      refine Ch hf (fun hc4 hf => ?_) fun hc4 hf => ?_
      ·refine Rx ?_; exact Re ⟨y1, y2, y3, y4, y5, y6, y6b, γ1, y7⟩ Rv
      ·have hnr := hc4
       simp only [Bool.or_eq_false_iff, decide_eq_false_iff_not] at hnr
       refine Ck (eI y4 y5 w1.d) fun x7 => ?_
       refine AlT fun g9 => ?_
       refine Cn hf (fun hc5 hc5p hf => ?_) fun hc5 hc5p hf => ?_
       ·refine Rx ?_; exact Re ⟨y1, y2, y3, y4, y5, y6, y6b, γ1, y7⟩ Rv
       ·refine Sy Tz (rv NRec x1.n.toNat rfl rfl Zf rfl Zf rfl rfl Mm Zo Zo) ?_
        refine dU (F := RdN NRec x7.2.2 ((am w1.d).2.1.take x1.n.toNat)) [RdN NRec x7.2.2 (am w1.d).2.1] Sm (fun M w h => (allF1 h).take _) ?_
        refine Ck (fE x7.2.2 ((am w1.d).2.1.take x1.n.toNat)) fun x8 => ?_
        generalize hS1 : (aq ((am w1.d).2.1.take x1.n.toNat)) = S1
        try rw [hS1] at hf
        refine AlT fun g10 => ?_
        refine Cn hf (fun hc6 hc6p hf => ?_) fun hc6 hc6p hf => ?_
        ·refine Rx ?_; exact Re ⟨y1, y2, y3, y4, y5, y6, y6b, γ1, y7⟩ Rv
        ·have hrp := (rU hS1 (ai hc6)).1.three
         refine Tx ?_
         (repeat refine aD ?_); refine ap (fun _ => some []) ?_
         refine Dx [0,1,2,3] ?_
         refine fl NPeer (X := x8.2.2) (l := S1.1.peers) Mm fun (γ3 : Nat → SlV) => ?_
         refine Rb 4 rfl (Xn NPeer x1.who.toNat) ?_
         refine Rb 5 rfl Xf ?_
         refine Rb 6 rfl (kQ NPeer γ3 (v := .int .i64 (gt S1.1.peers x1.who.toNat).life) rfl rfl Zf rfl rfl Mm (fun _ => by first | assumption | omega) rfl) ?_
         refine Dx (.range' 7 8) ?_
         refine Gb 15 rfl Gz (Xn NPeer x1.who.toNat) ?_
         refine Gb 16 rfl Gz Xf ?_
         refine Gb 17 rfl Gz (kQ NPeer γ3 (v := (γ3 x1.who.toNat).val (gt S1.1.peers x1.who.toNat).roots.length) rfl rfl Bt rfl rfl Mm (by first | (intro _; first | assumption | omega) | (intro h; simp at h; omega)) rfl) ?_
         refine Fg NPeer γ3 S1.1.peers x1.who.toNat 0 ?_
         refine Dx [18,19] ?_
         refine Rn 20 ?_
         refine Cy (fun hG_ => (fun y1 a y2 b => dc y1 y2 a b) (γ3 x1.who.toNat) (gt S1.1.peers x1.who.toNat).roots (γ2 x1.who.toNat) (gt w1.h.peers x1.who.toNat).roots) ?_
         refine Dx [21,22] ?_
         refine Re0 ?_
         refine Ch hf (fun hc7 hf => ?_) fun hc7 hf => ?_
         ·refine Rx ?_; exact Re ⟨y1, y2, y3, y4, y5, y6, y6b, γ1, y7⟩ Rv
         ·refine Ck (kg x8.1 x8.2.1 x8.2.2 S1.1 x1.who) fun x9 => ?_
          refine AlT fun g11 => ?_
          refine Cn hf (fun hc8 hc8p hf => ?_) fun hc8 hc8p hf => ?_
          ·refine Rx ?_; exact Re ⟨y1, y2, y3, y4, y5, y6, y6b, γ1, y7⟩ Rv
          ·refine Tx ?_
           (repeat refine aD ?_); refine ap (fun j => match j with | 4 => some [g6] | 6 => some [g6] | 8 => some [g6] | _ => some []) ?_
           refine Rq (Fa 0 [2,3,4]) (.keep (.keep (.keep (.drop Sa)))) Xv ?_
           refine Rq (Fa 1 [2,3,4]) (.keep (.keep (.keep (.drop Sa)))) (q_ld1 rfl rfl Zf rfl Mm rfl) ?_
           refine Rq (Fa 2 [3,4,5,6]) (.keep (.keep (.keep (.drop Sa)))) Xv ?_
           refine Ra 3 rfl Qp ?_
           refine Rn 4 ?_
           refine W1 ?_
           refine Ra 5 rfl Qp ?_
           refine Rn 6 ?_
           refine W1 ?_
           refine Ra 7 rfl Qp ?_
           refine Rn 8 ?_
           refine Wp ?_
           refine Re0 ?_
           refine Ck (pS x9.1 x9.2.1 x9.2.2 (aV S1.1 x1.who).1 x2 x3 x4 (aV w1.h x1.who).1) fun x10 => ?_
           generalize hS2 : (du (aV S1.1 x1.who).1 (aV w1.h x1.who).1) = S2
           try rw [hS2] at hf
           refine Tx ?_
           refine Wp ?_
           refine Cn hf (fun hc9 hc9p hf => ?_) fun hc9 hc9p hf => ?_
           ·refine Rx ?_; exact Re ⟨y1, y2, y3, y4, y5, y6, y6b, γ1, y7⟩ Rv
           ·refine Tx ?_
            refine Fr EInt ?_
            refine Fr EPlace ?_
            refine Cm (gn c1 y1 y2 y3 y4 y5 y6 y6b γ1 y7 w1 Z0 Z0 Z0 x10.1 x10.2.1 x10.2.2.1 x10.2.2.2 (⟨3, x1.who, (gt w1.h.peers x1.who.toNat).life, (gt w1.h.peers x1.who.toNat).seq, (cZ w1.h), w1.h.version, x1.n, (⟨0, 0, 0, 0, 0, 0, 0⟩ : Op), (⟨[], [], []⟩ : View), S2.1⟩ : Mail)) fun x11 => ?_
            generalize hS3 : (cU w1 (⟨3, x1.who, (gt w1.h.peers x1.who.toNat).life, (gt w1.h.peers x1.who.toNat).seq, (cZ w1.h), w1.h.version, x1.n, (⟨0, 0, 0, 0, 0, 0, 0⟩ : Op), (⟨[], [], []⟩ : View), S2.1⟩ : Mail)) = S3
            try rw [hS3] at hf
            refine Rx ?_; exact Re ⟨x11.1, x11.2.1, x11.2.2.1, x11.2.2.2.1, x11.2.2.2.2.1, x11.2.2.2.2.2.1, x11.2.2.2.2.2.2.1, x11.2.2.2.2.2.2.2.1, x11.2.2.2.2.2.2.2.2⟩ Rv
     ·refine Tx ?_
      refine Fr EInt ?_
      refine Fr EPlace ?_
      refine Cm (gn c1 y1 y2 y3 y4 y5 y6 y6b γ1 y7 w1 x2 x3 x4 Z0 Z0 Z0 Z0 (⟨2, x1.who, (gt w1.h.peers x1.who.toNat).life, (gt w1.h.peers x1.who.toNat).seq, (cZ w1.h), w1.h.version, 0, (⟨0, 0, 0, 0, 0, 0, 0⟩ : Op), (aV w1.h x1.who).1, (⟨[], [], [], []⟩ : Delta)⟩ : Mail)) fun x12 => ?_
      generalize hS4 : (cU w1 (⟨2, x1.who, (gt w1.h.peers x1.who.toNat).life, (gt w1.h.peers x1.who.toNat).seq, (cZ w1.h), w1.h.version, 0, (⟨0, 0, 0, 0, 0, 0, 0⟩ : Op), (aV w1.h x1.who).1, (⟨[], [], [], []⟩ : Delta)⟩ : Mail)) = S4
      try rw [hS4] at hf
      refine Rx ?_; exact Re ⟨x12.1, x12.2.1, x12.2.2.1, x12.2.2.2.1, x12.2.2.2.2.1, x12.2.2.2.2.2.1, x12.2.2.2.2.2.2.1, x12.2.2.2.2.2.2.2.1, x12.2.2.2.2.2.2.2.2⟩ Rv
theorem pr (w : Wld) (r : Rec) : (bf w r).2.c = w.c := by
 unfold bf
 cases ((er w.h r).2 != 0) <;> cases ((dT w.d r).2 != 0) <;> cases ((fb (dT w.d r).1).2 != 0) <;> rfl
def bT (w1 : Wld) (who1 : Int) : Int × Wld :=
 (bif ((bf w1 (⟨2, who1, ((gt w1.h.peers who1.toNat).life + 1), ([] : List Int), (⟨0, 0, 0, 0, 0, 0, 0⟩ : Op)⟩ : Rec)).1 != 0) then ((bf w1 (⟨2, who1, ((gt w1.h.peers who1.toNat).life + 1), ([] : List Int), (⟨0, 0, 0, 0, 0, 0, 0⟩ : Op)⟩ : Rec)).1, (bf w1 (⟨2, who1, ((gt w1.h.peers who1.toNat).life + 1), ([] : List Int), (⟨0, 0, 0, 0, 0, 0, 0⟩ : Op)⟩ : Rec)).2) else (bif ((ca ((gt w1.h.peers who1.toNat).life + 1) (cZ (bf w1 (⟨2, who1, ((gt w1.h.peers who1.toNat).life + 1), ([] : List Int), (⟨0, 0, 0, 0, 0, 0, 0⟩ : Op)⟩ : Rec)).2.h)).2 == 0) then ((ca ((gt w1.h.peers who1.toNat).life + 1) (cZ (bf w1 (⟨2, who1, ((gt w1.h.peers who1.toNat).life + 1), ([] : List Int), (⟨0, 0, 0, 0, 0, 0, 0⟩ : Op)⟩ : Rec)).2.h)).2, (⟨(bf w1 (⟨2, who1, ((gt w1.h.peers who1.toNat).life + 1), ([] : List Int), (⟨0, 0, 0, 0, 0, 0, 0⟩ : Op)⟩ : Rec)).2.h, (bf w1 (⟨2, who1, ((gt w1.h.peers who1.toNat).life + 1), ([] : List Int), (⟨0, 0, 0, 0, 0, 0, 0⟩ : Op)⟩ : Rec)).2.d, (bf w1 (⟨2, who1, ((gt w1.h.peers who1.toNat).life + 1), ([] : List Int), (⟨0, 0, 0, 0, 0, 0, 0⟩ : Op)⟩ : Rec)).2.up, ((bf w1 (⟨2, who1, ((gt w1.h.peers who1.toNat).life + 1), ([] : List Int), (⟨0, 0, 0, 0, 0, 0, 0⟩ : Op)⟩ : Rec)).2.c.set who1.toNat (ca ((gt w1.h.peers who1.toNat).life + 1) (cZ (bf w1 (⟨2, who1, ((gt w1.h.peers who1.toNat).life + 1), ([] : List Int), (⟨0, 0, 0, 0, 0, 0, 0⟩ : Op)⟩ : Rec)).2.h)).1), (bf w1 (⟨2, who1, ((gt w1.h.peers who1.toNat).life + 1), ([] : List Int), (⟨0, 0, 0, 0, 0, 0, 0⟩ : Op)⟩ : Rec)).2.mail⟩ : Wld)) else ((ca ((gt w1.h.peers who1.toNat).life + 1) (cZ (bf w1 (⟨2, who1, ((gt w1.h.peers who1.toNat).life + 1), ([] : List Int), (⟨0, 0, 0, 0, 0, 0, 0⟩ : Op)⟩ : Rec)).2.h)).2, (bf w1 (⟨2, who1, ((gt w1.h.peers who1.toNat).life + 1), ([] : List Int), (⟨0, 0, 0, 0, 0, 0, 0⟩ : Op)⟩ : Rec)).2)))
theorem nn (c1 : Nat) (y1 : SlV) (y2 : SlV) (y3 : SlV) (y4 : SlV) (y5 : SlV) (y6 : SlV) (y6b : Option Nat) (γ1 : Nat → SlV × SlV × SlV × SlV) (y7 : SlV) (w1 : Wld) (who1 : Int) (hk : c8 w1.h = 0) (hc : w1.c.length = 3) (hw : 0 ≤ who1 ∧ who1 < 3) : DoesG Tryz.prog 139 [.pointer (some ⟨c1, 0, none⟩), .int .i64 who1] [RdL EStep y1 w1.h.h.l, RdL EPlace y2 w1.h.h.t, RdN NPeer y3 w1.h.peers, RdL EByte y4 w1.d.safe, RdL EByte y5 w1.d.wait, FactsG NClient γ1 w1.c, RdN NMail y7 w1.mail, LibP Tryz.prog] ⟨[⟨c1, 37, [y1.val w1.h.h.l.length, y2.val w1.h.h.t.length, .int .i64 w1.h.version, y3.val w1.h.peers.length, y4.val w1.d.safe.length, y5.val w1.d.wait.length, .bool w1.up, y6.val w1.c.length, y7.val w1.mail.length]⟩], [ownL NClient.E 63 y6 y6b (zipG γ1 0 w1.c)]⟩ (fun (X : SlV × SlV × SlV × SlV × SlV × SlV × Option Nat × (Nat → SlV × SlV × SlV × SlV) × SlV) => .int .i64 (bT w1 who1).1) (fun X => [RdL EStep X.1 (bT w1 who1).2.h.h.l, RdL EPlace X.2.1 (bT w1 who1).2.h.h.t, RdN NPeer X.2.2.1 (bT w1 who1).2.h.peers, RdL EByte X.2.2.2.1 (bT w1 who1).2.d.safe, RdL EByte X.2.2.2.2.1 (bT w1 who1).2.d.wait, FactsG NClient X.2.2.2.2.2.2.2.1 (bT w1 who1).2.c, RdN NMail X.2.2.2.2.2.2.2.2 (bT w1 who1).2.mail]) (fun X => ⟨[⟨c1, 37, [X.1.val (bT w1 who1).2.h.h.l.length, X.2.1.val (bT w1 who1).2.h.h.t.length, .int .i64 (bT w1 who1).2.h.version, X.2.2.1.val (bT w1 who1).2.h.peers.length, X.2.2.2.1.val (bT w1 who1).2.d.safe.length, X.2.2.2.2.1.val (bT w1 who1).2.d.wait.length, .bool (bT w1 who1).2.up, X.2.2.2.2.2.1.val (bT w1 who1).2.c.length, X.2.2.2.2.2.2.2.2.val (bT w1 who1).2.mail.length]⟩], [ownL NClient.E 63 X.2.2.2.2.2.1 X.2.2.2.2.2.2.1 (zipG X.2.2.2.2.2.2.2.1 0 (bT w1 who1).2.c)]⟩) := by
 refine Dq aK Tryz.func139 Tryz.ntmps139 Tryz.results139 fun C => ?_
 have hpl := (eT hk).2.2.2
 have hlb := (jE hk (gt w1.h.peers who1.toNat) (eM (by omega))).1
 refine Tx ?_
 refine fl NPeer (X := y3) (l := w1.h.peers) Mm fun (γ2 : Nat → SlV) => ?_
 refine Sq (Xn NPeer who1.toNat) ?_
 refine Sq Xf ?_
 refine Sq (kQ NPeer γ2 (v := .int .i64 (gt w1.h.peers who1.toNat).life) rfl rfl Zf rfl rfl Mm (fun _ => by first | assumption | omega) rfl) ?_
 refine Tt ?_
 refine Fr EInt ?_
 refine Cm (hZ c1 y1 y2 y3 y4 y5 y6 y6b γ1 y7 w1 Z0 (⟨2, who1, ((gt w1.h.peers who1.toNat).life + 1), ([] : List Int), (⟨0, 0, 0, 0, 0, 0, 0⟩ : Op)⟩ : Rec)) fun x1 => ?_
 generalize hS1 : (bf w1 (⟨2, who1, ((gt w1.h.peers who1.toNat).life + 1), ([] : List Int), (⟨0, 0, 0, 0, 0, 0, 0⟩ : Op)⟩ : Rec)) = S1
 have hf := Ri (bT.eq_1 w1 who1)
 try rw [hS1] at hf
 refine Cn hf (fun hc1 hc1p hf => ?_) fun hc1 hc1p hf => ?_
 ·refine Rx ?_; exact Re ⟨x1.1, x1.2.1, x1.2.2.1, x1.2.2.2.1, x1.2.2.2.2.1, x1.2.2.2.2.2.1, x1.2.2.2.2.2.2.1, x1.2.2.2.2.2.2.2.1, x1.2.2.2.2.2.2.2.2⟩ Rv
 ·have hwc : S1.2.c.length = 3 := by rw [← hS1, pr]; exact hc
  refine Ck (kf x1.1 x1.2.1 x1.2.2.1 S1.2.h) fun _ => ?_
  refine Ck (mV ((gt w1.h.peers who1.toNat).life + 1) (cZ S1.2.h)) fun x2 => ?_
  generalize hS2 : (ca ((gt w1.h.peers who1.toNat).life + 1) (cZ S1.2.h)) = S2
  try rw [hS2] at hf
  refine AlT fun g1 => ?_
  refine Ce hf (fun hc2 hc2p hf => ?_) fun hc2 hc2p hf => ?_
  ·(repeat refine aD ?_); refine ap (fun j => match j with | 7 => none | _ => some []) ?_
   refine Dx (.range 6) ?_
   refine Oq NClient.E x1.2.2.2.2.2.1 (zipG x1.2.2.2.2.2.2.2.1 0 S1.2.c) (Fa 6 []) (fm NClient x1.2.2.2.2.2.2.2.1 who1.toNat rfl rfl Zf rfl Zf rfl rfl rfl (.head _) rfl Zo Za) ?_
   refine Rn 7 ?_
   refine Wn NClient x1.2.2.2.2.2.2.2.1 S1.2.c who1.toNat 0 (x2.1, x2.2.1, x2.2.2.1, x2.2.2.2) S2.1 x1.2.2.2.2.2.2.1 ?_
   refine Fu NClient x1.2.2.2.2.2.2.2.1 S1.2.c who1.toNat (x2.1, x2.2.1, x2.2.2.1, x2.2.2.2) S2.1 ?_
   have hv1 : x1.2.2.2.2.2.1.val S1.2.c.length = x1.2.2.2.2.2.1.val (S1.2.c.set who1.toNat S2.1).length := congrArg (SlV.val x1.2.2.2.2.2.1) List.length_set.symm
   (try simp only [cB, cC, cW]); try rw [hv1]
   refine Re0 ?_
   refine Rx ?_; exact Re ⟨x1.1, x1.2.1, x1.2.2.1, x1.2.2.2.1, x1.2.2.2.2.1, x1.2.2.2.2.2.1, x1.2.2.2.2.2.2.1, (updG x1.2.2.2.2.2.2.2.1 who1.toNat (x2.1, x2.2.1, x2.2.2.1, x2.2.2.2)), x1.2.2.2.2.2.2.2.2⟩ Rv
  ·refine Rx ?_; exact Re ⟨x1.1, x1.2.1, x1.2.2.1, x1.2.2.2.1, x1.2.2.2.2.1, x1.2.2.2.2.2.1, x1.2.2.2.2.2.2.1, x1.2.2.2.2.2.2.2.1, x1.2.2.2.2.2.2.2.2⟩ Rv
def bE (w1 : Wld) (x1 : Happening) : Int × Wld :=
 (bif ((az w1.mail x1.n (x1.kind == 8)).2.2 != 0) then ((az w1.mail x1.n (x1.kind == 8)).2.2, w1) else (bif ((az w1.mail x1.n (x1.kind == 8)).2.1.kind != 1) then (bif ((aC (gt w1.c (az w1.mail x1.n (x1.kind == 8)).2.1.who.toNat) (az w1.mail x1.n (x1.kind == 8)).2.1.who (az w1.mail x1.n (x1.kind == 8)).2.1).2 == 0) then ((aC (gt w1.c (az w1.mail x1.n (x1.kind == 8)).2.1.who.toNat) (az w1.mail x1.n (x1.kind == 8)).2.1.who (az w1.mail x1.n (x1.kind == 8)).2.1).2, (⟨w1.h, w1.d, w1.up, (w1.c.set (az w1.mail x1.n (x1.kind == 8)).2.1.who.toNat (aC (gt w1.c (az w1.mail x1.n (x1.kind == 8)).2.1.who.toNat) (az w1.mail x1.n (x1.kind == 8)).2.1.who (az w1.mail x1.n (x1.kind == 8)).2.1).1), (az w1.mail x1.n (x1.kind == 8)).1⟩ : Wld)) else ((aC (gt w1.c (az w1.mail x1.n (x1.kind == 8)).2.1.who.toNat) (az w1.mail x1.n (x1.kind == 8)).2.1.who (az w1.mail x1.n (x1.kind == 8)).2.1).2, w1)) else (bif (!w1.up) then (7, w1) else (0, (bf (⟨w1.h, w1.d, w1.up, w1.c, (az w1.mail x1.n (x1.kind == 8)).1⟩ : Wld) (⟨1, 0, 0, ([] : List Int), (az w1.mail x1.n (x1.kind == 8)).2.1.o⟩ : Rec)).2))))
theorem kI (c1 : Nat) (y1 : SlV) (y2 : SlV) (y3 : SlV) (y4 : SlV) (y5 : SlV) (y6 : SlV) (y6b : Option Nat) (γ1 : Nat → SlV × SlV × SlV × SlV) (y7 : SlV) (w1 : Wld) (y8 : SlV) (x1 : Happening) (hc : w1.c.length = 3) : DoesG Tryz.prog 85 [.pointer (some ⟨c1, 0, none⟩), .agg ⟨cA y8 x1⟩] [RdL EStep y1 w1.h.h.l, RdL EPlace y2 w1.h.h.t, RdN NPeer y3 w1.h.peers, RdL EByte y4 w1.d.safe, RdL EByte y5 w1.d.wait, FactsG NClient γ1 w1.c, RdN NMail y7 w1.mail, RdL EInt y8 x1.roots, LibP Tryz.prog] ⟨[⟨c1, 37, [y1.val w1.h.h.l.length, y2.val w1.h.h.t.length, .int .i64 w1.h.version, y3.val w1.h.peers.length, y4.val w1.d.safe.length, y5.val w1.d.wait.length, .bool w1.up, y6.val w1.c.length, y7.val w1.mail.length]⟩], [ownL NClient.E 63 y6 y6b (zipG γ1 0 w1.c)]⟩ (fun (X : SlV × SlV × SlV × SlV × SlV × SlV × Option Nat × (Nat → SlV × SlV × SlV × SlV) × SlV) => .int .i64 (bE w1 x1).1) (fun X => [RdL EStep X.1 (bE w1 x1).2.h.h.l, RdL EPlace X.2.1 (bE w1 x1).2.h.h.t, RdN NPeer X.2.2.1 (bE w1 x1).2.h.peers, RdL EByte X.2.2.2.1 (bE w1 x1).2.d.safe, RdL EByte X.2.2.2.2.1 (bE w1 x1).2.d.wait, FactsG NClient X.2.2.2.2.2.2.2.1 (bE w1 x1).2.c, RdN NMail X.2.2.2.2.2.2.2.2 (bE w1 x1).2.mail]) (fun X => ⟨[⟨c1, 37, [X.1.val (bE w1 x1).2.h.h.l.length, X.2.1.val (bE w1 x1).2.h.h.t.length, .int .i64 (bE w1 x1).2.h.version, X.2.2.1.val (bE w1 x1).2.h.peers.length, X.2.2.2.1.val (bE w1 x1).2.d.safe.length, X.2.2.2.2.1.val (bE w1 x1).2.d.wait.length, .bool (bE w1 x1).2.up, X.2.2.2.2.2.1.val (bE w1 x1).2.c.length, X.2.2.2.2.2.2.2.2.val (bE w1 x1).2.mail.length]⟩], [ownL NClient.E 63 X.2.2.2.2.2.1 X.2.2.2.2.2.2.1 (zipG X.2.2.2.2.2.2.2.1 0 (bE w1 x1).2.c)]⟩) := by
 refine Dq aK Tryz.func85 Tryz.ntmps85 Tryz.results85 fun C => ?_
 refine Pc EInt y8 x1.roots 8 fun hlen1 => ?_
 refine BxT fun g1 => ?_
 refine Tx ?_
 refine Jn (SlV × Nat × SlV × SlV × SlV × SlV × SlV × SlV × SlV) [0, 4] [true, true] (fun ⟨x2, g2, x3, x4, x5, x6, x7, x8, x9⟩ => ⟨[(5, .v (x2.val (az w1.mail x1.n (x1.kind == 8)).1.length)), (6, .v (.pointer (some ⟨g2, 0, none⟩))), (7, .v (.int .i64 (az w1.mail x1.n (x1.kind == 8)).2.2))], [⟨g2, 108, [.int .i64 (az w1.mail x1.n (x1.kind == 8)).2.1.kind, .int .i64 (az w1.mail x1.n (x1.kind == 8)).2.1.who, .int .i64 (az w1.mail x1.n (x1.kind == 8)).2.1.life, .int .i64 (az w1.mail x1.n (x1.kind == 8)).2.1.seq, .int .i64 (az w1.mail x1.n (x1.kind == 8)).2.1.time, .int .i64 (az w1.mail x1.n (x1.kind == 8)).2.1.version, .int .i64 (az w1.mail x1.n (x1.kind == 8)).2.1.frm, .int .i64 (az w1.mail x1.n (x1.kind == 8)).2.1.o.time, .int .i64 (az w1.mail x1.n (x1.kind == 8)).2.1.o.who, .int .i64 (az w1.mail x1.n (x1.kind == 8)).2.1.o.node, .int .i64 (az w1.mail x1.n (x1.kind == 8)).2.1.o.parent, .int .i64 (az w1.mail x1.n (x1.kind == 8)).2.1.o.name, .int .i64 (az w1.mail x1.n (x1.kind == 8)).2.1.o.life, .int .i64 (az w1.mail x1.n (x1.kind == 8)).2.1.o.seq, x3.val (az w1.mail x1.n (x1.kind == 8)).2.1.v.roots.length, x4.val (az w1.mail x1.n (x1.kind == 8)).2.1.v.known.length, x5.val (az w1.mail x1.n (x1.kind == 8)).2.1.v.way.length, x6.val (az w1.mail x1.n (x1.kind == 8)).2.1.d.gone.length, x7.val (az w1.mail x1.n (x1.kind == 8)).2.1.d.here.length, x8.val (az w1.mail x1.n (x1.kind == 8)).2.1.d.wayGone.length, x9.val (az w1.mail x1.n (x1.kind == 8)).2.1.d.wayHere.length]⟩], [ownL NClient.E 63 y6 y6b (zipG γ1 0 w1.c)], [RdN NMail x2 (az w1.mail x1.n (x1.kind == 8)).1, RdL EInt x3 (az w1.mail x1.n (x1.kind == 8)).2.1.v.roots, RdL EPlace x4 (az w1.mail x1.n (x1.kind == 8)).2.1.v.known, RdL EPlace x5 (az w1.mail x1.n (x1.kind == 8)).2.1.v.way, RdL EInt x6 (az w1.mail x1.n (x1.kind == 8)).2.1.d.gone, RdL EPlace x7 (az w1.mail x1.n (x1.kind == 8)).2.1.d.here, RdL EInt x8 (az w1.mail x1.n (x1.kind == 8)).2.1.d.wayGone, RdL EPlace x9 (az w1.mail x1.n (x1.kind == 8)).2.1.d.wayHere], True, 0⟩) ?_ ?_
 ·refine ap (fun j => match j with | 16 => none | _ => some []) ?_
  refine Dx (.range 9) ?_
  refine Rw 9 14 ?_ ?_
  ·refine Ck (ip y7 w1.mail x1.n (x1.kind == 8)) fun x10 => ?_
   refine Dx [10,11,12] ?_
   refine ra_p (Fa 13 [14,15,16]) rfl rfl rfl Xv ?_
   refine Rn 14 ?_
   refine cw (.an rfl rfl) (al rfl) rfl rfl rfl rfl fun g3 => ?_
   refine Ra 15 rfl Qp ?_
   refine Rn 16 ?_
   refine Wa ?_
   refine Ra 17 rfl Qp ?_
   refine Re0 ?_
   refine ⟨⟨x10.1, g3, x10.2.1, x10.2.2.1, x10.2.2.2.1, x10.2.2.2.2.1, x10.2.2.2.2.2.1, x10.2.2.2.2.2.2.1, x10.2.2.2.2.2.2.2⟩, trivial, Le4⟩
  ·refine cw (.an rfl rfl) (al rfl) rfl rfl rfl rfl fun g4 => ?_
   refine Rn 9 ?_
   refine Ck (ip y7 w1.mail x1.n (x1.kind == 8)) fun x11 => ?_
   refine Dx [10,11,12] ?_
   refine ra_p (Fa 13 [15,16]) rfl rfl rfl Xv ?_
   refine Ra 15 rfl Qp ?_
   refine Rn 16 ?_
   refine Wa ?_
   refine Ra 17 rfl Qp ?_
   refine Re0 ?_
   refine ⟨⟨x11.1, g4, x11.2.1, x11.2.2.1, x11.2.2.2.1, x11.2.2.2.2.1, x11.2.2.2.2.2.1, x11.2.2.2.2.2.2.1, x11.2.2.2.2.2.2.2⟩, trivial, Le4⟩
 ·rintro ⟨x2, g2, x3, x4, x5, x6, x7, x8, x9⟩ -
  simp only [Lc]
  generalize hS1 : (az w1.mail x1.n (x1.kind == 8)) = S1
  have hf := Ri (bE.eq_1 w1 x1)
  try rw [hS1] at hf
  refine Cn hf (fun hc1 hc1p hf => ?_) fun hc1 hc1p hf => ?_
  ·refine Rx ?_; exact Re ⟨y1, y2, y3, y4, y5, y6, y6b, γ1, y7⟩ Rv
  ·have htw := uZ hS1 (ai hc1)
   refine Cn hf (fun hc2 hc2p hf => ?_) fun hc2 hc2p hf => ?_
   ·(repeat refine aD ?_)
    refine Jn (Nat × SlV × SlV × SlV × SlV) [0, 4, 5, 6] [true, true, true] (fun ⟨g5, x12, x13, x14, x15⟩ => ⟨[(8, .v (.pointer (some ⟨g5, 0, none⟩))), (9, .v (.int .i64 (aC (gt w1.c S1.2.1.who.toNat) S1.2.1.who S1.2.1).2))], [⟨g5, 63, [.int .i64 (aC (gt w1.c S1.2.1.who.toNat) S1.2.1.who S1.2.1).1.life, .int .i64 (aC (gt w1.c S1.2.1.who.toNat) S1.2.1.who S1.2.1).1.time, .int .i64 (aC (gt w1.c S1.2.1.who.toNat) S1.2.1.who S1.2.1).1.seq, x12.val (aC (gt w1.c S1.2.1.who.toNat) S1.2.1.who S1.2.1).1.pending.length, .int .i64 (aC (gt w1.c S1.2.1.who.toNat) S1.2.1.who S1.2.1).1.version, x13.val (aC (gt w1.c S1.2.1.who.toNat) S1.2.1.who S1.2.1).1.v.roots.length, x14.val (aC (gt w1.c S1.2.1.who.toNat) S1.2.1.who S1.2.1).1.v.known.length, x15.val (aC (gt w1.c S1.2.1.who.toNat) S1.2.1.who S1.2.1).1.v.way.length]⟩], [ownL NClient.E 63 y6 y6b (zipG γ1 0 w1.c)], [RdL EOp x12 (aC (gt w1.c S1.2.1.who.toNat) S1.2.1.who S1.2.1).1.pending, RdL EInt x13 (aC (gt w1.c S1.2.1.who.toNat) S1.2.1.who S1.2.1).1.v.roots, RdL EPlace x14 (aC (gt w1.c S1.2.1.who.toNat) S1.2.1.who S1.2.1).1.v.known, RdL EPlace x15 (aC (gt w1.c S1.2.1.who.toNat) S1.2.1.who S1.2.1).1.v.way], True, 0⟩) ?_ ?_
    ·refine ap (fun j => match j with | 16 => none | _ => some []) ?_
     refine Dx (.range 6) ?_
     refine Oq NClient.E y6 (zipG γ1 0 w1.c) (Fb 6 [8,9,10,15]) (fm NClient γ1 S1.2.1.who.toNat rfl rfl Zf rfl Zf rfl rfl rfl (.head _) rfl Zo Za) ?_
     refine Oq NClient.E y6 (zipG γ1 0 w1.c) (Fb 7 [8,9,10,15]) (q_is (v' := .agg ⟨cC (γ1 S1.2.1.who.toNat).1 (γ1 S1.2.1.who.toNat).2.1 (γ1 S1.2.1.who.toNat).2.2.1 (γ1 S1.2.1.who.toNat).2.2.2 (gt w1.c S1.2.1.who.toNat)⟩) (fY NClient γ1 rfl rfl Zf rfl rfl (.head _) Za) rfl) ?_
     refine Fg NClient γ1 w1.c S1.2.1.who.toNat 0 ?_
     refine Fg NClient γ1 w1.c S1.2.1.who.toNat 1 ?_
     refine Fg NClient γ1 w1.c S1.2.1.who.toNat 2 ?_
     refine Fg NClient γ1 w1.c S1.2.1.who.toNat 3 ?_
     refine Dx [8,9,10] ?_
     refine Rw 11 15 ?_ ?_
     ·refine Ck (ku (γ1 S1.2.1.who.toNat).1 (γ1 S1.2.1.who.toNat).2.1 (γ1 S1.2.1.who.toNat).2.2.1 (γ1 S1.2.1.who.toNat).2.2.2 (gt w1.c S1.2.1.who.toNat) S1.2.1.who x3 x4 x5 x6 x7 x8 x9 S1.2.1) fun x16 => ?_
      refine Dx [12,13] ?_
      refine ra_p (Fa 14 [15,16]) rfl rfl rfl Xv ?_
      refine Rn 15 ?_
      refine cw (.an rfl rfl) (al rfl) rfl rfl rfl rfl fun g6 => ?_
      refine Rn 16 ?_
      refine Wa ?_
      refine Ra 17 rfl Qp ?_
      refine Re0 ?_
      refine ⟨⟨g6, x16.1, x16.2.1, x16.2.2.1, x16.2.2.2⟩, trivial, Le4⟩
     ·refine cw (.an rfl rfl) (al rfl) rfl rfl rfl rfl fun g7 => ?_
      refine Rn 11 ?_
      refine Ck (ku (γ1 S1.2.1.who.toNat).1 (γ1 S1.2.1.who.toNat).2.1 (γ1 S1.2.1.who.toNat).2.2.1 (γ1 S1.2.1.who.toNat).2.2.2 (gt w1.c S1.2.1.who.toNat) S1.2.1.who x3 x4 x5 x6 x7 x8 x9 S1.2.1) fun x17 => ?_
      refine Dx [12,13] ?_
      refine ra_p (Fa 14 [16]) rfl rfl rfl Xv ?_
      refine Rn 16 ?_
      refine Wa ?_
      refine Ra 17 rfl Qp ?_
      refine Re0 ?_
      refine ⟨⟨g7, x17.1, x17.2.1, x17.2.2.1, x17.2.2.2⟩, trivial, Le4⟩
    ·rintro ⟨g5, x12, x13, x14, x15⟩ -
     simp only [Lc]
     generalize hS2 : (aC (gt w1.c S1.2.1.who.toNat) S1.2.1.who S1.2.1) = S2
     try rw [hS2] at hf
     refine Ce hf (fun hc3 hc3p hf => ?_) fun hc3 hc3p hf => ?_
     ·(repeat refine aD ?_); refine ap (fun j => match j with | 10 => none | 13 => none | _ => some []) ?_
      refine Dx (.range 6) ?_
      refine ra_p (Fa 6 [7,8,9,10]) rfl rfl rfl Xv ?_
      refine Ra 7 rfl XA ?_
      refine ra_p (Fa 8 [9,10]) rfl rfl rfl Xv ?_
      refine Oq NClient.E y6 (zipG γ1 0 w1.c) (Fa 9 []) (fm NClient γ1 S1.2.1.who.toNat rfl rfl Zf rfl Zf rfl rfl rfl (.head _) rfl Zo Za) ?_
      refine Rn 10 ?_
      refine Wn NClient γ1 w1.c S1.2.1.who.toNat 0 (x12, x13, x14, x15) S2.1 y6b ?_
      refine Fu NClient γ1 w1.c S1.2.1.who.toNat (x12, x13, x14, x15) S2.1 ?_
      have hv1 : y6.val w1.c.length = y6.val (w1.c.set S1.2.1.who.toNat S2.1).length := congrArg (SlV.val y6) List.length_set.symm
      (try simp only [cB, cC, cW]); try rw [hv1]
      refine Dx [11,12] ?_
      refine Rn 13 ?_
      refine W1 ?_
      refine Re0 ?_
      refine Rx ?_; exact Re ⟨y1, y2, y3, y4, y5, y6, y6b, (updG γ1 S1.2.1.who.toNat (x12, x13, x14, x15)), x2⟩ Rv
     ·refine Rx ?_; exact Re ⟨y1, y2, y3, y4, y5, y6, y6b, γ1, y7⟩ Rv
   ·refine Ch hf (fun hc4 hf => ?_) fun hc4 hf => ?_
    ·refine Rx ?_; exact Re ⟨y1, y2, y3, y4, y5, y6, y6b, γ1, y7⟩ Rv
    ·refine Tx ?_
     refine Fr EInt ?_
     refine Cm (hZ c1 y1 y2 y3 y4 y5 y6 y6b γ1 x2 (⟨w1.h, w1.d, w1.up, w1.c, S1.1⟩ : Wld) Z0 (⟨1, 0, 0, ([] : List Int), S1.2.1.o⟩ : Rec)) fun x18 => ?_
     generalize hS3 : (bf (⟨w1.h, w1.d, w1.up, w1.c, S1.1⟩ : Wld) (⟨1, 0, 0, ([] : List Int), S1.2.1.o⟩ : Rec)) = S3
     try rw [hS3] at hf
     refine Rx ?_; exact Re ⟨x18.1, x18.2.1, x18.2.2.1, x18.2.2.2.1, x18.2.2.2.2.1, x18.2.2.2.2.2.1, x18.2.2.2.2.2.2.1, x18.2.2.2.2.2.2.2.1, x18.2.2.2.2.2.2.2.2⟩ Rv
def bS (w1 : Wld) (x1 : Happening) : Int × Wld :=
 (bif (w1.up == (x1.kind == 11)) then (7, w1) else (bif (x1.kind == 10) then (0, (⟨bH, w1.d, false, w1.c, w1.mail⟩ : Wld)) else (bif ((am w1.d).2.2 != 0) then ((am w1.d).2.2, w1) else (bif ((aq (am w1.d).2.1).2 == 0) then ((aq (am w1.d).2.1).2, (⟨(aq (am w1.d).2.1).1, (am w1.d).1, true, w1.c, w1.mail⟩ : Wld)) else ((aq (am w1.d).2.1).2, w1)))))
theorem km (c1 : Nat) (y1 : SlV) (y2 : SlV) (y3 : SlV) (y4 : SlV) (y5 : SlV) (y6 : SlV) (y6b : Option Nat) (γ1 : Nat → SlV × SlV × SlV × SlV) (y7 : SlV) (w1 : Wld) (y8 : SlV) (x1 : Happening) : DoesG Tryz.prog 87 [.pointer (some ⟨c1, 0, none⟩), .agg ⟨cA y8 x1⟩] [RdL EStep y1 w1.h.h.l, RdL EPlace y2 w1.h.h.t, RdN NPeer y3 w1.h.peers, RdL EByte y4 w1.d.safe, RdL EByte y5 w1.d.wait, FactsG NClient γ1 w1.c, RdN NMail y7 w1.mail, RdL EInt y8 x1.roots, LibP Tryz.prog] ⟨[⟨c1, 37, cW y1 y2 y3 y4 y5 y6 y7 w1⟩], [ownL NClient.E 63 y6 y6b (zipG γ1 0 w1.c)]⟩ (fun (X : SlV × SlV × SlV × SlV × SlV × SlV × Option Nat × (Nat → SlV × SlV × SlV × SlV) × SlV) => .int .i64 (bS w1 x1).1) (fun X => [RdL EStep X.1 (bS w1 x1).2.h.h.l, RdL EPlace X.2.1 (bS w1 x1).2.h.h.t, RdN NPeer X.2.2.1 (bS w1 x1).2.h.peers, RdL EByte X.2.2.2.1 (bS w1 x1).2.d.safe, RdL EByte X.2.2.2.2.1 (bS w1 x1).2.d.wait, FactsG NClient X.2.2.2.2.2.2.2.1 (bS w1 x1).2.c, RdN NMail X.2.2.2.2.2.2.2.2 (bS w1 x1).2.mail]) (fun X => ⟨[⟨c1, 37, cW X.1 X.2.1 X.2.2.1 X.2.2.2.1 X.2.2.2.2.1 X.2.2.2.2.2.1 X.2.2.2.2.2.2.2.2 (bS w1 x1).2⟩], [ownL NClient.E 63 X.2.2.2.2.2.1 X.2.2.2.2.2.2.1 (zipG X.2.2.2.2.2.2.2.1 0 (bS w1 x1).2.c)]⟩) := by
 refine Dq aK Tryz.func87 Tryz.ntmps87 Tryz.results87 fun C => ?_
 refine Pc EInt y8 x1.roots 8 fun hlen1 => ?_
 refine BxT fun g1 => ?_
 refine Tx ?_
 (repeat refine aD ?_); refine ap (fun _ => some []) ?_
 refine Dx (.range 7) ?_
 refine Ra 7 rfl (q_eqb und_4 rfl rfl Zf rfl Zf) ?_
 refine Re0 ?_
 have hf := Ri (bS.eq_1 w1 x1)
 refine Ce hf (fun hc1 hc1p hf => ?_) fun hc1 hc1p hf => ?_
 ·refine Rx ?_; exact Re ⟨y1, y2, y3, y4, y5, y6, y6b, γ1, y7⟩ Rv
 ·refine Ce hf (fun hc2 hc2p hf => ?_) fun hc2 hc2p hf => ?_
  ·refine Ck (jc ) fun x2 => ?_
   refine Tx ?_
   refine Wp ?_
   refine Rx ?_; exact Re ⟨x2.1, x2.2.1, x2.2.2, y4, y5, y6, y6b, γ1, y7⟩ Rv
  ·refine Ck (eI y4 y5 w1.d) fun x3 => ?_
   refine AlT fun g2 => ?_
   refine Cn hf (fun hc3 hc3p hf => ?_) fun hc3 hc3p hf => ?_
   ·refine Rx ?_; exact Re ⟨y1, y2, y3, y4, y5, y6, y6b, γ1, y7⟩ Rv
   ·refine Ck (fE x3.2.2 (am w1.d).2.1) fun x4 => ?_
    generalize hS1 : (aq (am w1.d).2.1) = S1
    try rw [hS1] at hf
    refine AlT fun g3 => ?_
    refine Ce hf (fun hc4 hc4p hf => ?_) fun hc4 hc4p hf => ?_
    ·(repeat refine aD ?_); refine ap (fun j => match j with | 7 => none | 10 => none | 13 => none | _ => some []) ?_
     refine Ra 0 rfl Qp ?_
     refine ra_p (Fa 1 [2,3,4,5,6,7]) rfl rfl rfl Xv ?_
     refine ra_p (Fa 2 [3,4,5,6,7,8,9,10]) rfl rfl rfl Xv ?_
     refine Dx [3,5,6] ?_
     refine Rw 4 7 ?_ ?_
     ·refine ul rfl rfl rfl rfl (q_ldA rfl rfl Zf rfl Mm rfl) ?_
      refine Rn 7 ?_
      refine Wp ?_
      refine Dx [8,9] ?_
      refine Rn 10 ?_
      refine Wp ?_
      refine Dx [11,12] ?_
      refine Rn 13 ?_
      refine W1 ?_
      refine Re0 ?_
      refine Rx ?_; exact Re ⟨x4.1, x4.2.1, x4.2.2, x3.1, x3.2.1, y6, y6b, γ1, y7⟩ Rv
     ·refine Wp ?_
      refine Dx [4,8,9] ?_
      refine Rn 10 ?_
      refine Wp ?_
      refine Dx [11,12] ?_
      refine Rn 13 ?_
      refine W1 ?_
      refine Re0 ?_
      refine Rx ?_; exact Re ⟨x4.1, x4.2.1, x4.2.2, x3.1, x3.2.1, y6, y6b, γ1, y7⟩ Rv
    ·refine Rx ?_; exact Re ⟨y1, y2, y3, y4, y5, y6, y6b, γ1, y7⟩ Rv
end Go.Proofs.YtkjccbdeaflekaaGreatDoor
