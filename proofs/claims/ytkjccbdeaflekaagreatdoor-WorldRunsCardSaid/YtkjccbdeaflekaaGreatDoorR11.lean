/- Part of this claim. No condition. -/
import Derived.Test.YtkjccbdeaflekaaGreatDoorR3
import Derived.Test.YtkjccbdeaflekaaGreatDoorR10
import Derived.Test.YtkjccbdeaflekaaGreatDoorR7
import Derived.Lib.Join
import Derived.Lib.ItoaLen
import Derived.Test.YtkjccbdeaflekaaGreatDoorR4
import Derived.Test.YtkjccbdeaflekaaGreatDoorR5
import Derived.Test.YtkjccbdeaflekaaGreatDoorR8
set_option linter.unusedVariables false
set_option linter.unusedSimpArgs false
set_option maxHeartbeats 2000000
namespace Go.Proofs.YtkjccbdeaflekaaGreatDoor
open Go Go.Proofs.YtkjccbdeaflekaaGreatDoor.Fw Go.Proofs
section
open Go.RowKit Go.Sort
theorem yB : ∀ l : List Str, l.flatMap EStr.enc = l.map sV
 | [] => rfl
 | a :: r => by rw [List.flatMap_cons, yB r]; rfl
theorem tK (w : World) (k : Nat) (os : Array Obj) : Below w.heap.size w (grow (w.drewN k) os) :=
 ⟨rfl, rfl, rfl, by show w.heap.size ≤ (w.heap ++ os).size; rw [Array.size_append]; omega, fun j hj => heap_grow_old (w.drewN k) os hj⟩
theorem vv (n : Int) (h : -9223372036854775808 ≤ n ∧ n ≤ 9223372036854775807) : Du 147 [.int .i64 n] [LibP Tryz.prog] (sV (Lib.itoa n)) :=
 ma (fun _ => inferInstance) fun M w _ hp => (Any.strconv_Itoa Tryz.laysM171 n h.1 h.2 w (hp _ (.head _)).2.tab).mono fun e w' ⟨he, k, os, hw⟩ => ⟨(), he, hw ▸ tK _ _ _, fun F hF => by cases hF⟩
theorem vx (n b : Int) (hb : b = 10) (h : -9223372036854775808 ≤ n ∧ n ≤ 9223372036854775807) : Du 167 [.int .i64 n, .int .i64 b] [LibP Tryz.prog] (sV (Lib.itoa n)) := by
 subst hb;exact ma (fun _ => inferInstance) fun M w _ hp => (Any.strconv_FormatInt_10 Tryz.laysM173 n h.1 h.2 w (hp _ (.head _)).2.tab).mono fun e w' ⟨he, k, os, hw⟩ => ⟨(), he, hw ▸ tK _ _ _, fun F hF => by cases hF⟩
theorem BQ (t : Str) (h : t.length ≤ 281474976710656) : Dw 192 [sV t] [LibP Tryz.prog] (fun (X : Nat) => .tuple #[.int .i64 (atv t), eV (ate t) 270 (.pointer (some ⟨X, 0, none⟩))]) (fun (_ : Nat) => []) :=
 ma (fun _ => inferInstance) fun M w _ hp => by
  have hs := kU t;obtain ⟨_, _, ⟨tp, p, h1⟩, ⟨tp', p', h2⟩⟩ := (hp _ (.head _)).2;cases he : Lib.atoiAll t with
  | ok v =>
   refine (Any.strconv_Atoi_ok Tryz.laysC172 ⟨t.toArray⟩ (by rw [hs]; omega) v he w).mono fun e w' ⟨h3, h4⟩ => ⟨0, by rw [h3, atv, ate, he]; rfl, ?_, fun F hF => by cases hF⟩;rcases h4 with rfl | ⟨u, rfl⟩
   ·exact Below.refl _ _
   ·exact tL _ _ _
  | range =>
   exact (Any.strconv_Atoi_range_var Tryz.laysC172 ⟨t.toArray⟩ (by rw [hs]; omega) he tp' p' w h2).mono fun e w' ⟨N, h3, _, _, h5⟩ => ⟨N, by rw [h3, atv, ate, he]; rfl, h5, fun F hF => by cases hF⟩
  | _ =>
   exact (Any.strconv_Atoi_syntax_var Tryz.laysC172 ⟨t.toArray⟩ (by rw [hs]; omega) he tp p w h1).mono fun e w' ⟨N, h3, _, _, h5⟩ => ⟨N, by rw [h3, atv, ate, he]; rfl, h5, fun F hF => by cases hF⟩
theorem wr (t : Str) (b c : Int) (hb : b = 10 ∧ c = 64) (h : t.length ≤ 281474976710656) : Dw 166 [sV t, .int .i64 b, .int .i64 c] [LibP Tryz.prog] (fun (X : Nat) => .tuple #[.int .i64 (ptv t), eV (ate t) 270 (.pointer (some ⟨X, 0, none⟩))]) (fun (_ : Nat) => []) := by
 obtain ⟨rfl, rfl⟩ := hb;exact ma (fun _ => inferInstance) fun M w _ hp => by
  have hs := kU t;have hpt := Lib.parseIntB_64 t;obtain ⟨_, _, ⟨tp, p, h1⟩, ⟨tp', p', h2⟩⟩ := (hp _ (.head _)).2;cases he : Lib.atoiAll t with
  | ok v =>
   refine (Any.strconv_ParseInt_10_at64_ok Tryz.laysC174 ⟨t.toArray⟩ (by rw [hs]; omega) v (hpt.trans he) w).mono fun e w' ⟨h3, h4⟩ => ⟨0, by rw [h3, ptv, ate, he]; rfl, ?_, fun F hF => by cases hF⟩;rcases h4 with rfl | ⟨u, rfl⟩
   ·exact Below.refl _ _
   ·exact tL _ _ _
  | range =>
   exact (Any.strconv_ParseInt_10_at64_range_var Tryz.laysC174 ⟨t.toArray⟩ (by rw [hs]; omega) (hpt.trans he) tp' p' w h2).mono fun e w' ⟨N, h3, _, _, h5⟩ => ⟨N, by rw [h3, ptv, ate, he]; rfl, h5, fun F hF => by cases hF⟩
  | _ =>
   exact (Any.strconv_ParseInt_10_at64_syntax_var Tryz.laysC174 ⟨t.toArray⟩ (by rw [hs]; omega) (hpt.trans he) tp p w h1).mono fun e w' ⟨N, h3, _, _, h5⟩ => ⟨N, by rw [h3, ptv, ate, he]; rfl, h5, fun F hF => by cases hF⟩
theorem xq {M : Nat → Prop} {w : World} (h : LibP Tryz.prog M w) : ∃ m, w.cell? ⟨0, 0, none⟩ = some (.int .i64 m) := by
 obtain ⟨g, m, hg, hc⟩ := h.2.len;obtain rfl := Option.some.inj ((show Tryz.prog.globalNamed "internal/bytealg.MaxLen" = some 0 by kernel_rfl).symm.trans hg)
 exact ⟨m, hc⟩
theorem AF (s sep : Str) (hs : sep = [32]) (h : s.length < 4294967281) : Dw 191 [sV s, sV sep] [LibP Tryz.prog] (fun (X : SlV) => X.val (spl 32 s).length) (fun (X : SlV) => [RdL EStr X (spl 32 s)]) := by
 subst hs;exact ma (fun _ => inferInstance) fun M w hM hp => by
  obtain ⟨m, hm⟩ := xq (hp _ (.head _));refine (Any.strings_Split Tryz.lays146 (by kernel_rfl) ⟨s.toArray⟩ ⟨#[32]⟩ m w (by rw [kU]; exact h) hm (by decide)).mono fun e w' ⟨h1, h2⟩ => ?_;have hl := yY 32 s;have hlen : Lib.countB ⟨s.toArray⟩ ⟨#[32]⟩ + 1 = (spl 32 s).length := by
   have h3 := congrArg List.length hl;rw [List.length_map, List.length_map] at h3;rw [← h3, Lib.splitB_all ⟨#[32]⟩ (by decide) 0 _ _ rfl]
  rw [hl] at h2;rw [hlen] at h1;subst h2;have hb := (xd 32 s).2;refine ⟨⟨some ⟨w.heap.size, 0, none⟩, (spl 32 s).length⟩, h1, tM _ _, fun F hF => ?_⟩;rw [List.mem_singleton] at hF;subst hF;exact v7 hM _ _ (by omega)
theorem xr {c : UInt8} (s sep : Str) (hs : sep = [c]) (h : s.length < 4294967281) : Du 153 [sV s, sV sep] [LibP Tryz.prog] (.tuple #[sV (cutc c s).1, sV (cutc c s).2.1, .bool (cutc c s).2.2]) := by
 subst hs;exact ma (fun _ => inferInstance) fun M w hM hp => by
  obtain ⟨m, hm⟩ := xq (hp _ (.head _));refine (Any.strings_Cut Tryz.lays145 ⟨s.toArray⟩ ⟨#[c]⟩ m w (by rw [kU]; exact h) hm).mono fun e w' ⟨h1, n, h2⟩ => ⟨(), ?_, h2 ▸ xH n, fun F hF => by cases hF⟩;rw [h1, show Lib.cut (ByteArray.mk s.toArray).data.toList (ByteArray.mk #[c]).data.toList = cutc c s from B3 c s]
theorem vw (s p : Str) (h : s.length ≤ 9223372036854775807) : Du 121 [sV s, sV p] [] (.bool (Lib.hasSuffix s p)) :=
 ma (fun _ => inferInstance) fun M w hM hp => by
  refine (Any.strings_HasSuffix Tryz.lays100 ⟨s.toArray⟩ ⟨p.toArray⟩ w (by rw [kU]; exact h)).mono fun e w' ⟨h1, h2⟩ => ⟨(), h1, h2 ▸ Below.refl _ _, fun F hF => by cases hF⟩
theorem vu (X : SlV) (b : Option Nat) (l : List Str) (sep : Str) (h : (Lib.join l sep).length ≤ 140737488355328) : Dv 148 [X.val l.length, sV sep] [] ⟨[], [ownL EStr 9 X b l]⟩ (fun (_ : Unit) => sV (Lib.join l sep)) (fun (_ : Unit) => []) (fun (_ : Unit) => ⟨[], [ownL EStr 9 X b l]⟩) where
 st _ := inferInstance
 ok C hB hw := by
  have fin : ∀ {w' : World}, Below C.w0.heap.size C.w0 w' → WOk C ⟨0, [], [], [ownL EStr 9 X b l], []⟩ w' := fun hb => hw.grow hb;have ho := hw.ow _ (.head _);obtain ⟨h1, ⟨h2, h3⟩, h4⟩ := ho;simp only at h1 h2 h3 h4;cases hb : b with
  | none =>
   rw [hb] at h4 fin;obtain ⟨h0, A, hA⟩ := h4;have hl : l = [] := List.eq_nil_of_length_eq_zero h0;subst hl;have hx : X.val ([] : List Str).length = .slice A 0 0 := hA;rw [hx];exact (Any.strings_Join_none Tryz.lays156 Tryz.Builder_Extra_156 A 0 ⟨sep.toArray⟩ C.w0).mono fun e w' ⟨h5, h6⟩ => ⟨(), h5, h6 ▸ fin (Below.refl _ _)⟩
  | some g =>
   rw [hb] at h4 fin;obtain ⟨hg, cap, cur, hv, hh, hnc, hcap, hcs, htake⟩ := h4;have hx : X.val l.length = .slice (some ⟨g, 0, none⟩) l.length cap := hv;have hm : ((l.map fun s => (⟨s.toArray⟩ : ByteArray)).map (·.data.toList)) = l := by rw [List.map_map]; exact List.map_id'' (fun s => rfl) l
   have hml : (l.map fun s => (⟨s.toArray⟩ : ByteArray)).length = l.length := List.length_map _;have := Any.strings_Join Tryz.lays156 Tryz.Builder_Extra_156 g 0 cap (l.map fun s => ⟨s.toArray⟩) ⟨sep.toArray⟩ C.w0 (fun j x hj => by
    rw [List.getElem?_map] at hj;cases hlj : l[j]? with
    | none => rw [hlj] at hj; cases hj
    | some s =>
     rw [hlj] at hj;simp only [Option.map_some, Option.some.injEq] at hj;subst hj;have hlt := (List.getElem?_eq_some_iff.1 hlj).1;have hfl : l.flatMap EStr.enc = l.map sV := yB l;have hc : cur.toList[j]? = some (sV s) := by
      have h9 : (cur.toList.take (l.length * EStr.esz))[j]? = some (sV s) := by
       rw [htake, hfl, List.getElem?_map, hlj]; rfl
      rw [List.getElem?_take] at h9;rw [if_pos (by show j < l.length * 1; omega)] at h9;exact h9
     rw [Nat.zero_add];simp only [World.cell?, hh];rw [Array.getElem?_toList] at hc;exact hc) (ke hh) (by rw [hml]; have : l.length * 16 ≤ 140737488355328 := h3; omega) (by rw [hml]; exact hnc) (by rw [hm]; exact h)
   rw [hml] at this;rw [hx];refine this.mono fun e w' ⟨h5, h6⟩ => ⟨(), ?_, fin h6⟩;rw [h5, hm]
end
attribute [local irreducible] CW LibP RW RdL RdN VarP
theorem d7 (x : SlV) (l : List UInt8) : Dv 83 [x.val l.length] [RdL EByte x l] ⟨[], []⟩ (fun (X : SlV × Option Nat) => X.1.val l.length) (fun _ => []) (fun X => ⟨[], [ownL EByte 5 X.1 X.2 l]⟩) := by
 refine Dq Tryz.func83 fun C => ?_;refine e8 (φ := l.length * EByte.by_ ≤ 140737488355328) [RdL EByte x l] Sm (fun M w h => (allF1 h).len) fun hlen => ?_;refine Sy Tz (nl rfl rfl Zf rfl) ?_;refine eF ?_;(repeat refine er ?_); refine kX rfl rfl (fun hc0 => ?_) (fun hc0 => ?_)
 ·refine e8 [RdL EByte x l] Sm (fun M w h => (allF1 h).nil_of hc0) fun hnil => ?_;subst hnil;refine cw_le (eI EByte 5) ?_;refine Tx ?_;refine Tr ?_; exact Rr (⟨none, 0⟩, none)
 ·refine Bl EByte [] fun x1 x1b => ?_;refine Rp rfl rfl rfl rfl ?_;refine Ap EByte 1 [] l x1b (hb := by simp only [List.length_nil, Nat.zero_add]; exact hlen) fun x2 x2b => ?_;refine Tx ?_;refine Tr ?_; exact Rr (x2, x2b)
def dV (s2 : List UInt8) : List UInt8 → Nat → Bool
 | [], n1 => true
 | pn1 :: rn1, n1 => (bif ((pn1.toNat : Int) != ((gt s2 n1).toNat : Int)) then false else (dV s2 rn1 (n1 + 1)))
def gS (s1 : List UInt8) (s2 : List UInt8) : Bool :=
 (bif ((s1.length : Int) != (s2.length : Int)) then false else (dV s2 s1 0))
theorem na (y1 : SlV) (s1 : List UInt8) (y2 : SlV) (s2 : List UInt8) : Du 96 [y1.val s1.length, y2.val s2.length] [RdL EByte y1 s1, RdL EByte y2 s2] (.bool (gS s1 s2)) := by
 refine Dp Tryz.func96 fun C => ?_;refine Qc y1 1 fun hlen1 => ?_;refine Qc y2 1 fun hlen2 => ?_;have hf := Ri (gS.eq_1 s1 s2);refine Kn hf fun hc1 hc1p hf => ?_;refine Lq Nat [0,1,4,12] [] (fun n1 => ⟨[(13, .v (.int .i64 (n1 : Int)))], [], [], [], (n1 ≤ s1.length) ∧ (dV s2 (s1.drop n1) n1) = (gS s1 s2), s1.length - n1⟩) 0 ⟨N0, hf.symm⟩ ?_;rintro n1 ⟨hkn1, hf1⟩;simp only [Lc];refine Cu (fun hlt0 => ?_) fun hge0 => ?_
 ·refine Rg [] ?_;refine Dx [0,1] ?_;refine Rb 2 rfl (Xi n1) ?_;refine Ra 3 rfl X1 ?_;refine Dx [4,5] ?_;refine Rb 6 rfl (Xi n1) ?_;refine Ra 7 rfl X1 ?_;refine Ra 8 rfl Qp ?_;refine Re0 ?_;have hf := Ri hf1.symm;rw [aK hlt0, dV] at hf;refine Kn hf fun hc3 hc3p hf => ?_;refine Tt ?_;refine ⟨(n1 + 1), ⟨hlt0, hf.symm⟩, Oo, Le4⟩
 ·have hf := Ri hf1.symm;rw [Dl hge0, dV] at hf;exact Ru
theorem oz (a b : List UInt8) : gS a b = decide (a = b) := by
 have key : ∀ (l : List UInt8) (k : Nat), l.length + k = b.length → dV b l k = decide (l = b.drop k) := by
  intro l;induction l with
  | nil => intro k hk; rw [dV, Dl (by simp at hk; omega)]; simp
  | cons p r ih =>
   intro k hk;simp only [List.length_cons] at hk;rw [dV, ih (k + 1) (by omega), aK (by omega : k < b.length)];by_cases h : p = gt b k
   ·simp [h]
   ·have hn : ¬ ((p.toNat : Int) = ((gt b k).toNat : Int)) := fun e => h (UInt8.toNat_inj.1 (Int.ofNat_inj.1 e));simp [h, hn]
 rw [gS];by_cases h : a.length = b.length
 ·rw [key a 0 (by omega)]; simp [h]
 ·have : a ≠ b := fun e => h (by rw [e]);simp [this, Int.ofNat_inj, h]
theorem jR (y1 y2 : SlV) (a b : List UInt8) : Du 96 [y1.val a.length, y2.val b.length] [RdL EByte y1 a, RdL EByte y2 b] (.bool (decide (a = b))) := by
 have := na y1 a y2 b;rw [oz] at this;exact this
theorem n6 (y : SlV) (l : List UInt8) (n : Int) (hy : y = ⟨none, 0⟩ ∧ l = []) (hn : 0 ≤ n ∧ n * 1 ≤ 140737488355328) : Dv 123 [y.val l.length, .int .i64 n] [RdL EByte y l] ⟨[], []⟩ (fun (X : SlV × Option Nat) => X.1.val ([] : List UInt8).length) (fun _ => []) (fun X => ⟨[], [ownL EByte 5 X.1 X.2 []]⟩) := by
 obtain ⟨hy1, hy2⟩ := hy;subst hy1; subst hy2;obtain ⟨k, rfl⟩ : ∃ k : Nat, n = k := ⟨n.toNat, by omega⟩;refine Dq Tryz.func123 fun C => ?_;refine cw_le (eI EByte 5) ?_;refine Cd' (fun hc => ?_) fun hc => ?_
 ·exact absurd (of_decide_eq_true hc) (by omega)
 ·refine Sy Tz (q_cap rfl rfl Zf rfl) ?_;refine Tx ?_;refine Sq (q_is (v' := .int .i64 0) (q_sub rfl rfl Zf rfl Zf (fun _ => by decide)) rfl) ?_;refine Sq (q_is (v' := .int .i64 (k : Int)) (q_sub rfl rfl Zf rfl Zf Zo) (by simp)) ?_;refine Cd' (fun hc1 => ?_) fun hc1 => ?_
  ·have hk := of_decide_eq_true hc1;refine Sy Tz (q_cap rfl rfl Zf rfl) ?_;refine Sq (rR (h := 0) rfl rfl Zf rfl Zf rfl rfl Zf (fun _ => Nr)) ?_;refine Rp rfl rfl rfl rfl ?_;refine pj (n := k) (e := 5) (by_ := 1) .sq (au rfl) rfl rfl rfl rfl rfl rfl rfl rfl und_3 (fun _ _ _ => .here _ _ _) rfl rfl rfl rfl rfl rfl (by omega) (by omega) (by omega) fun x1 b1 zs => ?_;refine Tx ?_;refine qy (k := 0) .sq (au rfl) rfl rfl rfl rfl rfl rfl rfl rfl rfl (.here _ _ _) rfl N0 ?_;refine Tx ?_;refine Tr ?_; exact Rr (x1, b1)
  ·refine Tx ?_;refine Tr ?_; exact Rr (⟨none, 0⟩, none)
def dl  : List (List UInt8) → (List UInt8) → (List UInt8)
 | [], newslice1 => newslice1
 | pn2 :: rn2, newslice1 => (dl rn2 (newslice1 ++ pn2))
def ek (slices1 : List (List UInt8)) : List (List UInt8) → Nat → (List UInt8)
 | [], size1 => (dl slices1 ([] : List UInt8))
 | pn1 :: rn1, size1 => (bif decide (((size1 : Int) + (pn1.length : Int)) < 0) then [] else (ek slices1 rn1 (size1 + pn1.length)))
def ff (slices1 : List (List UInt8)) : List UInt8 :=
 (ek slices1 slices1 0)
theorem mH (y1 : SlV) (slices1 : List (List UInt8)) (hct : slices1.flatten.length * 1 ≤ 140737488355328) : Dv 74 [y1.val slices1.length] [RdN NBytes y1 slices1] ⟨[], []⟩ (fun (X : SlV × Option Nat) => X.1.val (ff slices1).length) (fun X => []) (fun X => ⟨[], [ownL EByte 5 X.1 X.2 (ff slices1)]⟩) := by
 refine Dq Tryz.func74 fun C => ?_;refine Qn y1 24 fun hlen1 => ?_;refine Lq (Nat × Nat) [0,2,9,10] [] (fun ⟨size1, n1⟩ => ⟨[(3, .v (.int .i64 (size1 : Int))), (11, .v (.int .i64 (n1 : Int)))], [], [], [], (n1 ≤ slices1.length) ∧ (size1 = ((slices1.take n1).flatten.length : Int)) ∧ (ek slices1 (slices1.drop n1) size1) = (ff slices1), slices1.length - n1⟩) ⟨0, 0⟩ ⟨N0, (by simp), (by simp only [ff, Cf, D0])⟩ ?_;rintro ⟨size1, n1⟩ ⟨hkn1, hsz, hf1⟩;simp only [Lc];refine Cu (fun hlt0 => ?_) fun hge0 => ?_
 ·refine Tx ?_;refine Ex NBytes y1 fun (γ1 : Nat → SlV) => ?_;refine Sq (Xn n1) ?_;refine Sq (i8 NBytes γ1 (v := (γ1 n1).val (gt slices1 n1).length) rfl rfl Zf rfl rfl Mm (fun _ => by first | assumption | omega) rfl) ?_;refine Gg NBytes γ1 n1 0 ?_;refine Tx ?_;refine Sq (q_add rfl rfl Zf rfl Zf (fun _ => by have := (ij slices1 hlt0).2; omega)) ?_;have hf := Ri hf1.symm;rw [aK hlt0, ek] at hf;refine Cp hf (fun hc2 hc2p hf => ?_) fun hc2 hc2p hf => ?_
  ·exact absurd (of_decide_eq_true hc2) (by omega)
  ·refine Tt ?_;refine ⟨⟨(size1 + (gt slices1 n1).length), (n1 + 1)⟩, ⟨hlt0, (by rw [(ij slices1 hlt0).1, List.length_append]; simp only [hsz]; omega), hf.symm⟩, Oo, Le4⟩
 ·refine Tx ?_;refine Fr EByte ?_;refine Cm (n6 Z0 ([] : List UInt8) (size1 : Int) ⟨rfl, rfl⟩ (by have h_ : (slices1.take n1).flatten.length ≤ slices1.flatten.length := (by rw [List.take_of_length_le hge0]; exact Nr); omega)) fun x1 => ?_;refine Lq (List UInt8 × SlV × Option Nat × Nat) [2,25,26] [] (fun ⟨newslice1, x2, x2b, n2⟩ => ⟨[(6, .v (x2.val newslice1.length)), (27, .v (.int .i64 (n2 : Int)))], [], [ownL EByte 5 x2 x2b newslice1], [], (n2 ≤ slices1.length) ∧ (newslice1.length = (slices1.take n2).flatten.length) ∧ (dl (slices1.drop n2) newslice1) = (ff slices1), slices1.length - n2⟩) ⟨([] : List UInt8), x1.1, x1.2, 0⟩ ⟨N0, (by simp), (by rw [← hf1, Dl hge0]; simp only [ek, Cf, D0])⟩ ?_;rintro ⟨newslice1, x2, x2b, n2⟩ ⟨hkn2, hnl, hf2⟩;simp only [Lc];refine Cu (fun hlt1 => ?_) fun hge1 => ?_
  ·refine Tx ?_;refine Ex NBytes y1 fun (γ2 : Nat → SlV) => ?_;refine Sq (Xn n2) ?_;refine Sq (i8 NBytes γ2 (v := (γ2 n2).val (gt slices1 n2).length) rfl rfl Zf rfl rfl Mm (fun _ => by first | assumption | omega) rfl) ?_;refine Gg NBytes γ2 n2 0 ?_;refine Ap EByte 1 newslice1 (gt slices1 n2) x2b (hb := (by have := (ij slices1 hlt1).2; show (_ + _) * 1 ≤ _; omega)) fun x3 x3b => ?_;refine Tt ?_;refine ⟨⟨(newslice1 ++ (gt slices1 n2)), x3, x3b, (n2 + 1)⟩, ⟨hlt1, (by rw [(ij slices1 hlt1).1]; simp only [List.length_append]; omega), (by rw [← hf2, aK hlt1]; simp only [dl, Cf, D0])⟩, Oo, Le4⟩
  ·have hf := Ri hf2.symm;rw [Dl hge1, dl] at hf;refine Rx ?_; exact Rr ⟨x2, x2b⟩
theorem oc (ls : List (List UInt8)) : ff ls = ls.flatten := by
 have h1 : ∀ (l : List (List UInt8)) (acc : List UInt8), dl l acc = acc ++ l.flatten := by
  intro l;induction l with
  | nil => intro acc; simp [dl]
  | cons a r ih => intro acc; rw [dl, ih]; simp
 have h0 : ∀ (l : List (List UInt8)) (k : Nat), ek ls l k = dl ls [] := by
  intro l;induction l with
  | nil => intro k; rfl
  | cons a r ih =>
   intro k;have : decide (((k : Int) + (a.length : Int)) < 0) = false := by simp; omega
   rw [ek, this, cond_false, ih]
 rw [ff, h0, h1, List.nil_append]
theorem dJ (y1 : SlV) (ls : List (List UInt8)) (hct : ls.flatten.length * 1 ≤ 140737488355328) : Dv 74 [y1.val ls.length] [RdN NBytes y1 ls] ⟨[], []⟩ (fun (X : SlV × Option Nat) => X.1.val ls.flatten.length) (fun _ => []) (fun X => ⟨[], [ownL EByte 5 X.1 X.2 ls.flatten]⟩) := by
 have := mH y1 ls hct;rw [oc] at this;exact this
abbrev I64 (n : Int) : Prop := -9223372036854775808 ≤ n ∧ n ≤ 9223372036854775807
variable {a : Int}
theorem li {n b : Int} : ak n a b = true ↔ a ≤ n ∧ n ≤ b := by simp [ak]
theorem pR (o : Op) : dv o = 0 ↔ (1 ≤ o.time ∧ o.time ≤ 10000) ∧ (0 ≤ o.who ∧ o.who ≤ 2) ∧ (1 ≤ o.node ∧ o.node ≤ 15) ∧ (0 ≤ o.parent ∧ o.parent ≤ 16) ∧ (0 ≤ o.name ∧ o.name ≤ 99) ∧ (1 ≤ o.life ∧ o.life ≤ 50) ∧ (1 ≤ o.seq ∧ o.seq ≤ 30) := by
 unfold dv;generalize hb : (((((((((((((decide (o.time < 1) || decide (o.time > 10000)) || decide (o.who < 0)) || decide (o.who ≥ 3)) || decide (o.node < 1)) || decide (o.node ≥ 16)) || decide (o.parent < 0)) || decide (o.parent > 16)) || decide (o.name < 0)) || decide (o.name > 99)) || decide (o.life < 1)) || decide (o.life > 50)) || decide (o.seq < 1)) || decide (o.seq > 30)) = b;cases b with
 | true =>
  simp only [cond_true];simp only [Bq] at hb;constructor
  ·intro h; exact absurd h (by decide)
  ·intro h; simp only [or_assoc] at hb; rcases hb with hb | hb | hb | hb | hb | hb | hb | hb | hb | hb | hb | hb | hb | hb <;> omega
 | false =>
  simp only [cond_false];simp only [Bo] at hb;refine ⟨fun _ => ?_, fun _ => trivial⟩;refine ⟨⟨?_, ?_⟩, ⟨?_, ?_⟩, ⟨?_, ?_⟩, ⟨?_, ?_⟩, ⟨?_, ?_⟩, ⟨?_, ?_⟩, ?_, ?_⟩ <;> omega
theorem uc (o : Op) : aG o = dv o := by
 have h1 := pR o;have h2 : aG o = 0 ↔ dv o = 0 := by
  rw [h1];unfold aG aU;generalize hb : (((!(ak o.node 1 15)) || (!(ak o.parent 0 16))) || (!(ak o.name 0 99))) = b;cases b with
  | true =>
   simp only [Bool.or_eq_true, Bool.not_eq_true', ← Bool.not_eq_true, li] at hb;simp;omega
  | false =>
   simp only [Bool.or_eq_false_iff, Bool.not_eq_false', li] at hb;simp only [cond_false];generalize hc : (((((!(ak o.time 1 10000)) || (!(ak o.who 0 2))) || ((0 : Int) != 0)) || (!(ak o.life 1 50))) || (!(ak o.seq 1 30))) = c;cases c with
   | true =>
    simp only [Bool.or_eq_true, Bool.not_eq_true', ← Bool.not_eq_true, li, bne_self_eq_false, Bool.false_eq_true, or_false] at hc;simp;omega
   | false =>
    simp only [Bool.or_eq_false_iff, Bool.not_eq_false', li] at hc;simp;omega
 have h3 : ∀ o, aG o = 0 ∨ aG o = 3 := fun o => by unfold aG; cases (((((!(ak o.time 1 10000)) || (!(ak o.who 0 2))) || ((aU (⟨o.node, o.parent, o.name⟩ : Place)) != 0)) || (!(ak o.life 1 50))) || (!(ak o.seq 1 30))) <;> simp
 have h4 : dv o = 0 ∨ dv o = 3 := by unfold dv; cases (((((((((((((decide (o.time < 1) || decide (o.time > 10000)) || decide (o.who < 0)) || decide (o.who ≥ 3)) || decide (o.node < 1)) || decide (o.node ≥ 16)) || decide (o.parent < 0)) || decide (o.parent > 16)) || decide (o.name < 0)) || decide (o.name > 99)) || decide (o.life < 1)) || decide (o.life > 50)) || decide (o.seq < 1)) || decide (o.seq > 30)) <;> simp
 have h3 := h3 o;omega
theorem tT (l : List Int) : ∀ (r : List Int) (k : Nat) (last : Int), r = l.drop k → (k = 0 → last = -1) → (0 < k → last = gt l (k - 1)) → (0 < k → 0 ≤ last) → fc l r k = co r last
 | [], k, last, _, _, _, _ => rfl
 | n :: r, k, last, hr, h0, h1, h2 => by
  have hk : k < l.length := by
   have := congrArg List.length hr;simp at this; omega
  rw [aK hk] at hr;injection hr with hn hr;rw [fc, co];have e1 : (decide (n < 0) || decide (n > 16)) = !(ak n 0 16) := by
   rw [Bool.eq_iff_iff]; simp [ak]; try omega
  rw [e1];cases hb : ak n 0 16 with
  | false => rfl
  | true =>
   rw [li] at hb;have e2 : (decide ((k : Int) > 0) && decide ((gt l (k - 1)) ≥ n)) = decide (n ≤ last) := by
    rw [Bool.eq_iff_iff];simp only [Ba];rcases Nat.eq_zero_or_pos k with h | h
    ·have := h0 h; omega
    ·have := h1 h; omega
   rw [e2];simp only [Bool.not_true, cond_false];rw [tT l r (k + 1) n hr (by omega) (fun _ => by rw [Nat.add_sub_cancel, hn]) (fun _ => hb.1)]
theorem yP (l : List Int) : cm l = bE l := by
 unfold cm bE;rw [tT l l 0 (-1) rfl (fun _ => rfl) (fun h => absurd h (by omega)) (fun h => absurd h (by omega))]
theorem oQ (r : Rec) : aH r = bf r := by
 unfold aH bf;rw [uc, yP];have e0 : ∀ n : Nat, decide ((n : Int) > 0) = ((n : Int) != 0) := fun n => by rw [Bool.eq_iff_iff]; simp; try omega
 have e3 : ∀ n a b : Int, (!(ak n a b)) = (decide (n < a) || decide (n > b)) := fun n a b => by rw [Bool.eq_iff_iff]; simp [ak]; try omega
 rw [e0, e3, e3];have e4 : decide (r.who ≥ 3) = decide (r.who > 2) := by rw [Bool.eq_iff_iff]; simp; try omega
 rw [e4];obtain ⟨kind, who, life, roots, o⟩ := r;simp only;generalize (decide (who < 0) || decide (who > 2)) = c1;generalize (decide (life < 1) || decide (life > 50)) = c2;generalize decide (o = (⟨0, 0, 0, 0, 0, 0, 0⟩ : Op)) = c3;generalize h9 : ((roots.length : Int) != 0) = c4;generalize (life != 0) = c5;generalize (who != 0) = c6;by_cases h1 : kind = 1
 ·subst h1; cases c6 <;> cases c5 <;> cases c4 <;> rfl
 ·by_cases h2 : kind = 2
  ·subst h2;cases c4 with
   | true => cases c1 <;> cases c2 <;> cases c3 <;> rfl
   | false =>
    have : roots = [] := List.eq_nil_of_length_eq_zero (by simpa using h9);subst this;cases c1 <;> cases c2 <;> cases c3 <;> rfl
  ·by_cases h3 : kind = 3
   ·subst h3; cases c1 <;> cases c3 <;> cases c5 <;> rfl
   ·have h4 : (decide (kind < 1) || decide (kind > 3)) = true := by simp; omega
    have h5 : (kind == 1) = false := by simpa using h1
    have h6 : (kind == 2) = false := by simpa using h2
    have h7 : (kind == 3) = false := by simpa using h3
    rw [h4, h5, h6, h7];rfl
def wordOf (r : Rec) : Str := bif r.kind == 1 then [111, 112] else bif r.kind == 2 then [108, 105, 102, 101] else [114, 111, 111, 116, 115]
def kp (r : Rec) : List Int := bif r.kind == 1 then [r.o.time, r.o.who, r.o.node, r.o.parent, r.o.name, r.o.life, r.o.seq] else bif r.kind == 2 then [r.who, r.life] else r.who :: r.roots
variable {l : List Int}
theorem Cg (h : cm l = 0) : l.length ≤ 4 ∧ ∀ n ∈ l, 0 ≤ n ∧ n ≤ 16 := by
 rw [yP] at h;unfold bE at h;cases hb : decide ((l.length : Int) > 4) with
 | true => rw [hb] at h; simp at h
 | false =>
  rw [hb, cond_false] at h;refine ⟨by have := of_decide_eq_false hb; omega, ?_⟩;clear hb;generalize (-1 : Int) = last at h;induction l generalizing last with
  | nil => intro n hn; cases hn
  | cons a r ih =>
   rw [co] at h;cases hi : ak a 0 16 with
   | false => rw [hi] at h; simp at h
   | true =>
    rw [hi] at h;cases hd : decide (a ≤ last) with
    | true => rw [hd] at h; simp at h
    | false =>
     rw [hd] at h;simp only [Bool.not_true, cond_false] at h;intro n hn;rcases List.mem_cons.1 hn with rfl | hn
     ·exact li.1 hi
     ·exact ih a h n hn
inductive Right (r : Rec) : Prop
 | op (h : r = ⟨1, 0, 0, [], r.o⟩) (ho : dv r.o = 0)
 | life (h : r = ⟨2, r.who, r.life, [], ⟨0, 0, 0, 0, 0, 0, 0⟩⟩) (hw : 0 ≤ r.who ∧ r.who ≤ 2) (hl : 1 ≤ r.life ∧ r.life ≤ 50)
 | roots (h : r = ⟨3, r.who, 0, r.roots, ⟨0, 0, 0, 0, 0, 0, 0⟩⟩) (hw : 0 ≤ r.who ∧ r.who ≤ 2) (hr : cm r.roots = 0)
theorem ka (r : Rec) : aH r = 0 ↔ Right r := by
 constructor
 ·intro h;unfold aH at h;obtain ⟨kind, who, life, roots, o⟩ := r;simp only at h;cases hk : (decide (kind < 1) || decide (kind > 3)) with
  | true => rw [hk] at h; simp at h
  | false =>
   rw [hk, cond_false] at h;simp only [Bo] at hk;by_cases h1 : kind = 1
   ·subst h1;simp only [beq_self_eq_true, cond_true] at h;cases hb : ((who != 0) || (life != 0)) || decide ((roots.length : Int) > 0) with
    | true => rw [hb] at h; simp at h
    | false =>
     rw [hb, cond_false] at h;simp only [Bo, bne_eq_false_iff_eq] at hb;obtain ⟨⟨rfl, rfl⟩, h3⟩ := hb;have : roots = [] := List.eq_nil_of_length_eq_zero (by omega);subst this;exact .op rfl h
   ·have h1' : (kind == 1) = false := by simpa using h1
    rw [h1', cond_false] at h;cases hb : (((!(decide (o = (⟨0, 0, 0, 0, 0, 0, 0⟩ : Op)))) || ((kind == 3) && (life != 0))) || ((kind == 2) && decide ((roots.length : Int) > 0))) with
    | true => rw [hb] at h; simp at h
    | false =>
     rw [hb, cond_false] at h;simp only [Bool.or_eq_false_iff, Bool.not_eq_false', decide_eq_true_eq] at hb;obtain ⟨⟨rfl, hb1⟩, hb2⟩ := hb;cases hc : ((decide (who < 0) || decide (who ≥ 3)) || ((kind == 2) && (decide (life < 1) || decide (life > 50)))) with
     | true => rw [hc] at h; simp at h
     | false =>
      rw [hc, cond_false] at h;simp only [Bo] at hc;obtain ⟨⟨hc1, hc2⟩, hc3⟩ := hc;by_cases h2 : kind = 2
      ·subst h2;simp at hb2 hc3;subst hb2;exact .life rfl (by simp only; omega) (by simp only; omega)
      ·have h3 : kind = 3 := by omega
       subst h3;simp at hb1;subst hb1;exact .roots rfl (by simp only; omega) h
 ·intro h;unfold aH;cases h with
  | op h ho => rw [h]; simpa using ho
  | life h hw hl =>
   rw [h];have e1 : (decide (r.who < 0) || decide (r.who ≥ 3)) = false := by simp; omega
   have e2 : (decide (r.life < 1) || decide (r.life > 50)) = false := by simp; omega
   simp only [e1, e2];rfl
  | roots h hw hr =>
   rw [h];have e1 : (decide (r.who < 0) || decide (r.who ≥ 3)) = false := by simp; omega
   simp only [e1];exact hr
variable {r : Rec}
theorem s9 (h : aH r = 0) : (kp r).length ≤ 7 ∧ ∀ n ∈ kp r, I64 n := by
 rcases (ka r).1 h with ⟨h1, ho⟩ | ⟨h1, hw, hl⟩ | ⟨h1, hw, hr⟩
 ·have h2 := (pR r.o).1 ho;have : kp r = [r.o.time, r.o.who, r.o.node, r.o.parent, r.o.name, r.o.life, r.o.seq] := by rw [h1]; rfl
  rw [this];refine ⟨by simp, fun n hn => ?_⟩;simp only [List.mem_cons, List.not_mem_nil, or_false] at hn;rcases hn with rfl | rfl | rfl | rfl | rfl | rfl | rfl <;> (simp only [I64]; omega)
 ·have : kp r = [r.who, r.life] := by rw [h1]; rfl
  rw [this];refine ⟨by simp, fun n hn => ?_⟩;simp only [List.mem_cons, List.not_mem_nil, or_false] at hn;rcases hn with rfl | rfl <;> (simp only [I64]; omega)
 ·have : kp r = r.who :: r.roots := by rw [h1]; rfl
  rw [this];have h2 := Cg hr;refine ⟨by simp only [List.length_cons]; omega, fun n hn => ?_⟩;rcases List.mem_cons.1 hn with rfl | hn
  ·simp only [I64]; omega
  ·have := h2.2 n hn; simp only [I64]; omega
theorem Av (h : aH r = 0) (hk : (r.kind == 1) = true) : ∀ n ∈ [r.o.time, r.o.who, r.o.node, r.o.parent, r.o.name, r.o.life, r.o.seq], I64 n := by
 have := (s9 h).2; rwa [kp, hk] at this
theorem wk (h : aH r = 0) (hk : (r.kind == 2) = true) : ∀ n ∈ [r.who, r.life], I64 n := by
 have hk1 : (r.kind == 1) = false := by have := eq_of_beq hk; rw [this]; rfl
 have := (s9 h).2; rwa [kp, hk1, hk] at this
theorem uy (h : aH r = 0) (hk1 : (r.kind == 1) = false) (hk : (r.kind == 2) = false) : (r.roots.length ≤ 6) ∧ ∀ n ∈ r.who :: r.roots, I64 n := by
 have := s9 h; rw [kp, hk1, hk] at this; simp only [cond_false, List.length_cons] at this; exact ⟨by omega, this.2⟩
theorem zm (h : aH r = 0) (h1 : (r.kind == 2) = false) (h2 : (r.kind == 3) = false) : (r.kind == 1) = true := by
 rcases (ka r).1 h with ⟨e, _⟩ | ⟨e, _, _⟩ | ⟨e, _, _⟩
 ·rw [e]; rfl
 ·rw [e] at h1; cases h1
 ·rw [e] at h2; cases h2
variable {k : Int}
theorem DA (h : (r.kind == k) = true) (hk : (k == 1) = false) : (r.kind == 1) = false := by rw [eq_of_beq h]; exact hk
def hC  : List Int → Str → (Str × Int)
 | [], s2 => (s2, 0)
 | pn1 :: rn1, s2 => (hC rn1 (s2 ++ (([32] : Str) ++ (Lib.itoa pn1))))
def cZ (r1 : Rec) : Str × (List Int) :=
 (bif (r1.kind == 2) then (([108, 105, 102, 101] : Str), [r1.who, r1.life]) else (bif (r1.kind == 3) then (([114, 111, 111, 116, 115] : Str), ([r1.who] ++ r1.roots)) else (([111, 112] : Str), [r1.o.time, r1.o.who, r1.o.node, r1.o.parent, r1.o.name, r1.o.life, r1.o.seq])))
def du (r1 : Rec) : Str × Int :=
 (bif ((aH r1) != 0) then (([] : Str), (aH r1)) else (hC (cZ r1).2 (cZ r1).1))
theorem ta (y1 : SlV) (r1 : Rec) : Du 206 [.agg ⟨cR y1 r1⟩] [RdL EInt y1 r1.roots, LibP Tryz.prog] (.tuple #[sV (du r1).1, .int .i64 (du r1).2]) := by
 refine Dp Tryz.func206 fun C => ?_;refine Qc y1 8 fun hlen1 => ?_;refine BxT fun g1 => ?_;refine Ck (jb y1 r1) fun _ => ?_;have hf := Ri (du.eq_1 r1);refine Kn hf fun hc1 hc1p hf => ?_;have hck := ag hc1;refine Rg [] ?_;refine Dx [0,1,2,3,4,5,6,7,8,9,10,11,12,13,14,15,16,17,18,19,20,21,22,24] ?_;refine Rn 23 ?_;refine Bl EInt [r1.o.time, r1.o.who, r1.o.node, r1.o.parent, r1.o.name, r1.o.life, r1.o.seq] fun x1 x1b => ?_;refine Ra 25 rfl Qp ?_;refine Re0 ?_;(repeat refine er ?_); refine kk ?_;refine Rp rfl rfl rfl rfl ?_;refine Sq (q_ld1 rfl rfl Zf rfl Mm rfl) ?_;refine eF ?_;(repeat refine er ?_); refine pA ?_;refine Ty ?_
 refine mb [2, 3] [true] (fun (i_ : Str × List Int × SlV × Option Nat) => match i_ with | ⟨s1, l1, x2, x2b⟩ => [(5, .v (sV s1)), (6, .v (x2.val l1.length))]) (fun (i_ : Str × List Int × SlV × Option Nat) => match i_ with | ⟨s1, l1, x2, x2b⟩ => []) (fun (i_ : Str × List Int × SlV × Option Nat) => match i_ with | ⟨s1, l1, x2, x2b⟩ => [ownL EInt 3 x2 x2b l1]) (fun (i_ : Str × List Int × SlV × Option Nat) => match i_ with | ⟨s1, l1, x2, x2b⟩ => []) (fun (i_ : Str × List Int × SlV × Option Nat) => match i_ with | ⟨s1, l1, x2, x2b⟩ => (s1.length ≤ 5) ∧ (∀ n ∈ l1, I64 n) ∧ s1 = (cZ r1).1 ∧ l1 = (cZ r1).2) (.cons rfl (.cons rfl (.nil _))) (.keep (.nil)) ?_ ?_
 ·refine Cd' (fun hc2 => ?_) fun hc2 => ?_
  ·have hc2p := eq_of_beq hc2;have hbn := wk hck hc2;refine Rg [] ?_;refine Dx [0,1,2,3,5] ?_;refine Rn 4 ?_;refine Bl EInt [r1.who, r1.life] fun x3 x3b => ?_;refine Ra 6 rfl Qp ?_;refine Re0 ?_;have hv1 : (cZ r1) = (([108, 105, 102, 101] : Str), [r1.who, r1.life]) := by simp only [cZ, hc2, Bool.true_and, Bool.and_true, Cf]
   refine ⟨⟨([108, 105, 102, 101] : Str), [r1.who, r1.life], x3, x3b⟩, ⟨(by decide), hbn, (by rw [hv1]), (by rw [hv1])⟩, Le4⟩
  ·have hc2p := ne_of_beq_false hc2;have hk2 := hc2;refine Cd' (fun hc3 => ?_) fun hc3 => ?_
   ·have hc3p := eq_of_beq hc3;have hbn0 := uy hck (DA hc3 rfl) hk2; have hbn := hbn0.2; have hrl := hbn0.1;refine Bl EInt [r1.who] fun x4 x4b => ?_;refine Ap EInt 8 [r1.who] r1.roots x4b fun x5 x5b => ?_;refine Tx ?_;have hv2 : (cZ r1) = (([114, 111, 111, 116, 115] : Str), ([r1.who] ++ r1.roots)) := by simp only [cZ, hc2, hc3, Bool.true_and, Bool.and_true, Cf]
    refine ⟨⟨([114, 111, 111, 116, 115] : Str), ([r1.who] ++ r1.roots), x5, x5b⟩, ⟨(by decide), hbn, (by rw [hv2]), (by rw [hv2])⟩, Le4⟩
   ·have hc3p := ne_of_beq_false hc3;have hbn := Av hck (zm hck hk2 hc3);refine Tx ?_;have hv3 : (cZ r1) = (([111, 112] : Str), [r1.o.time, r1.o.who, r1.o.node, r1.o.parent, r1.o.name, r1.o.life, r1.o.seq]) := by simp only [cZ, hc2, hc3, Bool.true_and, Bool.and_true, Cf]
    refine ⟨⟨([111, 112] : Str), [r1.o.time, r1.o.who, r1.o.node, r1.o.parent, r1.o.name, r1.o.life, r1.o.seq], x1, x1b⟩, ⟨(by decide), hbn, (by rw [hv3]), (by rw [hv3])⟩, Le4⟩
 ·rintro ⟨s1, l1, x2, x2b⟩ ⟨hs5, hbn, rfl, rfl⟩;simp only [Lc];refine Tx ?_;refine Fz x2 ?_;refine Qc x2 8 fun hlen2 => ?_;refine Lq (Str × Nat) [2,3,55,56] [true] (fun ⟨s2, n1⟩ => ⟨[(5, .v (sV s2)), (57, .v (.int .i64 (n1 : Int)))], [], [], [], (n1 ≤ (cZ r1).2.length) ∧ (s2.length ≤ 5 + 22 * n1) ∧ (hC ((cZ r1).2.drop n1) s2) = (du r1), (cZ r1).2.length - n1⟩) ⟨(cZ r1).1, 0⟩ ⟨N0, Nz, hf.symm⟩ ?_;rintro ⟨s2, n1⟩ ⟨hkn1, hsl, hf1⟩;simp only [Lc];refine Cu (fun hlt0 => ?_) fun hge0 => ?_
  ·have hit := Lib.itoa_length_le _ (hbn _ (gJ hlt0)).1 (hbn _ (gJ hlt0)).2;refine Sy Tz (Xi n1) ?_;refine Sq X1 ?_;refine Ck (vv (gt (cZ r1).2 n1) (hbn _ (gJ hlt0))) fun _ => ?_;refine Sq (z8 (a := ([32] : Str)) (b := (Lib.itoa (gt (cZ r1).2 n1))) rfl rfl Zf rfl Zf (fun _ => by (show ([32] : Str).length + _ ≤ _; simp only [List.length_cons, List.length_nil]; omega))) ?_;refine Sq (z8 (a := s2) (b := (([32] : Str) ++ (Lib.itoa (gt (cZ r1).2 n1)))) rfl rfl Zf rfl Zf (fun _ => by (simp only [Ln]; omega))) ?_;refine Tt ?_;refine ⟨⟨(s2 ++ (([32] : Str) ++ (Lib.itoa (gt (cZ r1).2 n1)))), (n1 + 1)⟩, ⟨hlt0, Zl, (by rw [← hf1, aK hlt0]; simp only [hC, Cf, D0])⟩, Oo, Le4⟩
  ·have hf := Ri hf1.symm;rw [Dl hge0, hC] at hf;exact Ru
variable {p : Bool}
theorem yu {n : Nat} (h : (p && ((n : Int) == k)) = true) : (n : Int) = k := by simp at h; exact h.2
theorem len_gt {n : Nat} (h : (p && decide ((n : Int) > 0)) = true) : 0 < n := by simp at h; exact h.2
theorem len_ge {n : Nat} (h : (p && decide ((n : Int) ≥ 1)) = true) : 0 < n := by simp at h; omega
variable {i : Nat} {s : Str}
theorem zo {c : UInt8} (h : i < ((spl c s).drop 1).length) : (gt ((spl c s).drop 1) i).length ≤ s.length := m7 (List.mem_of_mem_drop (gJ h))
def hI (s1 : Str) : List Str → (List Int) → (Rec × Int)
 | [], n1 => (bif (((gt (spl 32 s1) 0) == ([111, 112] : Str)) && ((n1.length : Int) == 7)) then (bif ((aH (⟨1, 0, 0, ([] : List Int), (⟨(gt n1 0), (gt n1 1), (gt n1 2), (gt n1 3), (gt n1 4), (gt n1 5), (gt n1 6)⟩ : Op)⟩ : Rec)) != 0) then ((⟨0, 0, 0, ([] : List Int), (⟨0, 0, 0, 0, 0, 0, 0⟩ : Op)⟩ : Rec), (aH (⟨1, 0, 0, ([] : List Int), (⟨(gt n1 0), (gt n1 1), (gt n1 2), (gt n1 3), (gt n1 4), (gt n1 5), (gt n1 6)⟩ : Op)⟩ : Rec))) else ((⟨1, 0, 0, ([] : List Int), (⟨(gt n1 0), (gt n1 1), (gt n1 2), (gt n1 3), (gt n1 4), (gt n1 5), (gt n1 6)⟩ : Op)⟩ : Rec), 0)) else (bif (((gt (spl 32 s1) 0) == ([108, 105, 102, 101] : Str)) && ((n1.length : Int) == 2)) then (bif ((aH (⟨2, (gt n1 0), (gt n1 1), ([] : List Int), (⟨0, 0, 0, 0, 0, 0, 0⟩ : Op)⟩ : Rec)) != 0) then ((⟨0, 0, 0, ([] : List Int), (⟨0, 0, 0, 0, 0, 0, 0⟩ : Op)⟩ : Rec), (aH (⟨2, (gt n1 0), (gt n1 1), ([] : List Int), (⟨0, 0, 0, 0, 0, 0, 0⟩ : Op)⟩ : Rec))) else ((⟨2, (gt n1 0), (gt n1 1), ([] : List Int), (⟨0, 0, 0, 0, 0, 0, 0⟩ : Op)⟩ : Rec), 0)) else (bif (((gt (spl 32 s1) 0) == ([114, 111, 111, 116, 115] : Str)) && decide ((n1.length : Int) > 0)) then (bif ((aH (⟨3, (gt n1 0), 0, (n1.drop 1), (⟨0, 0, 0, 0, 0, 0, 0⟩ : Op)⟩ : Rec)) != 0) then ((⟨0, 0, 0, ([] : List Int), (⟨0, 0, 0, 0, 0, 0, 0⟩ : Op)⟩ : Rec), (aH (⟨3, (gt n1 0), 0, (n1.drop 1), (⟨0, 0, 0, 0, 0, 0, 0⟩ : Op)⟩ : Rec))) else ((⟨3, (gt n1 0), 0, (n1.drop 1), (⟨0, 0, 0, 0, 0, 0, 0⟩ : Op)⟩ : Rec), 0)) else ((⟨0, 0, 0, ([] : List Int), (⟨0, 0, 0, 0, 0, 0, 0⟩ : Op)⟩ : Rec), 1))))
 | pn2 :: rn2, n1 => (bif ((ate pn2) || ((Lib.itoa (atv pn2)) != pn2)) then ((⟨0, 0, 0, ([] : List Int), (⟨0, 0, 0, 0, 0, 0, 0⟩ : Op)⟩ : Rec), 1) else (hI s1 rn2 (n1 ++ [(atv pn2)])))
def cw (s1 : Str) : Rec × Int :=
 (bif decide ((s1.length : Int) > 60000) then ((⟨0, 0, 0, ([] : List Int), (⟨0, 0, 0, 0, 0, 0, 0⟩ : Op)⟩ : Rec), 2) else (hI s1 ((spl 32 s1).drop 1) []))
theorem tc (s1 : Str) : Dw 154 [sV s1] [LibP Tryz.prog] (fun (X : SlV) => .tuple #[.agg ⟨cR X (cw s1).1⟩, .int .i64 (cw s1).2]) (fun X => [RdL EInt X (cw s1).1.roots]) := by
 refine Dp Tryz.func154 fun C => ?_;refine AlT fun g1 => ?_;refine Sy Tz (oI (a := s1) rfl rfl Zf und_9) ?_;have hf := Ri (cw.eq_1 s1);refine Cp hf (fun hc1 hc1p hf => ?_) fun hc1 hc1p hf => ?_
 ·refine Tx ?_;refine Fc EInt ?_;refine Rx ?_; exact Re Z0 (Va (Vt Vn))
 ·refine Ck (AF s1 ([32] : Str) rfl (by omega)) fun x1 => ?_;refine Qr x1 16 fun hlen1 => ?_;have hspl := (xd 32 s1).1;refine Sy Tz (rS EStr 1 rfl rfl Zf rfl Zf rfl rfl Zo Zo) ?_;refine Dz x1 1 ?_;refine Tx ?_;refine Qc (⟨slA x1.a x1.c 1 EStr.esz, x1.c - 1⟩ : SlV) 16 fun hlen2 => ?_;refine Lq (List Int × SlV × Option Nat × Nat) [2,3,4,19,20] [true] (fun ⟨n1, x2, x2b, n2⟩ => ⟨[(5, .v (x2.val n1.length)), (21, .v (.int .i64 (n2 : Int)))], [], [ownL EInt 3 x2 x2b n1], [], (n2 ≤ ((spl 32 s1).drop 1).length) ∧ (n1.length ≤ n2) ∧ (hI s1 (((spl 32 s1).drop 1).drop n2) n1) = (cw s1), ((spl 32 s1).drop 1).length - n2⟩) ⟨[], ⟨none, 0⟩, none, 0⟩ ⟨N0, Nz, hf.symm⟩ ?_ (hs := Le.trans (eI EInt 3) Le4);rintro ⟨n1, x2, x2b, n2⟩ ⟨hkn2, hn1, hf1⟩;simp only [Lc];refine Cu (fun hlt0 => ?_) fun hge0 => ?_
  ·refine Sy Tz (Xi n2) ?_;refine Sq X1 ?_;refine Ck (BQ (gt ((spl 32 s1).drop 1) n2) (Nat.le_trans (zo hlt0) (by omega))) fun x3 => ?_;refine Sy Tz (z7 rfl rfl Zf va) ?_;refine Cy (fun hG_ => vv (atv (gt ((spl 32 s1).drop 1) n2)) (zw _)) ?_;refine Tx ?_;refine Sg Gz (q_neS (a := (Lib.itoa (atv (gt ((spl 32 s1).drop 1) n2)))) (b := (gt ((spl 32 s1).drop 1) n2)) rfl rfl Bt rfl Bt) ?_;have hf := Ri hf1.symm;rw [aK hlt0, hI] at hf;refine Ch hf (fun hc3 hf => ?_) fun hc3 hf => ?_
   ·refine Tx ?_;refine Fc EInt ?_;refine Rx ?_; exact Re Z0 (Va (Vt Vn))
   ·refine Bl EInt [(atv (gt ((spl 32 s1).drop 1) n2))] fun x4 x4b => ?_;refine Ap EInt 8 n1 [(atv (gt ((spl 32 s1).drop 1) n2))] x2b fun x5 x5b => ?_;refine Tt ?_;refine ⟨⟨(n1 ++ [(atv (gt ((spl 32 s1).drop 1) n2))]), x5, x5b, (n2 + 1)⟩, ⟨hlt0, Zl, hf.symm⟩, Oo, Le4⟩
  ·refine Fz x2 ?_;refine AlT fun g2 => ?_;refine Sy Tz (Xi 0) ?_;refine Sq X1 ?_;refine Sq (q_eqS (a := (gt (spl 32 s1) 0)) (b := ([111, 112] : Str)) rfl rfl Zf rfl Zf) ?_;have hf := Ri hf1.symm;rw [Dl hge0, hI] at hf;refine Ch hf (fun hc4 hf => ?_) fun hc4 hf => ?_
   ·have hl7 := yu hc4;refine Rg [(24,some [g2])] ?_;refine Rb 0 rfl Qp ?_;refine Rb 1 rfl (Xi 0) ?_;refine Rb 2 rfl X1 ?_;refine Rb 3 rfl Qp ?_;refine Rb 4 rfl (Xi 1) ?_;refine Rb 5 rfl X1 ?_;refine Dx [6,7] ?_;refine Rb 8 rfl (Xi 2) ?_;refine Rb 9 rfl X1 ?_;refine Rb 10 rfl Qp ?_;refine Rb 11 rfl (Xi 3) ?_;refine Rb 12 rfl X1 ?_;refine Rb 13 rfl Qp ?_;refine Rb 14 rfl (Xi 4) ?_;refine Rb 15 rfl X1 ?_;refine Rb 16 rfl Qp ?_;refine Rb 17 rfl (Xi 5) ?_;refine Rb 18 rfl X1 ?_;refine Rb 19 rfl Qp ?_;refine Rb 20 rfl (Xi 6) ?_;refine Rb 21 rfl X1 ?_;refine Dx [22,23] ?_;refine Rn 24 ?_;refine Wa ?_;refine Re0 ?_;refine Tx ?_;refine Fr EInt ?_;refine Ck (jb Z0 (⟨1, 0, 0, ([] : List Int), (⟨(gt n1 0), (gt n1 1), (gt n1 2), (gt n1 3), (gt n1 4), (gt n1 5), (gt n1 6)⟩ : Op)⟩ : Rec)) fun _ => ?_;refine Cn hf (fun hc5 hc5p hf => ?_) fun hc5 hc5p hf => ?_
    ·refine Rx ?_; exact Re Z0 (Va (Vt Vn))
    ·refine Rx ?_; exact Re Z0 (Va (Vt Vn))
   ·refine Sy Tz (Xi 0) ?_;refine Sq X1 ?_;refine Sq (q_eqS (a := (gt (spl 32 s1) 0)) (b := ([108, 105, 102, 101] : Str)) rfl rfl Zf rfl Zf) ?_;refine Ch hf (fun hc6 hf => ?_) fun hc6 hf => ?_
    ·have hl7 := yu hc6;refine Rg [(7,some [g2])] ?_;refine Rb 0 rfl Qp ?_;refine Rb 1 rfl (Xi 0) ?_;refine Ra 2 rfl X1 ?_;refine Rb 3 rfl Qp ?_;refine Rb 4 rfl (Xi 1) ?_;refine Ra 5 rfl X1 ?_;refine Ra 6 rfl Qp ?_;refine Rn 7 ?_;refine Wa ?_;refine Re0 ?_;refine Tx ?_;refine Fr EInt ?_;refine Ck (jb Z0 (⟨2, (gt n1 0), (gt n1 1), ([] : List Int), (⟨0, 0, 0, 0, 0, 0, 0⟩ : Op)⟩ : Rec)) fun _ => ?_;refine Cn hf (fun hc7 hc7p hf => ?_) fun hc7 hc7p hf => ?_
     ·refine Rx ?_; exact Re Z0 (Va (Vt Vn))
     ·refine Rx ?_; exact Re Z0 (Va (Vt Vn))
    ·refine Sy Tz (Xi 0) ?_;refine Sq X1 ?_;refine Sq (q_eqS (a := (gt (spl 32 s1) 0)) (b := ([114, 111, 111, 116, 115] : Str)) rfl rfl Zf rfl Zf) ?_;refine Ch hf (fun hc8 hf => ?_) fun hc8 hf => ?_
     ·have hl7 := len_gt hc8;refine Rg [(6,some [g2])] ?_;refine Rb 0 rfl Qp ?_;refine Rb 1 rfl (Xi 0) ?_;refine Ra 2 rfl X1 ?_;refine Rb 3 rfl Qp ?_;refine Ra 4 rfl (rS EInt 1 rfl rfl Zf rfl Zf rfl rfl Zo Zo) ?_;refine Dz x2 1 ?_;refine Ra 5 rfl Qp ?_;refine Rn 6 ?_;refine Wa ?_;refine Re0 ?_;refine Ck (jb (⟨slA x2.a x2.c 1 EInt.esz, x2.c - 1⟩ : SlV) (⟨3, (gt n1 0), 0, (n1.drop 1), (⟨0, 0, 0, 0, 0, 0, 0⟩ : Op)⟩ : Rec)) fun _ => ?_;refine Cn hf (fun hc9 hc9p hf => ?_) fun hc9 hc9p hf => ?_
      ·refine Tx ?_;refine Fc EInt ?_;refine Rx ?_; exact Re Z0 (Va (Vt Vn))
      ·refine Rx ?_; exact Re (⟨slA x2.a x2.c 1 EInt.esz, x2.c - 1⟩ : SlV) (Va (Vt Vn))
     ·refine Tx ?_;refine Fc EInt ?_;refine Rx ?_; exact Re Z0 (Va (Vt Vn))
def ca (s1 : Str) (most1 : Int) : Nat → Str → (List Rec) → ((List Rec) × Int × Int)
 | 0, s2, l1 => default
 | f_k0 + 1, s2, l1 => (bif (s2 != ([] : Str)) then (bif (!(cutc 10 s2).2.2) then (l1, ((s1.length : Int) - (s2.length : Int)), 8) else (bif ((cw (cutc 10 s2).1).2 != 0) then (l1, ((s1.length : Int) - (s2.length : Int)), (cw (cutc 10 s2).1).2) else (bif ((l1.length : Int) == most1) then (l1, ((s1.length : Int) - (s2.length : Int)), 2) else (ca s1 most1 f_k0 (cutc 10 s2).2.1 (l1 ++ [(cw (cutc 10 s2).1).1]))))) else (l1, (s1.length : Int), 0))
def bm (s1 : Str) (most1 : Int) : (List Rec) × Int × Int :=
 (ca s1 most1 (s1.length + 1) s1 [])
theorem lJ (s1 : Str) (most1 : Int) (hs : s1.length ≤ 60000) : Dv 108 [sV s1, .int .i64 most1] [LibP Tryz.prog] ⟨[], []⟩ (fun (X : SlV × Option Nat × (Nat → SlV)) => .tuple #[X.1.val (bm s1 most1).1.length, .int .i64 (bm s1 most1).2.1, .int .i64 (bm s1 most1).2.2]) (fun X => [FactsG NRec X.2.2 (bm s1 most1).1]) (fun X => ⟨[], [ownL NRec.E 78 X.1 X.2.1 (zipG X.2.2 0 (bm s1 most1).1)]⟩) := by
 refine Dq Tryz.func108 fun C => ?_;refine Sy Tz (oI (a := s1) rfl rfl Zf und_9) ?_;refine Lq (Str × List Rec × SlV × Option Nat × (Nat → SlV) × Nat) [1,4,5,6,8] [] (fun ⟨s2, l1, x1, x1b, γ1, fz1⟩ => ⟨[(0, .v (sV s2)), (7, .v (x1.val l1.length))], [], [ownL NRec.E 78 x1 x1b (zipG γ1 0 l1)], [FactsG NRec γ1 l1], (s2.length + l1.length ≤ s1.length) ∧ (s2.length < fz1) ∧ (ca s1 most1 fz1 s2 l1) = (bm s1 most1), fz1⟩) ⟨s1, [], ⟨none, 0⟩, none, (fun _ => default), s1.length + 1⟩ ⟨(by simp only [List.length_nil]; omega), Nz, (by simp only [bm, Cf, D0])⟩ ?_ (hs := Le.trans (eI NRec.E 78) (Le.trans (th (FactsG NRec (fun _ => default) ([] : List Rec)) [] (.nil _) (fun M w _ => FactsG.nil NRec _ M w)) Le4));rintro ⟨s2, l1, x1, x1b, γ1, fz1⟩ ⟨hinv, hzfz1, hf1⟩;simp only [Lc];have hlt0_ : (fz1 - 1) + 1 = fz1 := by omega
 refine Sy Tz (q_neS (a := s2) (b := ([] : Str)) rfl rfl Zf rfl Zf) ?_;refine eF ?_;have hf := Ri hf1.symm;rw [← hlt0_, ca] at hf;refine Cn hf (fun hc1 hc1p hf => ?_) fun hc1 hc1p hf => ?_
 ·refine Ck (xr s2 ([10] : Str) rfl (by omega)) fun _ => ?_;have hcn := vD 10 s2; have hcl := tG 10 s2;refine Ch hf (fun hc2 hf => ?_) fun hc2 hf => ?_
  ·refine Sy Tz (oI (a := s2) rfl rfl Zf und_9) ?_;refine Rx ?_; exact Rr ⟨x1, x1b, γ1⟩
  ·have hcl2 := hcl (by simpa using hc2);refine Ck (tc (cutc 10 s2).1) fun x2 => ?_;refine Qr x2 8 fun hlen1 => ?_;refine AlT fun g1 => ?_;refine Cn hf (fun hc3 hc3p hf => ?_) fun hc3 hc3p hf => ?_
   ·refine Sy Tz (oI (a := s2) rfl rfl Zf und_9) ?_;refine Rx ?_; exact Rr ⟨x1, x1b, γ1⟩
   ·refine Ce hf (fun hc4 hc4p hf => ?_) fun hc4 hc4p hf => ?_
    ·refine Sy Tz (oI (a := s2) rfl rfl Zf und_9) ?_;refine Rx ?_; exact Rr ⟨x1, x1b, γ1⟩
    ·refine Bl NRec.E [(x2, (cw (cutc 10 s2).1).1)] (hfill := kO rfl rfl) fun x3 x3b => ?_;refine Fx x3 ?_;refine Ns NRec x3 [(cw (cutc 10 s2).1).1] ?_;refine Ex NRec x3 fun (γ2 : Nat → SlV) => ?_;refine jS NRec γ1 γ2 l1 [(cw (cutc 10 s2).1).1] (b := x1b) .sq (fun _ _ => .inl ⟨_, rfl⟩) (au rfl) rfl rfl rfl rfl rfl rfl rfl (fun _ _ => Uo) rfl rfl rfl rfl rfl rfl rfl (lB (EN := NRec) (X := x3) (γ := γ2) (l := [(cw (cutc 10 s2).1).1]) Mm) (by show (l1.length + [(cw (cutc 10 s2).1).1].length) * 104 ≤ 140737488355328; (try simp only [Ln]); omega) fun x4 x4b => ?_;refine Fp' NRec γ1 γ2 ?_;refine Tx ?_;refine ⟨⟨(cutc 10 s2).2.1, (l1 ++ [(cw (cutc 10 s2).1).1]), x4, x4b, (appG γ1 l1.length γ2), (fz1 - 1)⟩, ⟨Zl, (by (try simp only []); first | omega | (simp only [Ln]; omega)), (hf : (bm s1 most1) = (ca s1 most1 (fz1 - 1) (cutc 10 s2).2.1 (l1 ++ [(cw (cutc 10 s2).1).1]))).symm⟩, Oo, Le4⟩
 ·refine Rx ?_; exact Rr ⟨x1, x1b, γ1⟩
theorem nT (s0 : Str) (most : Int) : ∀ (f : Nat) (s : Str) (l : List Rec), s.length < f → s.length + l.length ≤ s0.length →
  (ca s0 most f s l).1.length ≤ s0.length ∧ 0 ≤ (ca s0 most f s l).2.1 ∧ (ca s0 most f s l).2.1 ≤ (s0.length : Int)
 | 0, s, l, h, _ => absurd h (Nat.not_lt_zero _)
 | f + 1, s, l, h, hl => by
  rw [ca];cases h1 : (s != ([] : Str)) with
  | false => simp only [cond_false]; omega
  | true =>
   simp only [cond_true];cases h2 : (!(cutc 10 s).2.2) with
   | true => simp only [cond_true]; omega
   | false =>
    have h2 : (cutc 10 s).2.2 = true := by simpa using h2
    have h3 := tG 10 s h2;simp only [cond_false];cases ((cw (cutc 10 s).1).2 != 0) with
    | true => simp only [cond_true]; omega
    | false =>
     simp only [cond_false];cases ((l.length : Int) == most) with
     | true => simp only [cond_true]; omega
     | false => exact nT s0 most f _ _ (by omega) Zl
theorem nB (s : Str) (most : Int) : (bm s most).1.length ≤ s.length ∧ 0 ≤ (bm s most).2.1 ∧ (bm s most).2.1 ≤ (s.length : Int) :=
 nT s most _ s [] (by omega) (by simp)
def k4 (r : Rec) : Str := wordOf r ++ glue 32 ((kp r).map Lib.itoa)
theorem tW : ∀ (l : List Int) (s : Str), hC l s = (s ++ glue 32 (l.map Lib.itoa), 0)
 | [], s => by simp [hC, glue]
 | n :: l, s => by rw [hC, tW l]; simp [glue]
theorem V1_eq (h : aH r = 0) : cZ r = (wordOf r, kp r) := by
 unfold cZ wordOf kp;rcases (ka r).1 h with ⟨h1, _⟩ | ⟨h1, _, _⟩ | ⟨h1, _, _⟩ <;> (rw [h1]; rfl)
theorem vO (r : Rec) : du r = if aH r = 0 then (k4 r, 0) else ([], aH r) := by
 unfold du;by_cases h : aH r = 0
 ·rw [if_pos h, V1_eq h, tW, h];rfl
 ·rw [if_neg h];have : (aH r != 0) = true := by simpa using h
  rw [this, cond_true]
def pn : List Str → Option (List Int)
 | [] => some []
 | t :: r => bif ate t || (Lib.itoa (atv t) != t) then none else (pn r).map (atv t :: ·)
abbrev noRec : Rec := ⟨0, 0, 0, [], ⟨0, 0, 0, 0, 0, 0, 0⟩⟩
def mkRec (w : Str) (n : List Int) : Option Rec :=
 if w = [111, 112] ∧ n.length = 7 then some ⟨1, 0, 0, [], ⟨gt n 0, gt n 1, gt n 2, gt n 3, gt n 4, gt n 5, gt n 6⟩⟩
 else if w = [108, 105, 102, 101] ∧ n.length = 2 then some ⟨2, gt n 0, gt n 1, [], ⟨0, 0, 0, 0, 0, 0, 0⟩⟩
 else if w = [114, 111, 111, 116, 115] ∧ 0 < n.length then some ⟨3, gt n 0, 0, n.drop 1, ⟨0, 0, 0, 0, 0, 0, 0⟩⟩
 else none
def finR (w : Str) (n : List Int) : Rec × Int := match mkRec w n with
 | none => (noRec, 1)
 | some r => if aH r = 0 then (r, 0) else (noRec, aH r)
def readP (w : Str) : Option (List Int) → Rec × Int
 | none => (noRec, 1)
 | some n => finR w n
variable {n : List Int} {u w : Str}
theorem vG {k : Nat} : ((w == u) && ((n.length : Int) == (k : Int))) = decide (w = u ∧ n.length = k) := by
 rw [Bool.eq_iff_iff]; simp only [Bool.and_eq_true, beq_iff_eq, decide_eq_true_eq]; exact and_congr_right fun _ => by omega
theorem and_gt : ((w == u) && decide ((n.length : Int) > 0)) = decide (w = u ∧ 0 < n.length) := by
 rw [Bool.eq_iff_iff]; simp only [Bool.and_eq_true, beq_iff_eq, decide_eq_true_eq]; exact and_congr_right fun _ => by omega
theorem and_ge : ((w == u) && decide ((n.length : Int) ≥ 1)) = decide (w = u ∧ 0 < n.length) := by
 rw [Bool.eq_iff_iff]; simp only [Bool.and_eq_true, beq_iff_eq, decide_eq_true_eq]; exact and_congr_right fun _ => by omega
theorem AO (r : Rec) : (bif (aH r != 0) then (noRec, aH r) else (r, (0 : Int))) = if aH r = 0 then (r, 0) else (noRec, aH r) := by
 by_cases h : aH r = 0
 ·rw [if_pos h, h]; rfl
 ·rw [if_neg h];have : (aH r != 0) = true := by simpa using h
  rw [this, cond_true]
theorem rA {α : Type} {p : Prop} [Decidable p] (a b : α) : (bif decide p then a else b) = if p then a else b := by
 by_cases h : p <;> simp [h]
theorem tX (s : Str) : ∀ (l : List Str) (acc : List Int), hI s l acc = readP (gt (spl 32 s) 0) ((pn l).map (acc ++ ·))
 | [], acc => by
  rw [hI];have e7 : (7 : Int) = ((7 : Nat) : Int) := rfl;have e2 : (2 : Int) = ((2 : Nat) : Int) := rfl;simp only [pn, Option.map_some, List.append_nil, readP, finR, mkRec];simp only [AO];rw [show (((gt (spl 32 s) 0) == ([111, 112] : Str)) && ((acc.length : Int) == 7)) = decide (gt (spl 32 s) 0 = [111, 112] ∧ acc.length = 7) from vG (k := 7),
   show (((gt (spl 32 s) 0) == ([108, 105, 102, 101] : Str)) && ((acc.length : Int) == 2)) = decide (gt (spl 32 s) 0 = [108, 105, 102, 101] ∧ acc.length = 2) from vG (k := 2), and_gt, rA, rA, rA]
  by_cases h1 : gt (spl 32 s) 0 = [111, 112] ∧ acc.length = 7
  ·rw [if_pos h1, if_pos h1]
  ·rw [if_neg h1, if_neg h1];by_cases h2 : gt (spl 32 s) 0 = [108, 105, 102, 101] ∧ acc.length = 2
   ·rw [if_pos h2, if_pos h2]
   ·rw [if_neg h2, if_neg h2];by_cases h3 : gt (spl 32 s) 0 = [114, 111, 111, 116, 115] ∧ 0 < acc.length
    ·rw [if_pos h3, if_pos h3]
    ·rw [if_neg h3, if_neg h3]
 | t :: r, acc => by
  rw [hI, pn];cases (ate t || (Lib.itoa (atv t) != t)) with
  | true => rfl
  | false =>
   simp only [cond_false];rw [tX s r, Option.map_map];congr 2;funext x; simp
theorem vP (h : s.length ≤ 60000) : cw s = readP (gt (spl 32 s) 0) (pn ((spl 32 s).drop 1)) := by
 unfold cw;have : decide ((s.length : Int) > 60000) = false := by simp; omega
 rw [this, cond_false, tX];congr 1;cases pn ((spl 32 s).drop 1) <;> simp
theorem zC (h : 60000 < s.length) : cw s = (noRec, 2) := by
 unfold cw;have : decide ((s.length : Int) > 60000) = true := by simp; omega
 rw [this, cond_true]
theorem Ab : ∀ {l : List Int}, (∀ n ∈ l, I64 n) → pn (l.map Lib.itoa) = some l
 | [], _ => rfl
 | n :: l, h => by
  have hn := h n (.head _);rw [List.map_cons, pn, B8 hn, B7 hn, Ab (fun m hm => h m (.tail _ hm))];simp
theorem Aa : ∀ {l : List Str} {n : List Int}, pn l = some n → l = n.map Lib.itoa
 | [], n, h => by simp [pn] at h; subst h; rfl
 | t :: l, n, h => by
  rw [pn] at h;cases hb : (ate t || (Lib.itoa (atv t) != t)) with
  | true => rw [hb] at h; cases h
  | false =>
   rw [hb, cond_false] at h;simp only [Bool.or_eq_false_iff, bne_eq_false_iff_eq] at hb;cases hp : pn l with
   | none => rw [hp] at h; cases h
   | some m =>
    rw [hp] at h;simp only [Option.map_some, Option.some.injEq] at h;subst h;rw [List.map_cons, hb.2, ← Aa hp]
theorem C7 (r : Rec) : (32 : UInt8) ∉ wordOf r := by
 unfold wordOf;cases r.kind == 1 with
 | true => rw [cond_true]; decide
 | false => rw [cond_false]; cases r.kind == 2 with
  | true => rw [cond_true]; decide
  | false => rw [cond_false]; decide
theorem mk_of (h : aH r = 0) : mkRec (wordOf r) (kp r) = some r := by
 rcases (ka r).1 h with ⟨h1, _⟩ | ⟨h1, _, _⟩ | ⟨h1, _, _⟩ <;> (rw [h1]; rfl)
theorem DC (h : mkRec w n = some r) : wordOf r = w ∧ kp r = n := by
 unfold mkRec at h;split at h
 ·rename_i hw;obtain ⟨rfl, hl⟩ := hw;simp only [Option.some.injEq] at h;subst h
  match n, hl with
  | [a, b, c, d, e, f, g], _ => exact ⟨rfl, rfl⟩
 ·split at h
  ·rename_i hw;obtain ⟨rfl, hl⟩ := hw;simp only [Option.some.injEq] at h;subst h
   match n, hl with
   | [a, b], _ => exact ⟨rfl, rfl⟩
  ·split at h
   ·rename_i hw;obtain ⟨rfl, hl⟩ := hw;simp only [Option.some.injEq] at h;subst h
    match n, hl with
    | a :: l, _ => exact ⟨rfl, rfl⟩
   ·cases h
theorem yz : ∀ {l : List Int}, (∀ n ∈ l, I64 n) → (glue 32 (l.map Lib.itoa)).length ≤ 22 * l.length
 | [], _ => by simp [glue]
 | n :: l, h => by
  have h1 := yz (fun m hm => h m (.tail n hm));have h2 := Lib.itoa_length_le n (h n (.head _)).1 (h n (.head _)).2;simp only [glue, List.map_cons, List.flatMap_cons, List.length_append, List.length_cons] at h1 ⊢;omega
theorem Bx (r : Rec) : (wordOf r).length ≤ 5 := by
 unfold wordOf;cases r.kind == 1 with
 | true => rw [cond_true]; decide
 | false => rw [cond_false]; cases r.kind == 2 with
  | true => rw [cond_true]; decide
  | false => rw [cond_false]; decide
theorem pq (h : aH r = 0) : (k4 r).length ≤ 159 := by
 have h1 := s9 h;have h2 := yz h1.2;have h3 := Bx r;rw [k4, List.length_append];omega
theorem spl_pr : spl 32 (k4 r) = wordOf r :: (kp r).map Lib.itoa :=
 xZ _ _ (C7 r) (fun t ht => by
  obtain ⟨n, _, rfl⟩ := List.mem_map.1 ht;exact AH (by decide))
theorem xO (h : aH r = 0) : cw (k4 r) = (r, 0) := by
 rw [vP (by have := pq h; omega), spl_pr, show gt (wordOf r :: (kp r).map Lib.itoa) 0 = wordOf r from rfl, List.drop_succ_cons, List.drop_zero, Ab (s9 h).2, readP, finR, mk_of h];simp only [h, if_pos]
theorem Cl {x : Rec} (h : cw s = (x, 0)) : aH x = 0 ∧ k4 x = s := by
 by_cases hs : s.length ≤ 60000
 ·rw [vP hs] at h;obtain ⟨w, l, h1, h2⟩ := yy 32 s.length s Nr;rw [h1] at h;have e : gt (w :: l) 0 = w := rfl;rw [e, List.drop_succ_cons, List.drop_zero] at h;cases hp : pn l with
  | none => rw [hp, readP] at h; cases h
  | some n =>
   rw [hp, readP, finR] at h;cases hm : mkRec w n with
   | none => rw [hm] at h; cases h
   | some r =>
    rw [hm] at h;simp only at h;split at h
    ·rename_i hc;simp only [Prod.mk.injEq, and_true] at h;subst h;obtain ⟨h3, h4⟩ := DC hm;refine ⟨hc, ?_⟩;rw [k4, h3, h4, h2, Aa hp]
    ·rename_i hc;simp only [Prod.mk.injEq] at h;exact absurd h.2 hc
 ·rw [zC (by omega)] at h; cases h
theorem oY {a b : Nat} (h : (decide ((a : Int) > 60000) || decide ((b : Int) > (60000 - (a : Int)))) = false) : a ≤ 60000 ∧ a + b ≤ 60000 := by
 simp only [Bo] at h; omega
theorem wU (r : Rec) : (du r).1.length ≤ 159 := by
 rw [vO];split
 ·rename_i h; exact pq h
 ·simp
def ck (d1 : Disk) : Int :=
 (bif (decide ((d1.safe.length : Int) > 60000) || decide ((d1.wait.length : Int) > (60000 - (d1.safe.length : Int)))) then 2 else (bm d1.safe 60).2.2)
theorem kf (y1 : SlV) (y2 : SlV) (d1 : Disk) : Du 107 [.agg ⟨cK y1 y2 d1⟩] [RdL EByte y1 d1.safe, RdL EByte y2 d1.wait, LibP Tryz.prog] (.int .i64 (ck d1)) := by
 refine Dp Tryz.func107 fun C => ?_;refine Qc y1 1 fun hlen1 => ?_;refine Qc y2 1 fun hlen2 => ?_;refine BxT fun g1 => ?_;have hf := Ri (ck.eq_1 d1);refine Kh hf fun hc1 hf => ?_;have hdl := oY hc1;refine Sy Tz (ut (X := y1) (l := d1.safe) sQ und_5 und_9 rfl rfl Zf Mm) ?_;refine Cm (lJ d1.safe 60 Zc) fun x1 => ?_;exact Ru
theorem jc {d : Disk} (h : ck d = 0) : d.safe.length ≤ 60000 ∧ d.safe.length + d.wait.length ≤ 60000 := by
 unfold ck at h;generalize hb : (decide ((d.safe.length : Int) > 60000) || decide ((d.wait.length : Int) > (60000 - (d.safe.length : Int)))) = b at h;cases b with
 | true => simp at h
 | false => exact oY hb
def fJ (d1 : Disk) (r1 : Rec) : Disk × Int :=
 (bif ((ck d1) != 0) then ((⟨[], []⟩ : Disk), (ck d1)) else (bif ((du r1).2 != 0) then ((⟨[], []⟩ : Disk), (du r1).2) else (bif decide ((((du r1).1.length : Int) + 1) > ((60000 - (d1.safe.length : Int)) - (d1.wait.length : Int))) then ((⟨[], []⟩ : Disk), 2) else ((⟨d1.safe, ((d1.wait ++ (du r1).1) ++ [10])⟩ : Disk), 0))))
theorem qV (y1 : SlV) (y2 : SlV) (d1 : Disk) (y3 : SlV) (r1 : Rec) : Dw 177 [.agg ⟨cK y1 y2 d1⟩, .agg ⟨cR y3 r1⟩] [RdL EByte y1 d1.safe, RdL EByte y2 d1.wait, RdL EInt y3 r1.roots, LibP Tryz.prog] (fun (X : SlV × SlV) => .tuple #[.agg ⟨cK X.1 X.2 (fJ d1 r1).1⟩, .int .i64 (fJ d1 r1).2]) (fun X => [RdL EByte X.1 (fJ d1 r1).1.safe, RdL EByte X.2 (fJ d1 r1).1.wait]) := by
 refine Dp Tryz.func177 fun C => ?_;refine Qc y1 1 fun hlen1 => ?_;refine Qc y2 1 fun hlen2 => ?_;refine Qc y3 8 fun hlen3 => ?_;refine BxT fun g1 => ?_;refine BxT fun g2 => ?_;refine AlT fun g3 => ?_;refine Ck (kf y1 y2 d1) fun _ => ?_;have hf := Ri (fJ.eq_1 d1 r1);refine Cn hf (fun hc1 hc1p hf => ?_) fun hc1 hc1p hf => ?_
 ·refine Tx ?_;refine Fc EByte ?_;refine Rx ?_; exact Rr ⟨Z0, Z0⟩
 ·have hdl := jc (ag hc1);refine Ck (ta y3 r1) fun _ => ?_;refine Cn hf (fun hc2 hc2p hf => ?_) fun hc2 hc2p hf => ?_
  ·refine Tx ?_;refine Fc EByte ?_;refine Rx ?_; exact Rr ⟨Z0, Z0⟩
  ·have hpl := wU r1;refine Sy Tz (oI (a := (du r1).1) rfl rfl Zf und_9) ?_;refine Cp hf (fun hc3 hc3p hf => ?_) fun hc3 hc3p hf => ?_
   ·refine Tx ?_;refine Fc EByte ?_;refine Rx ?_; exact Rr ⟨Z0, Z0⟩
   ·refine Tx ?_;refine Jn (SlV × Option Nat × SlV × Option Nat) [4, 5] [false, true, true] (fun ⟨x1, b1, x2, b2⟩ => ⟨[], [⟨g3, 33, [x1.val d1.safe.length, x2.val ((d1.wait ++ (du r1).1) ++ [10]).length]⟩], [ownL EByte 5 x1 b1 d1.safe, ownL EByte 5 x2 b2 ((d1.wait ++ (du r1).1) ++ [10])], [], True, 0⟩) ?_ ?_
    ·refine Rg [(7,none),(9,none),(11,some [g3])] ?_;refine Dx [0,1,3,4,6] ?_;refine Rw 2 8 ?_ ?_
     ·refine Cm (d7 y1 d1.safe) fun x3 => ?_;refine Rw 5 8 ?_ ?_
      ·refine Cm (d7 y2 d1.wait) fun x4 => ?_;refine Rw 7 8 ?_ ?_
       ·refine pk d1.wait (du r1).1 (b := x4.2) (.lo (x4.2 : Option Nat).toList rfl rfl) (fun g h => .inr (by simp [h])) (au rfl) rfl rfl rfl rfl rfl rfl rfl und_9 (fun _ _ => Uo) rfl rfl rfl rfl rfl (by omega) fun x5 x5b => ?_;refine Rn 8 ?_;refine Bl EByte [10] fun x6 x6b => ?_;refine Rn 9 ?_;refine Ap EByte 1 (d1.wait ++ (du r1).1) [10] x5b fun x7 x7b => ?_;refine Ra 10 rfl Qp ?_;refine Rn 11 ?_;refine Wa ?_;refine Ra 12 rfl Qp ?_;refine Re0 ?_;refine ⟨⟨x3.1, x3.2, x7, x7b⟩, trivial, Le4⟩
       ·refine Bl EByte [10] fun x8 x8b => ?_;refine Rn 7 ?_;refine pk d1.wait (du r1).1 (b := x4.2) (.lo (x4.2 : Option Nat).toList rfl rfl) (fun g h => .inr (by simp [h])) (au rfl) rfl rfl rfl rfl rfl rfl rfl und_9 (fun _ _ => Uo) rfl rfl rfl rfl rfl (by omega) fun x9 x9b => ?_;refine Rn 9 ?_;refine Ap EByte 1 (d1.wait ++ (du r1).1) [10] x9b fun x10 x10b => ?_;refine Ra 10 rfl Qp ?_;refine Rn 11 ?_;refine Wa ?_;refine Ra 12 rfl Qp ?_;refine Re0 ?_;refine ⟨⟨x3.1, x3.2, x10, x10b⟩, trivial, Le4⟩
      ·refine Bl EByte [10] fun x11 x11b => ?_;refine Rn 5 ?_;refine Cm (d7 y2 d1.wait) fun x12 => ?_;refine Rn 7 ?_;refine pk d1.wait (du r1).1 (b := x12.2) (.lo (x12.2 : Option Nat).toList rfl rfl) (fun g h => .inr (by simp [h])) (au rfl) rfl rfl rfl rfl rfl rfl rfl und_9 (fun _ _ => Uo) rfl rfl rfl rfl rfl (by omega) fun x13 x13b => ?_;refine Rn 9 ?_;refine Ap EByte 1 (d1.wait ++ (du r1).1) [10] x13b fun x14 x14b => ?_;refine Ra 10 rfl Qp ?_;refine Rn 11 ?_;refine Wa ?_;refine Ra 12 rfl Qp ?_;refine Re0 ?_;refine ⟨⟨x3.1, x3.2, x14, x14b⟩, trivial, Le4⟩
     ·refine Bl EByte [10] fun x15 x15b => ?_;refine Rn 2 ?_;refine Cm (d7 y1 d1.safe) fun x16 => ?_;refine Rn 5 ?_;refine Cm (d7 y2 d1.wait) fun x17 => ?_;refine Rn 7 ?_;refine pk d1.wait (du r1).1 (b := x17.2) (.lo (x17.2 : Option Nat).toList rfl rfl) (fun g h => .inr (by simp [h])) (au rfl) rfl rfl rfl rfl rfl rfl rfl und_9 (fun _ _ => Uo) rfl rfl rfl rfl rfl (by omega) fun x18 x18b => ?_;refine Rn 9 ?_;refine Ap EByte 1 (d1.wait ++ (du r1).1) [10] x18b fun x19 x19b => ?_;refine Ra 10 rfl Qp ?_;refine Rn 11 ?_;refine Wa ?_;refine Ra 12 rfl Qp ?_;refine Re0 ?_;refine ⟨⟨x16.1, x16.2, x19, x19b⟩, trivial, Le4⟩
    ·rintro ⟨x1, b1, x2, b2⟩ -;simp only [Lc];(repeat refine er ?_);refine Fz x1 ?_;refine Fz x2 ?_;refine Rx ?_; exact Rr ⟨x1, x2⟩
def f8 (d1 : Disk) : Disk × Int :=
 (bif ((ck d1) != 0) then ((⟨[], []⟩ : Disk), (ck d1)) else (bif ((ck (⟨([d1.safe, d1.wait].flatten), ([] : List UInt8)⟩ : Disk)) != 0) then ((⟨[], []⟩ : Disk), (ck (⟨([d1.safe, d1.wait].flatten), ([] : List UInt8)⟩ : Disk))) else ((⟨([d1.safe, d1.wait].flatten), ([] : List UInt8)⟩ : Disk), 0)))
theorem ud (y1 : SlV) (y2 : SlV) (d1 : Disk) : Dw 178 [.agg ⟨cK y1 y2 d1⟩] [RdL EByte y1 d1.safe, RdL EByte y2 d1.wait, LibP Tryz.prog] (fun (X : SlV × SlV) => .tuple #[.agg ⟨cK X.1 X.2 (f8 d1).1⟩, .int .i64 (f8 d1).2]) (fun X => [RdL EByte X.1 (f8 d1).1.safe, RdL EByte X.2 (f8 d1).1.wait]) := by
 refine Dp Tryz.func178 fun C => ?_;refine Qc y1 1 fun hlen1 => ?_;refine Qc y2 1 fun hlen2 => ?_;refine BxT fun g1 => ?_;refine AlT fun g2 => ?_;refine Ck (kf y1 y2 d1) fun _ => ?_;have hf := Ri (f8.eq_1 d1);refine Cn hf (fun hc1 hc1p hf => ?_) fun hc1 hc1p hf => ?_
 ·refine Tx ?_;refine Fc EByte ?_;refine Rx ?_; exact Rr ⟨Z0, Z0⟩
 ·have hdl := jc (ag hc1);refine Bl NBytes.E [(y1, d1.safe), (y2, d1.wait)] fun x1 x1b => ?_;refine Fx x1 ?_;refine Ns NBytes x1 [d1.safe, d1.wait] ?_;refine Cm (dJ x1 [d1.safe, d1.wait] (by simp only [Lf, List.length_take]; omega)) fun x2 => ?_;refine Rp rfl rfl rfl rfl ?_;refine AlT fun g3 => ?_;refine Tx ?_;refine Fr EByte ?_;refine nj (kf x2.1 Z0 (⟨([d1.safe, d1.wait].flatten), ([] : List UInt8)⟩ : Disk)) .sq (au rfl) rfl rfl rfl Kr rfl rfl (.own Mm (.fact Mm (.fact Mm (.nil _ _)))) ?_;intro _;refine Cn hf (fun hc2 hc2p hf => ?_) fun hc2 hc2p hf => ?_
  ·refine Rx ?_; exact Rr ⟨Z0, Z0⟩
  ·refine Tx ?_;refine Fz x2.1 ?_;refine Rx ?_; exact Rr ⟨x2.1, Z0⟩
def az (d1 : Disk) : Disk × (List Rec) × Int :=
 (bif ((ck d1) != 0) then ((⟨[], []⟩ : Disk), ([] : List Rec), (ck d1)) else ((⟨([d1.safe, (d1.wait.take (bm d1.wait (60 - ((bm d1.safe 60).1.length : Int))).2.1.toNat)].flatten), ([] : List UInt8)⟩ : Disk), ((bm d1.safe 60).1 ++ (bm d1.wait (60 - ((bm d1.safe 60).1.length : Int))).1), 0))
theorem ku (y1 : SlV) (y2 : SlV) (d1 : Disk) : Dw 63 [.agg ⟨cK y1 y2 d1⟩] [RdL EByte y1 d1.safe, RdL EByte y2 d1.wait, LibP Tryz.prog] (fun (X : SlV × SlV × SlV) => .tuple #[.agg ⟨cK X.1 X.2.1 (az d1).1⟩, X.2.2.val (az d1).2.1.length, .int .i64 (az d1).2.2]) (fun X => [RdL EByte X.1 (az d1).1.safe, RdL EByte X.2.1 (az d1).1.wait, RdN NRec X.2.2 (az d1).2.1]) := by
 refine Dp Tryz.func63 fun C => ?_;refine Qc y1 1 fun hlen1 => ?_;refine Qc y2 1 fun hlen2 => ?_;refine BxT fun g1 => ?_;refine AlT fun g2 => ?_;refine Ck (kf y1 y2 d1) fun _ => ?_;have hf := Ri (az.eq_1 d1);refine Cn hf (fun hc1 hc1p hf => ?_) fun hc1 hc1p hf => ?_
 ·refine Tx ?_;refine Fc EByte ?_;refine Ft NRec ?_;refine Rx ?_; exact Rr ⟨Z0, Z0, Z0⟩
 ·have hdl := jc (ag hc1);refine Sy Tz (ut (X := y1) (l := d1.safe) sQ und_5 und_9 rfl rfl Zf Mm) ?_;refine Cm (lJ d1.safe 60 Zc) fun x1 => ?_;have hl1 := nB d1.safe 60;refine Sy Tz (ut (X := y2) (l := d1.wait) sQ und_5 und_9 rfl rfl Zf Mm) ?_;refine Cm (lJ d1.wait (60 - ((bm d1.safe 60).1.length : Int)) Zc) fun x2 => ?_;have hl2 := nB d1.wait (60 - ((bm d1.safe 60).1.length : Int));refine Rg [(11,some x1.2.1.toList),(12,some [g2])] ?_;refine Dx [0,1,2,3,4] ?_;refine Rb 5 rfl (z6 EByte (bm d1.wait (60 - ((bm d1.safe 60).1.length : Int))).2.1.toNat rfl rfl Zf rfl Zf rfl rfl Mm Zo Zo) ?_;refine iq (F := RdL EByte y2 (d1.wait.take (bm d1.wait (60 - ((bm d1.safe 60).1.length : Int))).2.1.toNat)) [RdL EByte y2 d1.wait] Sm (fun M w h => (allF1 h).take _) ?_;refine Dx [9,10] ?_;refine Rn 6 ?_;refine Bl NBytes.E [(y1, d1.safe), (y2, (d1.wait.take (bm d1.wait (60 - ((bm d1.safe 60).1.length : Int))).2.1.toNat))] fun x3 x3b => ?_;refine Rn 7 ?_;refine Fx x3 ?_;refine Ns NBytes x3 [d1.safe, (d1.wait.take (bm d1.wait (60 - ((bm d1.safe 60).1.length : Int))).2.1.toNat)] ?_
  refine Cm (dJ x3 [d1.safe, (d1.wait.take (bm d1.wait (60 - ((bm d1.safe 60).1.length : Int))).2.1.toNat)] (by simp only [Lf, List.length_take]; omega)) fun x4 => ?_;refine Rq (Fa 8 [11]) Sa Xv ?_;refine Rn 11 ?_;refine jS NRec x1.2.2 x2.2.2 (bm d1.safe 60).1 (bm d1.wait (60 - ((bm d1.safe 60).1.length : Int))).1 (b := x1.2.1) (.an rfl rfl) (fun g h => .inr (by simp [h])) (au rfl) rfl rfl rfl rfl rfl rfl rfl (fun _ _ => Uo) rfl rfl rfl rfl rfl rfl rfl (uq (e := 78) (b := x2.2.1) Mm) (by show ((bm d1.safe 60).1.length + (bm d1.wait (60 - ((bm d1.safe 60).1.length : Int))).1.length) * 104 ≤ 140737488355328; (try simp only [Ln]); omega) fun x5 x5b => ?_;refine Fp' NRec x1.2.2 x2.2.2 ?_;refine Rn 12 ?_;refine Wa ?_;refine Dx [13,14] ?_;refine Re0 ?_;(repeat refine er ?_);refine Fz x4.1 ?_;refine Fc EByte ?_;refine Fz x5 ?_;refine Fj NRec x5 (appG x1.2.2 (bm d1.safe 60).1.length x2.2.2) ((bm d1.safe 60).1 ++ (bm d1.wait (60 - ((bm d1.safe 60).1.length : Int))).1) ?_;refine Rx ?_; exact Rr ⟨x4.1, Z0, x5⟩
def wJ (a1 : Disk) (b1 : Disk) : Bool :=
 ((decide (a1.safe = b1.safe)) && (decide (a1.wait = b1.wait)))
def jt (a1 : Disk) (b1 : Disk) : Bool :=
 ((decide (a1.safe = b1.safe)) && (decide (a1.wait = b1.wait)))
theorem mr (y1 : SlV) (y2 : SlV) (a1 : Disk) (y3 : SlV) (y4 : SlV) (b1 : Disk) : Du 42 [.agg ⟨cK y1 y2 a1⟩, .agg ⟨cK y3 y4 b1⟩] [RdL EByte y1 a1.safe, RdL EByte y2 a1.wait, RdL EByte y3 b1.safe, RdL EByte y4 b1.wait] (.bool (jt a1 b1)) := by
 refine Dp Tryz.func42 fun C => ?_;refine Qc y1 1 fun hlen1 => ?_;refine Qc y2 1 fun hlen2 => ?_;refine Qc y3 1 fun hlen3 => ?_;refine Qc y4 1 fun hlen4 => ?_;refine BxT fun g1 => ?_;refine BxT fun g2 => ?_;refine Ck ((fun y1 a y2 b => jR y1 y2 a b) y1 a1.safe y3 b1.safe) fun _ => ?_;refine Cy (fun hG_ => (fun y1 a y2 b => jR y1 y2 a b) y2 a1.wait y4 b1.wait) ?_;have hf := Ri (jt.eq_1 a1 b1);exact Ru
theorem mp (x : SlV) (l : List (NClient.G × Client)) : Dv 81 [x.val l.length] [RdL NClient.E x l] ⟨[], []⟩ (fun (X : SlV × Option Nat) => X.1.val l.length) (fun _ => []) (fun X => ⟨[], [ownL NClient.E 63 X.1 X.2 l]⟩) := by
 refine Dq Tryz.func81 fun C => ?_;refine e8 (φ := l.length * NClient.E.by_ ≤ 140737488355328) [RdL NClient.E x l] Sm (fun M w h => (allF1 h).len) fun hlen => ?_;refine Sy Tz (nl rfl rfl Zf rfl) ?_;refine eF ?_;(repeat refine er ?_); refine kX rfl rfl (fun hc0 => ?_) (fun hc0 => ?_)
 ·refine e8 [RdL NClient.E x l] Sm (fun M w h => (allF1 h).nil_of hc0) fun hnil => ?_;subst hnil;refine cw_le (eI NClient.E 63) ?_;refine Tx ?_;refine Tr ?_; exact Rr (⟨none, 0⟩, none)
 ·refine Bl NClient.E [] fun x1 x1b => ?_;refine Rp rfl rfl rfl rfl ?_;refine kq NClient.E [] l (b := x1b) .sq (fun _ _ => .inl ⟨_, rfl⟩) (au rfl) rfl rfl rfl rfl rfl rfl rfl (fun _ _ => Uo) rfl rfl rfl rfl rfl rfl rfl (oH Mm) (by simpa using hlen) fun x2 x2b => ?_;refine Tx ?_;refine Tr ?_; exact Rr (x2, x2b)
theorem mK (x : SlV) (γ : Nat → NClient.G) (l : List Client) : Dv 81 [x.val l.length] [RdG NClient x γ l] ⟨[], []⟩ (fun (X : SlV × Option Nat) => X.1.val l.length) (fun _ => []) (fun X => ⟨[], [ownL NClient.E 63 X.1 X.2 (zipG γ 0 l)]⟩) := by
 have := mp x (zipG γ 0 l);rw [dL] at this;exact this
def da (s2 : List Client) (eq1 : Client → Client → Bool) : List Client → Nat → Bool
 | [], n1 => true
 | pn1 :: rn1, n1 => (bif (!(eq1 pn1 (gt s2 n1))) then false else (da s2 eq1 rn1 (n1 + 1)))
def eH (s1 : List Client) (s2 : List Client) (eq1 : Client → Client → Bool) : Bool :=
 (bif ((s1.length : Int) != (s2.length : Int)) then false else (da s2 eq1 s1 0))
theorem k9 (y1 : SlV) (s1 : List Client) (y2 : SlV) (s2 : List Client) (f1 : Nat) (caps1 : List Value) (pre1 : List Pred) [StabL pre1] (eq1 : Client → Client → Bool) (hfb1 : tab.fnb f1 = true) (hfn1 : ∀ (z0a_ : SlV) (z0b_ : SlV) (z0c_ : SlV) (z0d_ : SlV) (a0_ : Client) (z1a_ : SlV) (z1b_ : SlV) (z1c_ : SlV) (z1d_ : SlV) (a1_ : Client), Du f1 ([.agg ⟨cC z0a_ z0b_ z0c_ z0d_ a0_⟩, .agg ⟨cC z1a_ z1b_ z1c_ z1d_ a1_⟩] ++ caps1) (RdL EOp z0a_ a0_.pending :: RdL EInt z0b_ a0_.v.roots :: RdL EPlace z0c_ a0_.v.known :: RdL EPlace z0d_ a0_.v.way :: RdL EOp z1a_ a1_.pending :: RdL EInt z1b_ a1_.v.roots :: RdL EPlace z1c_ a1_.v.known :: RdL EPlace z1d_ a1_.v.way :: pre1) (.bool (eq1 a0_ a1_))) : Du 43 [y1.val s1.length, y2.val s2.length, .func (.func f1) #[] ⟨caps1⟩] (RdN NClient y1 s1 :: RdN NClient y2 s2 :: pre1) (.bool (eH s1 s2 eq1)) := by
 refine Dp Tryz.func43 fun C => ?_;refine e8 (φ := s1.length * 128 ≤ 140737488355328) [RdN NClient y1 s1] Sf (fun M w h => (allF1 h).len) fun hlen1 => ?_;refine e8 (φ := s2.length * 128 ≤ 140737488355328) [RdN NClient y2 s2] Sf (fun M w h => (allF1 h).len) fun hlen2 => ?_;have hf := Ri (eH.eq_1 s1 s2 eq1);refine Cn hf (fun hc1 hc1p hf => ?_) fun hc1 hc1p hf => ?_
 ·refine Tx ?_;refine f4 ?_;rw [hf.to];exact ⟨(), _, (.cons (.tmp rfl) .nil), rfl, Sf, .nil _, .nil _⟩
 ·refine Lq Nat [1,2,6,15,16] [] (fun n1 => ⟨[(17, .v (.int .i64 (n1 : Int)))], [], [], [], (n1 ≤ s1.length) ∧ (da s2 eq1 (s1.drop n1) n1) = (eH s1 s2 eq1), s1.length - n1⟩) 0 ⟨N0, hf.symm⟩ ?_;rintro n1 ⟨hkn1, hf1⟩;simp only [Lc];refine Cu (fun hlt0 => ?_) fun hge0 => ?_
  ·refine Tx ?_;refine Ex NClient y1 fun (γ1 : Nat → SlV × SlV × SlV × SlV) => ?_;refine Sq (Xn n1) ?_;refine Sq (Xe (cC (γ1 n1).1 (γ1 n1).2.1 (γ1 n1).2.2.1 (γ1 n1).2.2.2 (gt s1 n1))) ?_;refine Gg NClient γ1 n1 0 ?_;refine Gg NClient γ1 n1 1 ?_;refine Gg NClient γ1 n1 2 ?_;refine Gg NClient γ1 n1 3 ?_;refine AlT fun g1 => ?_;refine Tx ?_;refine Ex NClient y2 fun (γ2 : Nat → SlV × SlV × SlV × SlV) => ?_;refine Sq (Xn n1) ?_;refine Sq (Xe (cC (γ2 n1).1 (γ2 n1).2.1 (γ2 n1).2.2.1 (γ2 n1).2.2.2 (gt s2 n1))) ?_;refine Gg NClient γ2 n1 0 ?_;refine Gg NClient γ2 n1 1 ?_;refine Gg NClient γ2 n1 2 ?_;refine Gg NClient γ2 n1 3 ?_;refine AlT fun g2 => ?_;refine Cv (hfn1 (γ1 n1).1 (γ1 n1).2.1 (γ1 n1).2.2.1 (γ1 n1).2.2.2 (gt s1 n1) (γ2 n1).1 (γ2 n1).2.1 (γ2 n1).2.2.1 (γ2 n1).2.2.2 (gt s2 n1)) (hf := by assumption) fun _ => ?_;have hf := Ri hf1.symm;rw [aK hlt0, da] at hf;refine Ch hf (fun hc3 hf => ?_) fun hc3 hf => ?_
   ·refine Tx ?_;refine f4 ?_;rw [hf.to];exact ⟨(), _, (.cons (.tmp rfl) .nil), rfl, Sf, .nil _, .nil _⟩
   ·refine Tt ?_;refine ⟨(n1 + 1), ⟨hlt0, hf.symm⟩, Oo, Le5⟩
  ·refine Tx ?_;have hf := Ri hf1.symm;rw [Dl hge0, da] at hf;refine f4 ?_;rw [hf.to];exact ⟨(), _, (.cons (.tmp rfl) .nil), rfl, Sf, .nil _, .nil _⟩
def ik  : Wld :=
 (⟨dU, (⟨[], []⟩ : Disk), true, [(⟨0, 0, 0, ([] : List Op), 0, (⟨[], [], []⟩ : View)⟩ : Client), (⟨0, 0, 0, ([] : List Op), 0, (⟨[], [], []⟩ : View)⟩ : Client), (⟨0, 0, 0, ([] : List Op), 0, (⟨[], [], []⟩ : View)⟩ : Client)], ([] : List Mail)⟩ : Wld)
theorem t9  : Dw 16 [] [] (fun (X : SlV × SlV × SlV × SlV × SlV × SlV × SlV) => .agg ⟨cW X.1 X.2.1 X.2.2.1 X.2.2.2.1 X.2.2.2.2.1 X.2.2.2.2.2.1 X.2.2.2.2.2.2 ik⟩) (fun X => [RdL EStep X.1 ik.h.h.l, RdL EPlace X.2.1 ik.h.h.t, RdN NPeer X.2.2.1 ik.h.peers, RdL EByte X.2.2.2.1 ik.d.safe, RdL EByte X.2.2.2.2.1 ik.d.wait, RdN NClient X.2.2.2.2.2.1 ik.c, RdN NMail X.2.2.2.2.2.2 ik.mail]) := by
 refine Dp Tryz.func16 fun C => ?_;refine AlT fun g1 => ?_;refine Tx ?_;refine Jn (SlV × SlV × SlV × SlV × Option Nat) [0] [false] (fun ⟨x1, x2, x3, x4, b1⟩ => ⟨[], [⟨g1, 37, [x1.val dU.h.l.length, x2.val dU.h.t.length, .int .i64 dU.version, x3.val dU.peers.length, .slice none 0 0, .slice none 0 0, .bool true, x4.val [(⟨0, 0, 0, ([] : List Op), 0, (⟨[], [], []⟩ : View)⟩ : Client), (⟨0, 0, 0, ([] : List Op), 0, (⟨[], [], []⟩ : View)⟩ : Client), (⟨0, 0, 0, ([] : List Op), 0, (⟨[], [], []⟩ : View)⟩ : Client)].length, .slice none 0 0]⟩], [ownL NClient.E 63 x4 b1 (zipG (fun _ => (Z0, Z0, Z0, Z0)) 0 [(⟨0, 0, 0, ([] : List Op), 0, (⟨[], [], []⟩ : View)⟩ : Client), (⟨0, 0, 0, ([] : List Op), 0, (⟨[], [], []⟩ : View)⟩ : Client), (⟨0, 0, 0, ([] : List Op), 0, (⟨[], [], []⟩ : View)⟩ : Client)])], [RdL EStep x1 dU.h.l, RdL EPlace x2 dU.h.t, RdN NPeer x3 dU.peers, FactsG NClient (fun _ => (Z0, Z0, Z0, Z0)) [(⟨0, 0, 0, ([] : List Op), 0, (⟨[], [], []⟩ : View)⟩ : Client), (⟨0, 0, 0, ([] : List Op), 0, (⟨[], [], []⟩ : View)⟩ : Client), (⟨0, 0, 0, ([] : List Op), 0, (⟨[], [], []⟩ : View)⟩ : Client)]], True, 0⟩) ?_ ?_
 ·refine Rg [(3,some [g1])] ?_;refine Rw 0 1 ?_ ?_
  ·refine Ck (l5 ) fun x5 => ?_;refine Qr x5.1 88 fun hlen1 => ?_;refine Qr x5.2.1 24 fun hlen2 => ?_;refine Pm NPeer x5.2.2 dU.peers 40 fun hlen3 => ?_;refine Rn 1 ?_;refine ni NClient.E (zipG (fun _ => (Z0, Z0, Z0, Z0)) 0 [(⟨0, 0, 0, ([] : List Op), 0, (⟨[], [], []⟩ : View)⟩ : Client), (⟨0, 0, 0, ([] : List Op), 0, (⟨[], [], []⟩ : View)⟩ : Client), (⟨0, 0, 0, ([] : List Op), 0, (⟨[], [], []⟩ : View)⟩ : Client)]) (.an rfl rfl) (au rfl) rfl rfl rfl rfl rfl rfl rfl rfl rfl rfl rfl rfl rfl rfl rfl rfl rfl fun x6 x6b => ?_;refine Fr EOp ?_;refine Fr EInt ?_;refine Fr EPlace ?_;refine iq (F := FactsG NClient (fun _ => (Z0, Z0, Z0, Z0)) [(⟨0, 0, 0, ([] : List Op), 0, (⟨[], [], []⟩ : View)⟩ : Client), (⟨0, 0, 0, ([] : List Op), 0, (⟨[], [], []⟩ : View)⟩ : Client), (⟨0, 0, 0, ([] : List Op), 0, (⟨[], [], []⟩ : View)⟩ : Client)]) [RdL EOp Z0 ([] : List Op), RdL EInt Z0 ([] : List Int), RdL EPlace Z0 ([] : List Place), RdL EPlace Z0 ([] : List Place)] Sm (fun M w h => FactsG.const NClient (by intro a ha; simp only [List.mem_cons, List.not_mem_nil, or_false, or_self] at ha; subst ha; exact pD Sm h)) ?_;refine Ra 2 rfl Qp ?_;refine Rn 3 ?_;refine Wa ?_;refine Re0 ?_
   refine ⟨⟨x5.1, x5.2.1, x5.2.2, x6, x6b⟩, trivial, Le4⟩
  ·refine ni NClient.E (zipG (fun _ => (Z0, Z0, Z0, Z0)) 0 [(⟨0, 0, 0, ([] : List Op), 0, (⟨[], [], []⟩ : View)⟩ : Client), (⟨0, 0, 0, ([] : List Op), 0, (⟨[], [], []⟩ : View)⟩ : Client), (⟨0, 0, 0, ([] : List Op), 0, (⟨[], [], []⟩ : View)⟩ : Client)]) (.an rfl rfl) (au rfl) rfl rfl rfl rfl rfl rfl rfl rfl rfl rfl rfl rfl rfl rfl rfl rfl rfl fun x7 x7b => ?_;refine Fr EOp ?_;refine Fr EInt ?_;refine Fr EPlace ?_;refine iq (F := FactsG NClient (fun _ => (Z0, Z0, Z0, Z0)) [(⟨0, 0, 0, ([] : List Op), 0, (⟨[], [], []⟩ : View)⟩ : Client), (⟨0, 0, 0, ([] : List Op), 0, (⟨[], [], []⟩ : View)⟩ : Client), (⟨0, 0, 0, ([] : List Op), 0, (⟨[], [], []⟩ : View)⟩ : Client)]) [RdL EOp Z0 ([] : List Op), RdL EInt Z0 ([] : List Int), RdL EPlace Z0 ([] : List Place), RdL EPlace Z0 ([] : List Place)] Sm (fun M w h => FactsG.const NClient (by intro a ha; simp only [List.mem_cons, List.not_mem_nil, or_false, or_self] at ha; subst ha; exact pD Sm h)) ?_;refine Rn 0 ?_;refine Ck (l5 ) fun x8 => ?_;refine Qr x8.1 88 fun hlen4 => ?_;refine Qr x8.2.1 24 fun hlen5 => ?_;refine Pm NPeer x8.2.2 dU.peers 40 fun hlen6 => ?_;refine Ra 2 rfl Qp ?_;refine Rn 3 ?_;refine Wa ?_;refine Re0 ?_
   refine ⟨⟨x8.1, x8.2.1, x8.2.2, x7, x7b⟩, trivial, Le4⟩
 ·rintro ⟨x1, x2, x3, x4, b1⟩ -;simp only [Lc];(repeat refine er ?_);refine Fc EByte ?_;refine Fz x4 ?_;refine Fj NClient x4 (fun _ => (Z0, Z0, Z0, Z0)) [(⟨0, 0, 0, ([] : List Op), 0, (⟨[], [], []⟩ : View)⟩ : Client), (⟨0, 0, 0, ([] : List Op), 0, (⟨[], [], []⟩ : View)⟩ : Client), (⟨0, 0, 0, ([] : List Op), 0, (⟨[], [], []⟩ : View)⟩ : Client)] ?_;refine Ft NMail ?_;have hf := Ri ik.eq_1;refine Rx ?_; exact Rr ⟨x1, x2, x3, Z0, Z0, x4, Z0⟩
def ph (a1 : Wld) (b1 : Wld) : Bool :=
 (((((a1.up == b1.up) && (jj a1.h b1.h)) && (wJ a1.d b1.d)) && (eH a1.c b1.c jN)) && (qm a1.mail b1.mail))
def ix (w1 : Wld) : List Client → Nat → (List Client) → Wld
 | [], n1, l1 => (⟨w1.h, w1.d, w1.up, l1, w1.mail⟩ : Wld)
 | pn1 :: rn1, n1, l1 => (ix w1 rn1 (n1 + 1) (l1.set n1 (gt l1 n1)))
def gM (w1 : Wld) : Wld :=
 (ix w1 w1.c 0 w1.c)
theorem sM (y1 : SlV) (y2 : SlV) (y3 : SlV) (y4 : SlV) (y5 : SlV) (y6 : SlV) (y7 : SlV) (w1 : Wld) : Dv 31 [.agg ⟨cW y1 y2 y3 y4 y5 y6 y7 w1⟩] [RdL EStep y1 w1.h.h.l, RdL EPlace y2 w1.h.h.t, RdN NPeer y3 w1.h.peers, RdL EByte y4 w1.d.safe, RdL EByte y5 w1.d.wait, RdN NClient y6 w1.c, RdN NMail y7 w1.mail] ⟨[], []⟩ (fun (X : SlV × SlV × SlV × SlV × SlV × SlV × Option Nat × (Nat → SlV × SlV × SlV × SlV) × SlV) => .agg ⟨cW X.1 X.2.1 X.2.2.1 X.2.2.2.1 X.2.2.2.2.1 X.2.2.2.2.2.1 X.2.2.2.2.2.2.2.2 (gM w1)⟩) (fun X => [RdL EStep X.1 (gM w1).h.h.l, RdL EPlace X.2.1 (gM w1).h.h.t, RdN NPeer X.2.2.1 (gM w1).h.peers, RdL EByte X.2.2.2.1 (gM w1).d.safe, RdL EByte X.2.2.2.2.1 (gM w1).d.wait, RdN NMail X.2.2.2.2.2.2.2.2 (gM w1).mail, FactsG NClient X.2.2.2.2.2.2.2.1 (gM w1).c]) (fun X => ⟨[], [ownL NClient.E 63 X.2.2.2.2.2.1 X.2.2.2.2.2.2.1 (zipG X.2.2.2.2.2.2.2.1 0 (gM w1).c)]⟩) := by
 refine Dq Tryz.func31 fun C => ?_;refine Qc y1 88 fun hlen1 => ?_;refine Qc y2 24 fun hlen2 => ?_;refine Qn y3 40 fun hlen3 => ?_;refine Qc y4 1 fun hlen4 => ?_;refine Qc y5 1 fun hlen5 => ?_;refine Qn y6 128 fun hlen6 => ?_;refine Qn y7 280 fun hlen7 => ?_;refine BxT fun g1 => ?_;refine AlT fun g2 => ?_;refine eF ?_;refine Rg [(10,some [g1]),(12,some [g1]),(14,some [g1])] ?_;refine Dx [0,1,3,4,6,7] ?_;refine Rn 2 ?_;refine Cm (pT y1 y2 y3 w1.h) fun x1 => ?_;refine Qr x1.1 88 fun hlen8 => ?_;refine Qr x1.2.1 24 fun hlen9 => ?_;refine Ra 9 rfl Qp ?_;refine Rn 5 ?_;refine Ex NClient y6 fun (γ1 : Nat → SlV × SlV × SlV × SlV) => ?_;refine Cm (mK y6 γ1 w1.c) fun x2 => ?_;refine Rn 8 ?_;refine Cm (kw y7 w1.mail) fun x3 => ?_;refine Rn 10 ?_;refine Wp ?_;refine Ra 11 rfl Qp ?_;refine Rn 12 ?_;refine W1 ?_;refine Ra 13 rfl Qp ?_;refine Rn 14 ?_;refine W1 ?_;refine Re0 ?_;refine Rg [(10,some [g1])] ?_;refine Dx [0,1,2,4,5,6] ?_;refine Rn 3 ?_;refine Cm (d7 y4 w1.d.safe) fun x4 => ?_;refine Rn 7 ?_;refine Cm (d7 y5 w1.d.wait) fun x5 => ?_;refine Dx [8,9] ?_;refine Rn 10 ?_;refine Wp ?_;refine Re0 ?_
 refine Lq (List Client × (Nat → SlV × SlV × SlV × SlV) × Nat) [1,2,29] [true, false] (fun ⟨l1, γ2, n1⟩ => ⟨[(28, .v (x2.1.val l1.length)), (30, .v (.int .i64 (n1 : Int)))], [⟨g1, 37, [x1.1.val w1.h.h.l.length, x1.2.1.val w1.h.h.t.length, .int .i64 w1.h.version, x1.2.2.1.val w1.h.peers.length, x4.1.val w1.d.safe.length, x5.1.val w1.d.wait.length, .bool w1.up, x2.1.val l1.length, x3.1.val w1.mail.length]⟩], [ownL NClient.E 63 x2.1 x2.2 (zipG γ2 0 l1), ownL NPeer.E 84 x1.2.2.1 x1.2.2.2.1 (zipG x1.2.2.2.2 0 w1.h.peers), ownL EByte 5 x4.1 x4.2 w1.d.safe, ownL EByte 5 x5.1 x5.2 w1.d.wait, ownL NMail.E 108 x3.1 x3.2.1 (zipG x3.2.2 0 w1.mail)], [FactsG NClient γ2 l1], (n1 ≤ w1.c.length) ∧ (l1.length = w1.c.length) ∧ (ix w1 (w1.c.drop n1) n1 l1) = (gM w1), w1.c.length - n1⟩) ⟨w1.c, γ1, 0⟩ ⟨N0, rfl, (by simp only [gM, Cf, D0])⟩ ?_;rintro ⟨l1, γ2, n1⟩ ⟨hkn1, hll, hf1⟩;simp only [Lc];refine Cu (fun hlt0 => ?_) fun hge0 => ?_
 ·refine Tx ?_;refine Oq NClient.E x2.1 (zipG γ2 0 l1) .sq (nR NClient γ2 n1 rfl rfl Zf rfl Zf rfl rfl rfl (.head _) rfl Zf Za) ?_;refine Oq NClient.E x2.1 (zipG γ2 0 l1) .sq (Xe (cC (γ2 n1).1 (γ2 n1).2.1 (γ2 n1).2.2.1 (γ2 n1).2.2.2 (gt l1 n1))) ?_;refine Gg NClient γ2 n1 0 ?_;refine Gg NClient γ2 n1 1 ?_;refine Gg NClient γ2 n1 2 ?_;refine Gg NClient γ2 n1 3 ?_;refine AlT fun g3 => ?_;refine Rg [(6,some x2.2.toList)] ?_;refine Dx [0,1,2,3] ?_;refine Rn 4 ?_;refine Cm (kY (γ2 n1).1 (γ2 n1).2.1 (γ2 n1).2.2.1 (γ2 n1).2.2.2 (gt l1 n1)) fun x8 => ?_;refine Pr EInt x8.2.2.1 (gt l1 n1).v.roots 8 fun hlen10 => ?_;refine Pr EPlace x8.2.2.2.1 (gt l1 n1).v.known 24 fun hlen11 => ?_;refine Pr EPlace x8.2.2.2.2 (gt l1 n1).v.way 24 fun hlen12 => ?_;refine Oq NClient.E x2.1 (zipG γ2 0 l1) (Fa 5 []) (nR NClient γ2 n1 rfl rfl Zf rfl Zf rfl rfl rfl (.head _) rfl Zf Za) ?_;refine Rn 6 ?_;refine Fx x8.1 ?_;refine Wn NClient γ2 l1 n1 0 (x8.1, x8.2.2.1, x8.2.2.2.1, x8.2.2.2.2) (gt l1 n1) x2.2 ?_;refine Fu NClient γ2 l1 n1 (x8.1, x8.2.2.1, x8.2.2.2.1, x8.2.2.2.2) (gt l1 n1) ?_;have hv1 : x2.1.val l1.length = x2.1.val (l1.set n1 (gt l1 n1)).length := congrArg (SlV.val x2.1) List.length_set.symm
  (try simp only [cB, cC, cW]); try rw [hv1]
  refine Re0 ?_;refine Tt ?_;refine ⟨⟨(l1.set n1 (gt l1 n1)), (updG γ2 n1 (x8.1, x8.2.2.1, x8.2.2.2.1, x8.2.2.2.2)), (n1 + 1)⟩, ⟨hlt0, (by (try simp only [List.length_set]); omega), (by rw [← hf1, aK hlt0]; simp only [ix, Cf, D0])⟩, Oo, Le4⟩
 ·refine Tx ?_;refine Fz x1.2.2.1 ?_;refine Fj NPeer x1.2.2.1 x1.2.2.2.2 w1.h.peers ?_;refine Fz x4.1 ?_;refine Fz x5.1 ?_;refine Fz x3.1 ?_;refine Fj NMail x3.1 x3.2.2 w1.mail ?_;have hf := Ri hf1.symm;rw [Dl hge0, ix] at hf;refine Rx ?_; exact Rr ⟨x1.1, x1.2.1, x1.2.2.1, x4.1, x5.1, x2.1, x2.2, γ2, x3.1⟩
theorem nM (w : Wld) : ∀ (r : List Client) (n : Nat) (l : List Client), ix w r n l = ⟨w.h, w.d, w.up, l, w.mail⟩
 | [], _, _ => rfl
 | _ :: r, n, l => by
  have : l.set n (gt l n) = l := by
   by_cases h : n < l.length
   ·rw [gt_eq h]; exact List.set_getElem_self h
   ·exact List.set_eq_of_length_le (Nat.le_of_not_lt h)
  rw [ix, this]; exact nM w r (n + 1) l
theorem u4 (w : Wld) : gM w = w := nM w _ 0 w.c
theorem nL (y1 : SlV) (y2 : SlV) (y3 : SlV) (y4 : SlV) (y5 : SlV) (y6 : SlV) (y7 : SlV) (w1 : Wld) : Dv 31 [.agg ⟨cW y1 y2 y3 y4 y5 y6 y7 w1⟩] [RdL EStep y1 w1.h.h.l, RdL EPlace y2 w1.h.h.t, RdN NPeer y3 w1.h.peers, RdL EByte y4 w1.d.safe, RdL EByte y5 w1.d.wait, RdN NClient y6 w1.c, RdN NMail y7 w1.mail] ⟨[], []⟩ (fun (X : SlV × SlV × SlV × SlV × SlV × SlV × Option Nat × (Nat → SlV × SlV × SlV × SlV) × SlV) => .agg ⟨cW X.1 X.2.1 X.2.2.1 X.2.2.2.1 X.2.2.2.2.1 X.2.2.2.2.2.1 X.2.2.2.2.2.2.2.2 w1⟩) (fun X => [RdL EStep X.1 w1.h.h.l, RdL EPlace X.2.1 w1.h.h.t, RdN NPeer X.2.2.1 w1.h.peers, RdL EByte X.2.2.2.1 w1.d.safe, RdL EByte X.2.2.2.2.1 w1.d.wait, RdN NMail X.2.2.2.2.2.2.2.2 w1.mail, FactsG NClient X.2.2.2.2.2.2.2.1 w1.c]) (fun X => ⟨[], [ownL NClient.E 63 X.2.2.2.2.2.1 X.2.2.2.2.2.2.1 (zipG X.2.2.2.2.2.2.2.1 0 w1.c)]⟩) := by
 have := sM y1 y2 y3 y4 y5 y6 y7 w1;rw [u4] at this;exact this
abbrev Errno := Int
def dX (s2 : List Int) : List Int → Nat → Bool
 | [], n1 => true
 | pn1 :: rn1, n1 => (bif (pn1 != (gt s2 n1)) then false else (dX s2 rn1 (n1 + 1)))
def gW (s1 : List Int) (s2 : List Int) : Bool :=
 (bif ((s1.length : Int) != (s2.length : Int)) then false else (dX s2 s1 0))
theorem nc (y1 : SlV) (s1 : List Int) (y2 : SlV) (s2 : List Int) : Du 12 [y1.val s1.length, y2.val s2.length] [RdL EInt y1 s1, RdL EInt y2 s2] (.bool (gW s1 s2)) := by
 refine Dp Tryz.func12 fun C => ?_;refine Qc y1 8 fun hlen1 => ?_;refine Qc y2 8 fun hlen2 => ?_;have hf := Ri (gW.eq_1 s1 s2);refine Kn hf fun hc1 hc1p hf => ?_;refine Lq Nat [0,1,4,12] [] (fun n1 => ⟨[(13, .v (.int .i64 (n1 : Int)))], [], [], [], (n1 ≤ s1.length) ∧ (dX s2 (s1.drop n1) n1) = (gW s1 s2), s1.length - n1⟩) 0 ⟨N0, hf.symm⟩ ?_;rintro n1 ⟨hkn1, hf1⟩;simp only [Lc];refine Cu (fun hlt0 => ?_) fun hge0 => ?_
 ·refine Rg [] ?_;refine Dx [0,1] ?_;refine Rb 2 rfl (Xi n1) ?_;refine Ra 3 rfl X1 ?_;refine Dx [4,5] ?_;refine Rb 6 rfl (Xi n1) ?_;refine Ra 7 rfl X1 ?_;refine Ra 8 rfl Qp ?_;refine Re0 ?_;have hf := Ri hf1.symm;rw [aK hlt0, dX] at hf;refine Kn hf fun hc3 hc3p hf => ?_;refine Tt ?_;refine ⟨(n1 + 1), ⟨hlt0, hf.symm⟩, Oo, Le4⟩
 ·have hf := Ri hf1.symm;rw [Dl hge0, dX] at hf;exact Ru
theorem oD (a b : List Errno) : gW a b = decide (a = b) := by
 have key : ∀ (l : List Errno) (k : Nat), l.length + k = b.length → dX b l k = decide (l = b.drop k) := by
  intro l;induction l with
  | nil => intro k hk; rw [dX, Dl (by simp at hk; omega)]; simp
  | cons p r ih =>
   intro k hk;simp only [List.length_cons] at hk;rw [dX, ih (k + 1) (by omega), aK (by omega : k < b.length)];by_cases h : p = gt b k <;> simp [h]
 rw [gW];by_cases h : a.length = b.length
 ·rw [key a 0 (by omega)]; simp [h]
 ·have : a ≠ b := fun e => h (by rw [e]);simp [this, Int.ofNat_inj, h]
theorem mD (y1 y2 : SlV) (a b : List Errno) : Du 12 [y1.val a.length, y2.val b.length] [RdL EInt y1 a, RdL EInt y2 b] (.bool (decide (a = b))) := by
 have := nc y1 a y2 b;rw [oD] at this;exact this
def fU (v1 : Int) : List Int → Nat → Int
 | [], n1 => (-1)
 | pn1 :: rn1, n1 => (bif (v1 == pn1) then (n1 : Int) else (fU v1 rn1 (n1 + 1)))
def bR (s1 : List Int) (v1 : Int) : Int :=
 (fU v1 s1 0)
theorem m9 (y1 : SlV) (s1 : List Int) (v1 : Int) : Du 38 [y1.val s1.length, .int .i64 v1] [RdL EInt y1 s1] (.int .i64 (bR s1 v1)) := by
 refine Dp Tryz.func38 fun C => ?_;refine Qc y1 8 fun hlen1 => ?_;refine Lq Nat [0,1,4,7] [] (fun n1 => ⟨[(8, .v (.int .i64 (n1 : Int)))], [], [], [], (n1 ≤ s1.length) ∧ (fU v1 (s1.drop n1) n1) = (bR s1 v1), s1.length - n1⟩) 0 ⟨N0, (by simp only [bR, Cf, D0])⟩ ?_;rintro n1 ⟨hkn1, hf1⟩;simp only [Lc];refine Cu (fun hlt0 => ?_) fun hge0 => ?_
 ·refine Sy Tz (Xi n1) ?_;refine Sq X1 ?_;have hf := Ri hf1.symm;rw [aK hlt0, fU] at hf;refine Ke hf fun hc2 hc2p hf => ?_;refine Tt ?_;refine ⟨(n1 + 1), ⟨hlt0, hf.symm⟩, Oo, Le4⟩
 ·have hf := Ri hf1.symm;rw [Dl hge0, fU] at hf;exact Ru
def eY (f1 : Int → Bool) : List Int → Nat → Int
 | [], n1 => (-1)
 | pn1 :: rn1, n1 => (bif (f1 pn1) then (n1 : Int) else (eY f1 rn1 (n1 + 1)))
def gF (s1 : List Int) (f1 : Int → Bool) : Int :=
 (eY f1 s1 0)
theorem lw (y1 : SlV) (s1 : List Int) (f2 : Nat) (caps1 : List Value) (pre1 : List Pred) [StabL pre1] (f1 : Int → Bool) (hfb1 : tab.fnb f2 = true) (hfn1 : ∀ (a0_ : Int), Du f2 ([.int .i64 a0_] ++ caps1) pre1 (.bool (f1 a0_))) : Du 95 [y1.val s1.length, .func (.func f2) #[] ⟨caps1⟩] (RdL EInt y1 s1 :: pre1) (.int .i64 (gF s1 f1)) := by
 refine Dp Tryz.func95 fun C => ?_;refine e8 (φ := s1.length * 8 ≤ 140737488355328) [RdL EInt y1 s1] Sf (fun M w h => (allF1 h).len) fun hlen1 => ?_;refine Lq Nat [0,1,4,7] [] (fun n1 => ⟨[(8, .v (.int .i64 (n1 : Int)))], [], [], [], (n1 ≤ s1.length) ∧ (eY f1 (s1.drop n1) n1) = (gF s1 f1), s1.length - n1⟩) 0 ⟨N0, (by simp only [gF, Cf, D0])⟩ ?_;rintro n1 ⟨hkn1, hf1⟩;simp only [Lc];refine Cu (fun hlt0 => ?_) fun hge0 => ?_
 ·refine Sy Tz (Xi n1) ?_;refine Sq X1 ?_;refine Cv (hfn1 (gt s1 n1)) (hf := by assumption) fun _ => ?_;refine eF ?_;have hf := Ri hf1.symm;rw [aK hlt0, eY] at hf;refine Ch hf (fun hc2 hf => ?_) fun hc2 hf => ?_
  ·refine Tx ?_;refine f4 ?_;rw [hf.to];exact ⟨(), _, (.cons (.tmp rfl) .nil), rfl, Sf, .nil _, .nil _⟩
  ·refine Tt ?_;refine ⟨(n1 + 1), ⟨hlt0, hf.symm⟩, Oo, Le5⟩
 ·refine Tx ?_;have hf := Ri hf1.symm;rw [Dl hge0, eY] at hf;refine f4 ?_;rw [hf.to];exact ⟨(), _, (.cons (.tmp rfl) .nil), rfl, Sf, .nil _, .nil _⟩
def aW (s1 : List Int) (f1 : Int → Bool) : Bool :=
 decide ((gF s1 f1) ≥ 0)
theorem kH (y1 : SlV) (s1 : List Int) (f2 : Nat) (caps1 : List Value) (pre1 : List Pred) [StabL pre1] (f1 : Int → Bool) (hfb1 : tab.fnb f2 = true) (hfn1 : ∀ (a0_ : Int), Du f2 ([.int .i64 a0_] ++ caps1) pre1 (.bool (f1 a0_))) : Du 39 [y1.val s1.length, .func (.func f2) #[] ⟨caps1⟩] (RdL EInt y1 s1 :: pre1) (.bool (aW s1 f1)) := by
 refine Dp Tryz.func39 fun C => ?_;refine e8 (φ := s1.length * 8 ≤ 140737488355328) [RdL EInt y1 s1] Sf (fun M w h => (allF1 h).len) fun hlen1 => ?_;refine Ck (lw y1 s1 _ _ _ f1 (by assumption) hfn1) fun _ => ?_;refine Tx ?_;have hf := Ri (aW.eq_1 s1 f1);refine f4 ?_;rw [hf.to];exact ⟨(), _, (.cons (.tmp rfl) .nil), rfl, Sf, .nil _, .nil _⟩
def dI  : List Client → Nat → Int
 | [], n1 => 0
 | pn1 :: rn1, n1 => (bif ((bK pn1 (n1 : Int)) != 0) then (bK pn1 (n1 : Int)) else (dI rn1 (n1 + 1)))
def bT (w1 : Wld) : Int :=
 (bif ((w1.c.length : Int) != 3) then 4 else (bif ((cx w1.mail) != 0) then (cx w1.mail) else (bif ((az w1.d).2.2 != 0) then (az w1.d).2.2 else (bif (w1.up && decide ((w1.d.wait.length : Int) > 0)) then 4 else (bif (!w1.up) then (bif ((aF ([] : List Rec)).2 != 0) then (aF ([] : List Rec)).2 else (bif (!(jj (aF ([] : List Rec)).1 w1.h)) then 4 else (dI w1.c 0))) else (bif ((aF (az w1.d).2.1).2 != 0) then (aF (az w1.d).2.1).2 else (bif (!(jj (aF (az w1.d).2.1).1 w1.h)) then 4 else (dI w1.c 0))))))))
theorem so (y1 : SlV) (y2 : SlV) (y3 : SlV) (y4 : SlV) (y5 : SlV) (y6 : SlV) (y7 : SlV) (w1 : Wld) : Du 14 [.agg ⟨cW y1 y2 y3 y4 y5 y6 y7 w1⟩] [RdL EStep y1 w1.h.h.l, RdL EPlace y2 w1.h.h.t, RdN NPeer y3 w1.h.peers, RdL EByte y4 w1.d.safe, RdL EByte y5 w1.d.wait, RdN NClient y6 w1.c, RdN NMail y7 w1.mail, LibP Tryz.prog] (.int .i64 (bT w1)) := by
 refine Dp Tryz.func14 fun C => ?_;refine Qc y1 88 fun hlen1 => ?_;refine Qc y2 24 fun hlen2 => ?_;refine Qn y3 40 fun hlen3 => ?_;refine Qc y4 1 fun hlen4 => ?_;refine Qc y5 1 fun hlen5 => ?_;refine Qn y6 128 fun hlen6 => ?_;refine Qn y7 280 fun hlen7 => ?_;refine BxT fun g1 => ?_;have hf := Ri (bT.eq_1 w1);refine Kn hf fun hc1 hc1p hf => ?_;refine Ck (jw y7 w1.mail) fun _ => ?_;refine Kn hf fun hc2 hc2p hf => ?_;refine Ck (ku y4 y5 w1.d) fun x1 => ?_;refine AlT fun g2 => ?_;refine Kn hf fun hc3 hc3p hf => ?_;refine Kh hf fun hc4 hf => ?_;refine Ch hf (fun hc5 hf => ?_) fun hc5 hf => ?_
 ·refine Tx ?_;refine Fm NRec ?_;refine Ck (kc Z0 ([] : List Rec)) fun x2 => ?_;refine AlT fun g3 => ?_;refine Kn hf fun hc6 hc6p hf => ?_;refine Ck (qN x2.1 x2.2.1 x2.2.2 (aF ([] : List Rec)).1 y1 y2 y3 w1.h) fun _ => ?_;generalize hS1 : (jj (aF ([] : List Rec)).1 w1.h) = S1;try rw [hS1] at hf
  refine Kh hf fun hc7 hf => ?_;refine Lq Nat [2,57,58] [true, true, true] (fun n1 => ⟨[(59, .v (.int .i64 (n1 : Int)))], [], [], [], (n1 ≤ w1.c.length) ∧ (dI (w1.c.drop n1) n1) = (bT w1), w1.c.length - n1⟩) 0 ⟨N0, hf.symm⟩ ?_;rintro n1 ⟨hkn1, hf1⟩;simp only [Lc];refine Cu (fun hlt0 => ?_) fun hge0 => ?_
  ·refine Tx ?_;refine Ex NClient y6 fun (γ1 : Nat → SlV × SlV × SlV × SlV) => ?_;refine Sq (Xn n1) ?_;refine Sq (Xe (cC (γ1 n1).1 (γ1 n1).2.1 (γ1 n1).2.2.1 (γ1 n1).2.2.2 (gt w1.c n1))) ?_;refine Gg NClient γ1 n1 0 ?_;refine Gg NClient γ1 n1 1 ?_;refine Gg NClient γ1 n1 2 ?_;refine Gg NClient γ1 n1 3 ?_;refine AlT fun g4 => ?_;refine Ck (jm (γ1 n1).1 (γ1 n1).2.1 (γ1 n1).2.2.1 (γ1 n1).2.2.2 (gt w1.c n1) (n1 : Int)) fun _ => ?_;generalize hS2 : (bK (gt w1.c n1) (n1 : Int)) = S2;have hf := Ri hf1.symm;rw [aK hlt0, dI] at hf;try rw [hS2] at hf
   refine Kn hf fun hc9 hc9p hf => ?_;refine Tt ?_;refine ⟨(n1 + 1), ⟨hlt0, hf.symm⟩, Oo, Le4⟩
  ·have hf := Ri hf1.symm;rw [Dl hge0, dI] at hf;exact Ru
 ·refine Ck (kc x1.2.2 (az w1.d).2.1) fun x3 => ?_;generalize hS3 : (aF (az w1.d).2.1) = S3;try rw [hS3] at hf
  refine AlT fun g5 => ?_;refine Kn hf fun hc10 hc10p hf => ?_;refine Ck (qN x3.1 x3.2.1 x3.2.2 S3.1 y1 y2 y3 w1.h) fun _ => ?_;refine Kh hf fun hc11 hf => ?_;refine Lq Nat [2,57,58] [true, true, true] (fun n2 => ⟨[(59, .v (.int .i64 (n2 : Int)))], [], [], [], (n2 ≤ w1.c.length) ∧ (dI (w1.c.drop n2) n2) = (bT w1), w1.c.length - n2⟩) 0 ⟨N0, hf.symm⟩ ?_;rintro n2 ⟨hkn2, hf2⟩;simp only [Lc];refine Cu (fun hlt0 => ?_) fun hge0 => ?_
  ·refine Tx ?_;refine Ex NClient y6 fun (γ2 : Nat → SlV × SlV × SlV × SlV) => ?_;refine Sq (Xn n2) ?_;refine Sq (Xe (cC (γ2 n2).1 (γ2 n2).2.1 (γ2 n2).2.2.1 (γ2 n2).2.2.2 (gt w1.c n2))) ?_;refine Gg NClient γ2 n2 0 ?_;refine Gg NClient γ2 n2 1 ?_;refine Gg NClient γ2 n2 2 ?_;refine Gg NClient γ2 n2 3 ?_;refine AlT fun g6 => ?_;refine Ck (jm (γ2 n2).1 (γ2 n2).2.1 (γ2 n2).2.2.1 (γ2 n2).2.2.2 (gt w1.c n2) (n2 : Int)) fun _ => ?_;generalize hS4 : (bK (gt w1.c n2) (n2 : Int)) = S4;have hf := Ri hf2.symm;rw [aK hlt0, dI] at hf;try rw [hS4] at hf
   refine Kn hf fun hc13 hc13p hf => ?_;refine Tt ?_;refine ⟨(n2 + 1), ⟨hlt0, hf.symm⟩, Oo, Le4⟩
  ·have hf := Ri hf2.symm;rw [Dl hge0, dI] at hf;exact Ru
def en (s1 : Str) : Nat → Str → Bool → (List Int) → (Rec × Int)
 | 0, rest1, more1, n1 => default
 | f_k0 + 1, rest1, more1, n1 => (bif more1 then (bif ((ate (cutc 32 rest1).1) || ((Lib.itoa (ptv (cutc 32 rest1).1)) != (cutc 32 rest1).1)) then ((⟨0, 0, 0, ([] : List Int), (⟨0, 0, 0, 0, 0, 0, 0⟩ : Op)⟩ : Rec), 1) else (en s1 f_k0 (cutc 32 rest1).2.1 (cutc 32 rest1).2.2 (n1 ++ [(ptv (cutc 32 rest1).1)]))) else (bif (((cutc 32 s1).1 == ([111, 112] : Str)) && ((n1.length : Int) == 7)) then (bif ((bf (⟨1, 0, 0, ([] : List Int), (⟨(gt n1 0), (gt n1 1), (gt n1 2), (gt n1 3), (gt n1 4), (gt n1 5), (gt n1 6)⟩ : Op)⟩ : Rec)) != 0) then ((⟨0, 0, 0, ([] : List Int), (⟨0, 0, 0, 0, 0, 0, 0⟩ : Op)⟩ : Rec), (bf (⟨1, 0, 0, ([] : List Int), (⟨(gt n1 0), (gt n1 1), (gt n1 2), (gt n1 3), (gt n1 4), (gt n1 5), (gt n1 6)⟩ : Op)⟩ : Rec))) else ((⟨1, 0, 0, ([] : List Int), (⟨(gt n1 0), (gt n1 1), (gt n1 2), (gt n1 3), (gt n1 4), (gt n1 5), (gt n1 6)⟩ : Op)⟩ : Rec), 0)) else (bif (((cutc 32 s1).1 == ([108, 105, 102, 101] : Str)) && ((n1.length : Int) == 2)) then (bif ((bf (⟨2, (gt n1 0), (gt n1 1), ([] : List Int), (⟨0, 0, 0, 0, 0, 0, 0⟩ : Op)⟩ : Rec)) != 0) then ((⟨0, 0, 0, ([] : List Int), (⟨0, 0, 0, 0, 0, 0, 0⟩ : Op)⟩ : Rec), (bf (⟨2, (gt n1 0), (gt n1 1), ([] : List Int), (⟨0, 0, 0, 0, 0, 0, 0⟩ : Op)⟩ : Rec))) else ((⟨2, (gt n1 0), (gt n1 1), ([] : List Int), (⟨0, 0, 0, 0, 0, 0, 0⟩ : Op)⟩ : Rec), 0)) else (bif (((cutc 32 s1).1 == ([114, 111, 111, 116, 115] : Str)) && decide ((n1.length : Int) ≥ 1)) then (bif ((bf (⟨3, (gt n1 0), 0, (n1.drop 1), (⟨0, 0, 0, 0, 0, 0, 0⟩ : Op)⟩ : Rec)) != 0) then ((⟨0, 0, 0, ([] : List Int), (⟨0, 0, 0, 0, 0, 0, 0⟩ : Op)⟩ : Rec), (bf (⟨3, (gt n1 0), 0, (n1.drop 1), (⟨0, 0, 0, 0, 0, 0, 0⟩ : Op)⟩ : Rec))) else ((⟨3, (gt n1 0), 0, (n1.drop 1), (⟨0, 0, 0, 0, 0, 0, 0⟩ : Op)⟩ : Rec), 0)) else ((⟨0, 0, 0, ([] : List Int), (⟨0, 0, 0, 0, 0, 0, 0⟩ : Op)⟩ : Rec), 1)))))
def aN (s1 : Str) : Rec × Int :=
 (en s1 (s1.length + 3) (cutc 32 s1).2.1 (cutc 32 s1).2.2 [])
theorem mM (s1 : Str) (hs : s1.length ≤ 60000) : Dw 122 [sV s1] [LibP Tryz.prog] (fun (X : SlV) => .tuple #[.agg ⟨cR X (aN s1).1⟩, .int .i64 (aN s1).2]) (fun X => [RdL EInt X (aN s1).1.roots]) := by
 refine Dp Tryz.func122 fun C => ?_;refine AlT fun g1 => ?_;refine Ck (xr s1 ([32] : Str) rfl (by omega)) fun _ => ?_;have hcm := sE 32 s1;refine Lq (Str × Bool × List Int × SlV × Option Nat × Nat) [2,3,4] [true] (fun ⟨rest1, more1, n1, x1, x1b, fz1⟩ => ⟨[(5, .v (sV rest1)), (6, .v (.bool more1)), (7, .v (x1.val n1.length))], [], [ownL EInt 3 x1 x1b n1], [], (n1.length + (bif more1 then rest1.length + 1 else 0) ≤ s1.length + 1) ∧ ((bif more1 then rest1.length + 1 else 0) < fz1) ∧ (en s1 fz1 rest1 more1 n1) = (aN s1), fz1⟩) ⟨(cutc 32 s1).2.1, (cutc 32 s1).2.2, [], ⟨none, 0⟩, none, s1.length + 3⟩ ⟨(by simp only [List.length_nil]; omega), Nz, (by simp only [aN, Cf, D0])⟩ ?_ (hs := Le.trans (eI EInt 3) Le4);rintro ⟨rest1, more1, n1, x1, x1b, fz1⟩ ⟨hinv, hzfz1, hf1⟩;simp only [Lc];have hlt0_ : (fz1 - 1) + 1 = fz1 := by omega
 have hf := Ri hf1.symm;rw [← hlt0_, en] at hf;refine Ch hf (fun hc1 hf => ?_) fun hc1 hf => ?_
 ·have hinv2 := hinv; rw [hc1, cond_true] at hinv2; have hz2 := hzfz1; rw [hc1, cond_true] at hz2;refine Ck (xr rest1 ([32] : Str) rfl (by omega)) fun _ => ?_;have hcm2 := sE 32 rest1; have hcl2 := vD 32 rest1;refine Ck (wr (cutc 32 rest1).1 10 64 ⟨rfl, rfl⟩ (by omega)) fun x2 => ?_;refine Sy Tz (z7 rfl rfl Zf va) ?_;refine Cy (fun hG_ => vx (ptv (cutc 32 rest1).1) 10 rfl (zc _)) ?_;refine Tx ?_;refine Sg Gz (q_neS (a := (Lib.itoa (ptv (cutc 32 rest1).1))) (b := (cutc 32 rest1).1) rfl rfl Bt rfl Bt) ?_;refine Ch hf (fun hc2 hf => ?_) fun hc2 hf => ?_
  ·refine Tx ?_;refine Fc EInt ?_;refine Rx ?_; exact Re Z0 (Va (Vt Vn))
  ·refine Bl EInt [(ptv (cutc 32 rest1).1)] fun x3 x3b => ?_;refine Ap EInt 8 n1 [(ptv (cutc 32 rest1).1)] x1b fun x4 x4b => ?_;refine Tx ?_;refine ⟨⟨(cutc 32 rest1).2.1, (cutc 32 rest1).2.2, (n1 ++ [(ptv (cutc 32 rest1).1)]), x4, x4b, (fz1 - 1)⟩, ⟨Zl, (by (try simp only []); first | omega | (simp only [Ln]; omega)), (hf : (aN s1) = (en s1 (fz1 - 1) (cutc 32 rest1).2.1 (cutc 32 rest1).2.2 (n1 ++ [(ptv (cutc 32 rest1).1)]))).symm⟩, Oo, Le4⟩
 ·refine Fz x1 ?_;refine AlT fun g2 => ?_;refine Sy Tz (q_eqS (a := (cutc 32 s1).1) (b := ([111, 112] : Str)) rfl rfl Zf rfl Zf) ?_;refine Ch hf (fun hc3 hf => ?_) fun hc3 hf => ?_
  ·have hl7 := yu hc3;refine Rg [(24,some [g2])] ?_;refine Rb 0 rfl Qp ?_;refine Rb 1 rfl (Xi 0) ?_;refine Rb 2 rfl X1 ?_;refine Rb 3 rfl Qp ?_;refine Rb 4 rfl (Xi 1) ?_;refine Rb 5 rfl X1 ?_;refine Dx [6,7] ?_;refine Rb 8 rfl (Xi 2) ?_;refine Ra 9 rfl X1 ?_;refine Rb 10 rfl Qp ?_;refine Rb 11 rfl (Xi 3) ?_;refine Ra 12 rfl X1 ?_;refine Rb 13 rfl Qp ?_;refine Rb 14 rfl (Xi 4) ?_;refine Ra 15 rfl X1 ?_;refine Rb 16 rfl Qp ?_;refine Rb 17 rfl (Xi 5) ?_;refine Ra 18 rfl X1 ?_;refine Rb 19 rfl Qp ?_;refine Rb 20 rfl (Xi 6) ?_;refine Ra 21 rfl X1 ?_;refine Dx [22,23] ?_;refine Rn 24 ?_;refine Wp ?_;refine Re0 ?_;refine Tx ?_;refine Fr EInt ?_;refine Ck (eg Z0 (⟨1, 0, 0, ([] : List Int), (⟨(gt n1 0), (gt n1 1), (gt n1 2), (gt n1 3), (gt n1 4), (gt n1 5), (gt n1 6)⟩ : Op)⟩ : Rec)) fun _ => ?_;refine Cn hf (fun hc4 hc4p hf => ?_) fun hc4 hc4p hf => ?_
   ·refine Rx ?_; exact Re Z0 (Va (Vt Vn))
   ·refine Rx ?_; exact Re Z0 (Va (Vt Vn))
  ·refine Sy Tz (q_eqS (a := (cutc 32 s1).1) (b := ([108, 105, 102, 101] : Str)) rfl rfl Zf rfl Zf) ?_;refine Ch hf (fun hc5 hf => ?_) fun hc5 hf => ?_
   ·have hl7 := yu hc5;refine Rg [(7,some [g2]),(9,some [g2]),(11,some [g2])] ?_;refine Rq (Fb 0 [3,4,5,6,7]) (.drop Sa) Xv ?_;refine Rq (Fa 1 [3,4,5,6,7]) (.drop Sa) (Xi 0) ?_;refine Rq (Fa 2 [3,4,5,6,7]) (.drop Sa) X1 ?_;refine Rq (Fb 3 [6,7,8,9]) (.drop Sa) Xv ?_;refine Rq (Fa 4 [6,7,8,9]) (.drop Sa) (Xi 1) ?_;refine Rq (Fa 5 [6,7,8,9]) (.drop Sa) X1 ?_;refine Ra 6 rfl Qp ?_;refine Rn 7 ?_;refine W1 ?_;refine Ra 8 rfl Qp ?_;refine Rn 9 ?_;refine W1 ?_;refine Ra 10 rfl Qp ?_;refine Rn 11 ?_;refine W1 ?_;refine Re0 ?_;refine Tx ?_;refine Fr EInt ?_;refine Ck (eg Z0 (⟨2, (gt n1 0), (gt n1 1), ([] : List Int), (⟨0, 0, 0, 0, 0, 0, 0⟩ : Op)⟩ : Rec)) fun _ => ?_;refine Cn hf (fun hc6 hc6p hf => ?_) fun hc6 hc6p hf => ?_
    ·refine Rx ?_; exact Re Z0 (Va (Vt Vn))
    ·refine Rx ?_; exact Re Z0 (Va (Vt Vn))
   ·refine Sy Tz (q_eqS (a := (cutc 32 s1).1) (b := ([114, 111, 111, 116, 115] : Str)) rfl rfl Zf rfl Zf) ?_;refine Ch hf (fun hc7 hf => ?_) fun hc7 hf => ?_
    ·have hl7 := len_ge hc7;refine Rg [(6,some [g2]),(8,some [g2]),(10,some [g2])] ?_;refine Rq (Fb 0 [3,4,5,6]) (.drop Sa) Xv ?_;refine Rq (Fa 1 [3,4,5,6]) (.drop Sa) (Xi 0) ?_;refine Rq (Fa 2 [3,4,5,6]) (.drop Sa) X1 ?_;refine Rq (Fa 3 [5,6,7,8]) (.drop Sa) Xv ?_;refine Rq (Fa 4 [5,6,7,8]) (.drop Sa) (rS EInt 1 rfl rfl Zf rfl Zf rfl rfl Zo Zo) ?_;refine Dz x1 1 ?_;refine Ra 5 rfl Qp ?_;refine Rn 6 ?_;refine W1 ?_;refine Ra 7 rfl Qp ?_;refine Rn 8 ?_;refine W1 ?_;refine Ra 9 rfl Qp ?_;refine Rn 10 ?_;refine W1 ?_;refine Re0 ?_;refine Ck (eg (⟨slA x1.a x1.c 1 EInt.esz, x1.c - 1⟩ : SlV) (⟨3, (gt n1 0), 0, (n1.drop 1), (⟨0, 0, 0, 0, 0, 0, 0⟩ : Op)⟩ : Rec)) fun _ => ?_;refine Cn hf (fun hc8 hc8p hf => ?_) fun hc8 hc8p hf => ?_
     ·refine Tx ?_;refine Fc EInt ?_;refine Rx ?_; exact Re Z0 (Va (Vt Vn))
     ·refine Rx ?_; exact Re (⟨slA x1.a x1.c 1 EInt.esz, x1.c - 1⟩ : SlV) (Va (Vt Vn))
    ·refine Tx ?_;refine Fc EInt ?_;refine Rx ?_; exact Re Z0 (Va (Vt Vn))
def dr  : List Int → (List Str) → (List Str)
 | [], l2 => l2
 | pn1 :: rn1, l2 => (dr rn1 (l2 ++ [(Lib.itoa pn1)]))
def aV (l1 : List Int) (w1 : List Str) : (List Str) :=
 (dr l1 w1)
theorem fG (y1 : SlV) (l1 : List Int) (c1 : Nat) (y2 : SlV) (y2b : Option Nat) (w1 : List Str) (hb : ∀ n ∈ l1, I64 n) (hwl : w1.length + l1.length ≤ 100000) : Dv 146 [y1.val l1.length, .pointer (some ⟨c1, 0, none⟩)] [RdL EInt y1 l1, LibP Tryz.prog] ⟨[⟨c1, 171, [y2.val w1.length]⟩], [ownL EStr 9 y2 y2b w1]⟩ (fun (X : SlV × Option Nat) => .tuple #[]) (fun X => []) (fun X => ⟨[⟨c1, 171, [X.1.val (aV l1 w1).length]⟩], [ownL EStr 9 X.1 X.2 (aV l1 w1)]⟩) := by
 refine Dq Tryz.func146 fun C => ?_;refine Qc y1 8 fun hlen1 => ?_;refine Lq (Nat × List Str × SlV × Option Nat) [1,5,6] [false] (fun ⟨n1, l2, x1, x1b⟩ => ⟨[(7, .v (.int .i64 (n1 : Int)))], [⟨c1, 171, [x1.val l2.length]⟩], [ownL EStr 9 x1 x1b l2], [], (n1 ≤ l1.length) ∧ (l2.length ≤ n1 + w1.length) ∧ (dr (l1.drop n1) l2) = (aV l1 w1), l1.length - n1⟩) ⟨0, w1, y2, y2b⟩ ⟨N0, Nz, (by simp only [aV, Cf, D0])⟩ ?_;rintro ⟨n1, l2, x1, x1b⟩ ⟨hkn1, hl2, hf1⟩;simp only [Lc];refine Cu (fun hlt0 => ?_) fun hge0 => ?_
 ·refine Sy Tz (Xi n1) ?_;refine Sq X1 ?_;refine Rg [(4,some x1b.toList),(5,some [c1])] ?_;refine Dx [0,1] ?_;refine Rn 2 ?_;refine Ck (vv (gt l1 n1) (hb _ (gJ hlt0))) fun _ => ?_;refine Rn 3 ?_;refine Bl EStr [(Lib.itoa (gt l1 n1))] fun x2 x2b => ?_;refine Rn 4 ?_;refine Ap EStr 16 l2 [(Lib.itoa (gt l1 n1))] x1b fun x3 x3b => ?_;refine Rn 5 ?_;refine W1 ?_;refine Re0 ?_;refine Tt ?_;refine ⟨⟨(n1 + 1), (l2 ++ [(Lib.itoa (gt l1 n1))]), x3, x3b⟩, ⟨hlt0, Zl, (by rw [← hf1, aK hlt0]; simp only [dr, Cf, D0])⟩, Oo, Le4⟩
 ·refine Tx ?_;have hr1 : (aV l1 w1) = l2 := by rw [← hf1, Dl hge0]; simp only [dr, Cf]
  rw [hr1];exact ⟨⟨x1, x1b⟩, _, .nil, rfl, Sm, Sp, Sp⟩
theorem o9 : ∀ (l : List Int) (w : List Str), dr l w = w ++ l.map Lib.itoa
 | [], w => by simp [dr]
 | a :: r, w => by rw [dr, o9 r]; simp
theorem je (l : List Int) (w : List Str) : aV l w = w ++ l.map Lib.itoa := o9 l w
theorem tm : ∀ (l : List Int), (∀ n ∈ l, I64 n) → (Lib.joinTail [32] (l.map Lib.itoa)).length ≤ 22 * l.length
 | [], _ => by simp [Lib.joinTail]
 | a :: r, h => by
  have h1 := tm r (fun n hn => h n (.tail _ hn));have h2 := Lib.itoa_length_le a (h a (.head _)).1 (h a (.head _)).2;simp only [Lib.joinTail, List.map_cons, List.flatten_cons, Ln] at h1 ⊢;omega
theorem yj (h : ∀ n ∈ l, I64 n) (hl : l.length ≤ 1000) (hw : w.length ≤ 10) : (Lib.join (aV l [w]) [32]).length ≤ 140737488355328 := by
 rw [je, List.singleton_append, Lib.join_cons, List.length_append];have := tm l h;omega
theorem xk (h : ∀ n ∈ a :: l, I64 n) (hl : l.length ≤ 900) (hw : w.length ≤ 10) : (Lib.join (aV l (aV [a] [w])) [32]).length ≤ 140737488355328 := by
 have h2 : aV l (aV [a] [w]) = aV (a :: l) [w] := by simp [je]
 rw [h2];exact yj h (by simp only [List.length_cons]; omega) hw
theorem CF (h : bf r = 0) : aH r = 0 := by first | exact (lQ r).symm.trans h | exact (lQ r).trans h
def bD (r1 : Rec) : Str × Int :=
 (bif ((bf r1) != 0) then (([] : Str), (bf r1)) else (bif (r1.kind == 1) then ((Lib.join (aV [r1.o.time, r1.o.who, r1.o.node, r1.o.parent, r1.o.name, r1.o.life, r1.o.seq] [([111, 112] : Str)]) ([32] : Str)), 0) else (bif (r1.kind == 2) then ((Lib.join (aV [r1.who, r1.life] [([108, 105, 102, 101] : Str)]) ([32] : Str)), 0) else ((Lib.join (aV r1.roots (aV [r1.who] [([114, 111, 111, 116, 115] : Str)])) ([32] : Str)), 0))))
theorem mL (y1 : SlV) (r1 : Rec) : Du 102 [.agg ⟨cR y1 r1⟩] [RdL EInt y1 r1.roots, LibP Tryz.prog] (.tuple #[sV (bD r1).1, .int .i64 (bD r1).2]) := by
 refine Dp Tryz.func102 fun C => ?_;refine Qc y1 8 fun hlen1 => ?_;refine BxT fun g1 => ?_;refine Ck (eg y1 r1) fun _ => ?_;have hf := Ri (bD.eq_1 r1);refine Kn hf fun hc1 hc1p hf => ?_;have hck := CF (ag hc1);refine AlT fun g2 => ?_;refine Ce hf (fun hc2 hc2p hf => ?_) fun hc2 hc2p hf => ?_
 ·have hbn := Av hck hc2;refine Bl EStr [([111, 112] : Str)] fun x1 x1b => ?_;refine Bl EInt [r1.o.time, r1.o.who, r1.o.node, r1.o.parent, r1.o.name, r1.o.life, r1.o.seq] fun x2 x2b => ?_;refine Fx x2 ?_;refine Cw (fG x2 [r1.o.time, r1.o.who, r1.o.node, r1.o.parent, r1.o.name, r1.o.life, r1.o.seq] g2 x1 x1b [([111, 112] : Str)] hbn (by first | decide | (simp only [je, List.length_append, List.length_map, List.length_cons, List.length_nil]; omega))) fun x3 => ?_;refine Cm (vu x3.1 x3.2 (aV [r1.o.time, r1.o.who, r1.o.node, r1.o.parent, r1.o.name, r1.o.life, r1.o.seq] [([111, 112] : Str)]) ([32] : Str) (by first | exact xk hbn (by omega) (by decide) | exact yj hbn (by simp) (by simp))) fun _ => ?_;exact Ru
 ·have hk1 := hc2;refine Ce hf (fun hc3 hc3p hf => ?_) fun hc3 hc3p hf => ?_
  ·have hbn := wk hck hc3;refine Bl EStr [([108, 105, 102, 101] : Str)] fun x4 x4b => ?_;refine Bl EInt [r1.who, r1.life] fun x5 x5b => ?_;refine Fx x5 ?_;refine Cw (fG x5 [r1.who, r1.life] g2 x4 x4b [([108, 105, 102, 101] : Str)] hbn (by first | decide | (simp only [je, List.length_append, List.length_map, List.length_cons, List.length_nil]; omega))) fun x6 => ?_;refine Cm (vu x6.1 x6.2 (aV [r1.who, r1.life] [([108, 105, 102, 101] : Str)]) ([32] : Str) (by first | exact xk hbn (by omega) (by decide) | exact yj hbn (by simp) (by simp))) fun _ => ?_;exact Ru
  ·have hbn0 := uy hck hk1 hc3; have hbn := hbn0.2; have hrl := hbn0.1;refine Bl EStr [([114, 111, 111, 116, 115] : Str)] fun x7 x7b => ?_;refine Bl EInt [r1.who] fun x8 x8b => ?_;refine Fx x8 ?_;refine Cw (fG x8 [r1.who] g2 x7 x7b [([114, 111, 111, 116, 115] : Str)] (fun n hn => hbn n (by simp only [List.mem_singleton] at hn; subst hn; exact .head _)) (by first | decide | (simp only [je, List.length_append, List.length_map, List.length_cons, List.length_nil]; omega))) fun x9 => ?_;refine Cw (fG y1 r1.roots g2 x9.1 x9.2 (aV [r1.who] [([114, 111, 111, 116, 115] : Str)]) (fun n hn => hbn n (.tail _ hn)) (by first | decide | (simp only [je, List.length_append, List.length_map, List.length_cons, List.length_nil]; omega))) fun x10 => ?_;refine Cm (vu x10.1 x10.2 (aV r1.roots (aV [r1.who] [([114, 111, 111, 116, 115] : Str)])) ([32] : Str) (by first | exact xk hbn (by omega) (by decide) | exact yj hbn (by simp) (by simp))) fun _ => ?_;exact Ru
theorem tk (w : Str) (l : List Str) : Lib.join (w :: l) [32] = w ++ glue 32 l := by
 rw [Lib.join_cons];congr 1
theorem uR (r : Rec) : bD r = du r := by
 rw [vO, bD, ← oQ];by_cases h : aH r = 0
 ·rw [if_pos h, h];simp only [je, List.singleton_append, List.cons_append, List.nil_append];rcases (ka r).1 h with ⟨h1, _⟩ | ⟨h1, _, _⟩ | ⟨h1, _, _⟩
  ·rw [h1]; simp only [k4, wordOf, kp]; exact congrArg (·, (0 : Int)) (tk _ _)
  ·rw [h1]; simp only [k4, wordOf, kp]; exact congrArg (·, (0 : Int)) (tk _ _)
  ·rw [h1]; simp only [k4, wordOf, kp]; exact congrArg (·, (0 : Int)) (tk _ _)
 ·rw [if_neg h];have : (aH r != 0) = true := by simpa using h
  rw [this, cond_true]
theorem AX (s : Str) : (cutc 32 s).1 = gt (spl 32 s) 0 ∧ (spl 32 s).drop 1 = bif (cutc 32 s).2.2 then spl 32 (cutc 32 s).2.1 else [] := by
 rcases at_c 32 s with h | ⟨p, r, h1, h2⟩
 ·rw [ry h, un h]; exact ⟨rfl, rfl⟩
 ·rw [h1, pB r h2, rj r h2]; exact ⟨rfl, rfl⟩
theorem spl_eq (s : Str) : spl 32 s = (cutc 32 s).1 :: (bif (cutc 32 s).2.2 then spl 32 (cutc 32 s).2.1 else []) := by
 rcases at_c 32 s with h | ⟨p, r, h1, h2⟩
 ·rw [ry h, un h]; rfl
 ·rw [h1, pB r h2, rj r h2]; rfl
theorem q6 (s : Str) : ∀ (f : Nat) (rest : Str) (more : Bool) (n : List Int), (bif more then rest.length + 1 else 0) < f → en s f rest more n = readP (cutc 32 s).1 ((pn (bif more then spl 32 rest else [])).map (n ++ ·))
 | 0, _, _, _, h => absurd h (Nat.not_lt_zero _)
 | f + 1, rest, more, n, h => by
  rw [en];cases more with
  | false =>
   simp only [cond_false, pn, Option.map_some, List.append_nil, readP, finR, mkRec];simp only [← oQ, AO];rw [show (((cutc 32 s).1 == ([111, 112] : Str)) && ((n.length : Int) == 7)) = decide ((cutc 32 s).1 = [111, 112] ∧ n.length = 7) from vG (k := 7),
    show (((cutc 32 s).1 == ([108, 105, 102, 101] : Str)) && ((n.length : Int) == 2)) = decide ((cutc 32 s).1 = [108, 105, 102, 101] ∧ n.length = 2) from vG (k := 2), and_ge, rA, rA, rA]
   by_cases h1 : (cutc 32 s).1 = [111, 112] ∧ n.length = 7
   ·rw [if_pos h1, if_pos h1]
   ·rw [if_neg h1, if_neg h1];by_cases h2 : (cutc 32 s).1 = [108, 105, 102, 101] ∧ n.length = 2
    ·rw [if_pos h2, if_pos h2]
    ·rw [if_neg h2, if_neg h2];by_cases h3 : (cutc 32 s).1 = [114, 111, 111, 116, 115] ∧ 0 < n.length
     ·rw [if_pos h3, if_pos h3]
     ·rw [if_neg h3, if_neg h3]
  | true =>
   simp only [cond_true] at h ⊢;rw [spl_eq rest, pn];cases he : ate (cutc 32 rest).1 with
   | true => simp [readP]
   | false =>
    rw [ptv_eq he];cases (Lib.itoa (atv (cutc 32 rest).1) != (cutc 32 rest).1) with
    | true => rfl
    | false =>
     simp only [Bool.or_false, cond_false];have hm := sE 32 rest;rw [q6 s f _ _ _ (by omega), Option.map_map];congr 2;funext x; simp
theorem zA (h : s.length ≤ 60000) : aN s = cw s := by
 rw [vP h, aN, q6 _ _ _ _ _ (by have := sE 32 s; omega), (AX s).1, (AX s).2];congr 1;cases pn (bif (cutc 32 s).2.2 then spl 32 (cutc 32 s).2.1 else []) <;> simp
theorem pG (y : SlV) (l : List Rec) (n : Int) (hy : y = ⟨none, 0⟩ ∧ l = []) (hn : 0 ≤ n ∧ n * 104 ≤ 140737488355328) : Dv 124 [y.val l.length, .int .i64 n] [RdN NRec y l] ⟨[], []⟩ (fun (X : SlV × Option Nat × (Nat → SlV)) => X.1.val ([] : List Rec).length) (fun X => [FactsG NRec X.2.2 ([] : List Rec)]) (fun X => ⟨[], [ownL NRec.E 78 X.1 X.2.1 (zipG X.2.2 0 ([] : List Rec))]⟩) := by
 obtain ⟨hy1, hy2⟩ := hy;subst hy1; subst hy2;obtain ⟨k, rfl⟩ : ∃ k : Nat, n = k := ⟨n.toNat, by omega⟩;refine Dq Tryz.func124 fun C => ?_;refine cw_le (eI NRec.E 78) ?_;refine Cd' (fun hc => ?_) fun hc => ?_
 ·exact absurd (of_decide_eq_true hc) (by omega)
 ·refine Sy Tz (q_cap rfl rfl Zf rfl) ?_;refine Tx ?_;refine Sq (q_is (v' := .int .i64 0) (q_sub rfl rfl Zf rfl Zf (fun _ => by decide)) rfl) ?_;refine Sq (q_is (v' := .int .i64 (k : Int)) (q_sub rfl rfl Zf rfl Zf Zo) (by simp)) ?_;refine Cd' (fun hc1 => ?_) fun hc1 => ?_
  ·have hk := of_decide_eq_true hc1;refine Sy Tz (q_cap rfl rfl Zf rfl) ?_;refine Sq (rR (h := 0) rfl rfl Zf rfl Zf rfl rfl Zf (fun _ => Nr)) ?_;refine Rp rfl rfl rfl rfl ?_;refine pj (n := k) (e := 78) (by_ := 104) .sq (au rfl) rfl rfl rfl rfl rfl rfl rfl rfl und_3 (fun _ _ _ => .here _ _ _) rfl rfl rfl rfl rfl rfl (by omega) (by omega) (by omega) fun x1 b1 zs => ?_;refine Tx ?_;refine qy (k := 0) .sq (au rfl) rfl rfl rfl rfl rfl rfl rfl rfl rfl (.here _ _ _) rfl N0 ?_;refine Tx ?_;(repeat refine er ?_); refine o0 (F := FactsG NRec (fun _ => default) ([] : List Rec)) [] (.nil _) (fun M w _ => FactsG.nil NRec _ M w) ?_; refine f4 ?_;exact ⟨(x1, b1, fun _ => default), _, (.cons (.tmp rfl) .nil), rfl, Sm, .nil _, Sp⟩
  ·refine Tx ?_;(repeat refine er ?_); refine o0 (F := FactsG NRec (fun _ => default) ([] : List Rec)) [] (.nil _) (fun M w _ => FactsG.nil NRec _ M w) ?_; refine f4 ?_;exact ⟨(⟨none, 0⟩, none, fun _ => default), _, (.cons (.tmp rfl) .nil), rfl, Sm, .nil _, Sp⟩
def dM  : List (List Rec) → (List Rec) → (List Rec)
 | [], newslice1 => newslice1
 | pn2 :: rn2, newslice1 => (dM rn2 (newslice1 ++ pn2))
def eK (slices1 : List (List Rec)) : List (List Rec) → Nat → (List Rec)
 | [], size1 => (dM slices1 ([] : List Rec))
 | pn1 :: rn1, size1 => (bif decide (((size1 : Int) + (pn1.length : Int)) < 0) then [] else (eK slices1 rn1 (size1 + pn1.length)))
def fk (slices1 : List (List Rec)) : List Rec :=
 (eK slices1 slices1 0)
theorem od (y1 : SlV) (slices1 : List (List Rec)) (hct : slices1.flatten.length * 104 ≤ 140737488355328) : Dv 75 [y1.val slices1.length] [RdN NRecs y1 slices1] ⟨[], []⟩ (fun (X : SlV × Option Nat × (Nat → SlV)) => X.1.val (fk slices1).length) (fun X => [FactsG NRec X.2.2 (fk slices1)]) (fun X => ⟨[], [ownL NRec.E 78 X.1 X.2.1 (zipG X.2.2 0 (fk slices1))]⟩) := by
 refine Dq Tryz.func75 fun C => ?_;refine Qn y1 24 fun hlen1 => ?_;refine Lq (Nat × Nat) [0,2,9,10] [] (fun ⟨size1, n1⟩ => ⟨[(3, .v (.int .i64 (size1 : Int))), (11, .v (.int .i64 (n1 : Int)))], [], [], [], (n1 ≤ slices1.length) ∧ (size1 = ((slices1.take n1).flatten.length : Int)) ∧ (eK slices1 (slices1.drop n1) size1) = (fk slices1), slices1.length - n1⟩) ⟨0, 0⟩ ⟨N0, (by simp), (by simp only [fk, Cf, D0])⟩ ?_;rintro ⟨size1, n1⟩ ⟨hkn1, hsz, hf1⟩;simp only [Lc];refine Cu (fun hlt0 => ?_) fun hge0 => ?_
 ·refine Tx ?_;refine Ex NRecs y1 fun (γ1 : Nat → SlV) => ?_;refine Sq (Xn n1) ?_;refine Sq (i8 NRecs γ1 (v := (γ1 n1).val (gt slices1 n1).length) rfl rfl Zf rfl rfl Mm (fun _ => by first | assumption | omega) rfl) ?_;refine Gg NRecs γ1 n1 0 ?_;refine Tx ?_;refine Sq (q_add rfl rfl Zf rfl Zf (fun _ => by have := (ij slices1 hlt0).2; omega)) ?_;have hf := Ri hf1.symm;rw [aK hlt0, eK] at hf;refine Cp hf (fun hc2 hc2p hf => ?_) fun hc2 hc2p hf => ?_
  ·exact absurd (of_decide_eq_true hc2) (by omega)
  ·refine Tt ?_;refine ⟨⟨(size1 + (gt slices1 n1).length), (n1 + 1)⟩, ⟨hlt0, (by rw [(ij slices1 hlt0).1, List.length_append]; simp only [hsz]; omega), hf.symm⟩, Oo, Le4⟩
 ·refine Tx ?_;refine Fm NRec ?_;refine Cm (pG Z0 ([] : List Rec) (size1 : Int) ⟨rfl, rfl⟩ (by have h_ : (slices1.take n1).flatten.length ≤ slices1.flatten.length := (by rw [List.take_of_length_le hge0]; exact Nr); omega)) fun x1 => ?_;refine Lq (List Rec × SlV × Option Nat × (Nat → SlV) × Nat) [2,25,26] [] (fun ⟨newslice1, x2, x2b, γ2, n2⟩ => ⟨[(6, .v (x2.val newslice1.length)), (27, .v (.int .i64 (n2 : Int)))], [], [ownL NRec.E 78 x2 x2b (zipG γ2 0 newslice1)], [FactsG NRec γ2 newslice1], (n2 ≤ slices1.length) ∧ (newslice1.length = (slices1.take n2).flatten.length) ∧ (dM (slices1.drop n2) newslice1) = (fk slices1), slices1.length - n2⟩) ⟨([] : List Rec), x1.1, x1.2.1, x1.2.2, 0⟩ ⟨N0, (by simp), (by rw [← hf1, Dl hge0]; simp only [eK, Cf, D0])⟩ ?_;rintro ⟨newslice1, x2, x2b, γ2, n2⟩ ⟨hkn2, hnl, hf2⟩;simp only [Lc];refine Cu (fun hlt1 => ?_) fun hge1 => ?_
  ·refine Tx ?_;refine Ex NRecs y1 fun (γ3 : Nat → SlV) => ?_;refine Sq (Xn n2) ?_;refine Sq (i8 NRecs γ3 (v := (γ3 n2).val (gt slices1 n2).length) rfl rfl Zf rfl rfl Mm (fun _ => by first | assumption | omega) rfl) ?_;refine Gg NRecs γ3 n2 0 ?_;refine Tx ?_;refine Ex NRec (γ3 n2) fun (γ4 : Nat → SlV) => ?_;refine jS NRec γ2 γ4 newslice1 (gt slices1 n2) (b := x2b) .sq (fun _ _ => .inl ⟨_, rfl⟩) (au rfl) rfl rfl rfl rfl rfl rfl rfl (fun _ _ => Uo) rfl rfl rfl rfl rfl rfl rfl (lB (EN := NRec) (X := (γ3 n2)) (γ := γ4) (l := (gt slices1 n2)) Mm) (by have := (ij slices1 hlt1).2; show (_ + _) * 104 ≤ _; omega) fun x3 x3b => ?_;refine Fp' NRec γ2 γ4 ?_;refine Tt ?_;refine ⟨⟨(newslice1 ++ (gt slices1 n2)), x3, x3b, (appG γ2 newslice1.length γ4), (n2 + 1)⟩, ⟨hlt1, (by rw [(ij slices1 hlt1).1]; simp only [List.length_append]; omega), (by rw [← hf2, aK hlt1]; simp only [dM, Cf, D0])⟩, Oo, Le4⟩
  ·have hf := Ri hf2.symm;rw [Dl hge1, dM] at hf;refine Rx ?_; exact Rr ⟨x2, x2b, γ2⟩
theorem pJ (ls : List (List Rec)) : fk ls = ls.flatten := by
 have h1 : ∀ (l : List (List Rec)) (acc : List Rec), dM l acc = acc ++ l.flatten := by
  intro l;induction l with
  | nil => intro acc; simp [dM]
  | cons a r ih => intro acc; rw [dM, ih]; simp
 have h0 : ∀ (l : List (List Rec)) (k : Nat), eK ls l k = dM ls [] := by
  intro l;induction l with
  | nil => intro k; rfl
  | cons a r ih =>
   intro k;have : decide (((k : Int) + (a.length : Int)) < 0) = false := by simp; omega
   rw [eK, this, cond_false, ih]
 rw [fk, h0, h1, List.nil_append]
theorem iB (y1 : SlV) (ls : List (List Rec)) (hct : ls.flatten.length * 104 ≤ 140737488355328) : Dv 75 [y1.val ls.length] [RdN NRecs y1 ls] ⟨[], []⟩ (fun (X : SlV × Option Nat × (Nat → SlV)) => X.1.val ls.flatten.length) (fun X => [FactsG NRec X.2.2 ls.flatten]) (fun X => ⟨[], [ownL NRec.E 78 X.1 X.2.1 (zipG X.2.2 0 ls.flatten)]⟩) := by
 have := od y1 ls hct;rw [pJ] at this;exact this
theorem wn (s sep : Str) (sv n : Int) (hs : sep = [10]) (hsv : sv = 1) (hn : n = -1) (h : s.length < 4294967281) :
  Dw 164 [sV s, sV sep, .int .i64 sv, .int .i64 n] [LibP Tryz.prog] (fun (X : SlV) => X.val (splA 10 s).length) (fun (X : SlV) => [RdL EStr X (splA 10 s)]) := by
 subst hs; subst hsv; subst hn;exact ma (fun _ => inferInstance) fun M w hM hp => by
  obtain ⟨m, hm⟩ := xq (hp _ (.head _));have hl := xc 10 s;have hlen : Lib.countB ⟨s.toArray⟩ ⟨#[10]⟩ + 1 = (splA 10 s).length := by
   have h3 := congrArg List.length hl;rw [List.length_map, List.length_map] at h3;rw [← h3, Lib.splitB_all ⟨#[10]⟩ (by decide) 1 _ _ rfl]
  have hb := (vd 10 s).2;refine (Any.strings_genSplit Tryz.lays221 (by kernel_rfl) ⟨s.toArray⟩ ⟨#[10]⟩ 1 (-1) (Lib.countB ⟨s.toArray⟩ ⟨#[10]⟩ + 1) m w (by rw [kU]; exact h) hm (by decide) (by decide) (by decide) (by decide) ?_).mono fun e w' ⟨h1, h2⟩ => ?_
  ·rw [if_pos (by decide), kU];omega
  ·rw [Nat.add_sub_cancel] at h1 h2;have hl2 : (Lib.splitB ⟨#[10]⟩ 1 (Lib.countB ⟨s.toArray⟩ ⟨#[10]⟩) ⟨s.toArray⟩).length = (splA 10 s).length := by
    have h3 := congrArg List.length hl
    rwa [List.length_map, List.length_map] at h3
   rw [hl2, hlen] at h1;rw [hlen] at h2;subst h2;refine ⟨⟨some ⟨w.heap.size, 0, none⟩, (splA 10 s).length⟩, h1, tM _ _, fun F hF => ?_⟩;rw [List.mem_singleton] at hF;subst hF;have : Lib.cellsOf (Lib.splitB ⟨#[10]⟩ 1 (Lib.countB ⟨s.toArray⟩ ⟨#[10]⟩) ⟨s.toArray⟩) (splA 10 s).length = ((splA 10 s).map sV).toArray := by
    rw [Lib.cellsOf, hl, hl2, Nat.sub_self, List.replicate_zero, List.append_nil]
   rw [this];exact v7 hM _ _ (by omega)
def ao (s1 : Str) (sep1 : Str) : List Str :=
 (splA 10 s1)
theorem m6 (s1 : Str) (sep1 : Str) (hs : sep1 = [10]) (hl : s1.length < 4294967281) : Dw 120 [sV s1, sV sep1] [LibP Tryz.prog] (fun (X : SlV) => X.val (ao s1 sep1).length) (fun X => [RdL EStr X (ao s1 sep1)]) := by
 refine Dp Tryz.func120 fun C => ?_;refine Sy Tz (oI (a := sep1) rfl rfl Zf und_9) ?_;refine Ck (wn s1 sep1 (sep1.length : Int) (-1) hs (by rw [hs]; rfl) rfl hl) fun x1 => ?_;refine Qr x1 16 fun hlen1 => ?_;have hf := Ri (ao.eq_1 s1 sep1);refine Rx ?_; exact Rr x1
theorem nX (s sep : Str) : 0 < (ao s sep).length ∧ (ao s sep).length ≤ s.length + 1 := vd 10 s
theorem xx {sep : Str} (h : i < (ao s sep).length) : (gt (ao s sep) i).length ≤ s.length := lX (gJ h)
def dn (most1 : Int) : List Str → (List Rec) → Nat → ((List Rec) × Int × Int)
 | [], l1, n1 => (l1, (n1 : Int), 0)
 | pn2 :: rn2, l1, n1 => (bif (pn2 == ([] : Str)) then (l1, (n1 : Int), 0) else (bif (!(Lib.hasSuffix pn2 ([10] : Str))) then (l1, (n1 : Int), 8) else (bif (((aN (pn2.take (pn2.length - 1))).2 == 0) && decide ((l1.length : Int) ≥ most1)) then (bif ((2 : Int) != 0) then (l1, (n1 : Int), 2) else (dn most1 rn2 (l1 ++ [(aN (pn2.take (pn2.length - 1))).1]) (n1 + pn2.length))) else (bif ((aN (pn2.take (pn2.length - 1))).2 != 0) then (l1, (n1 : Int), (aN (pn2.take (pn2.length - 1))).2) else (dn most1 rn2 (l1 ++ [(aN (pn2.take (pn2.length - 1))).1]) (n1 + pn2.length))))))
def ae (s1 : Str) (most1 : Int) : (List Rec) × Int × Int :=
 (dn most1 (ao s1 ([10] : Str)) [] 0)
theorem ir (s1 : Str) (most1 : Int) (hs : s1.length ≤ 60000) : Dw 73 [sV s1, .int .i64 most1] [LibP Tryz.prog] (fun (X : SlV) => .tuple #[X.val (ae s1 most1).1.length, .int .i64 (ae s1 most1).2.1, .int .i64 (ae s1 most1).2.2]) (fun X => [RdN NRec X (ae s1 most1).1]) := by
 refine Dp Tryz.func73 fun C => ?_;refine Ck (m6 s1 ([10] : Str) rfl (by omega)) fun x1 => ?_;refine Qr x1 16 fun hlen1 => ?_;have hsl := nX s1 [10];refine Lq (List Rec × SlV × Option Nat × (Nat → SlV) × Nat × Nat) [1,4,5,6,14,15] [] (fun ⟨l1, x2, x2b, γ1, n1, n2⟩ => ⟨[(7, .v (x2.val l1.length)), (8, .v (.int .i64 (n1 : Int))), (16, .v (.int .i64 (n2 : Int)))], [], [ownL NRec.E 78 x2 x2b (zipG γ1 0 l1)], [FactsG NRec γ1 l1], (n2 ≤ (ao s1 ([10] : Str)).length) ∧ (l1.length ≤ n2) ∧ (0 ≤ n1 ∧ n1 ≤ n2 * 60001) ∧ (dn most1 ((ao s1 ([10] : Str)).drop n2) l1 n1) = (ae s1 most1), (ao s1 ([10] : Str)).length - n2⟩) ⟨[], ⟨none, 0⟩, none, (fun _ => default), 0, 0⟩ ⟨N0, Nz, Nz, (by simp only [ae, Cf, D0])⟩ ?_ (hs := Le.trans (eI NRec.E 78) (Le.trans (th (FactsG NRec (fun _ => default) ([] : List Rec)) [] (.nil _) (fun M w _ => FactsG.nil NRec _ M w)) Le4));rintro ⟨l1, x2, x2b, γ1, n1, n2⟩ ⟨hkn2, hl1, hn, hf1⟩;simp only [Lc];refine Cu (fun hlt0 => ?_) fun hge0 => ?_
 ·have hpl := xx hlt0;refine Sy Tz (Xi n2) ?_;refine Sq X1 ?_;refine Sy Tz (q_eqS (a := (gt (ao s1 ([10] : Str)) n2)) (b := ([] : Str)) rfl rfl Zf rfl Zf) ?_;refine eF ?_;have hf := Ri hf1.symm;rw [aK hlt0, dn] at hf;refine Ce hf (fun hc2 hc2p hf => ?_) fun hc2 hc2p hf => ?_
  ·refine Tx ?_;refine Fz x2 ?_;refine Fj NRec x2 γ1 l1 ?_;refine Rx ?_; exact Rr x2
  ·have hpos := List.length_pos_iff.2 (ne_of_beq_false hc2);refine Ck (vw (gt (ao s1 ([10] : Str)) n2) ([10] : Str) (by omega)) fun _ => ?_;refine Ch hf (fun hc3 hf => ?_) fun hc3 hf => ?_
   ·refine Tx ?_;refine Fz x2 ?_;refine Fj NRec x2 γ1 l1 ?_;refine Rx ?_; exact Rr x2
   ·refine Sy Tz (oI (a := (gt (ao s1 ([10] : Str)) n2)) rfl rfl Zf und_9) ?_;refine Sy Tz (z5 (a := (gt (ao s1 ([10] : Str)) n2)) ((gt (ao s1 ([10] : Str)) n2).length - 1) rfl rfl Zf rfl Zf und_9 Zo Zo) ?_;refine Ck (mM ((gt (ao s1 ([10] : Str)) n2).take ((gt (ao s1 ([10] : Str)) n2).length - 1)) (Nat.le_trans (List.length_take_le _ _) (by omega))) fun x3 => ?_;refine Pr EInt x3 (aN ((gt (ao s1 ([10] : Str)) n2).take ((gt (ao s1 ([10] : Str)) n2).length - 1))).1.roots 8 fun hlen2 => ?_;refine AlT fun g1 => ?_;refine Ch hf (fun hc4 hf => ?_) fun hc4 hf => ?_
    ·refine Cn hf (fun hc5 hc5p hf => ?_) fun hc5 hc5p hf => ?_
     ·refine Tx ?_;refine Fz x2 ?_;refine Fj NRec x2 γ1 l1 ?_;refine Rx ?_; exact Rr x2
     ·refine Bl NRec.E [(x3, (aN ((gt (ao s1 ([10] : Str)) n2).take ((gt (ao s1 ([10] : Str)) n2).length - 1))).1)] (hfill := kO rfl rfl) fun x4 x4b => ?_;refine Fx x4 ?_;refine Ns NRec x4 [(aN ((gt (ao s1 ([10] : Str)) n2).take ((gt (ao s1 ([10] : Str)) n2).length - 1))).1] ?_;refine Ex NRec x4 fun (γ2 : Nat → SlV) => ?_;refine jS NRec γ1 γ2 l1 [(aN ((gt (ao s1 ([10] : Str)) n2).take ((gt (ao s1 ([10] : Str)) n2).length - 1))).1] (b := x2b) .sq (fun _ _ => .inl ⟨_, rfl⟩) (au rfl) rfl rfl rfl rfl rfl rfl rfl (fun _ _ => Uo) rfl rfl rfl rfl rfl rfl rfl (lB (EN := NRec) (X := x4) (γ := γ2) (l := [(aN ((gt (ao s1 ([10] : Str)) n2).take ((gt (ao s1 ([10] : Str)) n2).length - 1))).1]) Mm) (by show (l1.length + [(aN ((gt (ao s1 ([10] : Str)) n2).take ((gt (ao s1 ([10] : Str)) n2).length - 1))).1].length) * 104 ≤ 140737488355328; (try simp only [Ln]); omega) fun x5 x5b => ?_;refine Fp' NRec γ1 γ2 ?_;refine Sy Tz (oI (a := (gt (ao s1 ([10] : Str)) n2)) rfl rfl Zf und_9) ?_;refine Tt ?_
      refine ⟨⟨(l1 ++ [(aN ((gt (ao s1 ([10] : Str)) n2).take ((gt (ao s1 ([10] : Str)) n2).length - 1))).1]), x5, x5b, (appG γ1 l1.length γ2), (n1 + (gt (ao s1 ([10] : Str)) n2).length), (n2 + 1)⟩, ⟨hlt0, Zl, Zl, hf.symm⟩, Oo, Le4⟩
    ·refine Cn hf (fun hc6 hc6p hf => ?_) fun hc6 hc6p hf => ?_
     ·refine Tx ?_;refine Fz x2 ?_;refine Fj NRec x2 γ1 l1 ?_;refine Rx ?_; exact Rr x2
     ·refine Bl NRec.E [(x3, (aN ((gt (ao s1 ([10] : Str)) n2).take ((gt (ao s1 ([10] : Str)) n2).length - 1))).1)] (hfill := kO rfl rfl) fun x6 x6b => ?_;refine Fx x6 ?_;refine Ns NRec x6 [(aN ((gt (ao s1 ([10] : Str)) n2).take ((gt (ao s1 ([10] : Str)) n2).length - 1))).1] ?_;refine Ex NRec x6 fun (γ3 : Nat → SlV) => ?_;refine jS NRec γ1 γ3 l1 [(aN ((gt (ao s1 ([10] : Str)) n2).take ((gt (ao s1 ([10] : Str)) n2).length - 1))).1] (b := x2b) .sq (fun _ _ => .inl ⟨_, rfl⟩) (au rfl) rfl rfl rfl rfl rfl rfl rfl (fun _ _ => Uo) rfl rfl rfl rfl rfl rfl rfl (lB (EN := NRec) (X := x6) (γ := γ3) (l := [(aN ((gt (ao s1 ([10] : Str)) n2).take ((gt (ao s1 ([10] : Str)) n2).length - 1))).1]) Mm) (by show (l1.length + [(aN ((gt (ao s1 ([10] : Str)) n2).take ((gt (ao s1 ([10] : Str)) n2).length - 1))).1].length) * 104 ≤ 140737488355328; (try simp only [Ln]); omega) fun x7 x7b => ?_;refine Fp' NRec γ1 γ3 ?_;refine Sy Tz (oI (a := (gt (ao s1 ([10] : Str)) n2)) rfl rfl Zf und_9) ?_;refine Tt ?_
      refine ⟨⟨(l1 ++ [(aN ((gt (ao s1 ([10] : Str)) n2).take ((gt (ao s1 ([10] : Str)) n2).length - 1))).1]), x7, x7b, (appG γ1 l1.length γ3), (n1 + (gt (ao s1 ([10] : Str)) n2).length), (n2 + 1)⟩, ⟨hlt0, Zl, Zl, hf.symm⟩, Oo, Le4⟩
 ·refine Tx ?_;refine Fz x2 ?_;refine Fj NRec x2 γ1 l1 ?_;have hf := Ri hf1.symm;rw [Dl hge0, dn] at hf;refine Rx ?_; exact Rr x2
theorem suf_no {t : Str} (h : (10 : UInt8) ∉ t) : Lib.hasSuffix t [10] = false := by
 cases hb : Lib.hasSuffix t [10] with
 | false => rfl
 | true =>
  have h2 : [10].isSuffixOf t = true := hb;have h3 := List.isSuffixOf_iff_suffix.1 h2;exact absurd (h3.subset (.head _)) h
theorem Da (p : Str) : Lib.hasSuffix (p ++ [10]) [10] = true := by
 have : [10].isSuffixOf (p ++ [10]) = true := List.isSuffixOf_iff_suffix.2 ⟨p, rfl⟩;exact this
theorem qJ (s0 : Str) (most : Int) (hs : s0.length ≤ 60000) : ∀ (f : Nat) (s : Str) (acc : List Rec) (n : Nat), s.length < f → n + s.length = s0.length → (acc.length : Int) ≤ most →
  dn most (splA 10 s) acc n = ca s0 most f s acc
 | 0, s, acc, n, h, _, _ => absurd h (Nat.not_lt_zero _)
 | f + 1, s, acc, n, h, hn, hm => by
  rw [ca];rcases at_c 10 s with hno | ⟨p, r, rfl, hp⟩
  ·rw [xe hno, dn, ry hno];by_cases h0 : s = []
   ·subst h0;simp only [List.length_nil] at hn;simp;omega
   ·have h1 : (s == ([] : Str)) = false := by simpa using h0
    have h2 : (s != ([] : Str)) = true := by simpa using h0
    simp only [h1, h2, suf_no hno, cond_true, cond_false, Bool.not_false];congr 2;omega
  ·simp only [List.length_append, List.length_cons] at h hn;have h1 : ((p ++ [10]) == ([] : Str)) = false := by simp
   have h2 : ((p ++ 10 :: r) != ([] : Str)) = true := by simp
   have h3 : (p ++ [10]).take ((p ++ [10]).length - 1) = p := by simp
   have hpl : p.length ≤ 60000 := by omega
   have h4 : (n : Int) = (s0.length : Int) - ((p ++ 10 :: r).length : Int) := by simp only [List.length_append, List.length_cons]; omega
   rw [ve r hp, dn, pB r hp];simp only [h1, h2, Da, h3, zA hpl, cond_true, cond_false, Bool.not_true, ← h4];by_cases he : (cw p).2 = 0
   ·have e1 : ((cw p).2 == 0) = true := by simpa using he
    have e2 : ((cw p).2 != 0) = false := by simpa using he
    simp only [e1, e2, Bool.true_and, cond_false];by_cases hq : (acc.length : Int) = most
    ·have q1 : decide ((acc.length : Int) ≥ most) = true := by simp; omega
     have q2 : ((acc.length : Int) == most) = true := by simpa using hq
     simp only [q1, q2, cond_true];rfl
    ·have q1 : decide ((acc.length : Int) ≥ most) = false := by simp; omega
     have q2 : ((acc.length : Int) == most) = false := by simpa using hq
     simp only [q1, q2, cond_false];exact qJ s0 most hs f r _ _ (by omega) (by simp only [Ln]; omega) (by simp only [Ln]; omega)
   ·have e1 : ((cw p).2 == 0) = false := by simpa using he
    have e2 : ((cw p).2 != 0) = true := by simpa using he
    simp only [e1, e2, Bool.false_and, cond_false, cond_true]
variable {most : Int}
theorem lj (hs : s.length ≤ 60000) (hm : 0 ≤ most) : ae s most = bm s most := by
 unfold ae bm ao;exact qJ s most hs _ s [] 0 (by omega) (by omega) (by simpa using hm)
theorem uD (hs : s.length ≤ 60000) (hm : 0 ≤ most) : (ae s most).1.length ≤ s.length ∧ 0 ≤ (ae s most).2.1 ∧ (ae s most).2.1 ≤ (s.length : Int) := by
 rw [lj hs hm]; exact nB s most
theorem uC (s0 : Str) (most : Int) : ∀ (f : Nat) (s : Str) (l : List Rec), (l.length : Int) ≤ most → (((ca s0 most f s l).1.length : Nat) : Int) ≤ most
 | 0, s, l, h => by
  have : (ca s0 most 0 s l) = default := rfl;rw [this];show (0 : Int) ≤ most;omega
 | f + 1, s, l, h => by
  rw [ca];cases (s != ([] : Str)) with
  | false => exact h
  | true =>
   simp only [cond_true];cases (!(cutc 10 s).2.2) with
   | true => exact h
   | false =>
    simp only [cond_false];cases ((cw (cutc 10 s).1).2 != 0) with
    | true => exact h
    | false =>
     simp only [cond_false];cases hq : ((l.length : Int) == most) with
     | true => exact h
     | false =>
      have hq : (l.length : Int) ≠ most := by simpa using hq
      exact uC s0 most f _ _ (by simp only [Ln]; omega)
theorem rX (hs : s.length ≤ 60000) (hm : 0 ≤ most) : ((ae s most).1.length : Int) ≤ most := by
 rw [lj hs hm]; exact uC s most _ s [] (by simpa using hm)
end Go.Proofs.YtkjccbdeaflekaaGreatDoor
