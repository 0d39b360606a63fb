/- Part of this claim. No condition. -/
import Derived.Test.YtgkggkgdceapgaaGreatDoorB3
import Derived.Test.YtgkggkgdceapgaaGreatDoorB10
import Derived.Test.YtgkggkgdceapgaaGreatDoorB8
import Derived.Lib.Join
import Derived.Lib.ItoaLen
import Derived.Test.YtgkggkgdceapgaaGreatDoorB5
import Derived.Test.YtgkggkgdceapgaaGreatDoorB6
import Derived.Test.YtgkggkgdceapgaaGreatDoorB9
set_option linter.unusedVariables false
set_option linter.unusedSimpArgs false
namespace Go.Proofs.YtgkggkgdceapgaaGreatDoor
open Go Go.Proofs.YtgkggkgdceapgaaGreatDoor.Fw Go.Proofs Go.RowKit Go.Sort
theorem ru (w : World) (k : Nat) (os : Array Obj) : Below w.heap.size w (grow (w.drewN k) os) :=
 ⟨rfl, rfl, rfl, by show w.heap.size ≤ (w.heap ++ os).size; rw [Array.size_append]; omega, fun j hj => heap_grow_old (w.drewN k) os hj⟩
theorem rY (n : Int) (h : -9223372036854775808 ≤ n ∧ n ≤ 9223372036854775807) : Does Tryz.prog 112 [.int .i64 n] [LibP Tryz.prog] (fun (_ : Unit) => sV (Lib.itoa n)) (fun (_ : Unit) => []) :=
 nx (fun _ => inferInstance) fun M w _ hp => (Tryz.strconv_Itoa n h.1 h.2 w (hp _ (.head _)).2.tab).mono fun e w' ⟨he, k, os, hw⟩ => ⟨(), he, hw ▸ ru _ _ _, fun F hF => by cases hF⟩
theorem vr (t : Str) (h : t.length ≤ 281474976710656) : Does Tryz.prog 111 [sV t] [LibP Tryz.prog] (fun (X : Nat) => .tuple #[.int .i64 (atv t), eV (ate t) 228 (.pointer (some ⟨X, 0, none⟩))]) (fun (_ : Nat) => []) :=
 nx (fun _ => inferInstance) fun M w _ hp => by
  have hs := mI t
  obtain ⟨_, _, ⟨tp, p, h1⟩, ⟨tp', p', h2⟩⟩ := (hp _ (.head _)).2
  cases he : Lib.atoiAll t with
  | ok v =>
   refine (Tryz.strconv_Atoi_ok ⟨t.toArray⟩ (by rw [hs]; omega) v he w).mono fun e w' ⟨h3, h4⟩ => ⟨0, by rw [h3, atv, ate, he]; rfl, ?_, fun F hF => by cases hF⟩
   rcases h4 with rfl | ⟨u, rfl⟩
   ·exact Below.refl _ _
   ·exact rx _ _ _
  | range =>
   exact (Any.strconv_Atoi_range_var Tryz.laysC172 ⟨t.toArray⟩ (by rw [hs]; omega) he tp' p' w h2).mono fun e w' ⟨N, h3, _, _, h5⟩ => ⟨N, by rw [h3, atv, ate, he]; rfl, h5, fun F hF => by cases hF⟩
  | _ =>
   exact (Any.strconv_Atoi_syntax_var Tryz.laysC172 ⟨t.toArray⟩ (by rw [hs]; omega) he tp p w h1).mono fun e w' ⟨N, h3, _, _, h5⟩ => ⟨N, by rw [h3, atv, ate, he]; rfl, h5, fun F hF => by cases hF⟩
theorem uq {M : Nat → Prop} {w : World} (h : LibP Tryz.prog M w) : ∃ m, w.cell? ⟨0, 0, none⟩ = some (.int .i64 m) := by
 obtain ⟨g, m, hg, hc⟩ := h.2.len
 obtain rfl := Option.some.inj ((show Tryz.prog.globalNamed "internal/bytealg.MaxLen" = some 0 by kernel_rfl).symm.trans hg)
 exact ⟨m, hc⟩
theorem ur (s sep : Str) (hs : sep = [32]) (h : s.length < 4294967281) : Does Tryz.prog 110 [sV s, sV sep] [LibP Tryz.prog] (fun (X : SlV) => X.val (spl 32 s).length) (fun (X : SlV) => [RdL EStr X (spl 32 s)]) := by
 subst hs
 exact nx (fun _ => inferInstance) fun M w hM hp => by
  obtain ⟨m, hm⟩ := uq (hp _ (.head _))
  refine (Tryz.strings_Split ⟨s.toArray⟩ ⟨#[32]⟩ m w (by rw [mI]; exact h) hm (by decide)).mono fun e w' ⟨h1, h2⟩ => ?_
  have hl := sP 32 s
  have hlen : Lib.countB ⟨s.toArray⟩ ⟨#[32]⟩ + 1 = (spl 32 s).length := by
   have h3 := congrArg List.length hl
   rw [List.length_map, List.length_map] at h3
   rw [← h3, Lib.splitB_all ⟨#[32]⟩ (by decide) 0 _ _ rfl]
  rw [hl] at h2
  rw [hlen] at h1
  subst h2
  have hb := (ra 32 s).2
  refine ⟨⟨some ⟨w.heap.size, 0, none⟩, (spl 32 s).length⟩, h1, ry _ _, fun F hF => ?_⟩
  rw [List.mem_singleton] at hF
  subst hF
  exact tN hM _ _ (by omega)
theorem xb {c : UInt8} (s sep : Str) (hs : sep = [c]) (h : s.length < 4294967281) : Does Tryz.prog 89 [sV s, sV sep] [LibP Tryz.prog] (fun (_ : Unit) => .tuple #[sV (cutc c s).1, sV (cutc c s).2.1, .bool (cutc c s).2.2]) (fun (_ : Unit) => []) := by
 subst hs
 exact nx (fun _ => inferInstance) fun M w hM hp => by
  obtain ⟨m, hm⟩ := uq (hp _ (.head _))
  refine (Tryz.strings_Cut ⟨s.toArray⟩ ⟨#[c]⟩ m w (by rw [mI]; exact h) hm).mono fun e w' ⟨h1, n, h2⟩ => ⟨(), ?_, h2 ▸ rv n, fun F hF => by cases hF⟩
  rw [h1, show Lib.cut (ByteArray.mk s.toArray).data.toList (ByteArray.mk #[c]).data.toList = cutc c s from vA c s]
end Go.Proofs.YtgkggkgdceapgaaGreatDoor

set_option maxHeartbeats 2000000
namespace Go.Proofs.YtgkggkgdceapgaaGreatDoor
open Go Go.Proofs.YtgkggkgdceapgaaGreatDoor.Fw Go.Proofs
attribute [local irreducible] RdL RdN VarP LibP RW CW
theorem dt (x : SlV) (l : List UInt8) : DoesG Tryz.prog 54 [x.val l.length] [RdL EByte x l] ⟨[], []⟩ (fun (X : SlV × Option Nat) => X.1.val l.length) (fun _ => []) (fun X => ⟨[], [ownL EByte 5 X.1 X.2 l]⟩) := by
 refine cF aV Tryz.func54 rfl Tryz.ntmps54 Tryz.results54 rfl inferInstance (fun _ => inferInstance) fun C => ?_
 refine ec (φ := l.length * EByte.by_ ≤ 140737488355328) [RdL EByte x l] Sm (fun M w h => (allF1 h).len) fun hlen => ?_
 refine Tx ?_
 refine rw_q rfl rfl rfl (ke rfl rfl Zf rfl) ?_
 refine er ?_
 (repeat refine ar ?_); refine jD rfl rfl (fun hc0 => ?_) (fun hc0 => ?_)
 ·refine ec [RdL EByte x l] Sm (fun M w h => (allF1 h).nil_of hc0) fun hnil => ?_
  subst hnil
  refine cw_le (fk EByte 5) ?_
  refine Tx ?_
  (repeat refine ar ?_); refine ak ?_
  exact ⟨(⟨none, 0⟩, none), _, (.cons (.tmp rfl) .nil), rfl, .nil _, .nil _, Sp⟩
 ·refine Tx ?_
  refine bA EByte [] .sq (ae rfl) rfl rfl rfl rfl rfl rfl rfl rfl rfl rfl rfl rfl rfl rfl rfl fun x1 x1b => ?_
  refine Rp rfl rfl rfl rfl ?_
  refine cg EByte [] l (b := x1b) .sq (fun _ _ => .inl ⟨_, rfl⟩) (ae rfl) rfl rfl rfl rfl rfl rfl rfl (fun _ _ => Uo) rfl rfl rfl rfl rfl rfl rfl (fE Mm) (by simpa using hlen) fun x2 x2b => ?_
  refine Tx ?_
  (repeat refine ar ?_); refine ak ?_
  exact ⟨(x2, x2b), _, (.cons (.tmp rfl) .nil), rfl, .nil _, .nil _, Sp⟩
def cA (s2 : List UInt8) : List UInt8 → Nat → Bool
 | [], n1 => true
 | pn1 :: rn1, n1 => (bif ((pn1.toNat : Int) != ((gt s2 n1).toNat : Int)) then false else (cA s2 rn1 (n1 + 1)))
def dn (s1 : List UInt8) (s2 : List UInt8) : Bool :=
 (bif ((s1.length : Int) != (s2.length : Int)) then false else (cA s2 s1 0))
theorem j5 (y1 : SlV) (s1 : List UInt8) (y2 : SlV) (s2 : List UInt8) : Does Tryz.prog 62 [y1.val s1.length, y2.val s2.length] [RdL EByte y1 s1, RdL EByte y2 s2] (fun (_ : Unit) => .bool (dn s1 s2)) (fun _ => []) := by
 refine bd aV Tryz.func62 rfl Tryz.ntmps62 Tryz.results62 rfl inferInstance (fun _ => inferInstance) fun C => ?_
 refine Pc EByte y1 s1 1 fun hlen1 => ?_
 refine Pc EByte y2 s2 1 fun hlen2 => ?_
 refine Tx ?_
 refine Cd (b := ((s1.length : Int) != (s2.length : Int))) (fun hc1 => ?_) fun hc1 => ?_
 ·have hc1p := bne_iff_ne.1 hc1
  refine Tx ?_
  refine ak ?_; simp only [dn, hc1, Cf]; exact Re () (Vt Vn)
 ·have hc1p := ag hc1
  refine Tx ?_
  (repeat refine ar ?_); refine Lp [0,1,4,12] [] (fun (n1 : Nat) => (⟨[(13, .v (.int .i64 (n1 : Int)))], [], [], [], (n1 ≤ s1.length) ∧ (cA s2 (s1.drop n1) n1) = (dn s1 s2), s1.length - n1⟩ : Ls)) 0 (Sc (Sc (Sc (Sc Sn)))) (.nil) ⟨Nat.zero_le _, (by simp only [dn, hc1, Cf] : (dn s1 s2) = (cA s2 s1 0)).symm⟩ Le4 ?_
  rintro n1 ⟨hkn1, hf1⟩
  simp only [List.cons_append, List.nil_append]
  refine Tx ?_
  refine Cd (b := decide ((n1 : Int) < (s1.length : Int))) (fun hc2 => ?_) fun hc2 => ?_
  ·have hlt0 : n1 < s1.length := Int.ofNat_lt.1 (of_decide_eq_true hc2)
   refine Tx ?_
   (repeat refine ar ?_); refine aw (fun _ => some []) ?_
   refine Rb 0 rfl Qp ?_
   refine Rb 1 rfl Qp ?_
   refine Rb 2 rfl (q_idx EByte n1 rfl rfl Zf rfl Zf rfl rfl rfl Mm rfl Zf (fun _ => by first | assumption | omega)) ?_
   refine Ra 3 rfl (q_le1 EByte rfl rfl Zf rfl rfl Mm (fun _ => by first | assumption | omega) rfl) ?_
   refine Rb 4 rfl Qp ?_
   refine Rb 5 rfl Qp ?_
   refine Rb 6 rfl (q_idx EByte n1 rfl rfl Zf rfl Zf rfl rfl rfl Mm rfl Zf (fun _ => by first | assumption | omega)) ?_
   refine Ra 7 rfl (q_le1 EByte rfl rfl Zf rfl rfl Mm (fun _ => by first | assumption | omega) rfl) ?_
   refine Ra 8 rfl Qp ?_
   refine bj Kr ?_
   (repeat refine ar ?_)
   refine Cd (b := (((gt s1 n1).toNat : Int) != ((gt s2 n1).toNat : Int))) (fun hc3 => ?_) fun hc3 => ?_
   ·have hc3p := bne_iff_ne.1 hc3
    refine Tx ?_
    refine ak ?_; rw [show (dn s1 s2) = false by rw [← hf1, aI hlt0]; simp only [cA, hc3, Cf]]; exact Re () (Vt Vn)
   ·have hc3p := ag hc3
    refine Tx ?_
    refine rw_q rfl rfl rfl (q_add rfl rfl Zf rfl Zf Zo) ?_
    refine Tx ?_
    refine ⟨(n1 + 1), ⟨hlt0, (by rw [← hf1, aI hlt0]; simp only [cA, hc3, Cf] : (dn s1 s2) = (cA s2 (s1.drop (n1 + 1)) (n1 + 1))).symm⟩, (by simp only []; omega), Le4⟩
  ·have hge0 : s1.length ≤ n1 := by have := of_decide_eq_false hc2; omega
   refine Tx ?_
   refine ak ?_; rw [show (dn s1 s2) = true by rw [← hf1, List.drop_of_length_le hge0]; simp only [cA, Cf]]; exact Re () (Vt Vn)
theorem kV (a b : List UInt8) : dn a b = decide (a = b) := by
 have key : ∀ (l : List UInt8) (k : Nat), l.length + k = b.length → cA b l k = decide (l = b.drop k) := by
  intro l
  induction l with
  | nil => intro k hk; rw [cA, List.drop_of_length_le (by simp at hk; omega)]; simp
  | cons p r ih =>
   intro k hk
   simp only [List.length_cons] at hk
   rw [cA, ih (k + 1) (by omega), aI (by omega : k < b.length)]
   by_cases h : p = gt b k
   ·simp [h]
   ·have hn : ¬ ((p.toNat : Int) = ((gt b k).toNat : Int)) := fun e => h (UInt8.toNat_inj.1 (Int.ofNat_inj.1 e))
    simp [h, hn]
 rw [dn]
 by_cases h : a.length = b.length
 ·rw [key a 0 (by omega)]; simp [h]
 ·have : a ≠ b := fun e => h (by rw [e])
  simp [this, Int.ofNat_inj, h]
theorem gz (y1 y2 : SlV) (a b : List UInt8) : Does Tryz.prog 62 [y1.val a.length, y2.val b.length] [RdL EByte y1 a, RdL EByte y2 b] (fun (_ : Unit) => .bool (decide (a = b))) (fun _ => []) := by
 have := j5 y1 a y2 b
 rw [kV] at this
 exact this
theorem kJ (y : SlV) (l : List UInt8) (n : Int) (hy : y = ⟨none, 0⟩ ∧ l = []) (hn : 0 ≤ n ∧ n * 1 ≤ 140737488355328) : DoesG Tryz.prog 91 [y.val l.length, .int .i64 n] [RdL EByte y l] ⟨[], []⟩ (fun (X : SlV × Option Nat) => X.1.val ([] : List UInt8).length) (fun _ => []) (fun X => ⟨[], [ownL EByte 5 X.1 X.2 []]⟩) := by
 obtain ⟨hy1, hy2⟩ := hy
 subst hy1; subst hy2
 obtain ⟨k, rfl⟩ : ∃ k : Nat, n = k := ⟨n.toNat, by omega⟩
 refine cF aV Tryz.func91 rfl Tryz.ntmps91 Tryz.results91 rfl inferInstance (fun _ => inferInstance) fun C => ?_
 refine cw_le (fk EByte 5) ?_
 refine Tx ?_
 refine Cd (b := decide ((k : Int) < 0)) (fun hc => ?_) fun hc => ?_
 ·exact absurd (of_decide_eq_true hc) (by omega)
 ·refine Tx ?_
  refine rw_q rfl rfl rfl (q_cap rfl rfl Zf rfl) ?_
  refine Tx ?_
  refine rw_q rfl rfl rfl (q_is (v' := .int .i64 0) (q_sub rfl rfl Zf rfl Zf (fun _ => by decide)) rfl) ?_
  refine rw_q rfl rfl rfl (q_is (v' := .int .i64 (k : Int)) (q_sub rfl rfl Zf rfl Zf Zo) (by simp)) ?_
  refine Tx ?_
  refine Cd (b := decide ((k : Int) > 0)) (fun hc1 => ?_) fun hc1 => ?_
  ·have hk := of_decide_eq_true hc1
   refine Tx ?_
   refine rw_q rfl rfl rfl (q_cap rfl rfl Zf rfl) ?_
   refine rw_q rfl rfl rfl (o5 (h := 0) rfl rfl Zf rfl Zf rfl rfl Zf (fun _ => Nat.le_refl _)) ?_
   refine Rp rfl rfl rfl rfl ?_
   refine o3 (n := k) (e := 5) (by_ := 1) .sq (ae rfl) rfl rfl rfl rfl rfl rfl rfl rfl und_3 (fun _ _ _ => .here _ _ _) rfl rfl rfl rfl rfl rfl (by omega) (by omega) (by omega) fun x1 b1 zs => ?_
   refine Tx ?_
   refine pE (k := 0) .sq (ae rfl) rfl rfl rfl rfl rfl rfl rfl rfl rfl (.here _ _ _) rfl (Nat.zero_le _) ?_
   refine Tx ?_
   (repeat refine ar ?_); refine ak ?_
   exact ⟨(x1, b1), _, (.cons (.tmp rfl) .nil), rfl, .nil _, .nil _, Sp⟩
  ·refine Tx ?_
   (repeat refine ar ?_); refine ak ?_
   exact ⟨(⟨none, 0⟩, none), _, (.cons (.tmp rfl) .nil), rfl, .nil _, .nil _, Sp⟩
def cl  : List (List UInt8) → (List UInt8) → (List UInt8)
 | [], newslice1 => newslice1
 | pn2 :: rn2, newslice1 => (cl rn2 (newslice1 ++ pn2))
def cY (slices1 : List (List UInt8)) : List (List UInt8) → Nat → (List UInt8)
 | [], size1 => (cl slices1 ([] : List UInt8))
 | pn1 :: rn1, size1 => (bif decide (((size1 : Int) + (pn1.length : Int)) < 0) then [] else (cY slices1 rn1 (size1 + pn1.length)))
def cI (slices1 : List (List UInt8)) : List UInt8 :=
 (cY slices1 slices1 0)
theorem jK (y1 : SlV) (slices1 : List (List UInt8)) (hct : slices1.flatten.length * 1 ≤ 140737488355328) : DoesG Tryz.prog 66 [y1.val slices1.length] [RdN NBytes y1 slices1] ⟨[], []⟩ (fun (X : SlV × Option Nat) => X.1.val (cI slices1).length) (fun X => []) (fun X => ⟨[], [ownL EByte 5 X.1 X.2 (cI slices1)]⟩) := by
 refine cF aV Tryz.func66 rfl Tryz.ntmps66 Tryz.results66 rfl inferInstance (fun _ => inferInstance) fun C => ?_
 refine Pn NBytes y1 slices1 24 fun hlen1 => ?_
 refine Tx ?_
 (repeat refine ar ?_); refine Lp [0,2,9,10] [] (fun (i_ : Nat × Nat) => match i_ with | ⟨size1, n1⟩ => (⟨[(3, .v (.int .i64 (size1 : Int))), (11, .v (.int .i64 (n1 : Int)))], [], [], [], (n1 ≤ slices1.length) ∧ (size1 = ((slices1.take n1).flatten.length : Int)) ∧ (cY slices1 (slices1.drop n1) size1) = (cI slices1), slices1.length - n1⟩ : Ls)) ⟨0, 0⟩ (Sc (Sc (Sc (Sc Sn)))) (.nil) ⟨Nat.zero_le _, (by simp), (by simp only [cI, Cf] : (cI slices1) = (cY slices1 slices1 0)).symm⟩ Le4 ?_
 rintro ⟨size1, n1⟩ ⟨hkn1, hsz, hf1⟩
 simp only [List.cons_append, List.nil_append]
 refine Tx ?_
 refine Cd (b := decide ((n1 : Int) < (slices1.length : Int))) (fun hc1 => ?_) fun hc1 => ?_
 ·have hlt0 : n1 < slices1.length := Int.ofNat_lt.1 (of_decide_eq_true hc1)
  refine Tx ?_
  refine eY NBytes (X := y1) (l := slices1) Mm fun (γ1 : Nat → SlV) => ?_
  refine rw_q rfl rfl rfl (dv NBytes γ1 n1 rfl rfl Zf rfl Zf rfl rfl rfl Mm rfl Zf (fun _ => by first | assumption | omega)) ?_
  refine rw_q rfl rfl rfl (iw NBytes γ1 (v := (γ1 n1).val (gt slices1 n1).length) rfl rfl Zf rfl rfl Mm (fun _ => by first | assumption | omega) rfl) ?_
  refine ay (F := RdL EByte (γ1 n1) (gt slices1 n1)) [ao NBytes γ1 slices1] Sm (fun M w h => (allF1 h) n1 Zc _ (.head _)) ?_
  refine Tx ?_
  refine rw_q rfl rfl rfl (q_add rfl rfl Zf rfl Zf (fun _ => by have := (jq slices1 hlt0).2; omega)) ?_
  refine Tx ?_
  refine Cd (b := decide (((size1 : Int) + ((gt slices1 n1).length : Int)) < 0)) (fun hc2 => ?_) fun hc2 => ?_
  ·have hc2p := of_decide_eq_true hc2
   exact absurd (of_decide_eq_true hc2) (by omega)
  ·have hc2p := of_decide_eq_false hc2
   refine Tx ?_
   refine rw_q rfl rfl rfl (q_add rfl rfl Zf rfl Zf Zo) ?_
   refine Tx ?_
   refine ⟨⟨(size1 + (gt slices1 n1).length), (n1 + 1)⟩, ⟨hlt0, (by rw [(jq slices1 hlt0).1, List.length_append]; simp only [hsz]; omega), (by rw [← hf1, aI hlt0]; simp only [cY, hc2, Cf] : (cI slices1) = (cY slices1 (slices1.drop (n1 + 1)) (size1 + (gt slices1 n1).length))).symm⟩, (by simp only []; omega), Le4⟩
 ·have hge0 : slices1.length ≤ n1 := by have := of_decide_eq_false hc1; omega
  refine Tx ?_
  refine Fr EByte ?_
  refine Cg (kJ (⟨none, 0⟩ : SlV) ([] : List UInt8) (size1 : Int) ⟨rfl, rfl⟩ (by have h_ : (slices1.take n1).flatten.length ≤ slices1.flatten.length := (by rw [List.take_of_length_le hge0]; exact Nat.le_refl _); omega)) fun x1 => ?_
  refine Tx ?_
  (repeat refine ar ?_); refine Lp [2,25,26] [] (fun (i_ : List UInt8 × SlV × Option Nat × Nat) => match i_ with | ⟨newslice1, x2, x2b, n2⟩ => (⟨[(6, .v (x2.val newslice1.length)), (27, .v (.int .i64 (n2 : Int)))], [], [ownL EByte 5 x2 x2b newslice1], [], (n2 ≤ slices1.length) ∧ (newslice1.length = (slices1.take n2).flatten.length) ∧ (cl (slices1.drop n2) newslice1) = (cI slices1), slices1.length - n2⟩ : Ls)) ⟨([] : List UInt8), x1.1, x1.2, 0⟩ (Sc (Sc (Sc Sn))) (.nil) ⟨Nat.zero_le _, (by simp), (by rw [← hf1, List.drop_of_length_le hge0]; simp only [cY, Cf] : (cI slices1) = (cl slices1 ([] : List UInt8))).symm⟩ Le4 ?_
  rintro ⟨newslice1, x2, x2b, n2⟩ ⟨hkn2, hnl, hf2⟩
  simp only [List.cons_append, List.nil_append]
  refine Tx ?_
  refine Cd (b := decide ((n2 : Int) < (slices1.length : Int))) (fun hc3 => ?_) fun hc3 => ?_
  ·have hlt1 : n2 < slices1.length := Int.ofNat_lt.1 (of_decide_eq_true hc3)
   refine Tx ?_
   refine eY NBytes (X := y1) (l := slices1) Mm fun (γ2 : Nat → SlV) => ?_
   refine rw_q rfl rfl rfl (dv NBytes γ2 n2 rfl rfl Zf rfl Zf rfl rfl rfl Mm rfl Zf (fun _ => by first | assumption | omega)) ?_
   refine rw_q rfl rfl rfl (iw NBytes γ2 (v := (γ2 n2).val (gt slices1 n2).length) rfl rfl Zf rfl rfl Mm (fun _ => by first | assumption | omega) rfl) ?_
   refine ay (F := RdL EByte (γ2 n2) (gt slices1 n2)) [ao NBytes γ2 slices1] Sm (fun M w h => (allF1 h) n2 Zc _ (.head _)) ?_
   refine Tx ?_
   refine cg EByte newslice1 (gt slices1 n2) (b := x2b) .sq (fun _ _ => .inl ⟨_, rfl⟩) (ae rfl) rfl rfl rfl rfl rfl rfl rfl (fun _ _ => Uo) rfl rfl rfl rfl rfl rfl rfl (fE Mm) (by have := (jq slices1 hlt1).2; show (_ + _) * 1 ≤ _; omega) fun x3 x3b => ?_
   refine Tx ?_
   refine rw_q rfl rfl rfl (q_add rfl rfl Zf rfl Zf Zo) ?_
   refine Tx ?_
   refine ⟨⟨(newslice1 ++ (gt slices1 n2)), x3, x3b, (n2 + 1)⟩, ⟨hlt1, (by rw [(jq slices1 hlt1).1]; simp only [List.length_append]; omega), (by rw [← hf2, aI hlt1]; simp only [cl, Cf] : (cI slices1) = (cl (slices1.drop (n2 + 1)) (newslice1 ++ (gt slices1 n2)))).symm⟩, (by simp only []; omega), Le4⟩
  ·have hge1 : slices1.length ≤ n2 := by have := of_decide_eq_false hc3; omega
   refine Tx ?_
   refine ak ?_; rw [show (cI slices1) = newslice1 by rw [← hf2, List.drop_of_length_le hge1]; simp only [cl, Cf]]; exact Re ⟨x2, x2b⟩ (Vt Vn)
theorem kN (ls : List (List UInt8)) : cI ls = ls.flatten := by
 have h1 : ∀ (l : List (List UInt8)) (acc : List UInt8), cl l acc = acc ++ l.flatten := by
  intro l
  induction l with
  | nil => intro acc; simp [cl]
  | cons a r ih => intro acc; rw [cl, ih]; simp
 have h0 : ∀ (l : List (List UInt8)) (k : Nat), cY ls l k = cl ls [] := by
  intro l
  induction l with
  | nil => intro k; rfl
  | cons a r ih =>
   intro k
   have : decide (((k : Int) + (a.length : Int)) < 0) = false := by simp; omega
   rw [cY, this, cond_false, ih]
 rw [cI, h0, h1, List.nil_append]
theorem gk (y1 : SlV) (ls : List (List UInt8)) (hct : ls.flatten.length * 1 ≤ 140737488355328) : DoesG Tryz.prog 66 [y1.val ls.length] [RdN NBytes y1 ls] ⟨[], []⟩ (fun (X : SlV × Option Nat) => X.1.val ls.flatten.length) (fun _ => []) (fun X => ⟨[], [ownL EByte 5 X.1 X.2 ls.flatten]⟩) := by
 have := jK y1 ls hct
 rw [kN] at this
 exact this
end Go.Proofs.YtgkggkgdceapgaaGreatDoor

namespace Go.Proofs.YtgkggkgdceapgaaGreatDoor
open Go Go.Proofs.YtgkggkgdceapgaaGreatDoor.Fw Go.Proofs
abbrev I64 (n : Int) : Prop := -9223372036854775808 ≤ n ∧ n ≤ 9223372036854775807
theorem oT (o : Op) : cx o = 0 ↔ (1 ≤ o.time ∧ o.time ≤ 10000) ∧ (0 ≤ o.who ∧ o.who ≤ 2) ∧ (1 ≤ o.node ∧ o.node ≤ 15) ∧ (0 ≤ o.parent ∧ o.parent ≤ 16) ∧ (0 ≤ o.name ∧ o.name ≤ 99) ∧ (1 ≤ o.life ∧ o.life ≤ 50) ∧ (1 ≤ o.seq ∧ o.seq ≤ 30) := by
 unfold cx
 generalize hb : (((((((((((((decide (o.time < 1) || decide (o.time > 10000)) || decide (o.who < 0)) || decide (o.who ≥ 3)) || decide (o.node < 1)) || decide (o.node ≥ 16)) || decide (o.parent < 0)) || decide (o.parent > 16)) || decide (o.name < 0)) || decide (o.name > 99)) || decide (o.life < 1)) || decide (o.life > 50)) || decide (o.seq < 1)) || decide (o.seq > 30)) = b
 cases b with
 | true =>
  simp only [cond_true]
  simp only [Bool.or_eq_true, decide_eq_true_eq] at hb
  constructor
  ·intro h; exact absurd h (by decide)
  ·intro h; simp only [or_assoc] at hb; rcases hb with hb | hb | hb | hb | hb | hb | hb | hb | hb | hb | hb | hb | hb | hb <;> omega
 | false =>
  simp only [cond_false]
  simp only [Bool.or_eq_false_iff, decide_eq_false_iff_not] at hb
  refine ⟨fun _ => ?_, fun _ => trivial⟩
  refine ⟨⟨?_, ?_⟩, ⟨?_, ?_⟩, ⟨?_, ?_⟩, ⟨?_, ?_⟩, ⟨?_, ?_⟩, ⟨?_, ?_⟩, ?_, ?_⟩ <;> omega
def wordOf (r : Rec) : Str := bif r.kind == 1 then [111, 112] else bif r.kind == 2 then [108, 105, 102, 101] else [114, 111, 111, 116, 115]
def i6 (r : Rec) : List Int := bif r.kind == 1 then [r.o.time, r.o.who, r.o.node, r.o.parent, r.o.name, r.o.life, r.o.seq] else bif r.kind == 2 then [r.who, r.life] else r.who :: r.roots
theorem vS {l : List Int} (h : bO l = 0) : l.length ≤ 4 ∧ ∀ n ∈ l, 0 ≤ n ∧ n ≤ 16 := ⟨((li l).1 h).len, ((li l).1 h).rng⟩
inductive Right (r : Rec) : Prop
 | op (h : r = ⟨1, 0, 0, [], r.o⟩) (ho : cx r.o = 0)
 | life (h : r = ⟨2, r.who, r.life, [], ⟨0, 0, 0, 0, 0, 0, 0⟩⟩) (hw : 0 ≤ r.who ∧ r.who ≤ 2) (hl : 1 ≤ r.life ∧ r.life ≤ 50)
 | roots (h : r = ⟨3, r.who, 0, r.roots, ⟨0, 0, 0, 0, 0, 0, 0⟩⟩) (hw : 0 ≤ r.who ∧ r.who ≤ 2) (hr : bO r.roots = 0)
theorem iH (r : Rec) : aQ r = 0 ↔ Right r := by
 constructor
 ·intro h
  unfold aQ at h
  obtain ⟨kind, who, life, roots, o⟩ := r
  simp only at h
  cases hk : (decide (kind < 1) || decide (kind > 3)) with
  | true => rw [hk] at h; simp at h
  | false =>
   rw [hk, cond_false] at h
   simp only [Bool.or_eq_false_iff, decide_eq_false_iff_not] at hk
   by_cases h1 : kind = 1
   ·subst h1
    simp only [beq_self_eq_true, cond_true] at h
    cases hb : ((who != 0) || (life != 0)) || decide ((roots.length : Int) > 0) with
    | true => rw [hb] at h; simp at h
    | false =>
     rw [hb, cond_false] at h
     simp only [Bool.or_eq_false_iff, decide_eq_false_iff_not, bne_eq_false_iff_eq] at hb
     obtain ⟨⟨rfl, rfl⟩, h3⟩ := hb
     have : roots = [] := List.eq_nil_of_length_eq_zero (by omega)
     subst this
     exact .op rfl h
   ·have h1' : (kind == 1) = false := by simpa using h1
    rw [h1', cond_false] at h
    cases hb : (((!(decide (o = (⟨0, 0, 0, 0, 0, 0, 0⟩ : Op)))) || ((kind == 3) && (life != 0))) || ((kind == 2) && decide ((roots.length : Int) > 0))) with
    | true => rw [hb] at h; simp at h
    | false =>
     rw [hb, cond_false] at h
     simp only [Bool.or_eq_false_iff, Bool.not_eq_false', decide_eq_true_eq] at hb
     obtain ⟨⟨rfl, hb1⟩, hb2⟩ := hb
     cases hc : ((decide (who < 0) || decide (who ≥ 3)) || ((kind == 2) && (decide (life < 1) || decide (life > 50)))) with
     | true => rw [hc] at h; simp at h
     | false =>
      rw [hc, cond_false] at h
      simp only [Bool.or_eq_false_iff, decide_eq_false_iff_not] at hc
      obtain ⟨⟨hc1, hc2⟩, hc3⟩ := hc
      by_cases h2 : kind = 2
      ·subst h2
       simp at hb2 hc3
       subst hb2
       exact .life rfl (by simp only; omega) (by simp only; omega)
      ·have h3 : kind = 3 := by omega
       subst h3
       simp at hb1
       subst hb1
       exact .roots rfl (by simp only; omega) h
 ·intro h
  unfold aQ
  cases h with
  | op h ho => rw [h]; simpa using ho
  | life h hw hl =>
   rw [h]
   have e1 : (decide (r.who < 0) || decide (r.who ≥ 3)) = false := by simp; omega
   have e2 : (decide (r.life < 1) || decide (r.life > 50)) = false := by simp; omega
   simp only [e1, e2]
   rfl
  | roots h hw hr =>
   rw [h]
   have e1 : (decide (r.who < 0) || decide (r.who ≥ 3)) = false := by simp; omega
   simp only [e1]
   exact hr
theorem n6 {r : Rec} (h : aQ r = 0) : (i6 r).length ≤ 7 ∧ ∀ n ∈ i6 r, I64 n := by
 rcases (iH r).1 h with ⟨h1, ho⟩ | ⟨h1, hw, hl⟩ | ⟨h1, hw, hr⟩
 ·have h2 := (oT r.o).1 ho
  have : i6 r = [r.o.time, r.o.who, r.o.node, r.o.parent, r.o.name, r.o.life, r.o.seq] := by rw [h1]; rfl
  rw [this]
  refine ⟨by simp, fun n hn => ?_⟩
  simp only [List.mem_cons, List.not_mem_nil, or_false] at hn
  rcases hn with rfl | rfl | rfl | rfl | rfl | rfl | rfl <;> (simp only [I64]; omega)
 ·have : i6 r = [r.who, r.life] := by rw [h1]; rfl
  rw [this]
  refine ⟨by simp, fun n hn => ?_⟩
  simp only [List.mem_cons, List.not_mem_nil, or_false] at hn
  rcases hn with rfl | rfl <;> (simp only [I64]; omega)
 ·have : i6 r = r.who :: r.roots := by rw [h1]; rfl
  rw [this]
  have h2 := vS hr
  refine ⟨by simp only [List.length_cons]; omega, fun n hn => ?_⟩
  rcases List.mem_cons.1 hn with rfl | hn
  ·simp only [I64]; omega
  ·have := h2.2 n hn; simp only [I64]; omega
theorem wX {r : Rec} (h : aQ r = 0) (hk : (r.kind == 1) = true) : ∀ n ∈ [r.o.time, r.o.who, r.o.node, r.o.parent, r.o.name, r.o.life, r.o.seq], I64 n := by
 have := (n6 h).2; rwa [i6, hk] at this
theorem ui {r : Rec} (h : aQ r = 0) (hk : (r.kind == 2) = true) : ∀ n ∈ [r.who, r.life], I64 n := by
 have hk1 : (r.kind == 1) = false := by have := eq_of_beq hk; rw [this]; rfl
 have := (n6 h).2; rwa [i6, hk1, hk] at this
theorem s7 {r : Rec} (h : aQ r = 0) (hk1 : (r.kind == 1) = false) (hk : (r.kind == 2) = false) : (r.roots.length ≤ 6) ∧ ∀ n ∈ r.who :: r.roots, I64 n := by
 have := n6 h; rw [i6, hk1, hk] at this; simp only [cond_false, List.length_cons] at this; exact ⟨by omega, this.2⟩
theorem s9 {r : Rec} (h : aQ r = 0) (h1 : (r.kind == 2) = false) (h2 : (r.kind == 3) = false) : (r.kind == 1) = true := by
 rcases (iH r).1 h with ⟨e, _⟩ | ⟨e, _, _⟩ | ⟨e, _, _⟩
 ·rw [e]; rfl
 ·rw [e] at h1; cases h1
 ·rw [e] at h2; cases h2
theorem wY {r : Rec} {k : Int} (h : (r.kind == k) = true) (hk : (k == 1) = false) : (r.kind == 1) = false := by rw [eq_of_beq h]; exact hk
end Go.Proofs.YtgkggkgdceapgaaGreatDoor

set_option maxHeartbeats 2000000
namespace Go.Proofs.YtgkggkgdceapgaaGreatDoor
open Go Go.Proofs.YtgkggkgdceapgaaGreatDoor.Fw Go.Proofs
attribute [local irreducible] RdL RdN VarP LibP RW CW
def et  : List Int → Str → (Str × Int)
 | [], s2 => (s2, 0)
 | pn1 :: rn1, s2 => (et rn1 (s2 ++ (([32] : Str) ++ (Lib.itoa pn1))))
def bE (r1 : Rec) : Str × (List Int) :=
 (bif (r1.kind == 2) then (([108, 105, 102, 101] : Str), [r1.who, r1.life]) else (bif (r1.kind == 3) then (([114, 111, 111, 116, 115] : Str), ([r1.who] ++ r1.roots)) else (([111, 112] : Str), [r1.o.time, r1.o.who, r1.o.node, r1.o.parent, r1.o.name, r1.o.life, r1.o.seq])))
def ci (r1 : Rec) : Str × Int :=
 (bif ((aQ r1) != 0) then (([] : Str), (aQ r1)) else (et (bE r1).2 (bE r1).1))
theorem n7 (y1 : SlV) (r1 : Rec) : Does Tryz.prog 119 [.agg ⟨[.int .i64 r1.kind, .int .i64 r1.who, .int .i64 r1.life, y1.val r1.roots.length, .int .i64 r1.o.time, .int .i64 r1.o.who, .int .i64 r1.o.node, .int .i64 r1.o.parent, .int .i64 r1.o.name, .int .i64 r1.o.life, .int .i64 r1.o.seq]⟩] [RdL EInt y1 r1.roots, LibP Tryz.prog] (fun (_ : Unit) => .tuple #[sV (ci r1).1, .int .i64 (ci r1).2]) (fun _ => []) := by
 refine bd aV Tryz.func119 rfl Tryz.ntmps119 Tryz.results119 rfl inferInstance (fun _ => inferInstance) fun C => ?_
 refine Pc EInt y1 r1.roots 8 fun hlen1 => ?_
 refine Tx ?_
 refine Bx fun g1 => ?_
 refine Tx ?_
 refine Cl (fP y1 r1) fun _ => ?_
 refine Tx ?_
 refine Cd (b := ((aQ r1) != 0)) (fun hc1 => ?_) fun hc1 => ?_
 ·have hc1p := bne_iff_ne.1 hc1
  refine Tx ?_
  refine ak ?_; simp only [ci, hc1, Cf]; exact Re () (Vt (Vt Vn))
 ·have hc1p := ag hc1
  have hck := ag hc1
  refine Tx ?_
  (repeat refine ar ?_); refine aw (fun _ => some []) ?_
  refine Rb 0 rfl Qp ?_
  refine Rb 1 rfl Qp ?_
  refine Rb 2 rfl Qp ?_
  refine Ra 3 rfl Q1 ?_
  refine Rb 4 rfl Qp ?_
  refine Rb 5 rfl Qp ?_
  refine Rb 6 rfl Qp ?_
  refine Ra 7 rfl Q1 ?_
  refine Rb 8 rfl Qp ?_
  refine Rb 9 rfl Qp ?_
  refine Ra 10 rfl Q1 ?_
  refine Rb 11 rfl Qp ?_
  refine Rb 12 rfl Qp ?_
  refine Ra 13 rfl Q1 ?_
  refine Rb 14 rfl Qp ?_
  refine Rb 15 rfl Qp ?_
  refine Ra 16 rfl Q1 ?_
  refine Rb 17 rfl Qp ?_
  refine Rb 18 rfl Qp ?_
  refine Ra 19 rfl Q1 ?_
  refine Rb 20 rfl Qp ?_
  refine Rb 21 rfl Qp ?_
  refine Ra 22 rfl Q1 ?_
  refine Ra 24 rfl Qp ?_
  refine av 23 Kr ?_
  refine bA EInt [r1.o.time, r1.o.who, r1.o.node, r1.o.parent, r1.o.name, r1.o.life, r1.o.seq] (.an rfl rfl) (ae rfl) rfl rfl rfl rfl rfl rfl rfl rfl rfl rfl rfl rfl rfl rfl rfl fun x1 x1b => ?_
  refine Ra 25 rfl Qp ?_
  refine bj Kr ?_
  (repeat refine ar ?_); refine oD ?_
  refine Rp rfl rfl rfl rfl ?_
  refine rw_q rfl rfl rfl (q_ld1 rfl rfl Zf rfl Mm rfl) ?_
  refine er ?_
  (repeat refine ar ?_); refine pT ?_
  refine Ty ?_
  refine mv [2, 3] [true] (fun (i_ : Str × List Int × SlV × Option Nat) => match i_ with | ⟨s1, l1, x2, x2b⟩ => [(5, .v (sV s1)), (6, .v (x2.val l1.length))]) (fun (i_ : Str × List Int × SlV × Option Nat) => match i_ with | ⟨s1, l1, x2, x2b⟩ => []) (fun (i_ : Str × List Int × SlV × Option Nat) => match i_ with | ⟨s1, l1, x2, x2b⟩ => [ownL EInt 3 x2 x2b l1]) (fun (i_ : Str × List Int × SlV × Option Nat) => match i_ with | ⟨s1, l1, x2, x2b⟩ => []) (fun (i_ : Str × List Int × SlV × Option Nat) => match i_ with | ⟨s1, l1, x2, x2b⟩ => (s1.length ≤ 5) ∧ (∀ n ∈ l1, I64 n) ∧ s1 = (bE r1).1 ∧ l1 = (bE r1).2) (.cons rfl (.cons rfl (.nil _))) (.keep (.nil)) ?_ ?_
  ·(repeat refine ar ?_)
   refine Cd (b := (r1.kind == 2)) (fun hc2 => ?_) fun hc2 => ?_
   ·have hc2p := eq_of_beq hc2
    have hbn := ui hck hc2
    (repeat refine ar ?_); refine aw (fun _ => some []) ?_
    refine Rb 0 rfl Qp ?_
    refine Ra 1 rfl Q1 ?_
    refine Rb 2 rfl Qp ?_
    refine Ra 3 rfl Q1 ?_
    refine Ra 5 rfl Qp ?_
    refine av 4 Kr ?_
    refine bA EInt [r1.who, r1.life] (.an rfl rfl) (ae rfl) rfl rfl rfl rfl rfl rfl rfl rfl rfl rfl rfl rfl rfl rfl rfl fun x3 x3b => ?_
    refine Ra 6 rfl Qp ?_
    refine bj Kr ?_
    have hv1 : (bE r1) = (([108, 105, 102, 101] : Str), [r1.who, r1.life]) := by simp only [bE, hc2, Bool.true_and, Bool.and_true, Cf]
    refine ⟨⟨([108, 105, 102, 101] : Str), [r1.who, r1.life], x3, x3b⟩, ⟨(by decide), hbn, (by rw [hv1]), (by rw [hv1])⟩, Le4⟩
   ·have hc2p := ne_of_beq_false hc2
    have hk2 := hc2
    refine Tx ?_
    refine Cd (b := (r1.kind == 3)) (fun hc3 => ?_) fun hc3 => ?_
    ·have hc3p := eq_of_beq hc3
     have hbn0 := s7 hck (wY hc3 rfl) hk2; have hbn := hbn0.2; have hrl := hbn0.1
     refine Tx ?_
     refine bA EInt [r1.who] .sq (ae rfl) rfl rfl rfl rfl rfl rfl rfl rfl rfl rfl rfl rfl rfl rfl rfl fun x4 x4b => ?_
     refine Tx ?_
     refine cg EInt [r1.who] r1.roots (b := x4b) .sq (fun _ _ => .inl ⟨_, rfl⟩) (ae rfl) rfl rfl rfl rfl rfl rfl rfl (fun _ _ => Uo) rfl rfl rfl rfl rfl rfl rfl (fE Mm) (by show ([r1.who].length + r1.roots.length) * 8 ≤ 140737488355328; (try simp only [List.length_append, List.length_cons, List.length_nil]); omega) fun x5 x5b => ?_
     refine Tx ?_
     have hv2 : (bE r1) = (([114, 111, 111, 116, 115] : Str), ([r1.who] ++ r1.roots)) := by simp only [bE, hc2, hc3, Bool.true_and, Bool.and_true, Cf]
     refine ⟨⟨([114, 111, 111, 116, 115] : Str), ([r1.who] ++ r1.roots), x5, x5b⟩, ⟨(by decide), hbn, (by rw [hv2]), (by rw [hv2])⟩, Le4⟩
    ·have hc3p := ne_of_beq_false hc3
     have hbn := wX hck (s9 hck hk2 hc3)
     refine Tx ?_
     have hv3 : (bE r1) = (([111, 112] : Str), [r1.o.time, r1.o.who, r1.o.node, r1.o.parent, r1.o.name, r1.o.life, r1.o.seq]) := by simp only [bE, hc2, hc3, Bool.true_and, Bool.and_true, Cf]
     refine ⟨⟨([111, 112] : Str), [r1.o.time, r1.o.who, r1.o.node, r1.o.parent, r1.o.name, r1.o.life, r1.o.seq], x1, x1b⟩, ⟨(by decide), hbn, (by rw [hv3]), (by rw [hv3])⟩, Le4⟩
  ·rintro ⟨s1, l1, x2, x2b⟩ ⟨hs5, hbn, rfl, rfl⟩
   simp only [List.cons_append, List.nil_append]
   refine Tx ?_
   refine cw_le (aA EInt 3 x2 x2b (bE r1).2 Uo) ?_
   refine Pc EInt x2 (bE r1).2 8 fun hlen2 => ?_
   (repeat refine ar ?_); refine Lp [2,3,55,56] [true] (fun (i_ : Str × Nat) => match i_ with | ⟨s2, n1⟩ => (⟨[(5, .v (sV s2)), (57, .v (.int .i64 (n1 : Int)))], [], [], [], (n1 ≤ (bE r1).2.length) ∧ (s2.length ≤ 5 + 22 * n1) ∧ (et ((bE r1).2.drop n1) s2) = (ci r1), (bE r1).2.length - n1⟩ : Ls)) ⟨(bE r1).1, 0⟩ (Sc (Sc (Sc (Sc Sn)))) (.keep (.nil)) ⟨Nat.zero_le _, (by first | exact Nat.le_refl _ | exact Nat.zero_le _ | omega), (by simp only [ci, hc1, Cf] : (ci r1) = (et (bE r1).2 (bE r1).1)).symm⟩ Le4 ?_
   rintro ⟨s2, n1⟩ ⟨hkn1, hsl, hf1⟩
   simp only [List.cons_append, List.nil_append]
   refine Tx ?_
   refine Cd (b := decide ((n1 : Int) < ((bE r1).2.length : Int))) (fun hc4 => ?_) fun hc4 => ?_
   ·have hlt0 : n1 < (bE r1).2.length := Int.ofNat_lt.1 (of_decide_eq_true hc4)
    have hit := Lib.itoa_length_le _ (hbn _ (i8 hlt0)).1 (hbn _ (i8 hlt0)).2
    refine Tx ?_
    refine rw_q rfl rfl rfl (q_idx EInt n1 rfl rfl Zf rfl Zf rfl rfl rfl Mm rfl Zf (fun _ => by first | assumption | omega)) ?_
    refine rw_q rfl rfl rfl (q_le1 EInt rfl rfl Zf rfl rfl Mm (fun _ => by first | assumption | omega) rfl) ?_
    refine Tx ?_
    refine Cl (rY (gt (bE r1).2 n1) (hbn _ (i8 hlt0))) fun _ => ?_
    refine rw_q rfl rfl rfl (wc (a := ([32] : Str)) (b := (Lib.itoa (gt (bE r1).2 n1))) rfl rfl Zf rfl Zf (fun _ => by (show ([32] : Str).length + _ ≤ _; simp only [List.length_cons, List.length_nil]; omega))) ?_
    refine rw_q rfl rfl rfl (wc (a := s2) (b := (([32] : Str) ++ (Lib.itoa (gt (bE r1).2 n1)))) rfl rfl Zf rfl Zf (fun _ => by (simp only [List.length_append, List.length_cons, List.length_nil]; omega))) ?_
    refine Tx ?_
    refine rw_q rfl rfl rfl (q_add rfl rfl Zf rfl Zf Zo) ?_
    refine Tx ?_
    refine ⟨⟨(s2 ++ (([32] : Str) ++ (Lib.itoa (gt (bE r1).2 n1)))), (n1 + 1)⟩, ⟨hlt0, Zl, (by rw [← hf1, aI hlt0]; simp only [et, Cf] : (ci r1) = (et ((bE r1).2.drop (n1 + 1)) (s2 ++ (([32] : Str) ++ (Lib.itoa (gt (bE r1).2 n1)))))).symm⟩, (by simp only []; omega), Le4⟩
   ·have hge0 : (bE r1).2.length ≤ n1 := by have := of_decide_eq_false hc4; omega
    refine Tx ?_
    refine ak ?_; rw [show (ci r1) = (s2, 0) by rw [← hf1, List.drop_of_length_le hge0]; simp only [et, Cf]]; exact Re () (Vt (Vt Vn))
theorem wd {p : Bool} {n : Nat} {k : Int} (h : (p && ((n : Int) == k)) = true) : (n : Int) = k := by simp at h; exact h.2
theorem len_gt {p : Bool} {n : Nat} (h : (p && decide ((n : Int) > 0)) = true) : 0 < n := by simp at h; exact h.2
theorem ta {c : UInt8} {s : Str} {i : Nat} (h : i < ((spl c s).drop 1).length) : (gt ((spl c s).drop 1) i).length ≤ s.length := j0 (List.mem_of_mem_drop (i8 h))
def de (s1 : Str) : List Str → (List Int) → (Rec × Int)
 | [], n1 => (bif (((gt (spl 32 s1) 0) == ([111, 112] : Str)) && ((n1.length : Int) == 7)) then (bif ((aQ (⟨1, 0, 0, ([] : List Int), (⟨(gt n1 0), (gt n1 1), (gt n1 2), (gt n1 3), (gt n1 4), (gt n1 5), (gt n1 6)⟩ : Op)⟩ : Rec)) != 0) then ((⟨0, 0, 0, ([] : List Int), (⟨0, 0, 0, 0, 0, 0, 0⟩ : Op)⟩ : Rec), (aQ (⟨1, 0, 0, ([] : List Int), (⟨(gt n1 0), (gt n1 1), (gt n1 2), (gt n1 3), (gt n1 4), (gt n1 5), (gt n1 6)⟩ : Op)⟩ : Rec))) else ((⟨1, 0, 0, ([] : List Int), (⟨(gt n1 0), (gt n1 1), (gt n1 2), (gt n1 3), (gt n1 4), (gt n1 5), (gt n1 6)⟩ : Op)⟩ : Rec), 0)) else (bif (((gt (spl 32 s1) 0) == ([108, 105, 102, 101] : Str)) && ((n1.length : Int) == 2)) then (bif ((aQ (⟨2, (gt n1 0), (gt n1 1), ([] : List Int), (⟨0, 0, 0, 0, 0, 0, 0⟩ : Op)⟩ : Rec)) != 0) then ((⟨0, 0, 0, ([] : List Int), (⟨0, 0, 0, 0, 0, 0, 0⟩ : Op)⟩ : Rec), (aQ (⟨2, (gt n1 0), (gt n1 1), ([] : List Int), (⟨0, 0, 0, 0, 0, 0, 0⟩ : Op)⟩ : Rec))) else ((⟨2, (gt n1 0), (gt n1 1), ([] : List Int), (⟨0, 0, 0, 0, 0, 0, 0⟩ : Op)⟩ : Rec), 0)) else (bif (((gt (spl 32 s1) 0) == ([114, 111, 111, 116, 115] : Str)) && decide ((n1.length : Int) > 0)) then (bif ((aQ (⟨3, (gt n1 0), 0, (n1.drop 1), (⟨0, 0, 0, 0, 0, 0, 0⟩ : Op)⟩ : Rec)) != 0) then ((⟨0, 0, 0, ([] : List Int), (⟨0, 0, 0, 0, 0, 0, 0⟩ : Op)⟩ : Rec), (aQ (⟨3, (gt n1 0), 0, (n1.drop 1), (⟨0, 0, 0, 0, 0, 0, 0⟩ : Op)⟩ : Rec))) else ((⟨3, (gt n1 0), 0, (n1.drop 1), (⟨0, 0, 0, 0, 0, 0, 0⟩ : Op)⟩ : Rec), 0)) else ((⟨0, 0, 0, ([] : List Int), (⟨0, 0, 0, 0, 0, 0, 0⟩ : Op)⟩ : Rec), 1))))
 | pn2 :: rn2, n1 => (bif ((ate pn2) || ((Lib.itoa (atv pn2)) != pn2)) then ((⟨0, 0, 0, ([] : List Int), (⟨0, 0, 0, 0, 0, 0, 0⟩ : Op)⟩ : Rec), 1) else (de s1 rn2 (n1 ++ [(atv pn2)])))
def aW (s1 : Str) : Rec × Int :=
 (bif decide ((s1.length : Int) > 60000) then ((⟨0, 0, 0, ([] : List Int), (⟨0, 0, 0, 0, 0, 0, 0⟩ : Op)⟩ : Rec), 2) else (de s1 ((spl 32 s1).drop 1) []))
theorem n8 (s1 : Str) : Does Tryz.prog 90 [sV s1] [LibP Tryz.prog] (fun (X : SlV) => .tuple #[.agg ⟨[.int .i64 (aW s1).1.kind, .int .i64 (aW s1).1.who, .int .i64 (aW s1).1.life, X.val (aW s1).1.roots.length, .int .i64 (aW s1).1.o.time, .int .i64 (aW s1).1.o.who, .int .i64 (aW s1).1.o.node, .int .i64 (aW s1).1.o.parent, .int .i64 (aW s1).1.o.name, .int .i64 (aW s1).1.o.life, .int .i64 (aW s1).1.o.seq]⟩, .int .i64 (aW s1).2]) (fun X => [RdL EInt X (aW s1).1.roots]) := by
 refine bd aV Tryz.func90 rfl Tryz.ntmps90 Tryz.results90 rfl inferInstance (fun _ => inferInstance) fun C => ?_
 refine Tx ?_
 refine Al fun g1 => ?_
 refine Tx ?_
 refine rw_q rfl rfl rfl (o6 (a := s1) rfl rfl Zf und_9) ?_
 refine Tx ?_
 refine Cd (b := decide ((s1.length : Int) > 60000)) (fun hc1 => ?_) fun hc1 => ?_
 ·have hc1p := of_decide_eq_true hc1
  refine Tx ?_
  refine Fc EInt ?_
  refine ak ?_; simp only [aW, hc1, Cf]; exact Re (⟨none, 0⟩ : SlV) (Va (Vt Vn))
 ·have hc1p := of_decide_eq_false hc1
  refine Tx ?_
  refine Cl (ur s1 ([32] : Str) rfl (by omega)) fun x1 => ?_
  refine Pr EStr x1 (spl 32 s1) 16 fun hlen1 => ?_
  have hspl := (ra 32 s1).1
  refine Tx ?_
  refine rw_q rfl rfl rfl (o7 EStr 1 rfl rfl Zf rfl Zf rfl rfl Zo Zo) ?_
  refine ay (F := RdL EStr (⟨slA x1.a x1.c 1 EStr.esz, x1.c - 1⟩ : SlV) ((spl 32 s1).drop 1)) [RdL EStr x1 (spl 32 s1)] Sm (fun M w h => (allF1 h).drop _ (by omega)) ?_
  refine Tx ?_
  refine Pc EStr (⟨slA x1.a x1.c 1 EStr.esz, x1.c - 1⟩ : SlV) ((spl 32 s1).drop 1) 16 fun hlen2 => ?_
  (repeat refine ar ?_); refine Lp [2,3,4,19,20] [true] (fun (i_ : List Int × SlV × Option Nat × Nat) => match i_ with | ⟨n1, x2, x2b, n2⟩ => (⟨[(5, .v (x2.val n1.length)), (21, .v (.int .i64 (n2 : Int)))], [], [ownL EInt 3 x2 x2b n1], [], (n2 ≤ ((spl 32 s1).drop 1).length) ∧ (n1.length ≤ n2) ∧ (de s1 (((spl 32 s1).drop 1).drop n2) n1) = (aW s1), ((spl 32 s1).drop 1).length - n2⟩ : Ls)) ⟨[], ⟨none, 0⟩, none, 0⟩ (Sc (Sc (Sc (Sc (Sc Sn))))) (.keep (.nil)) ⟨Nat.zero_le _, (by first | exact Nat.le_refl _ | exact Nat.zero_le _ | omega), (by simp only [aW, hc1, Cf] : (aW s1) = (de s1 ((spl 32 s1).drop 1) [])).symm⟩ (Le.trans (fk EInt 3) Le4) ?_
  rintro ⟨n1, x2, x2b, n2⟩ ⟨hkn2, hn1, hf1⟩
  simp only [List.cons_append, List.nil_append]
  refine Tx ?_
  refine Cd (b := decide ((n2 : Int) < (((spl 32 s1).drop 1).length : Int))) (fun hc2 => ?_) fun hc2 => ?_
  ·have hlt0 : n2 < ((spl 32 s1).drop 1).length := Int.ofNat_lt.1 (of_decide_eq_true hc2)
   refine Tx ?_
   refine rw_q rfl rfl rfl (q_idx EStr n2 rfl rfl Zf rfl Zf rfl rfl rfl Mm rfl Zf (fun _ => by first | assumption | omega)) ?_
   refine rw_q rfl rfl rfl (q_le1 EStr rfl rfl Zf rfl rfl Mm (fun _ => by first | assumption | omega) rfl) ?_
   refine Tx ?_
   refine Cl (vr (gt ((spl 32 s1).drop 1) n2) (Nat.le_trans (ta hlt0) (by omega))) fun x3 => ?_
   refine Tx ?_
   refine rw_q rfl rfl rfl (wS rfl rfl Zf q8) ?_
   refine Tx ?_
   refine c6 (fun hG_ => rY (atv (gt ((spl 32 s1).drop 1) n2)) (th _)) Zf .sq (aD rfl rfl rfl) rfl rfl rfl Kr rfl Bt Sm ?_
   refine Tx ?_
   refine rw_qg (aD rfl rfl rfl) rfl rfl (q_neS (a := (Lib.itoa (atv (gt ((spl 32 s1).drop 1) n2)))) (b := (gt ((spl 32 s1).drop 1) n2)) rfl rfl Bt rfl Bt) ?_
   refine Tx ?_
   refine Cd (b := ((ate (gt ((spl 32 s1).drop 1) n2)) || ((Lib.itoa (atv (gt ((spl 32 s1).drop 1) n2))) != (gt ((spl 32 s1).drop 1) n2)))) (fun hc3 => ?_) fun hc3 => ?_
   ·refine Tx ?_
    refine Fc EInt ?_
    refine ak ?_; rw [show (aW s1) = ((⟨0, 0, 0, ([] : List Int), (⟨0, 0, 0, 0, 0, 0, 0⟩ : Op)⟩ : Rec), 1) by rw [← hf1, aI hlt0]; simp only [de, hc3, Cf]]; exact Re (⟨none, 0⟩ : SlV) (Va (Vt Vn))
   ·refine Tx ?_
    refine bA EInt [(atv (gt ((spl 32 s1).drop 1) n2))] .sq (ae rfl) rfl rfl rfl rfl rfl rfl rfl rfl rfl rfl rfl rfl rfl rfl rfl fun x4 x4b => ?_
    refine cg EInt n1 [(atv (gt ((spl 32 s1).drop 1) n2))] (b := x2b) .sq (fun _ _ => .inl ⟨_, rfl⟩) (ae rfl) rfl rfl rfl rfl rfl rfl rfl (fun _ _ => Uo) rfl rfl rfl rfl rfl rfl rfl (dC (e := 3) (b := x4b) Mm) (by show (n1.length + 1) * 8 ≤ 140737488355328; (try simp only [List.length_append, List.length_cons, List.length_nil]); omega) fun x5 x5b => ?_
    refine Tx ?_
    refine rw_q rfl rfl rfl (q_add rfl rfl Zf rfl Zf Zo) ?_
    refine Tx ?_
    refine ⟨⟨(n1 ++ [(atv (gt ((spl 32 s1).drop 1) n2))]), x5, x5b, (n2 + 1)⟩, ⟨hlt0, Zl, (by rw [← hf1, aI hlt0]; simp only [de, hc3, Cf] : (aW s1) = (de s1 (((spl 32 s1).drop 1).drop (n2 + 1)) (n1 ++ [(atv (gt ((spl 32 s1).drop 1) n2))]))).symm⟩, (by simp only []; omega), Le4⟩
  ·have hge0 : ((spl 32 s1).drop 1).length ≤ n2 := by have := of_decide_eq_false hc2; omega
   refine cw_le (aA EInt 3 x2 x2b n1 Uo) ?_
   refine Tx ?_
   refine Al fun g2 => ?_
   refine Tx ?_
   refine rw_q rfl rfl rfl (q_idx EStr 0 rfl rfl Zf rfl Zf rfl rfl rfl Mm rfl Zf (fun _ => by first | assumption | omega)) ?_
   refine rw_q rfl rfl rfl (q_le1 EStr rfl rfl Zf rfl rfl Mm (fun _ => by first | assumption | omega) rfl) ?_
   refine rw_q rfl rfl rfl (q_eqS (a := (gt (spl 32 s1) 0)) (b := ([111, 112] : Str)) rfl rfl Zf rfl Zf) ?_
   refine Tx ?_
   refine Cd (b := (((gt (spl 32 s1) 0) == ([111, 112] : Str)) && ((n1.length : Int) == 7))) (fun hc4 => ?_) fun hc4 => ?_
   ·have hl7 := wd hc4
    (repeat refine ar ?_); refine aw (fun j => match j with | 24 => some [g2] | _ => some []) ?_
    refine Rb 0 rfl Qp ?_
    refine Rb 1 rfl (q_idx EInt 0 rfl rfl Zf rfl Zf rfl rfl rfl Mm rfl Zf (fun _ => by first | assumption | omega)) ?_
    refine Rb 2 rfl (q_le1 EInt rfl rfl Zf rfl rfl Mm (fun _ => by first | assumption | omega) rfl) ?_
    refine Rb 3 rfl Qp ?_
    refine Rb 4 rfl (q_idx EInt 1 rfl rfl Zf rfl Zf rfl rfl rfl Mm rfl Zf (fun _ => by first | assumption | omega)) ?_
    refine Rb 5 rfl (q_le1 EInt rfl rfl Zf rfl rfl Mm (fun _ => by first | assumption | omega) rfl) ?_
    refine Rb 6 rfl Qp ?_
    refine Rb 7 rfl Qp ?_
    refine Rb 8 rfl (q_idx EInt 2 rfl rfl Zf rfl Zf rfl rfl rfl Mm rfl Zf (fun _ => by first | assumption | omega)) ?_
    refine Rb 9 rfl (q_le1 EInt rfl rfl Zf rfl rfl Mm (fun _ => by first | assumption | omega) rfl) ?_
    refine Rb 10 rfl Qp ?_
    refine Rb 11 rfl (q_idx EInt 3 rfl rfl Zf rfl Zf rfl rfl rfl Mm rfl Zf (fun _ => by first | assumption | omega)) ?_
    refine Rb 12 rfl (q_le1 EInt rfl rfl Zf rfl rfl Mm (fun _ => by first | assumption | omega) rfl) ?_
    refine Rb 13 rfl Qp ?_
    refine Rb 14 rfl (q_idx EInt 4 rfl rfl Zf rfl Zf rfl rfl rfl Mm rfl Zf (fun _ => by first | assumption | omega)) ?_
    refine Rb 15 rfl (q_le1 EInt rfl rfl Zf rfl rfl Mm (fun _ => by first | assumption | omega) rfl) ?_
    refine Rb 16 rfl Qp ?_
    refine Rb 17 rfl (q_idx EInt 5 rfl rfl Zf rfl Zf rfl rfl rfl Mm rfl Zf (fun _ => by first | assumption | omega)) ?_
    refine Rb 18 rfl (q_le1 EInt rfl rfl Zf rfl rfl Mm (fun _ => by first | assumption | omega) rfl) ?_
    refine Rb 19 rfl Qp ?_
    refine Rb 20 rfl (q_idx EInt 6 rfl rfl Zf rfl Zf rfl rfl rfl Mm rfl Zf (fun _ => by first | assumption | omega)) ?_
    refine Rb 21 rfl (q_le1 EInt rfl rfl Zf rfl rfl Mm (fun _ => by first | assumption | omega) rfl) ?_
    refine Ra 22 rfl Qp ?_
    refine Ra 23 rfl Qp ?_
    refine av 24 Kr ?_
    refine di (.an rfl rfl) (.inr (by simp)) (ae rfl) rfl rfl rfl rfl rfl rfl rfl rfl rfl Ub rfl ?_
    refine bj Kr ?_
    refine Tx ?_
    refine Fr EInt ?_
    refine Cl (fP (⟨none, 0⟩ : SlV) (⟨1, 0, 0, ([] : List Int), (⟨(gt n1 0), (gt n1 1), (gt n1 2), (gt n1 3), (gt n1 4), (gt n1 5), (gt n1 6)⟩ : Op)⟩ : Rec)) fun _ => ?_
    refine Tx ?_
    refine Cd (b := ((aQ (⟨1, 0, 0, ([] : List Int), (⟨(gt n1 0), (gt n1 1), (gt n1 2), (gt n1 3), (gt n1 4), (gt n1 5), (gt n1 6)⟩ : Op)⟩ : Rec)) != 0)) (fun hc5 => ?_) fun hc5 => ?_
    ·have hc5p := bne_iff_ne.1 hc5
     refine Tx ?_
     refine ak ?_; rw [show (aW s1) = ((⟨0, 0, 0, ([] : List Int), (⟨0, 0, 0, 0, 0, 0, 0⟩ : Op)⟩ : Rec), (aQ (⟨1, 0, 0, ([] : List Int), (⟨(gt n1 0), (gt n1 1), (gt n1 2), (gt n1 3), (gt n1 4), (gt n1 5), (gt n1 6)⟩ : Op)⟩ : Rec))) by rw [← hf1, List.drop_of_length_le hge0]; simp only [de, hc4, hc5, Cf]]; exact Re (⟨none, 0⟩ : SlV) (Va (Vt Vn))
    ·have hc5p := ag hc5
     refine Tx ?_
     refine ak ?_; rw [show (aW s1) = ((⟨1, 0, 0, ([] : List Int), (⟨(gt n1 0), (gt n1 1), (gt n1 2), (gt n1 3), (gt n1 4), (gt n1 5), (gt n1 6)⟩ : Op)⟩ : Rec), 0) by rw [← hf1, List.drop_of_length_le hge0]; simp only [de, hc4, hc5, Cf]]; exact Re (⟨none, 0⟩ : SlV) (Va (Vt Vn))
   ·refine Tx ?_
    refine rw_q rfl rfl rfl (q_idx EStr 0 rfl rfl Zf rfl Zf rfl rfl rfl Mm rfl Zf (fun _ => by first | assumption | omega)) ?_
    refine rw_q rfl rfl rfl (q_le1 EStr rfl rfl Zf rfl rfl Mm (fun _ => by first | assumption | omega) rfl) ?_
    refine rw_q rfl rfl rfl (q_eqS (a := (gt (spl 32 s1) 0)) (b := ([108, 105, 102, 101] : Str)) rfl rfl Zf rfl Zf) ?_
    refine Tx ?_
    refine Cd (b := (((gt (spl 32 s1) 0) == ([108, 105, 102, 101] : Str)) && ((n1.length : Int) == 2))) (fun hc6 => ?_) fun hc6 => ?_
    ·have hl7 := wd hc6
     (repeat refine ar ?_); refine aw (fun j => match j with | 7 => some [g2] | _ => some []) ?_
     refine Rb 0 rfl Qp ?_
     refine Rb 1 rfl (q_idx EInt 0 rfl rfl Zf rfl Zf rfl rfl rfl Mm rfl Zf (fun _ => by first | assumption | omega)) ?_
     refine Ra 2 rfl (q_le1 EInt rfl rfl Zf rfl rfl Mm (fun _ => by first | assumption | omega) rfl) ?_
     refine Rb 3 rfl Qp ?_
     refine Rb 4 rfl (q_idx EInt 1 rfl rfl Zf rfl Zf rfl rfl rfl Mm rfl Zf (fun _ => by first | assumption | omega)) ?_
     refine Ra 5 rfl (q_le1 EInt rfl rfl Zf rfl rfl Mm (fun _ => by first | assumption | omega) rfl) ?_
     refine Ra 6 rfl Qp ?_
     refine av 7 Kr ?_
     refine di (.an rfl rfl) (.inr (by simp)) (ae rfl) rfl rfl rfl rfl rfl rfl rfl rfl rfl Ub rfl ?_
     refine bj Kr ?_
     refine Tx ?_
     refine Fr EInt ?_
     refine Cl (fP (⟨none, 0⟩ : SlV) (⟨2, (gt n1 0), (gt n1 1), ([] : List Int), (⟨0, 0, 0, 0, 0, 0, 0⟩ : Op)⟩ : Rec)) fun _ => ?_
     refine Tx ?_
     refine Cd (b := ((aQ (⟨2, (gt n1 0), (gt n1 1), ([] : List Int), (⟨0, 0, 0, 0, 0, 0, 0⟩ : Op)⟩ : Rec)) != 0)) (fun hc7 => ?_) fun hc7 => ?_
     ·have hc7p := bne_iff_ne.1 hc7
      refine Tx ?_
      refine ak ?_; rw [show (aW s1) = ((⟨0, 0, 0, ([] : List Int), (⟨0, 0, 0, 0, 0, 0, 0⟩ : Op)⟩ : Rec), (aQ (⟨2, (gt n1 0), (gt n1 1), ([] : List Int), (⟨0, 0, 0, 0, 0, 0, 0⟩ : Op)⟩ : Rec))) by rw [← hf1, List.drop_of_length_le hge0]; simp only [de, hc4, hc6, hc7, Cf]]; exact Re (⟨none, 0⟩ : SlV) (Va (Vt Vn))
     ·have hc7p := ag hc7
      refine Tx ?_
      refine ak ?_; rw [show (aW s1) = ((⟨2, (gt n1 0), (gt n1 1), ([] : List Int), (⟨0, 0, 0, 0, 0, 0, 0⟩ : Op)⟩ : Rec), 0) by rw [← hf1, List.drop_of_length_le hge0]; simp only [de, hc4, hc6, hc7, Cf]]; exact Re (⟨none, 0⟩ : SlV) (Va (Vt Vn))
    ·refine Tx ?_
     refine rw_q rfl rfl rfl (q_idx EStr 0 rfl rfl Zf rfl Zf rfl rfl rfl Mm rfl Zf (fun _ => by first | assumption | omega)) ?_
     refine rw_q rfl rfl rfl (q_le1 EStr rfl rfl Zf rfl rfl Mm (fun _ => by first | assumption | omega) rfl) ?_
     refine rw_q rfl rfl rfl (q_eqS (a := (gt (spl 32 s1) 0)) (b := ([114, 111, 111, 116, 115] : Str)) rfl rfl Zf rfl Zf) ?_
     refine Tx ?_
     refine Cd (b := (((gt (spl 32 s1) 0) == ([114, 111, 111, 116, 115] : Str)) && decide ((n1.length : Int) > 0))) (fun hc8 => ?_) fun hc8 => ?_
     ·have hl7 := len_gt hc8
      (repeat refine ar ?_); refine aw (fun j => match j with | 6 => some [g2] | _ => some []) ?_
      refine Rb 0 rfl Qp ?_
      refine Rb 1 rfl (q_idx EInt 0 rfl rfl Zf rfl Zf rfl rfl rfl Mm rfl Zf (fun _ => by first | assumption | omega)) ?_
      refine Ra 2 rfl (q_le1 EInt rfl rfl Zf rfl rfl Mm (fun _ => by first | assumption | omega) rfl) ?_
      refine Rb 3 rfl Qp ?_
      refine Ra 4 rfl (o7 EInt 1 rfl rfl Zf rfl Zf rfl rfl Zo Zo) ?_
      refine ay (F := RdL EInt (⟨slA x2.a x2.c 1 EInt.esz, x2.c - 1⟩ : SlV) (n1.drop 1)) [RdL EInt x2 n1] Sm (fun M w h => (allF1 h).drop _ (by omega)) ?_
      refine Ra 5 rfl Qp ?_
      refine av 6 Kr ?_
      refine di (.an rfl rfl) (.inr (by simp)) (ae rfl) rfl rfl rfl rfl rfl rfl rfl rfl rfl Ub rfl ?_
      refine bj Kr ?_
      refine Tx ?_
      refine Cl (fP (⟨slA x2.a x2.c 1 EInt.esz, x2.c - 1⟩ : SlV) (⟨3, (gt n1 0), 0, (n1.drop 1), (⟨0, 0, 0, 0, 0, 0, 0⟩ : Op)⟩ : Rec)) fun _ => ?_
      refine Tx ?_
      refine Cd (b := ((aQ (⟨3, (gt n1 0), 0, (n1.drop 1), (⟨0, 0, 0, 0, 0, 0, 0⟩ : Op)⟩ : Rec)) != 0)) (fun hc9 => ?_) fun hc9 => ?_
      ·have hc9p := bne_iff_ne.1 hc9
       refine Tx ?_
       refine Fc EInt ?_
       refine ak ?_; rw [show (aW s1) = ((⟨0, 0, 0, ([] : List Int), (⟨0, 0, 0, 0, 0, 0, 0⟩ : Op)⟩ : Rec), (aQ (⟨3, (gt n1 0), 0, (n1.drop 1), (⟨0, 0, 0, 0, 0, 0, 0⟩ : Op)⟩ : Rec))) by rw [← hf1, List.drop_of_length_le hge0]; simp only [de, hc4, hc6, hc8, hc9, Cf]]; exact Re (⟨none, 0⟩ : SlV) (Va (Vt Vn))
      ·have hc9p := ag hc9
       refine Tx ?_
       refine ak ?_; rw [show (aW s1) = ((⟨3, (gt n1 0), 0, (n1.drop 1), (⟨0, 0, 0, 0, 0, 0, 0⟩ : Op)⟩ : Rec), 0) by rw [← hf1, List.drop_of_length_le hge0]; simp only [de, hc4, hc6, hc8, hc9, Cf]]; exact Re (⟨slA x2.a x2.c 1 EInt.esz, x2.c - 1⟩ : SlV) (Va (Vt Vn))
     ·refine Tx ?_
      refine Fc EInt ?_
      refine ak ?_; rw [show (aW s1) = ((⟨0, 0, 0, ([] : List Int), (⟨0, 0, 0, 0, 0, 0, 0⟩ : Op)⟩ : Rec), 1) by rw [← hf1, List.drop_of_length_le hge0]; simp only [de, hc4, hc6, hc8, Cf]]; exact Re (⟨none, 0⟩ : SlV) (Va (Vt Vn))
def bP (s1 : Str) (most1 : Int) : Nat → Str → (List Rec) → ((List Rec) × Int × Int)
 | 0, s2, l1 => default
 | f_k0 + 1, s2, l1 => (bif (s2 != ([] : Str)) then (bif (!(cutc 10 s2).2.2) then (l1, ((s1.length : Int) - (s2.length : Int)), 8) else (bif ((aW (cutc 10 s2).1).2 != 0) then (l1, ((s1.length : Int) - (s2.length : Int)), (aW (cutc 10 s2).1).2) else (bif ((l1.length : Int) == most1) then (l1, ((s1.length : Int) - (s2.length : Int)), 2) else (bP s1 most1 f_k0 (cutc 10 s2).2.1 (l1 ++ [(aW (cutc 10 s2).1).1]))))) else (l1, (s1.length : Int), 0))
def aB (s1 : Str) (most1 : Int) : (List Rec) × Int × Int :=
 (bP s1 most1 (s1.length + 1) s1 [])
theorem ja (s1 : Str) (most1 : Int) (hs : s1.length ≤ 60000) : DoesG Tryz.prog 65 [sV s1, .int .i64 most1] [LibP Tryz.prog] ⟨[], []⟩ (fun (X : SlV × Option Nat × (Nat → SlV)) => .tuple #[X.1.val (aB s1 most1).1.length, .int .i64 (aB s1 most1).2.1, .int .i64 (aB s1 most1).2.2]) (fun X => [ao NRec X.2.2 (aB s1 most1).1]) (fun X => ⟨[], [ownL NRec.E 136 X.1 X.2.1 (zipG X.2.2 0 (aB s1 most1).1)]⟩) := by
 refine cF aV Tryz.func65 rfl Tryz.ntmps65 Tryz.results65 rfl inferInstance (fun _ => inferInstance) fun C => ?_
 refine Tx ?_
 refine rw_q rfl rfl rfl (o6 (a := s1) rfl rfl Zf und_9) ?_
 refine Tx ?_
 (repeat refine ar ?_); refine Lp [1,4,5,6,8] [] (fun (i_ : Str × List Rec × SlV × Option Nat × (Nat → SlV) × Nat) => match i_ with | ⟨s2, l1, x1, x1b, γ1, fz1⟩ => (⟨[(0, .v (sV s2)), (7, .v (x1.val l1.length))], [], [ownL NRec.E 136 x1 x1b (zipG γ1 0 l1)], [ao NRec γ1 l1], (s2.length + l1.length ≤ s1.length) ∧ (s2.length < fz1) ∧ (bP s1 most1 fz1 s2 l1) = (aB s1 most1), fz1⟩ : Ls)) ⟨s1, [], ⟨none, 0⟩, none, (fun _ => default), s1.length + 1⟩ (Sc (Sc (Sc (Sc (Sc Sn))))) (.nil) ⟨(by simp only [List.length_nil]; omega), (by first | exact Nat.le_refl _ | exact Nat.zero_le _ | omega), (by simp only [aB, Cf] : (aB s1 most1) = (bP s1 most1 (s1.length + 1) s1 [])).symm⟩ (Le.trans (fk NRec.E 136) (Le.trans (uu (ao NRec (fun _ => default) ([] : List Rec)) [] (.nil _) (fun M w _ => ao.nil NRec _ M w)) Le4)) ?_
 rintro ⟨s2, l1, x1, x1b, γ1, fz1⟩ ⟨hinv, hzfz1, hf1⟩
 simp only [List.cons_append, List.nil_append]
 have hlt0_ : (fz1 - 1) + 1 = fz1 := by omega
 refine Tx ?_
 refine rw_q rfl rfl rfl (q_neS (a := s2) (b := ([] : Str)) rfl rfl Zf rfl Zf) ?_
 refine er ?_
 (repeat refine ar ?_)
 refine Cd (b := (s2 != ([] : Str))) (fun hc1 => ?_) fun hc1 => ?_
 ·have hc1p := bne_iff_ne.1 hc1
  refine Tx ?_
  refine Cl (xb s2 ([10] : Str) rfl (by omega)) fun _ => ?_
  have hcn := sj 10 s2; have hcl := pU 10 s2
  refine Tx ?_
  refine Cd (b := (!(cutc 10 s2).2.2)) (fun hc2 => ?_) fun hc2 => ?_
  ·refine Tx ?_
   refine rw_q rfl rfl rfl (o6 (a := s2) rfl rfl Zf und_9) ?_
   refine rw_q rfl rfl rfl (q_sub rfl rfl Zf rfl Zf Zo) ?_
   refine Tx ?_
   refine ak ?_; rw [show (aB s1 most1) = (l1, ((s1.length : Int) - (s2.length : Int)), 8) by rw [← hf1]; (conv => lhs; rw [← hlt0_]); simp only [bP, hc1, hc2, Cf]]; exact Re ⟨x1, x1b, γ1⟩ (Vt (Vt (Vt Vn)))
  ·have hcl2 := hcl (by simpa using hc2)
   refine Tx ?_
   refine Cl (n8 (cutc 10 s2).1) fun x2 => ?_
   refine Pr EInt x2 (aW (cutc 10 s2).1).1.roots 8 fun hlen1 => ?_
   refine Tx ?_
   refine Al fun g1 => ?_
   refine Tx ?_
   refine Cd (b := ((aW (cutc 10 s2).1).2 != 0)) (fun hc3 => ?_) fun hc3 => ?_
   ·have hc3p := bne_iff_ne.1 hc3
    refine Tx ?_
    refine rw_q rfl rfl rfl (o6 (a := s2) rfl rfl Zf und_9) ?_
    refine rw_q rfl rfl rfl (q_sub rfl rfl Zf rfl Zf Zo) ?_
    refine Tx ?_
    refine ak ?_; rw [show (aB s1 most1) = (l1, ((s1.length : Int) - (s2.length : Int)), (aW (cutc 10 s2).1).2) by rw [← hf1]; (conv => lhs; rw [← hlt0_]); simp only [bP, hc1, hc2, hc3, Cf]]; exact Re ⟨x1, x1b, γ1⟩ (Vt (Vt (Vt Vn)))
   ·have hc3p := ag hc3
    refine Tx ?_
    refine Cd (b := ((l1.length : Int) == most1)) (fun hc4 => ?_) fun hc4 => ?_
    ·have hc4p := eq_of_beq hc4
     refine Tx ?_
     refine rw_q rfl rfl rfl (o6 (a := s2) rfl rfl Zf und_9) ?_
     refine rw_q rfl rfl rfl (q_sub rfl rfl Zf rfl Zf Zo) ?_
     refine Tx ?_
     refine ak ?_; rw [show (aB s1 most1) = (l1, ((s1.length : Int) - (s2.length : Int)), 2) by rw [← hf1]; (conv => lhs; rw [← hlt0_]); simp only [bP, hc1, hc2, hc3, hc4, Cf]]; exact Re ⟨x1, x1b, γ1⟩ (Vt (Vt (Vt Vn)))
    ·have hc4p := ne_of_beq_false hc4
     refine Tx ?_
     refine bA NRec.E [(x2, (aW (cutc 10 s2).1).1)] .sq (ae rfl) rfl rfl rfl rfl rfl rfl rfl rfl rfl rfl rfl rfl rfl (mp rfl rfl) rfl fun x3 x3b => ?_
     refine rw_le (aA NRec.E 136 x3 x3b [(x2, (aW (cutc 10 s2).1).1)] Uo) ?_
     refine ay (F := RdN NRec x3 [(aW (cutc 10 s2).1).1]) [RdL NRec.E x3 [(x2, (aW (cutc 10 s2).1).1)], RdL EInt x2 (aW (cutc 10 s2).1).1.roots] Sm (fun M w h => RdN.of NRec (hs := [(x2, (aW (cutc 10 s2).1).1)]) rfl (h _ (.head _)) (aP (cL Sm h) (fun p hp => by cases hp))) ?_
     refine eY NRec (X := x3) (l := [(aW (cutc 10 s2).1).1]) Mm fun (γ2 : Nat → SlV) => ?_
     refine mK NRec γ1 γ2 l1 [(aW (cutc 10 s2).1).1] (b := x1b) .sq (fun _ _ => .inl ⟨_, rfl⟩) (ae rfl) rfl rfl rfl rfl rfl rfl rfl (fun _ _ => Uo) rfl rfl rfl rfl rfl rfl rfl (tL (EN := NRec) (X := x3) (γ := γ2) (l := [(aW (cutc 10 s2).1).1]) Mm) (by show (l1.length + [(aW (cutc 10 s2).1).1].length) * 104 ≤ 140737488355328; (try simp only [List.length_append, List.length_cons, List.length_nil]); omega) fun x4 x4b => ?_
     refine ay (F := ao NRec (appG γ1 l1.length γ2) (l1 ++ [(aW (cutc 10 s2).1).1])) [ao NRec γ1 l1, ao NRec γ2 [(aW (cutc 10 s2).1).1]] Sm (fun M w h => ao.app NRec (h _ (.head _)) (h _ (.tail _ (.head _)))) ?_
     refine Tx ?_
     refine ⟨⟨(cutc 10 s2).2.1, (l1 ++ [(aW (cutc 10 s2).1).1]), x4, x4b, (appG γ1 l1.length γ2), (fz1 - 1)⟩, ⟨Zl, (by (try simp only []); first | omega | (simp only [List.length_append, List.length_cons, List.length_nil]; omega)), (by rw [← hf1]; (conv => lhs; rw [← hlt0_]); simp only [bP, hc1, hc2, hc3, hc4, Cf] : (aB s1 most1) = (bP s1 most1 (fz1 - 1) (cutc 10 s2).2.1 (l1 ++ [(aW (cutc 10 s2).1).1]))).symm⟩, (by simp only []; omega), Le4⟩
 ·have hc1p := ag hc1
  refine Tx ?_
  refine ak ?_; rw [show (aB s1 most1) = (l1, (s1.length : Int), 0) by rw [← hf1]; (conv => lhs; rw [← hlt0_]); simp only [bP, hc1, Cf]]; exact Re ⟨x1, x1b, γ1⟩ (Vt (Vt (Vt Vn)))
theorem kE (s0 : Str) (most : Int) : ∀ (f : Nat) (s : Str) (l : List Rec), s.length < f → s.length + l.length ≤ s0.length →
  (bP s0 most f s l).1.length ≤ s0.length ∧ 0 ≤ (bP s0 most f s l).2.1 ∧ (bP s0 most f s l).2.1 ≤ (s0.length : Int)
 | 0, s, l, h, _ => absurd h (Nat.not_lt_zero _)
 | f + 1, s, l, h, hl => by
  rw [bP]
  cases h1 : (s != ([] : Str)) with
  | false => simp only [cond_false]; omega
  | true =>
   simp only [cond_true]
   cases h2 : (!(cutc 10 s).2.2) with
   | true => simp only [cond_true]; omega
   | false =>
    have h2 : (cutc 10 s).2.2 = true := by simpa using h2
    have h3 := pU 10 s h2
    simp only [cond_false]
    cases ((aW (cutc 10 s).1).2 != 0) with
    | true => simp only [cond_true]; omega
    | false =>
     simp only [cond_false]
     cases ((l.length : Int) == most) with
     | true => simp only [cond_true]; omega
     | false => exact kE s0 most f _ _ (by omega) Zl
theorem mq (s : Str) (most : Int) : (aB s most).1.length ≤ s.length ∧ 0 ≤ (aB s most).2.1 ∧ (aB s most).2.1 ≤ (s.length : Int) :=
 kE s most _ s [] (by omega) (by simp)
end Go.Proofs.YtgkggkgdceapgaaGreatDoor

namespace Go.Proofs.YtgkggkgdceapgaaGreatDoor
open Go Go.Proofs.YtgkggkgdceapgaaGreatDoor.Fw Go.Proofs
def jN (r : Rec) : Str := wordOf r ++ glue 32 ((i6 r).map Lib.itoa)
theorem oJ : ∀ (l : List Int) (s : Str), et l s = (s ++ glue 32 (l.map Lib.itoa), 0)
 | [], s => by simp [et, glue]
 | n :: l, s => by rw [et, oJ l]; simp [glue]
theorem V1_eq {r : Rec} (h : aQ r = 0) : bE r = (wordOf r, i6 r) := by
 unfold bE wordOf i6
 rcases (iH r).1 h with ⟨h1, _⟩ | ⟨h1, _, _⟩ | ⟨h1, _, _⟩ <;> (rw [h1]; rfl)
theorem sH (r : Rec) : ci r = if aQ r = 0 then (jN r, 0) else ([], aQ r) := by
 unfold ci
 by_cases h : aQ r = 0
 ·rw [if_pos h, V1_eq h, oJ, h]
  rfl
 ·rw [if_neg h]
  have : (aQ r != 0) = true := by simpa using h
  rw [this, cond_true]
def pn : List Str → Option (List Int)
 | [] => some []
 | t :: r => bif ate t || (Lib.itoa (atv t) != t) then none else (pn r).map (atv t :: ·)
abbrev noRec : Rec := ⟨0, 0, 0, [], ⟨0, 0, 0, 0, 0, 0, 0⟩⟩
def mkRec (w : Str) (n : List Int) : Option Rec :=
 if w = [111, 112] ∧ n.length = 7 then some ⟨1, 0, 0, [], ⟨gt n 0, gt n 1, gt n 2, gt n 3, gt n 4, gt n 5, gt n 6⟩⟩
 else if w = [108, 105, 102, 101] ∧ n.length = 2 then some ⟨2, gt n 0, gt n 1, [], ⟨0, 0, 0, 0, 0, 0, 0⟩⟩
 else if w = [114, 111, 111, 116, 115] ∧ 0 < n.length then some ⟨3, gt n 0, 0, n.drop 1, ⟨0, 0, 0, 0, 0, 0, 0⟩⟩
 else none
def finR (w : Str) (n : List Int) : Rec × Int := match mkRec w n with
 | none => (noRec, 1)
 | some r => if aQ r = 0 then (r, 0) else (noRec, aQ r)
def readP (w : Str) : Option (List Int) → Rec × Int
 | none => (noRec, 1)
 | some n => finR w n
theorem uL {w u : Str} {n : List Int} {k : Nat} : ((w == u) && ((n.length : Int) == (k : Int))) = decide (w = u ∧ n.length = k) := by
 rw [Bool.eq_iff_iff]; simp only [Bool.and_eq_true, beq_iff_eq, decide_eq_true_eq]; exact and_congr_right fun _ => by omega
theorem and_gt {w u : Str} {n : List Int} : ((w == u) && decide ((n.length : Int) > 0)) = decide (w = u ∧ 0 < n.length) := by
 rw [Bool.eq_iff_iff]; simp only [Bool.and_eq_true, beq_iff_eq, decide_eq_true_eq]; exact and_congr_right fun _ => by omega
theorem xd (r : Rec) : (bif (aQ r != 0) then (noRec, aQ r) else (r, (0 : Int))) = if aQ r = 0 then (r, 0) else (noRec, aQ r) := by
 by_cases h : aQ r = 0
 ·rw [if_pos h, h]; rfl
 ·rw [if_neg h]
  have : (aQ r != 0) = true := by simpa using h
  rw [this, cond_true]
theorem rt {α : Type} {p : Prop} [Decidable p] (a b : α) : (bif decide p then a else b) = if p then a else b := by
 by_cases h : p <;> simp [h]
theorem oK (s : Str) : ∀ (l : List Str) (acc : List Int), de s l acc = readP (gt (spl 32 s) 0) ((pn l).map (acc ++ ·))
 | [], acc => by
  rw [de]
  have e7 : (7 : Int) = ((7 : Nat) : Int) := rfl
  have e2 : (2 : Int) = ((2 : Nat) : Int) := rfl
  simp only [pn, Option.map_some, List.append_nil, readP, finR, mkRec]
  simp only [xd]
  rw [show (((gt (spl 32 s) 0) == ([111, 112] : Str)) && ((acc.length : Int) == 7)) = decide (gt (spl 32 s) 0 = [111, 112] ∧ acc.length = 7) from uL (k := 7),
   show (((gt (spl 32 s) 0) == ([108, 105, 102, 101] : Str)) && ((acc.length : Int) == 2)) = decide (gt (spl 32 s) 0 = [108, 105, 102, 101] ∧ acc.length = 2) from uL (k := 2), and_gt, rt, rt, rt]
  by_cases h1 : gt (spl 32 s) 0 = [111, 112] ∧ acc.length = 7
  ·rw [if_pos h1, if_pos h1]
  ·rw [if_neg h1, if_neg h1]
   by_cases h2 : gt (spl 32 s) 0 = [108, 105, 102, 101] ∧ acc.length = 2
   ·rw [if_pos h2, if_pos h2]
   ·rw [if_neg h2, if_neg h2]
    by_cases h3 : gt (spl 32 s) 0 = [114, 111, 111, 116, 115] ∧ 0 < acc.length
    ·rw [if_pos h3, if_pos h3]
    ·rw [if_neg h3, if_neg h3]
 | t :: r, acc => by
  rw [de, pn]
  cases (ate t || (Lib.itoa (atv t) != t)) with
  | true => rfl
  | false =>
   simp only [cond_false]
   rw [oK s r, Option.map_map]
   congr 2
   funext x; simp
theorem sJ {s : Str} (h : s.length ≤ 60000) : aW s = readP (gt (spl 32 s) 0) (pn ((spl 32 s).drop 1)) := by
 unfold aW
 have : decide ((s.length : Int) > 60000) = false := by simp; omega
 rw [this, cond_false, oK]
 congr 1
 cases pn ((spl 32 s).drop 1) <;> simp
theorem tk {s : Str} (h : 60000 < s.length) : aW s = (noRec, 2) := by
 unfold aW
 have : decide ((s.length : Int) > 60000) = true := by simp; omega
 rw [this, cond_true]
theorem tU : ∀ {l : List Int}, (∀ n ∈ l, I64 n) → pn (l.map Lib.itoa) = some l
 | [], _ => rfl
 | n :: l, h => by
  have hn := h n (.head _)
  rw [List.map_cons, pn, vP hn, vO hn, tU (fun m hm => h m (.tail _ hm))]
  simp
theorem tT : ∀ {l : List Str} {n : List Int}, pn l = some n → l = n.map Lib.itoa
 | [], n, h => by simp [pn] at h; subst h; rfl
 | t :: l, n, h => by
  rw [pn] at h
  cases hb : (ate t || (Lib.itoa (atv t) != t)) with
  | true => rw [hb] at h; cases h
  | false =>
   rw [hb, cond_false] at h
   simp only [Bool.or_eq_false_iff, bne_eq_false_iff_eq] at hb
   cases hp : pn l with
   | none => rw [hp] at h; cases h
   | some m =>
    rw [hp] at h
    simp only [Option.map_some, Option.some.injEq] at h
    subst h
    rw [List.map_cons, hb.2, ← tT hp]
theorem wI (r : Rec) : (32 : UInt8) ∉ wordOf r := by
 unfold wordOf
 cases r.kind == 1 with
 | true => rw [cond_true]; decide
 | false => rw [cond_false]; cases r.kind == 2 with
  | true => rw [cond_true]; decide
  | false => rw [cond_false]; decide
theorem mk_of {r : Rec} (h : aQ r = 0) : mkRec (wordOf r) (i6 r) = some r := by
 rcases (iH r).1 h with ⟨h1, _⟩ | ⟨h1, _, _⟩ | ⟨h1, _, _⟩ <;> (rw [h1]; rfl)
theorem w8 {w : Str} {n : List Int} {r : Rec} (h : mkRec w n = some r) : wordOf r = w ∧ i6 r = n := by
 unfold mkRec at h
 split at h
 ·rename_i hw
  obtain ⟨rfl, hl⟩ := hw
  simp only [Option.some.injEq] at h
  subst h
  match n, hl with
  | [a, b, c, d, e, f, g], _ => exact ⟨rfl, rfl⟩
 ·split at h
  ·rename_i hw
   obtain ⟨rfl, hl⟩ := hw
   simp only [Option.some.injEq] at h
   subst h
   match n, hl with
   | [a, b], _ => exact ⟨rfl, rfl⟩
  ·split at h
   ·rename_i hw
    obtain ⟨rfl, hl⟩ := hw
    simp only [Option.some.injEq] at h
    subst h
    match n, hl with
    | a :: l, _ => exact ⟨rfl, rfl⟩
   ·cases h
theorem sc : ∀ {l : List Int}, (∀ n ∈ l, I64 n) → (glue 32 (l.map Lib.itoa)).length ≤ 22 * l.length
 | [], _ => by simp [glue]
 | n :: l, h => by
  have h1 := sc (fun m hm => h m (.tail n hm))
  have h2 := Lib.itoa_length_le n (h n (.head _)).1 (h n (.head _)).2
  simp only [glue, List.map_cons, List.flatMap_cons, List.length_append, List.length_cons] at h1 ⊢
  omega
theorem vj (r : Rec) : (wordOf r).length ≤ 5 := by
 unfold wordOf
 cases r.kind == 1 with
 | true => rw [cond_true]; decide
 | false => rw [cond_false]; cases r.kind == 2 with
  | true => rw [cond_true]; decide
  | false => rw [cond_false]; decide
theorem lv {r : Rec} (h : aQ r = 0) : (jN r).length ≤ 159 := by
 have h1 := n6 h
 have h2 := sc h1.2
 have h3 := vj r
 rw [jN, List.length_append]
 omega
theorem spl_pr {r : Rec} : spl 32 (jN r) = wordOf r :: (i6 r).map Lib.itoa :=
 rL _ _ (wI r) (fun t ht => by
  obtain ⟨n, _, rfl⟩ := List.mem_map.1 ht
  exact uv (by decide))
theorem rC {r : Rec} (h : aQ r = 0) : aW (jN r) = (r, 0) := by
 rw [sJ (by have := lv h; omega), spl_pr, show gt (wordOf r :: (i6 r).map Lib.itoa) 0 = wordOf r from rfl, List.drop_succ_cons, List.drop_zero, tU (n6 h).2, readP, finR, mk_of h]
 simp only [h, if_pos]
theorem vW {s : Str} {x : Rec} (h : aW s = (x, 0)) : aQ x = 0 ∧ jN x = s := by
 by_cases hs : s.length ≤ 60000
 ·rw [sJ hs] at h
  obtain ⟨w, l, h1, h2⟩ := sb 32 s.length s (Nat.le_refl _)
  rw [h1] at h
  have e : gt (w :: l) 0 = w := rfl
  rw [e, List.drop_succ_cons, List.drop_zero] at h
  cases hp : pn l with
  | none => rw [hp, readP] at h; cases h
  | some n =>
   rw [hp, readP, finR] at h
   cases hm : mkRec w n with
   | none => rw [hm] at h; cases h
   | some r =>
    rw [hm] at h
    simp only at h
    split at h
    ·rename_i hc
     simp only [Prod.mk.injEq, and_true] at h
     subst h
     obtain ⟨h3, h4⟩ := w8 hm
     refine ⟨hc, ?_⟩
     rw [jN, h3, h4, h2, tT hp]
    ·rename_i hc
     simp only [Prod.mk.injEq] at h
     exact absurd h.2 hc
 ·rw [tk (by omega)] at h; cases h
end Go.Proofs.YtgkggkgdceapgaaGreatDoor

set_option maxHeartbeats 2000000
namespace Go.Proofs.YtgkggkgdceapgaaGreatDoor
open Go Go.Proofs.YtgkggkgdceapgaaGreatDoor.Fw Go.Proofs
attribute [local irreducible] RdL RdN VarP LibP RW CW
theorem qQ {a b : Nat} (h : (decide ((a : Int) > 60000) || decide ((b : Int) > (60000 - (a : Int)))) = false) : a ≤ 60000 ∧ a + b ≤ 60000 := by
 simp only [Bool.or_eq_false_iff, decide_eq_false_iff_not] at h; omega
theorem u9 (r : Rec) : (ci r).1.length ≤ 159 := by
 rw [sH]
 split
 ·rename_i h; exact lv h
 ·simp
def c8 (d1 : Disk) : Int :=
 (bif (decide ((d1.safe.length : Int) > 60000) || decide ((d1.wait.length : Int) > (60000 - (d1.safe.length : Int)))) then 2 else (aB d1.safe 60).2.2)
theorem gM (y1 : SlV) (y2 : SlV) (d1 : Disk) : Does Tryz.prog 64 [.agg ⟨[y1.val d1.safe.length, y2.val d1.wait.length]⟩] [RdL EByte y1 d1.safe, RdL EByte y2 d1.wait, LibP Tryz.prog] (fun (_ : Unit) => .int .i64 (c8 d1)) (fun _ => []) := by
 refine bd aV Tryz.func64 rfl Tryz.ntmps64 Tryz.results64 rfl inferInstance (fun _ => inferInstance) fun C => ?_
 refine Pc EByte y1 d1.safe 1 fun hlen1 => ?_
 refine Pc EByte y2 d1.wait 1 fun hlen2 => ?_
 refine Tx ?_
 refine Bx fun g1 => ?_
 refine Tx ?_
 refine rw_qg (aD rfl rfl rfl) rfl rfl (q_sub rfl rfl Bt rfl Bt (by intro h; first | omega | (simp at h; omega))) ?_
 refine Tx ?_
 refine Cd (b := (decide ((d1.safe.length : Int) > 60000) || decide ((d1.wait.length : Int) > (60000 - (d1.safe.length : Int))))) (fun hc1 => ?_) fun hc1 => ?_
 ·refine Tx ?_
  refine ak ?_; simp only [c8, hc1, Cf]; exact Re () (Vt Vn)
 ·have hdl := qQ hc1
  refine Tx ?_
  refine rw_q rfl rfl rfl (tR (X := y1) (l := d1.safe) tx und_5 und_9 rfl rfl Zf Mm) ?_
  refine Cg (ja d1.safe 60 Zc) fun x1 => ?_
  refine Tx ?_
  refine ak ?_; simp only [c8, hc1, Cf]; exact Re () (Vt Vn)
theorem jb {d : Disk} (h : c8 d = 0) : d.safe.length ≤ 60000 ∧ d.safe.length + d.wait.length ≤ 60000 := by
 unfold c8 at h
 generalize hb : (decide ((d.safe.length : Int) > 60000) || decide ((d.wait.length : Int) > (60000 - (d.safe.length : Int)))) = b at h
 cases b with
 | true => simp at h
 | false => exact qQ hb
def dR (d1 : Disk) (r1 : Rec) : Disk × Int :=
 (bif ((c8 d1) != 0) then ((⟨[], []⟩ : Disk), (c8 d1)) else (bif ((ci r1).2 != 0) then ((⟨[], []⟩ : Disk), (ci r1).2) else (bif decide ((((ci r1).1.length : Int) + 1) > ((60000 - (d1.safe.length : Int)) - (d1.wait.length : Int))) then ((⟨[], []⟩ : Disk), 2) else ((⟨d1.safe, ((d1.wait ++ (ci r1).1) ++ [10])⟩ : Disk), 0))))
theorem mt (y1 : SlV) (y2 : SlV) (d1 : Disk) (y3 : SlV) (r1 : Rec) : Does Tryz.prog 101 [.agg ⟨[y1.val d1.safe.length, y2.val d1.wait.length]⟩, .agg ⟨[.int .i64 r1.kind, .int .i64 r1.who, .int .i64 r1.life, y3.val r1.roots.length, .int .i64 r1.o.time, .int .i64 r1.o.who, .int .i64 r1.o.node, .int .i64 r1.o.parent, .int .i64 r1.o.name, .int .i64 r1.o.life, .int .i64 r1.o.seq]⟩] [RdL EByte y1 d1.safe, RdL EByte y2 d1.wait, RdL EInt y3 r1.roots, LibP Tryz.prog] (fun (X : SlV × SlV) => .tuple #[.agg ⟨[X.1.val (dR d1 r1).1.safe.length, X.2.val (dR d1 r1).1.wait.length]⟩, .int .i64 (dR d1 r1).2]) (fun X => [RdL EByte X.1 (dR d1 r1).1.safe, RdL EByte X.2 (dR d1 r1).1.wait]) := by
 refine bd aV Tryz.func101 rfl Tryz.ntmps101 Tryz.results101 rfl inferInstance (fun _ => inferInstance) fun C => ?_
 refine Pc EByte y1 d1.safe 1 fun hlen1 => ?_
 refine Pc EByte y2 d1.wait 1 fun hlen2 => ?_
 refine Pc EInt y3 r1.roots 8 fun hlen3 => ?_
 refine Tx ?_
 refine Bx fun g1 => ?_
 refine Bx fun g2 => ?_
 refine Al fun g3 => ?_
 refine Tx ?_
 refine Cl (gM y1 y2 d1) fun _ => ?_
 refine Tx ?_
 refine Cd (b := ((c8 d1) != 0)) (fun hc1 => ?_) fun hc1 => ?_
 ·have hc1p := bne_iff_ne.1 hc1
  refine Tx ?_
  refine Fc EByte ?_
  refine ak ?_; simp only [dR, hc1, Cf]; exact Re ⟨(⟨none, 0⟩ : SlV), (⟨none, 0⟩ : SlV)⟩ (Va (Vt Vn))
 ·have hc1p := ag hc1
  have hdl := jb (ag hc1)
  refine Tx ?_
  refine Cl (n7 y3 r1) fun _ => ?_
  refine Tx ?_
  refine Cd (b := ((ci r1).2 != 0)) (fun hc2 => ?_) fun hc2 => ?_
  ·have hc2p := bne_iff_ne.1 hc2
   refine Tx ?_
   refine Fc EByte ?_
   refine ak ?_; simp only [dR, hc1, hc2, Cf]; exact Re ⟨(⟨none, 0⟩ : SlV), (⟨none, 0⟩ : SlV)⟩ (Va (Vt Vn))
  ·have hc2p := ag hc2
   have hpl := u9 r1
   refine Tx ?_
   refine rw_q rfl rfl rfl (o6 (a := (ci r1).1) rfl rfl Zf und_9) ?_
   refine rw_q rfl rfl rfl (q_add rfl rfl Zf rfl Zf Zo) ?_
   refine Tx ?_
   refine rw_q rfl rfl rfl (q_sub rfl rfl Zf rfl Zf Zo) ?_
   refine Tx ?_
   refine rw_q rfl rfl rfl (q_sub rfl rfl Zf rfl Zf Zo) ?_
   refine Tx ?_
   refine Cd (b := decide ((((ci r1).1.length : Int) + 1) > ((60000 - (d1.safe.length : Int)) - (d1.wait.length : Int)))) (fun hc3 => ?_) fun hc3 => ?_
   ·have hc3p := of_decide_eq_true hc3
    refine Tx ?_
    refine Fc EByte ?_
    refine ak ?_; simp only [dR, hc1, hc2, hc3, Cf]; exact Re ⟨(⟨none, 0⟩ : SlV), (⟨none, 0⟩ : SlV)⟩ (Va (Vt Vn))
   ·have hc3p := of_decide_eq_false hc3
    refine Tx ?_
    refine ge [4, 5] [false, true, true] (fun (i_ : SlV × Option Nat × SlV × Option Nat) => match i_ with | ⟨x1, b1, x2, b2⟩ => []) (fun (i_ : SlV × Option Nat × SlV × Option Nat) => match i_ with | ⟨x1, b1, x2, b2⟩ => [⟨g3, 33, [x1.val d1.safe.length, x2.val ((d1.wait ++ (ci r1).1) ++ [10]).length]⟩]) (fun (i_ : SlV × Option Nat × SlV × Option Nat) => match i_ with | ⟨x1, b1, x2, b2⟩ => [ownL EByte 5 x1 b1 d1.safe, ownL EByte 5 x2 b2 ((d1.wait ++ (ci r1).1) ++ [10])]) (fun (i_ : SlV × Option Nat × SlV × Option Nat) => match i_ with | ⟨x1, b1, x2, b2⟩ => []) (fun _ => True) (.cons rfl (.cons rfl (.nil _))) (.drop (.keep (.keep (.nil)))) ?_ ?_
    ·refine aw (fun j => match j with | 7 => none | 9 => none | 11 => some [g3] | _ => some []) ?_
     refine Rb 0 rfl Qp ?_
     refine Rb 1 rfl Q1 ?_
     refine Rb 3 rfl Qp ?_
     refine Rb 4 rfl Q1 ?_
     refine Rb 6 rfl Qp ?_
     refine fF 2 8 Kr ?_ ?_
     ·refine aX (dt y1 d1.safe) (.an rfl rfl) (.inr (by simp [Lent.ids])) (ae rfl) rfl rfl rfl Kr rfl rfl Sm (.nil _) (.nil _) ?_
      intro x3
      refine fF 5 8 Kr ?_ ?_
      ·refine aX (dt y2 d1.wait) (.an rfl rfl) (.inr (by simp [Lent.ids])) (ae rfl) rfl rfl rfl Kr rfl rfl Sm (.nil _) (.nil _) ?_
       intro x4
       refine fF 7 8 Kr ?_ ?_
       ·refine lr d1.wait (ci r1).1 (b := x4.2) (.lo (x4.2 : Option Nat).toList rfl rfl) (fun g h => .inr (by simp [h])) (ae rfl) rfl rfl rfl rfl rfl rfl rfl und_9 (fun _ _ => Uo) rfl rfl rfl rfl rfl (by omega) fun x5 x5b => ?_
        refine av 8 Kr ?_
        refine bA EByte [10] (.an rfl rfl) (ae rfl) rfl rfl rfl rfl rfl rfl rfl rfl rfl rfl rfl rfl rfl rfl rfl fun x6 x6b => ?_
        refine av 9 Kr ?_
        refine cg EByte (d1.wait ++ (ci r1).1) [10] (b := x5b) (.lo (x5b : Option Nat).toList rfl rfl) (fun g h => .inr (by simp [h])) (ae rfl) rfl rfl rfl rfl rfl rfl rfl (fun _ _ => Uo) rfl rfl rfl rfl rfl rfl rfl (dC (e := 5) (b := x6b) Mm) (by show ((d1.wait ++ (ci r1).1).length + 1) * 1 ≤ 140737488355328; (try simp only [List.length_append, List.length_cons, List.length_nil]); omega) fun x7 x7b => ?_
        refine Ra 10 rfl Qp ?_
        refine av 11 Kr ?_
        refine di (.an rfl rfl) (.inr (by simp)) (ae rfl) rfl rfl rfl rfl rfl rfl rfl rfl rfl Ub rfl ?_
        refine Ra 12 rfl Qp ?_
        refine bj Kr ?_
        refine ⟨⟨x3.1, x3.2, x7, x7b⟩, trivial, Le4⟩
       ·refine bA EByte [10] (.an rfl rfl) (ae rfl) rfl rfl rfl rfl rfl rfl rfl rfl rfl rfl rfl rfl rfl rfl rfl fun x8 x8b => ?_
        refine av 7 Kr ?_
        refine lr d1.wait (ci r1).1 (b := x4.2) (.lo (x4.2 : Option Nat).toList rfl rfl) (fun g h => .inr (by simp [h])) (ae rfl) rfl rfl rfl rfl rfl rfl rfl und_9 (fun _ _ => Uo) rfl rfl rfl rfl rfl (by omega) fun x9 x9b => ?_
        refine av 9 Kr ?_
        refine cg EByte (d1.wait ++ (ci r1).1) [10] (b := x9b) (.lo (x9b : Option Nat).toList rfl rfl) (fun g h => .inr (by simp [h])) (ae rfl) rfl rfl rfl rfl rfl rfl rfl (fun _ _ => Uo) rfl rfl rfl rfl rfl rfl rfl (dC (e := 5) (b := x8b) Mm) (by show ((d1.wait ++ (ci r1).1).length + 1) * 1 ≤ 140737488355328; (try simp only [List.length_append, List.length_cons, List.length_nil]); omega) fun x10 x10b => ?_
        refine Ra 10 rfl Qp ?_
        refine av 11 Kr ?_
        refine di (.an rfl rfl) (.inr (by simp)) (ae rfl) rfl rfl rfl rfl rfl rfl rfl rfl rfl Ub rfl ?_
        refine Ra 12 rfl Qp ?_
        refine bj Kr ?_
        refine ⟨⟨x3.1, x3.2, x10, x10b⟩, trivial, Le4⟩
      ·refine bA EByte [10] (.an rfl rfl) (ae rfl) rfl rfl rfl rfl rfl rfl rfl rfl rfl rfl rfl rfl rfl rfl rfl fun x11 x11b => ?_
       refine av 5 Kr ?_
       refine aX (dt y2 d1.wait) (.an rfl rfl) (.inr (by simp [Lent.ids])) (ae rfl) rfl rfl rfl Kr rfl rfl Sm (.nil _) (.nil _) ?_
       intro x12
       refine av 7 Kr ?_
       refine lr d1.wait (ci r1).1 (b := x12.2) (.lo (x12.2 : Option Nat).toList rfl rfl) (fun g h => .inr (by simp [h])) (ae rfl) rfl rfl rfl rfl rfl rfl rfl und_9 (fun _ _ => Uo) rfl rfl rfl rfl rfl (by omega) fun x13 x13b => ?_
       refine av 9 Kr ?_
       refine cg EByte (d1.wait ++ (ci r1).1) [10] (b := x13b) (.lo (x13b : Option Nat).toList rfl rfl) (fun g h => .inr (by simp [h])) (ae rfl) rfl rfl rfl rfl rfl rfl rfl (fun _ _ => Uo) rfl rfl rfl rfl rfl rfl rfl (dC (e := 5) (b := x11b) Mm) (by show ((d1.wait ++ (ci r1).1).length + 1) * 1 ≤ 140737488355328; (try simp only [List.length_append, List.length_cons, List.length_nil]); omega) fun x14 x14b => ?_
       refine Ra 10 rfl Qp ?_
       refine av 11 Kr ?_
       refine di (.an rfl rfl) (.inr (by simp)) (ae rfl) rfl rfl rfl rfl rfl rfl rfl rfl rfl Ub rfl ?_
       refine Ra 12 rfl Qp ?_
       refine bj Kr ?_
       refine ⟨⟨x3.1, x3.2, x14, x14b⟩, trivial, Le4⟩
     ·refine bA EByte [10] (.an rfl rfl) (ae rfl) rfl rfl rfl rfl rfl rfl rfl rfl rfl rfl rfl rfl rfl rfl rfl fun x15 x15b => ?_
      refine av 2 Kr ?_
      refine aX (dt y1 d1.safe) (.an rfl rfl) (.inr (by simp [Lent.ids])) (ae rfl) rfl rfl rfl Kr rfl rfl Sm (.nil _) (.nil _) ?_
      intro x16
      refine av 5 Kr ?_
      refine aX (dt y2 d1.wait) (.an rfl rfl) (.inr (by simp [Lent.ids])) (ae rfl) rfl rfl rfl Kr rfl rfl Sm (.nil _) (.nil _) ?_
      intro x17
      refine av 7 Kr ?_
      refine lr d1.wait (ci r1).1 (b := x17.2) (.lo (x17.2 : Option Nat).toList rfl rfl) (fun g h => .inr (by simp [h])) (ae rfl) rfl rfl rfl rfl rfl rfl rfl und_9 (fun _ _ => Uo) rfl rfl rfl rfl rfl (by omega) fun x18 x18b => ?_
      refine av 9 Kr ?_
      refine cg EByte (d1.wait ++ (ci r1).1) [10] (b := x18b) (.lo (x18b : Option Nat).toList rfl rfl) (fun g h => .inr (by simp [h])) (ae rfl) rfl rfl rfl rfl rfl rfl rfl (fun _ _ => Uo) rfl rfl rfl rfl rfl rfl rfl (dC (e := 5) (b := x15b) Mm) (by show ((d1.wait ++ (ci r1).1).length + 1) * 1 ≤ 140737488355328; (try simp only [List.length_append, List.length_cons, List.length_nil]); omega) fun x19 x19b => ?_
      refine Ra 10 rfl Qp ?_
      refine av 11 Kr ?_
      refine di (.an rfl rfl) (.inr (by simp)) (ae rfl) rfl rfl rfl rfl rfl rfl rfl rfl rfl Ub rfl ?_
      refine Ra 12 rfl Qp ?_
      refine bj Kr ?_
      refine ⟨⟨x16.1, x16.2, x19, x19b⟩, trivial, Le4⟩
    ·rintro ⟨x1, b1, x2, b2⟩ -
     simp only [List.cons_append, List.nil_append]
     (repeat refine ar ?_)
     refine cw_le (aA EByte 5 x1 b1 d1.safe Uo) ?_
     refine cw_le (aA EByte 5 x2 b2 ((d1.wait ++ (ci r1).1) ++ [10]) Uo) ?_
     refine ak ?_; simp only [dR, hc1, hc2, hc3, Cf]; exact Re ⟨x1, x2⟩ (Va (Vt Vn))
def eT (d1 : Disk) : Disk × Int :=
 (bif ((c8 d1) != 0) then ((⟨[], []⟩ : Disk), (c8 d1)) else (bif ((c8 (⟨([d1.safe, d1.wait].flatten), ([] : List UInt8)⟩ : Disk)) != 0) then ((⟨[], []⟩ : Disk), (c8 (⟨([d1.safe, d1.wait].flatten), ([] : List UInt8)⟩ : Disk))) else ((⟨([d1.safe, d1.wait].flatten), ([] : List UInt8)⟩ : Disk), 0)))
theorem oU (y1 : SlV) (y2 : SlV) (d1 : Disk) : Does Tryz.prog 102 [.agg ⟨[y1.val d1.safe.length, y2.val d1.wait.length]⟩] [RdL EByte y1 d1.safe, RdL EByte y2 d1.wait, LibP Tryz.prog] (fun (X : SlV × SlV) => .tuple #[.agg ⟨[X.1.val (eT d1).1.safe.length, X.2.val (eT d1).1.wait.length]⟩, .int .i64 (eT d1).2]) (fun X => [RdL EByte X.1 (eT d1).1.safe, RdL EByte X.2 (eT d1).1.wait]) := by
 refine bd aV Tryz.func102 rfl Tryz.ntmps102 Tryz.results102 rfl inferInstance (fun _ => inferInstance) fun C => ?_
 refine Pc EByte y1 d1.safe 1 fun hlen1 => ?_
 refine Pc EByte y2 d1.wait 1 fun hlen2 => ?_
 refine Tx ?_
 refine Bx fun g1 => ?_
 refine Al fun g2 => ?_
 refine Tx ?_
 refine Cl (gM y1 y2 d1) fun _ => ?_
 refine Tx ?_
 refine Cd (b := ((c8 d1) != 0)) (fun hc1 => ?_) fun hc1 => ?_
 ·have hc1p := bne_iff_ne.1 hc1
  refine Tx ?_
  refine Fc EByte ?_
  refine ak ?_; simp only [eT, hc1, Cf]; exact Re ⟨(⟨none, 0⟩ : SlV), (⟨none, 0⟩ : SlV)⟩ (Va (Vt Vn))
 ·have hc1p := ag hc1
  have hdl := jb (ag hc1)
  refine Tx ?_
  refine bA NBytes.E [(y1, d1.safe), (y2, d1.wait)] .sq (ae rfl) rfl rfl rfl rfl rfl rfl rfl rfl rfl rfl rfl rfl rfl rfl rfl fun x1 x1b => ?_
  refine rw_le (aA NBytes.E 31 x1 x1b [(y1, d1.safe), (y2, d1.wait)] Uo) ?_
  refine ay (F := RdN NBytes x1 [d1.safe, d1.wait]) [RdL NBytes.E x1 [(y1, d1.safe), (y2, d1.wait)], RdL EByte y1 d1.safe, RdL EByte y2 d1.wait] Sm (fun M w h => RdN.of NBytes (hs := [(y1, d1.safe), (y2, d1.wait)]) rfl (h _ (.head _)) (aP (cL Sm h) (aP (cL Sm h) (fun p hp => by cases hp)))) ?_
  refine Cg (gk x1 [d1.safe, d1.wait] (by simp only [List.flatten_cons, List.flatten_nil, List.length_append, List.length_nil, List.length_take]; omega)) fun x2 => ?_
  refine Rp rfl rfl rfl rfl ?_
  refine Al fun g3 => ?_
  refine Tx ?_
  refine Fr EByte ?_
  refine l6 (gM x2.1 (⟨none, 0⟩ : SlV) (⟨([d1.safe, d1.wait].flatten), ([] : List UInt8)⟩ : Disk)) .sq (ae rfl) rfl rfl rfl Kr rfl rfl (.own Mm (.fact Mm (.fact Mm (.nil _ _)))) ?_
  intro _
  refine Tx ?_
  refine Cd (b := ((c8 (⟨([d1.safe, d1.wait].flatten), ([] : List UInt8)⟩ : Disk)) != 0)) (fun hc2 => ?_) fun hc2 => ?_
  ·have hc2p := bne_iff_ne.1 hc2
   refine Tx ?_
   refine ak ?_; simp only [eT, hc1, hc2, Cf]; exact Re ⟨(⟨none, 0⟩ : SlV), (⟨none, 0⟩ : SlV)⟩ (Va (Vt Vn))
  ·have hc2p := ag hc2
   refine Tx ?_
   refine cw_le (aA EByte 5 x2.1 x2.2 ([d1.safe, d1.wait].flatten) Uo) ?_
   refine ak ?_; simp only [eT, hc1, hc2, Cf]; exact Re ⟨x2.1, (⟨none, 0⟩ : SlV)⟩ (Va (Vt Vn))
def aH (d1 : Disk) : Disk × (List Rec) × Int :=
 (bif ((c8 d1) != 0) then ((⟨[], []⟩ : Disk), ([] : List Rec), (c8 d1)) else ((⟨([d1.safe, (d1.wait.take (aB d1.wait (60 - ((aB d1.safe 60).1.length : Int))).2.1.toNat)].flatten), ([] : List UInt8)⟩ : Disk), ((aB d1.safe 60).1 ++ (aB d1.wait (60 - ((aB d1.safe 60).1.length : Int))).1), 0))
theorem gX (y1 : SlV) (y2 : SlV) (d1 : Disk) : Does Tryz.prog 36 [.agg ⟨[y1.val d1.safe.length, y2.val d1.wait.length]⟩] [RdL EByte y1 d1.safe, RdL EByte y2 d1.wait, LibP Tryz.prog] (fun (X : SlV × SlV × SlV) => .tuple #[.agg ⟨[X.1.val (aH d1).1.safe.length, X.2.1.val (aH d1).1.wait.length]⟩, X.2.2.val (aH d1).2.1.length, .int .i64 (aH d1).2.2]) (fun X => [RdL EByte X.1 (aH d1).1.safe, RdL EByte X.2.1 (aH d1).1.wait, RdN NRec X.2.2 (aH d1).2.1]) := by
 refine bd aV Tryz.func36 rfl Tryz.ntmps36 Tryz.results36 rfl inferInstance (fun _ => inferInstance) fun C => ?_
 refine Pc EByte y1 d1.safe 1 fun hlen1 => ?_
 refine Pc EByte y2 d1.wait 1 fun hlen2 => ?_
 refine Tx ?_
 refine Bx fun g1 => ?_
 refine Al fun g2 => ?_
 refine Tx ?_
 refine Cl (gM y1 y2 d1) fun _ => ?_
 refine Tx ?_
 refine Cd (b := ((c8 d1) != 0)) (fun hc1 => ?_) fun hc1 => ?_
 ·have hc1p := bne_iff_ne.1 hc1
  refine Tx ?_
  refine Fc EByte ?_
  refine dj (F := RdN NRec ⟨none, 0⟩ ([] : List Rec)) [] (.nil _) (fun M w _ => RdN.nil _ M w) ?_
  refine ak ?_; simp only [aH, hc1, Cf]; exact Re ⟨(⟨none, 0⟩ : SlV), (⟨none, 0⟩ : SlV), (⟨none, 0⟩ : SlV)⟩ (Va (Vt (Vt Vn)))
 ·have hc1p := ag hc1
  have hdl := jb (ag hc1)
  refine Tx ?_
  refine rw_q rfl rfl rfl (tR (X := y1) (l := d1.safe) tx und_5 und_9 rfl rfl Zf Mm) ?_
  refine Cg (ja d1.safe 60 Zc) fun x1 => ?_
  have hl1 := mq d1.safe 60
  refine Tx ?_
  refine rw_q rfl rfl rfl (tR (X := y2) (l := d1.wait) tx und_5 und_9 rfl rfl Zf Mm) ?_
  refine Tx ?_
  refine rw_q rfl rfl rfl (q_sub rfl rfl Zf rfl Zf Zo) ?_
  refine Cg (ja d1.wait (60 - ((aB d1.safe 60).1.length : Int)) Zc) fun x2 => ?_
  have hl2 := mq d1.wait (60 - ((aB d1.safe 60).1.length : Int))
  refine Tx ?_
  (repeat refine ar ?_); refine aw (fun j => match j with | 11 => some x1.2.1.toList | 12 => some [g2] | _ => some []) ?_
  refine Rb 0 rfl Qp ?_
  refine Rb 1 rfl Q1 ?_
  refine Rb 2 rfl Qp ?_
  refine Rb 3 rfl Q1 ?_
  refine Rb 4 rfl Qp ?_
  refine Rb 5 rfl (v8 EByte (aB d1.wait (60 - ((aB d1.safe 60).1.length : Int))).2.1.toNat rfl rfl Zf rfl Zf rfl rfl Mm Zo Zo) ?_
  refine ay (F := RdL EByte y2 (d1.wait.take (aB d1.wait (60 - ((aB d1.safe 60).1.length : Int))).2.1.toNat)) [RdL EByte y2 d1.wait] Sm (fun M w h => (allF1 h).take _) ?_
  refine Rb 9 rfl Qp ?_
  refine Rb 10 rfl Qp ?_
  refine av 6 Kr ?_
  refine bA NBytes.E [(y1, d1.safe), (y2, (d1.wait.take (aB d1.wait (60 - ((aB d1.safe 60).1.length : Int))).2.1.toNat))] (.an rfl rfl) (ae rfl) rfl rfl rfl rfl rfl rfl rfl rfl rfl rfl rfl rfl rfl rfl rfl fun x3 x3b => ?_
  refine av 7 Kr ?_
  refine rw_le (aA NBytes.E 31 x3 x3b [(y1, d1.safe), (y2, (d1.wait.take (aB d1.wait (60 - ((aB d1.safe 60).1.length : Int))).2.1.toNat))] Uo) ?_
  refine ay (F := RdN NBytes x3 [d1.safe, (d1.wait.take (aB d1.wait (60 - ((aB d1.safe 60).1.length : Int))).2.1.toNat)]) [RdL NBytes.E x3 [(y1, d1.safe), (y2, (d1.wait.take (aB d1.wait (60 - ((aB d1.safe 60).1.length : Int))).2.1.toNat))], RdL EByte y1 d1.safe, RdL EByte y2 (d1.wait.take (aB d1.wait (60 - ((aB d1.safe 60).1.length : Int))).2.1.toNat)] Sm (fun M w h => RdN.of NBytes (hs := [(y1, d1.safe), (y2, (d1.wait.take (aB d1.wait (60 - ((aB d1.safe 60).1.length : Int))).2.1.toNat))]) rfl (h _ (.head _)) (aP (cL Sm h) (aP (cL Sm h) (fun p hp => by cases hp)))) ?_
  refine aX (gk x3 [d1.safe, (d1.wait.take (aB d1.wait (60 - ((aB d1.safe 60).1.length : Int))).2.1.toNat)] (by simp only [List.flatten_cons, List.flatten_nil, List.length_append, List.length_nil, List.length_take]; omega)) (.an rfl rfl) (.inr (by simp [Lent.ids])) (ae rfl) rfl rfl rfl Kr rfl rfl Sm (.nil _) (.nil _) ?_
  intro x4
  refine ra_q (.an (i := 8) (js := [11]) rfl Kr Kr Kr Kr) (bN.all _) (by intro g hg; simp only [List.mem_append, List.mem_singleton, List.not_mem_nil, or_false, false_or, Option.mem_toList, Option.mem_def, List.append_nil] at hg; first | exact .inr ⟨ownL NRec.E 136 x1.1 x1.2.1 (zipG x1.2.2 0 (aB d1.safe 60).1), Mm, hg⟩) rfl rfl rfl (q_pev rfl Zf) ?_
  refine av 11 Kr ?_
  refine mK NRec x1.2.2 x2.2.2 (aB d1.safe 60).1 (aB d1.wait (60 - ((aB d1.safe 60).1.length : Int))).1 (b := x1.2.1) (.an rfl rfl) (fun g h => .inr (by simp [h])) (ae rfl) rfl rfl rfl rfl rfl rfl rfl (fun _ _ => Uo) rfl rfl rfl rfl rfl rfl rfl (o4 (e := 136) (b := x2.2.1) Mm) (by show ((aB d1.safe 60).1.length + (aB d1.wait (60 - ((aB d1.safe 60).1.length : Int))).1.length) * 104 ≤ 140737488355328; (try simp only [List.length_append, List.length_cons, List.length_nil]); omega) fun x5 x5b => ?_
  refine ay (F := ao NRec (appG x1.2.2 (aB d1.safe 60).1.length x2.2.2) ((aB d1.safe 60).1 ++ (aB d1.wait (60 - ((aB d1.safe 60).1.length : Int))).1)) [ao NRec x1.2.2 (aB d1.safe 60).1, ao NRec x2.2.2 (aB d1.wait (60 - ((aB d1.safe 60).1.length : Int))).1] Sm (fun M w h => ao.app NRec (h _ (.head _)) (h _ (.tail _ (.head _)))) ?_
  refine av 12 Kr ?_
  refine di (.an rfl rfl) (.inr (by simp)) (ae rfl) rfl rfl rfl rfl rfl rfl rfl rfl rfl Ub rfl ?_
  refine Ra 13 rfl Qp ?_
  refine Ra 14 rfl Qp ?_
  refine bj Kr ?_
  (repeat refine ar ?_)
  refine cw_le (aA EByte 5 x4.1 x4.2 ([d1.safe, (d1.wait.take (aB d1.wait (60 - ((aB d1.safe 60).1.length : Int))).2.1.toNat)].flatten) Uo) ?_
  refine Fc EByte ?_
  refine cw_le (aA NRec.E 136 x5 x5b (zipG (appG x1.2.2 (aB d1.safe 60).1.length x2.2.2) 0 ((aB d1.safe 60).1 ++ (aB d1.wait (60 - ((aB d1.safe 60).1.length : Int))).1)) Uo) ?_
  refine dj (F := RdN NRec x5 ((aB d1.safe 60).1 ++ (aB d1.wait (60 - ((aB d1.safe 60).1.length : Int))).1)) [RdG NRec x5 (appG x1.2.2 (aB d1.safe 60).1.length x2.2.2) ((aB d1.safe 60).1 ++ (aB d1.wait (60 - ((aB d1.safe 60).1.length : Int))).1), ao NRec (appG x1.2.2 (aB d1.safe 60).1.length x2.2.2) ((aB d1.safe 60).1 ++ (aB d1.wait (60 - ((aB d1.safe 60).1.length : Int))).1)] Sm (fun M w h => RdN.ofG NRec (h _ (.head _)) (h _ (.tail _ (.head _)))) ?_
  refine ak ?_; simp only [aH, hc1, Cf]; exact Re ⟨x4.1, (⟨none, 0⟩ : SlV), x5⟩ (Va (Vt (Vt Vn)))
def mr (a1 : Disk) (b1 : Disk) : Bool :=
 ((decide (a1.safe = b1.safe)) && (decide (a1.wait = b1.wait)))
theorem oV (y1 : SlV) (y2 : SlV) (a1 : Disk) (y3 : SlV) (y4 : SlV) (b1 : Disk) : Does Tryz.prog 32 [.agg ⟨[y1.val a1.safe.length, y2.val a1.wait.length]⟩, .agg ⟨[y3.val b1.safe.length, y4.val b1.wait.length]⟩] [RdL EByte y1 a1.safe, RdL EByte y2 a1.wait, RdL EByte y3 b1.safe, RdL EByte y4 b1.wait] (fun (_ : Unit) => .bool (mr a1 b1)) (fun _ => []) := by
 refine bd aV Tryz.func32 rfl Tryz.ntmps32 Tryz.results32 rfl inferInstance (fun _ => inferInstance) fun C => ?_
 refine Pc EByte y1 a1.safe 1 fun hlen1 => ?_
 refine Pc EByte y2 a1.wait 1 fun hlen2 => ?_
 refine Pc EByte y3 b1.safe 1 fun hlen3 => ?_
 refine Pc EByte y4 b1.wait 1 fun hlen4 => ?_
 refine Tx ?_
 refine Bx fun g1 => ?_
 refine Bx fun g2 => ?_
 refine Tx ?_
 refine Cl ((fun y1 a y2 b => gz y1 y2 a b) y1 a1.safe y3 b1.safe) fun _ => ?_
 refine Tx ?_
 refine c6 (fun hG_ => (fun y1 a y2 b => gz y1 y2 a b) y2 a1.wait y4 b1.wait) Zf .sq (au rfl rfl rfl) rfl rfl rfl Kr rfl Bt Sm ?_
 refine Tx ?_
 refine ak ?_; simp only [mr, Cf]; exact Re () (Vt Vn)
theorem jA (x : SlV) (l : List (NClient.G × Client)) : DoesG Tryz.prog 52 [x.val l.length] [RdL NClient.E x l] ⟨[], []⟩ (fun (X : SlV × Option Nat) => X.1.val l.length) (fun _ => []) (fun X => ⟨[], [ownL NClient.E 60 X.1 X.2 l]⟩) := by
 refine cF aV Tryz.func52 rfl Tryz.ntmps52 Tryz.results52 rfl inferInstance (fun _ => inferInstance) fun C => ?_
 refine ec (φ := l.length * NClient.E.by_ ≤ 140737488355328) [RdL NClient.E x l] Sm (fun M w h => (allF1 h).len) fun hlen => ?_
 refine Tx ?_
 refine rw_q rfl rfl rfl (ke rfl rfl Zf rfl) ?_
 refine er ?_
 (repeat refine ar ?_); refine jD rfl rfl (fun hc0 => ?_) (fun hc0 => ?_)
 ·refine ec [RdL NClient.E x l] Sm (fun M w h => (allF1 h).nil_of hc0) fun hnil => ?_
  subst hnil
  refine cw_le (fk NClient.E 60) ?_
  refine Tx ?_
  (repeat refine ar ?_); refine ak ?_
  exact ⟨(⟨none, 0⟩, none), _, (.cons (.tmp rfl) .nil), rfl, .nil _, .nil _, Sp⟩
 ·refine Tx ?_
  refine bA NClient.E [] .sq (ae rfl) rfl rfl rfl rfl rfl rfl rfl rfl rfl rfl rfl rfl rfl rfl rfl fun x1 x1b => ?_
  refine Rp rfl rfl rfl rfl ?_
  refine cg NClient.E [] l (b := x1b) .sq (fun _ _ => .inl ⟨_, rfl⟩) (ae rfl) rfl rfl rfl rfl rfl rfl rfl (fun _ _ => Uo) rfl rfl rfl rfl rfl rfl rfl (fE Mm) (by simpa using hlen) fun x2 x2b => ?_
  refine Tx ?_
  (repeat refine ar ?_); refine ak ?_
  exact ⟨(x2, x2b), _, (.cons (.tmp rfl) .nil), rfl, .nil _, .nil _, Sp⟩
theorem jM (x : SlV) (γ : Nat → NClient.G) (l : List Client) : DoesG Tryz.prog 52 [x.val l.length] [RdG NClient x γ l] ⟨[], []⟩ (fun (X : SlV × Option Nat) => X.1.val l.length) (fun _ => []) (fun X => ⟨[], [ownL NClient.E 60 X.1 X.2 (zipG γ 0 l)]⟩) := by
 have := jA x (zipG γ 0 l)
 rw [dA] at this
 exact this
def bL (s2 : List Client) (eq1 : Client → Client → Bool) : List Client → Nat → Bool
 | [], n1 => true
 | pn1 :: rn1, n1 => (bif (!(eq1 pn1 (gt s2 n1))) then false else (bL s2 eq1 rn1 (n1 + 1)))
def cd (s1 : List Client) (s2 : List Client) (eq1 : Client → Client → Bool) : Bool :=
 (bif ((s1.length : Int) != (s2.length : Int)) then false else (bL s2 eq1 s1 0))
theorem iB (y1 : SlV) (s1 : List Client) (y2 : SlV) (s2 : List Client) (f1 : Nat) (caps1 : List Value) (pre1 : List Pred) [StabL pre1] (eq1 : Client → Client → Bool) (hfb1 : tab.fnb f1 = true) (hfn1 : ∀ (z0a_ : SlV) (z0b_ : SlV) (z0c_ : SlV) (z0d_ : SlV) (a0_ : Client) (z1a_ : SlV) (z1b_ : SlV) (z1c_ : SlV) (z1d_ : SlV) (a1_ : Client), Does Tryz.prog f1 ([.agg ⟨[.int .i64 a0_.life, .int .i64 a0_.time, .int .i64 a0_.seq, z0a_.val a0_.pending.length, .int .i64 a0_.version, z0b_.val a0_.v.roots.length, z0c_.val a0_.v.known.length, z0d_.val a0_.v.way.length]⟩, .agg ⟨[.int .i64 a1_.life, .int .i64 a1_.time, .int .i64 a1_.seq, z1a_.val a1_.pending.length, .int .i64 a1_.version, z1b_.val a1_.v.roots.length, z1c_.val a1_.v.known.length, z1d_.val a1_.v.way.length]⟩] ++ caps1) (RdL EOp z0a_ a0_.pending :: RdL EInt z0b_ a0_.v.roots :: RdL EPlace z0c_ a0_.v.known :: RdL EPlace z0d_ a0_.v.way :: RdL EOp z1a_ a1_.pending :: RdL EInt z1b_ a1_.v.roots :: RdL EPlace z1c_ a1_.v.known :: RdL EPlace z1d_ a1_.v.way :: pre1) (fun (_ : Unit) => .bool (eq1 a0_ a1_)) (fun _ => [])) : Does Tryz.prog 33 [y1.val s1.length, y2.val s2.length, .func (.func f1) #[] ⟨caps1⟩] (RdN NClient y1 s1 :: RdN NClient y2 s2 :: pre1) (fun (_ : Unit) => .bool (cd s1 s2 eq1)) (fun _ => []) := by
 refine bd aV Tryz.func33 rfl Tryz.ntmps33 Tryz.results33 rfl inferInstance (fun _ => inferInstance) fun C => ?_
 refine ec (φ := s1.length * 128 ≤ 140737488355328) [RdN NClient y1 s1] Sf (fun M w h => (allF1 h).len) fun hlen1 => ?_
 refine ec (φ := s2.length * 128 ≤ 140737488355328) [RdN NClient y2 s2] Sf (fun M w h => (allF1 h).len) fun hlen2 => ?_
 refine Tx ?_
 refine Cd (b := ((s1.length : Int) != (s2.length : Int))) (fun hc1 => ?_) fun hc1 => ?_
 ·have hc1p := bne_iff_ne.1 hc1
  refine Tx ?_
  have hr1 : (cd s1 s2 eq1) = false := by simp only [cd, hc1, Cf]
  refine ak ?_
  rw [hr1]
  exact ⟨(), _, (.cons (.tmp rfl) .nil), rfl, Sf, .nil _, .nil _⟩
 ·have hc1p := ag hc1
  refine Tx ?_
  (repeat refine ar ?_); refine Lp [1,2,6,15,16] [] (fun (n1 : Nat) => (⟨[(17, .v (.int .i64 (n1 : Int)))], [], [], [], (n1 ≤ s1.length) ∧ (bL s2 eq1 (s1.drop n1) n1) = (cd s1 s2 eq1), s1.length - n1⟩ : Ls)) 0 (Sc (Sc (Sc (Sc (Sc Sn))))) (.nil) ⟨Nat.zero_le _, (by simp only [cd, hc1, Cf] : (cd s1 s2 eq1) = (bL s2 eq1 s1 0)).symm⟩ Le5 ?_
  rintro n1 ⟨hkn1, hf1⟩
  simp only [List.cons_append, List.nil_append]
  refine Tx ?_
  refine Cd (b := decide ((n1 : Int) < (s1.length : Int))) (fun hc2 => ?_) fun hc2 => ?_
  ·have hlt0 : n1 < s1.length := Int.ofNat_lt.1 (of_decide_eq_true hc2)
   refine Tx ?_
   refine eY NClient (X := y1) (l := s1) Mm fun (γ1 : Nat → SlV × SlV × SlV × SlV) => ?_
   refine rw_q rfl rfl rfl (dv NClient γ1 n1 rfl rfl Zf rfl Zf rfl rfl rfl Mm rfl Zf (fun _ => by first | assumption | omega)) ?_
   refine rw_q rfl rfl rfl (q_is (v' := .agg ⟨[.int .i64 (gt s1 n1).life, .int .i64 (gt s1 n1).time, .int .i64 (gt s1 n1).seq, (γ1 n1).1.val (gt s1 n1).pending.length, .int .i64 (gt s1 n1).version, (γ1 n1).2.1.val (gt s1 n1).v.roots.length, (γ1 n1).2.2.1.val (gt s1 n1).v.known.length, (γ1 n1).2.2.2.val (gt s1 n1).v.way.length]⟩) (fK NClient γ1 rfl rfl Zf rfl rfl Mm (fun _ => by first | assumption | omega)) rfl) ?_
   refine ay (F := RdL EOp (γ1 n1).1 (gt s1 n1).pending) [ao NClient γ1 s1] Sf (fun M w h => (allF1 h) n1 Zc _ (.head _)) ?_
   refine ay (F := RdL EInt (γ1 n1).2.1 (gt s1 n1).v.roots) [ao NClient γ1 s1] Sf (fun M w h => (allF1 h) n1 Zc _ (.tail _ (.head _))) ?_
   refine ay (F := RdL EPlace (γ1 n1).2.2.1 (gt s1 n1).v.known) [ao NClient γ1 s1] Sf (fun M w h => (allF1 h) n1 Zc _ (.tail _ (.tail _ (.head _)))) ?_
   refine ay (F := RdL EPlace (γ1 n1).2.2.2 (gt s1 n1).v.way) [ao NClient γ1 s1] Sf (fun M w h => (allF1 h) n1 Zc _ (.tail _ (.tail _ (.tail _ (.head _))))) ?_
   refine Al fun g1 => ?_
   refine Tx ?_
   refine eY NClient (X := y2) (l := s2) Mm fun (γ2 : Nat → SlV × SlV × SlV × SlV) => ?_
   refine rw_q rfl rfl rfl (dv NClient γ2 n1 rfl rfl Zf rfl Zf rfl rfl rfl Mm rfl Zf (fun _ => by first | assumption | omega)) ?_
   refine rw_q rfl rfl rfl (q_is (v' := .agg ⟨[.int .i64 (gt s2 n1).life, .int .i64 (gt s2 n1).time, .int .i64 (gt s2 n1).seq, (γ2 n1).1.val (gt s2 n1).pending.length, .int .i64 (gt s2 n1).version, (γ2 n1).2.1.val (gt s2 n1).v.roots.length, (γ2 n1).2.2.1.val (gt s2 n1).v.known.length, (γ2 n1).2.2.2.val (gt s2 n1).v.way.length]⟩) (fK NClient γ2 rfl rfl Zf rfl rfl Mm (fun _ => by first | assumption | omega)) rfl) ?_
   refine ay (F := RdL EOp (γ2 n1).1 (gt s2 n1).pending) [ao NClient γ2 s2] Sf (fun M w h => (allF1 h) n1 Zc _ (.head _)) ?_
   refine ay (F := RdL EInt (γ2 n1).2.1 (gt s2 n1).v.roots) [ao NClient γ2 s2] Sf (fun M w h => (allF1 h) n1 Zc _ (.tail _ (.head _))) ?_
   refine ay (F := RdL EPlace (γ2 n1).2.2.1 (gt s2 n1).v.known) [ao NClient γ2 s2] Sf (fun M w h => (allF1 h) n1 Zc _ (.tail _ (.tail _ (.head _)))) ?_
   refine ay (F := RdL EPlace (γ2 n1).2.2.2 (gt s2 n1).v.way) [ao NClient γ2 s2] Sf (fun M w h => (allF1 h) n1 Zc _ (.tail _ (.tail _ (.tail _ (.head _))))) ?_
   refine Al fun g2 => ?_
   refine Tx ?_
   refine em (hfn1 (γ1 n1).1 (γ1 n1).2.1 (γ1 n1).2.2.1 (γ1 n1).2.2.2 (gt s1 n1) (γ2 n1).1 (γ2 n1).2.1 (γ2 n1).2.2.1 (γ2 n1).2.2.2 (gt s2 n1)) .sq (ae rfl) rfl rfl rfl rfl rfl (by assumption) rfl rfl rfl Sf ?_
   intro _
   refine Tx ?_
   refine Cd (b := (!(eq1 (gt s1 n1) (gt s2 n1)))) (fun hc3 => ?_) fun hc3 => ?_
   ·refine Tx ?_
    have hr2 : (cd s1 s2 eq1) = false := by rw [← hf1, aI hlt0]; simp only [bL, hc3, Cf]
    refine ak ?_
    rw [hr2]
    exact ⟨(), _, (.cons (.tmp rfl) .nil), rfl, Sf, .nil _, .nil _⟩
   ·refine Tx ?_
    refine rw_q rfl rfl rfl (q_add rfl rfl Zf rfl Zf Zo) ?_
    refine Tx ?_
    refine ⟨(n1 + 1), ⟨hlt0, (by rw [← hf1, aI hlt0]; simp only [bL, hc3, Cf] : (cd s1 s2 eq1) = (bL s2 eq1 (s1.drop (n1 + 1)) (n1 + 1))).symm⟩, (by simp only []; omega), Le5⟩
  ·have hge0 : s1.length ≤ n1 := by have := of_decide_eq_false hc2; omega
   refine Tx ?_
   have hr3 : (cd s1 s2 eq1) = true := by rw [← hf1, List.drop_of_length_le hge0]; simp only [bL, Cf]
   refine ak ?_
   rw [hr3]
   exact ⟨(), _, (.cons (.tmp rfl) .nil), rfl, Sf, .nil _, .nil _⟩
def cy  : Wld :=
 (⟨cq, (⟨[], []⟩ : Disk), true, [(⟨0, 0, 0, ([] : List Op), 0, (⟨[], [], []⟩ : View)⟩ : Client), (⟨0, 0, 0, ([] : List Op), 0, (⟨[], [], []⟩ : View)⟩ : Client), (⟨0, 0, 0, ([] : List Op), 0, (⟨[], [], []⟩ : View)⟩ : Client)], ([] : List Mail)⟩ : Wld)
theorem oP  : Does Tryz.prog 28 [] [] (fun (X : SlV × SlV × SlV × SlV × SlV × SlV × SlV) => .agg ⟨[X.1.val cy.h.h.l.length, X.2.1.val cy.h.h.t.length, .int .i64 cy.h.version, X.2.2.1.val cy.h.peers.length, X.2.2.2.1.val cy.d.safe.length, X.2.2.2.2.1.val cy.d.wait.length, .bool cy.up, X.2.2.2.2.2.1.val cy.c.length, X.2.2.2.2.2.2.val cy.mail.length]⟩) (fun X => [RdL EStep X.1 cy.h.h.l, RdL EPlace X.2.1 cy.h.h.t, RdN NPeer X.2.2.1 cy.h.peers, RdL EByte X.2.2.2.1 cy.d.safe, RdL EByte X.2.2.2.2.1 cy.d.wait, RdN NClient X.2.2.2.2.2.1 cy.c, RdN NMail X.2.2.2.2.2.2 cy.mail]) := by
 refine bd aV Tryz.func28 rfl Tryz.ntmps28 Tryz.results28 rfl inferInstance (fun _ => inferInstance) fun C => ?_
 refine Tx ?_
 refine Al fun g1 => ?_
 refine Tx ?_
 refine ge [0] [false] (fun (i_ : SlV × SlV × SlV × SlV × Option Nat) => match i_ with | ⟨x1, x2, x3, x4, b1⟩ => []) (fun (i_ : SlV × SlV × SlV × SlV × Option Nat) => match i_ with | ⟨x1, x2, x3, x4, b1⟩ => [⟨g1, 37, [x1.val cq.h.l.length, x2.val cq.h.t.length, .int .i64 cq.version, x3.val cq.peers.length, .slice none 0 0, .slice none 0 0, .bool true, x4.val [(⟨0, 0, 0, ([] : List Op), 0, (⟨[], [], []⟩ : View)⟩ : Client), (⟨0, 0, 0, ([] : List Op), 0, (⟨[], [], []⟩ : View)⟩ : Client), (⟨0, 0, 0, ([] : List Op), 0, (⟨[], [], []⟩ : View)⟩ : Client)].length, .slice none 0 0]⟩]) (fun (i_ : SlV × SlV × SlV × SlV × Option Nat) => match i_ with | ⟨x1, x2, x3, x4, b1⟩ => [ownL NClient.E 60 x4 b1 (zipG (fun _ => ((⟨none, 0⟩ : SlV), (⟨none, 0⟩ : SlV), (⟨none, 0⟩ : SlV), (⟨none, 0⟩ : SlV))) 0 [(⟨0, 0, 0, ([] : List Op), 0, (⟨[], [], []⟩ : View)⟩ : Client), (⟨0, 0, 0, ([] : List Op), 0, (⟨[], [], []⟩ : View)⟩ : Client), (⟨0, 0, 0, ([] : List Op), 0, (⟨[], [], []⟩ : View)⟩ : Client)])]) (fun (i_ : SlV × SlV × SlV × SlV × Option Nat) => match i_ with | ⟨x1, x2, x3, x4, b1⟩ => [RdL EStep x1 cq.h.l, RdL EPlace x2 cq.h.t, RdN NPeer x3 cq.peers, ao NClient (fun _ => ((⟨none, 0⟩ : SlV), (⟨none, 0⟩ : SlV), (⟨none, 0⟩ : SlV), (⟨none, 0⟩ : SlV))) [(⟨0, 0, 0, ([] : List Op), 0, (⟨[], [], []⟩ : View)⟩ : Client), (⟨0, 0, 0, ([] : List Op), 0, (⟨[], [], []⟩ : View)⟩ : Client), (⟨0, 0, 0, ([] : List Op), 0, (⟨[], [], []⟩ : View)⟩ : Client)]]) (fun _ => True) (.cons rfl (.nil _)) (.drop (.nil)) ?_ ?_
 ·refine aw (fun j => match j with | 3 => some [g1] | _ => some []) ?_
  refine fF 0 1 Kr ?_ ?_
  ·refine cR (jn ) (.an rfl rfl) (ae rfl) rfl rfl rfl Kr rfl rfl Sm ?_
   intro x5
   refine Pr EStep x5.1 cq.h.l 88 fun hlen1 => ?_
   refine Pr EPlace x5.2.1 cq.h.t 24 fun hlen2 => ?_
   refine Pm NPeer x5.2.2 cq.peers 40 fun hlen3 => ?_
   refine av 1 Kr ?_
   refine lP NClient.E (zipG (fun _ => ((⟨none, 0⟩ : SlV), (⟨none, 0⟩ : SlV), (⟨none, 0⟩ : SlV), (⟨none, 0⟩ : SlV))) 0 [(⟨0, 0, 0, ([] : List Op), 0, (⟨[], [], []⟩ : View)⟩ : Client), (⟨0, 0, 0, ([] : List Op), 0, (⟨[], [], []⟩ : View)⟩ : Client), (⟨0, 0, 0, ([] : List Op), 0, (⟨[], [], []⟩ : View)⟩ : Client)]) (.an rfl rfl) (ae rfl) rfl rfl rfl rfl rfl rfl rfl rfl rfl rfl rfl rfl rfl rfl rfl rfl rfl fun x6 x6b => ?_
   refine Fr EOp ?_
   refine Fr EInt ?_
   refine Fr EPlace ?_
   refine ay (F := ao NClient (fun _ => ((⟨none, 0⟩ : SlV), (⟨none, 0⟩ : SlV), (⟨none, 0⟩ : SlV), (⟨none, 0⟩ : SlV))) [(⟨0, 0, 0, ([] : List Op), 0, (⟨[], [], []⟩ : View)⟩ : Client), (⟨0, 0, 0, ([] : List Op), 0, (⟨[], [], []⟩ : View)⟩ : Client), (⟨0, 0, 0, ([] : List Op), 0, (⟨[], [], []⟩ : View)⟩ : Client)]) [RdL EOp (⟨none, 0⟩ : SlV) ([] : List Op), RdL EInt (⟨none, 0⟩ : SlV) ([] : List Int), RdL EPlace (⟨none, 0⟩ : SlV) ([] : List Place), RdL EPlace (⟨none, 0⟩ : SlV) ([] : List Place)] Sm (fun M w h => ao.const NClient (by intro a ha; simp only [List.mem_cons, List.not_mem_nil, or_false, or_self] at ha; subst ha; exact cL Sm h)) ?_
   refine Ra 2 rfl Qp ?_
   refine av 3 Kr ?_
   refine di (.an rfl rfl) (.inr (by simp)) (ae rfl) rfl rfl rfl rfl rfl rfl rfl rfl rfl Ub rfl ?_
   refine bj Kr ?_
   refine ⟨⟨x5.1, x5.2.1, x5.2.2, x6, x6b⟩, trivial, Le4⟩
  ·refine lP NClient.E (zipG (fun _ => ((⟨none, 0⟩ : SlV), (⟨none, 0⟩ : SlV), (⟨none, 0⟩ : SlV), (⟨none, 0⟩ : SlV))) 0 [(⟨0, 0, 0, ([] : List Op), 0, (⟨[], [], []⟩ : View)⟩ : Client), (⟨0, 0, 0, ([] : List Op), 0, (⟨[], [], []⟩ : View)⟩ : Client), (⟨0, 0, 0, ([] : List Op), 0, (⟨[], [], []⟩ : View)⟩ : Client)]) (.an rfl rfl) (ae rfl) rfl rfl rfl rfl rfl rfl rfl rfl rfl rfl rfl rfl rfl rfl rfl rfl rfl fun x7 x7b => ?_
   refine Fr EOp ?_
   refine Fr EInt ?_
   refine Fr EPlace ?_
   refine ay (F := ao NClient (fun _ => ((⟨none, 0⟩ : SlV), (⟨none, 0⟩ : SlV), (⟨none, 0⟩ : SlV), (⟨none, 0⟩ : SlV))) [(⟨0, 0, 0, ([] : List Op), 0, (⟨[], [], []⟩ : View)⟩ : Client), (⟨0, 0, 0, ([] : List Op), 0, (⟨[], [], []⟩ : View)⟩ : Client), (⟨0, 0, 0, ([] : List Op), 0, (⟨[], [], []⟩ : View)⟩ : Client)]) [RdL EOp (⟨none, 0⟩ : SlV) ([] : List Op), RdL EInt (⟨none, 0⟩ : SlV) ([] : List Int), RdL EPlace (⟨none, 0⟩ : SlV) ([] : List Place), RdL EPlace (⟨none, 0⟩ : SlV) ([] : List Place)] Sm (fun M w h => ao.const NClient (by intro a ha; simp only [List.mem_cons, List.not_mem_nil, or_false, or_self] at ha; subst ha; exact cL Sm h)) ?_
   refine av 0 Kr ?_
   refine cR (jn ) (.an rfl rfl) (ae rfl) rfl rfl rfl Kr rfl rfl Sm ?_
   intro x8
   refine Pr EStep x8.1 cq.h.l 88 fun hlen4 => ?_
   refine Pr EPlace x8.2.1 cq.h.t 24 fun hlen5 => ?_
   refine Pm NPeer x8.2.2 cq.peers 40 fun hlen6 => ?_
   refine Ra 2 rfl Qp ?_
   refine av 3 Kr ?_
   refine di (.an rfl rfl) (.inr (by simp)) (ae rfl) rfl rfl rfl rfl rfl rfl rfl rfl rfl Ub rfl ?_
   refine bj Kr ?_
   refine ⟨⟨x8.1, x8.2.1, x8.2.2, x7, x7b⟩, trivial, Le4⟩
 ·rintro ⟨x1, x2, x3, x4, b1⟩ -
  simp only [List.cons_append, List.nil_append]
  (repeat refine ar ?_)
  refine Fc EByte ?_
  refine cw_le (aA NClient.E 60 x4 b1 (zipG (fun _ => ((⟨none, 0⟩ : SlV), (⟨none, 0⟩ : SlV), (⟨none, 0⟩ : SlV), (⟨none, 0⟩ : SlV))) 0 [(⟨0, 0, 0, ([] : List Op), 0, (⟨[], [], []⟩ : View)⟩ : Client), (⟨0, 0, 0, ([] : List Op), 0, (⟨[], [], []⟩ : View)⟩ : Client), (⟨0, 0, 0, ([] : List Op), 0, (⟨[], [], []⟩ : View)⟩ : Client)]) Uo) ?_
  refine dj (F := RdN NClient x4 [(⟨0, 0, 0, ([] : List Op), 0, (⟨[], [], []⟩ : View)⟩ : Client), (⟨0, 0, 0, ([] : List Op), 0, (⟨[], [], []⟩ : View)⟩ : Client), (⟨0, 0, 0, ([] : List Op), 0, (⟨[], [], []⟩ : View)⟩ : Client)]) [RdG NClient x4 (fun _ => ((⟨none, 0⟩ : SlV), (⟨none, 0⟩ : SlV), (⟨none, 0⟩ : SlV), (⟨none, 0⟩ : SlV))) [(⟨0, 0, 0, ([] : List Op), 0, (⟨[], [], []⟩ : View)⟩ : Client), (⟨0, 0, 0, ([] : List Op), 0, (⟨[], [], []⟩ : View)⟩ : Client), (⟨0, 0, 0, ([] : List Op), 0, (⟨[], [], []⟩ : View)⟩ : Client)], ao NClient (fun _ => ((⟨none, 0⟩ : SlV), (⟨none, 0⟩ : SlV), (⟨none, 0⟩ : SlV), (⟨none, 0⟩ : SlV))) [(⟨0, 0, 0, ([] : List Op), 0, (⟨[], [], []⟩ : View)⟩ : Client), (⟨0, 0, 0, ([] : List Op), 0, (⟨[], [], []⟩ : View)⟩ : Client), (⟨0, 0, 0, ([] : List Op), 0, (⟨[], [], []⟩ : View)⟩ : Client)]] Sm (fun M w h => RdN.ofG NClient (h _ (.head _)) (h _ (.tail _ (.head _)))) ?_
  refine dj (F := RdN NMail ⟨none, 0⟩ ([] : List Mail)) [] (.nil _) (fun M w _ => RdN.nil _ M w) ?_
  refine ak ?_; simp only [cy, Cf]; exact Re ⟨x1, x2, x3, (⟨none, 0⟩ : SlV), (⟨none, 0⟩ : SlV), x4, (⟨none, 0⟩ : SlV)⟩ (Va Vn)
def fS (a1 : Wld) (b1 : Wld) : Bool :=
 (((((a1.up == b1.up) && (fv a1.h b1.h)) && (mr a1.d b1.d)) && (cd a1.c b1.c eW)) && (gY a1.mail b1.mail))
theorem iM (y1 : SlV) (y2 : SlV) (y3 : SlV) (y4 : SlV) (y5 : SlV) (y6 : SlV) (y7 : SlV) (a1 : Wld) (y8 : SlV) (y9 : SlV) (y10 : SlV) (y11 : SlV) (y12 : SlV) (y13 : SlV) (y14 : SlV) (b1 : Wld) : Does Tryz.prog 11 [.agg ⟨[y1.val a1.h.h.l.length, y2.val a1.h.h.t.length, .int .i64 a1.h.version, y3.val a1.h.peers.length, y4.val a1.d.safe.length, y5.val a1.d.wait.length, .bool a1.up, y6.val a1.c.length, y7.val a1.mail.length]⟩, .agg ⟨[y8.val b1.h.h.l.length, y9.val b1.h.h.t.length, .int .i64 b1.h.version, y10.val b1.h.peers.length, y11.val b1.d.safe.length, y12.val b1.d.wait.length, .bool b1.up, y13.val b1.c.length, y14.val b1.mail.length]⟩] [RdL EStep y1 a1.h.h.l, RdL EPlace y2 a1.h.h.t, RdN NPeer y3 a1.h.peers, RdL EByte y4 a1.d.safe, RdL EByte y5 a1.d.wait, RdN NClient y6 a1.c, RdN NMail y7 a1.mail, RdL EStep y8 b1.h.h.l, RdL EPlace y9 b1.h.h.t, RdN NPeer y10 b1.h.peers, RdL EByte y11 b1.d.safe, RdL EByte y12 b1.d.wait, RdN NClient y13 b1.c, RdN NMail y14 b1.mail] (fun (_ : Unit) => .bool (fS a1 b1)) (fun _ => []) := by
 refine bd aV Tryz.func11 rfl Tryz.ntmps11 Tryz.results11 rfl inferInstance (fun _ => inferInstance) fun C => ?_
 refine Pc EStep y1 a1.h.h.l 88 fun hlen1 => ?_
 refine Pc EPlace y2 a1.h.h.t 24 fun hlen2 => ?_
 refine Pn NPeer y3 a1.h.peers 40 fun hlen3 => ?_
 refine Pc EByte y4 a1.d.safe 1 fun hlen4 => ?_
 refine Pc EByte y5 a1.d.wait 1 fun hlen5 => ?_
 refine Pn NClient y6 a1.c 128 fun hlen6 => ?_
 refine Pn NMail y7 a1.mail 280 fun hlen7 => ?_
 refine Pc EStep y8 b1.h.h.l 88 fun hlen8 => ?_
 refine Pc EPlace y9 b1.h.h.t 24 fun hlen9 => ?_
 refine Pn NPeer y10 b1.h.peers 40 fun hlen10 => ?_
 refine Pc EByte y11 b1.d.safe 1 fun hlen11 => ?_
 refine Pc EByte y12 b1.d.wait 1 fun hlen12 => ?_
 refine Pn NClient y13 b1.c 128 fun hlen13 => ?_
 refine Pn NMail y14 b1.mail 280 fun hlen14 => ?_
 refine Tx ?_
 refine Bx fun g1 => ?_
 refine Bx fun g2 => ?_
 refine Tx ?_
 refine rw_q rfl rfl rfl (q_eqb und_4 rfl rfl Zf rfl Zf) ?_
 refine Tx ?_
 refine c6 (fun hG_ => iI y1 y2 y3 a1.h y8 y9 y10 b1.h) Zf .sq (au rfl rfl rfl) rfl rfl rfl Kr rfl Bt Sm ?_
 refine Tx ?_
 refine c6 (fun hG_ => oV y4 y5 a1.d y11 y12 b1.d) Zf .sq (au rfl rfl rfl) rfl rfl rfl Kr rfl Bt Sm ?_
 refine Tx ?_
 refine c6 (fun hG_ => iB y6 a1.c y13 b1.c _ _ _ eW Kr (fun z0a_ z0b_ z0c_ z0d_ a0_ z1a_ z1b_ z1c_ z1d_ a1_ => kF z0a_ z0b_ z0c_ z0d_ a0_ z1a_ z1b_ z1c_ z1d_ a1_)) Zf .sq (au rfl rfl rfl) rfl rfl rfl Kr rfl Bt Sm ?_
 refine Tx ?_
 refine c6 (fun hG_ => jX y7 a1.mail y14 b1.mail) Zf .sq (au rfl rfl rfl) rfl rfl rfl Kr rfl Bt Sm ?_
 refine Tx ?_
 refine ak ?_; simp only [fS, Cf]; exact Re () (Vt Vn)
def eH (w1 : Wld) : List Client → Nat → (List Client) → Wld
 | [], n1, l1 => (⟨w1.h, w1.d, w1.up, l1, w1.mail⟩ : Wld)
 | pn1 :: rn1, n1, l1 => (eH w1 rn1 (n1 + 1) (l1.set n1 (gt l1 n1)))
def dl (w1 : Wld) : Wld :=
 (eH w1 w1.c 0 w1.c)
theorem nD (y1 : SlV) (y2 : SlV) (y3 : SlV) (y4 : SlV) (y5 : SlV) (y6 : SlV) (y7 : SlV) (w1 : Wld) : DoesG Tryz.prog 25 [.agg ⟨[y1.val w1.h.h.l.length, y2.val w1.h.h.t.length, .int .i64 w1.h.version, y3.val w1.h.peers.length, y4.val w1.d.safe.length, y5.val w1.d.wait.length, .bool w1.up, y6.val w1.c.length, y7.val w1.mail.length]⟩] [RdL EStep y1 w1.h.h.l, RdL EPlace y2 w1.h.h.t, RdN NPeer y3 w1.h.peers, RdL EByte y4 w1.d.safe, RdL EByte y5 w1.d.wait, RdN NClient y6 w1.c, RdN NMail y7 w1.mail] ⟨[], []⟩ (fun (X : SlV × SlV × SlV × SlV × SlV × SlV × Option Nat × (Nat → SlV × SlV × SlV × SlV) × SlV) => .agg ⟨[X.1.val (dl w1).h.h.l.length, X.2.1.val (dl w1).h.h.t.length, .int .i64 (dl w1).h.version, X.2.2.1.val (dl w1).h.peers.length, X.2.2.2.1.val (dl w1).d.safe.length, X.2.2.2.2.1.val (dl w1).d.wait.length, .bool (dl w1).up, X.2.2.2.2.2.1.val (dl w1).c.length, X.2.2.2.2.2.2.2.2.val (dl w1).mail.length]⟩) (fun X => [RdL EStep X.1 (dl w1).h.h.l, RdL EPlace X.2.1 (dl w1).h.h.t, RdN NPeer X.2.2.1 (dl w1).h.peers, RdL EByte X.2.2.2.1 (dl w1).d.safe, RdL EByte X.2.2.2.2.1 (dl w1).d.wait, RdN NMail X.2.2.2.2.2.2.2.2 (dl w1).mail, ao NClient X.2.2.2.2.2.2.2.1 (dl w1).c]) (fun X => ⟨[], [ownL NClient.E 60 X.2.2.2.2.2.1 X.2.2.2.2.2.2.1 (zipG X.2.2.2.2.2.2.2.1 0 (dl w1).c)]⟩) := by
 refine cF aV Tryz.func25 rfl Tryz.ntmps25 Tryz.results25 rfl inferInstance (fun _ => inferInstance) fun C => ?_
 refine Pc EStep y1 w1.h.h.l 88 fun hlen1 => ?_
 refine Pc EPlace y2 w1.h.h.t 24 fun hlen2 => ?_
 refine Pn NPeer y3 w1.h.peers 40 fun hlen3 => ?_
 refine Pc EByte y4 w1.d.safe 1 fun hlen4 => ?_
 refine Pc EByte y5 w1.d.wait 1 fun hlen5 => ?_
 refine Pn NClient y6 w1.c 128 fun hlen6 => ?_
 refine Pn NMail y7 w1.mail 280 fun hlen7 => ?_
 refine Tx ?_
 refine Bx fun g1 => ?_
 refine Al fun g2 => ?_
 refine er ?_
 (repeat refine ar ?_); refine aw (fun j => match j with | 10 => some [g1] | 12 => some [g1] | 14 => some [g1] | _ => some []) ?_
 refine Rb 0 rfl Qp ?_
 refine Rb 1 rfl (q_ldP rfl rfl Zf rfl Mm rfl) ?_
 refine Rb 3 rfl Qp ?_
 refine Rb 4 rfl Q1 ?_
 refine Rb 6 rfl Qp ?_
 refine Ra 7 rfl Q1 ?_
 refine av 2 Kr ?_
 refine aX (lI y1 y2 y3 w1.h) (.an rfl rfl) (.inr (by simp [Lent.ids])) (ae rfl) rfl rfl rfl Kr rfl rfl Sm (.nil _) (.nil _) ?_
 intro x1
 refine Pr EStep x1.1 w1.h.h.l 88 fun hlen8 => ?_
 refine Pr EPlace x1.2.1 w1.h.h.t 24 fun hlen9 => ?_
 refine Ra 9 rfl Qp ?_
 refine av 5 Kr ?_
 refine eY NClient (X := y6) (l := w1.c) Mm fun (γ1 : Nat → SlV × SlV × SlV × SlV) => ?_
 refine aX (jM y6 γ1 w1.c) (.an rfl rfl) (.inr (by simp [Lent.ids])) (ae rfl) rfl rfl rfl Kr rfl rfl Sm (.nil _) (.nil _) ?_
 intro x2
 refine av 8 Kr ?_
 refine aX (gZ y7 w1.mail) (.an rfl rfl) (.inr (by simp [Lent.ids])) (ae rfl) rfl rfl rfl Kr rfl rfl Sm (.nil _) (.nil _) ?_
 intro x3
 refine av 10 Kr ?_
 refine fo (.an rfl rfl) (.inr (by simp)) (ae rfl) rfl rfl rfl rfl rfl rfl rfl rfl rfl Ub rfl ?_
 refine Ra 11 rfl Qp ?_
 refine av 12 Kr ?_
 refine eS (.an rfl rfl) (.inr (by simp)) (ae rfl) rfl rfl rfl rfl rfl rfl rfl rfl rfl Ub rfl ?_
 refine Ra 13 rfl Qp ?_
 refine av 14 Kr ?_
 refine eS (.an rfl rfl) (.inr (by simp)) (ae rfl) rfl rfl rfl rfl rfl rfl rfl rfl rfl Ub rfl ?_
 refine bj Kr ?_
 (repeat refine ar ?_); refine aw (fun j => match j with | 10 => some [g1] | _ => some []) ?_
 refine Rb 0 rfl Qp ?_
 refine Rb 1 rfl Qp ?_
 refine Rb 2 rfl Q1 ?_
 refine Rb 4 rfl Qp ?_
 refine Rb 5 rfl Qp ?_
 refine Rb 6 rfl Q1 ?_
 refine av 3 Kr ?_
 refine aX (dt y4 w1.d.safe) (.an rfl rfl) (.inr (by simp [Lent.ids])) (ae rfl) rfl rfl rfl Kr rfl rfl Sm (.nil _) (.nil _) ?_
 intro x4
 refine av 7 Kr ?_
 refine aX (dt y5 w1.d.wait) (.an rfl rfl) (.inr (by simp [Lent.ids])) (ae rfl) rfl rfl rfl Kr rfl rfl Sm (.nil _) (.nil _) ?_
 intro x5
 refine Ra 8 rfl Qp ?_
 refine Ra 9 rfl Qp ?_
 refine av 10 Kr ?_
 refine fo (.an rfl rfl) (.inr (by simp)) (ae rfl) rfl rfl rfl rfl rfl rfl rfl rfl rfl Ub rfl ?_
 refine bj Kr ?_
 refine Tx ?_
 (repeat refine ar ?_); refine Lp [1,2,29] [true, false] (fun (i_ : List Client × (Nat → SlV × SlV × SlV × SlV) × Nat) => match i_ with | ⟨l1, γ2, n1⟩ => (⟨[(28, .v (x2.1.val l1.length)), (30, .v (.int .i64 (n1 : Int)))], [⟨g1, 37, [x1.1.val w1.h.h.l.length, x1.2.1.val w1.h.h.t.length, .int .i64 w1.h.version, x1.2.2.1.val w1.h.peers.length, x4.1.val w1.d.safe.length, x5.1.val w1.d.wait.length, .bool w1.up, x2.1.val l1.length, x3.1.val w1.mail.length]⟩], [ownL NClient.E 60 x2.1 x2.2 (zipG γ2 0 l1), ownL NPeer.E 111 x1.2.2.1 x1.2.2.2.1 (zipG x1.2.2.2.2 0 w1.h.peers), ownL EByte 5 x4.1 x4.2 w1.d.safe, ownL EByte 5 x5.1 x5.2 w1.d.wait, ownL NMail.E 69 x3.1 x3.2.1 (zipG x3.2.2 0 w1.mail)], [ao NClient γ2 l1], (n1 ≤ w1.c.length) ∧ (l1.length = w1.c.length) ∧ (eH w1 (w1.c.drop n1) n1 l1) = (dl w1), w1.c.length - n1⟩ : Ls)) ⟨w1.c, γ1, 0⟩ (Sc (Sc (Sc Sn))) (.keep (.drop (.nil))) ⟨Nat.zero_le _, rfl, (by simp only [dl, Cf] : (dl w1) = (eH w1 w1.c 0 w1.c)).symm⟩ Le4 ?_
 rintro ⟨l1, γ2, n1⟩ ⟨hkn1, hll, hf1⟩
 simp only [List.cons_append, List.nil_append]
 refine Tx ?_
 refine Cd (b := decide ((n1 : Int) < (w1.c.length : Int))) (fun hc1 => ?_) fun hc1 => ?_
 ·have hlt0 : n1 < w1.c.length := Int.ofNat_lt.1 (of_decide_eq_true hc1)
  refine Tx ?_
  refine rw_qO NClient.E (e := 60) (X := x2.1) (b := x2.2) (l := zipG γ2 0 l1) Mm .sq rfl rfl rfl (dv NClient γ2 n1 rfl rfl Zf rfl Zf rfl rfl rfl (.head _) rfl Zf Za) ?_
  refine rw_qO NClient.E (e := 60) (X := x2.1) (b := x2.2) (l := zipG γ2 0 l1) Mm .sq rfl rfl rfl (q_is (v' := .agg ⟨[.int .i64 (gt l1 n1).life, .int .i64 (gt l1 n1).time, .int .i64 (gt l1 n1).seq, (γ2 n1).1.val (gt l1 n1).pending.length, .int .i64 (gt l1 n1).version, (γ2 n1).2.1.val (gt l1 n1).v.roots.length, (γ2 n1).2.2.1.val (gt l1 n1).v.known.length, (γ2 n1).2.2.2.val (gt l1 n1).v.way.length]⟩) (fK NClient γ2 rfl rfl Zf rfl rfl (.head _) Za) rfl) ?_
  refine ay (F := RdL EOp (γ2 n1).1 (gt l1 n1).pending) [ao NClient γ2 l1] Sm (fun M w h => (allF1 h) n1 Zc _ (.head _)) ?_
  refine ay (F := RdL EInt (γ2 n1).2.1 (gt l1 n1).v.roots) [ao NClient γ2 l1] Sm (fun M w h => (allF1 h) n1 Zc _ (.tail _ (.head _))) ?_
  refine ay (F := RdL EPlace (γ2 n1).2.2.1 (gt l1 n1).v.known) [ao NClient γ2 l1] Sm (fun M w h => (allF1 h) n1 Zc _ (.tail _ (.tail _ (.head _)))) ?_
  refine ay (F := RdL EPlace (γ2 n1).2.2.2 (gt l1 n1).v.way) [ao NClient γ2 l1] Sm (fun M w h => (allF1 h) n1 Zc _ (.tail _ (.tail _ (.tail _ (.head _))))) ?_
  refine Al fun g3 => ?_
  refine Tx ?_
  (repeat refine ar ?_); refine aw (fun j => match j with | 6 => some x2.2.toList | _ => some []) ?_
  refine Ra 0 rfl Qp ?_
  refine Ra 1 rfl Q1 ?_
  refine Ra 2 rfl Qp ?_
  refine Ra 3 rfl (q_ldA rfl rfl Zf rfl Mm rfl) ?_
  refine av 4 Kr ?_
  refine aX (ir (γ2 n1).1 (γ2 n1).2.1 (γ2 n1).2.2.1 (γ2 n1).2.2.2 (gt l1 n1)) (.an rfl rfl) (.inr (by simp [Lent.ids])) (ae rfl) rfl rfl rfl Kr rfl rfl Sm (.nil _) (.nil _) ?_
  intro x8
  refine Pr EInt x8.2.2.1 (gt l1 n1).v.roots 8 fun hlen10 => ?_
  refine Pr EPlace x8.2.2.2.1 (gt l1 n1).v.known 24 fun hlen11 => ?_
  refine Pr EPlace x8.2.2.2.2 (gt l1 n1).v.way 24 fun hlen12 => ?_
  refine rw_qO NClient.E (e := 60) (X := x2.1) (b := x2.2) (l := zipG γ2 0 l1) Mm (.an (i := 5) (js := []) rfl Kr Kr Kr Kr) rfl rfl rfl (dv NClient γ2 n1 rfl rfl Zf rfl Zf rfl rfl rfl (.head _) rfl Zf Za) ?_
  refine av 6 Kr ?_
  refine rw_le (aA EOp 65 x8.1 x8.2.1 (gt l1 n1).pending Uo) ?_
  refine gH NClient γ2 l1 n1 0 (x8.1, x8.2.2.1, x8.2.2.2.1, x8.2.2.2.2) (gt l1 n1) (e := 60) (X := x2.1) (b := x2.2) (.an rfl rfl) (.inr (fun g h => by simp [h])) (ae rfl) rfl rfl rfl rfl rfl rfl rfl rfl rfl rfl rfl Zb rfl Uo ?_
  refine ay (F := ao NClient (updG γ2 n1 (x8.1, x8.2.2.1, x8.2.2.2.1, x8.2.2.2.2)) (l1.set n1 (gt l1 n1))) [ao NClient γ2 l1, RdL EOp x8.1 (gt l1 n1).pending, RdL EInt x8.2.2.1 (gt l1 n1).v.roots, RdL EPlace x8.2.2.2.1 (gt l1 n1).v.known, RdL EPlace x8.2.2.2.2 (gt l1 n1).v.way] Sm (fun M w h => ao.upd NClient (h _ (.head _)) (cL Sm h)) ?_
  have hv1 : x2.1.val l1.length = x2.1.val (l1.set n1 (gt l1 n1)).length := congrArg (SlV.val x2.1) List.length_set.symm
  try rw [hv1]
  refine bj Kr ?_
  refine Tx ?_
  refine rw_q rfl rfl rfl (q_add rfl rfl Zf rfl Zf Zo) ?_
  refine Tx ?_
  refine ⟨⟨(l1.set n1 (gt l1 n1)), (updG γ2 n1 (x8.1, x8.2.2.1, x8.2.2.2.1, x8.2.2.2.2)), (n1 + 1)⟩, ⟨hlt0, (by (try simp only [List.length_set]); omega), (by rw [← hf1, aI hlt0]; simp only [eH, Cf] : (dl w1) = (eH w1 (w1.c.drop (n1 + 1)) (n1 + 1) (l1.set n1 (gt l1 n1)))).symm⟩, (by simp only []; omega), Le4⟩
 ·have hge0 : w1.c.length ≤ n1 := by have := of_decide_eq_false hc1; omega
  refine Tx ?_
  refine cw_le (aA NPeer.E 111 x1.2.2.1 x1.2.2.2.1 (zipG x1.2.2.2.2 0 w1.h.peers) Uo) ?_
  refine dj (F := RdN NPeer x1.2.2.1 w1.h.peers) [RdG NPeer x1.2.2.1 x1.2.2.2.2 w1.h.peers, ao NPeer x1.2.2.2.2 w1.h.peers] Sm (fun M w h => RdN.ofG NPeer (h _ (.head _)) (h _ (.tail _ (.head _)))) ?_
  refine cw_le (aA EByte 5 x4.1 x4.2 w1.d.safe Uo) ?_
  refine cw_le (aA EByte 5 x5.1 x5.2 w1.d.wait Uo) ?_
  refine cw_le (aA NMail.E 69 x3.1 x3.2.1 (zipG x3.2.2 0 w1.mail) Uo) ?_
  refine dj (F := RdN NMail x3.1 w1.mail) [RdG NMail x3.1 x3.2.2 w1.mail, ao NMail x3.2.2 w1.mail] Sm (fun M w h => RdN.ofG NMail (h _ (.head _)) (h _ (.tail _ (.head _)))) ?_
  refine ak ?_; rw [show (dl w1) = (⟨w1.h, w1.d, w1.up, l1, w1.mail⟩ : Wld) by rw [← hf1, List.drop_of_length_le hge0]; simp only [eH, Cf]]; exact Re ⟨x1.1, x1.2.1, x1.2.2.1, x4.1, x5.1, x2.1, x2.2, γ2, x3.1⟩ (Va Vn)
theorem kw (w : Wld) : ∀ (r : List Client) (n : Nat) (l : List Client), eH w r n l = ⟨w.h, w.d, w.up, l, w.mail⟩
 | [], _, _ => rfl
 | _ :: r, n, l => by
  have : l.set n (gt l n) = l := by
   by_cases h : n < l.length
   ·rw [gt_eq h]; exact List.set_getElem_self h
   ·exact List.set_eq_of_length_le (Nat.le_of_not_lt h)
  rw [eH, this]; exact kw w r (n + 1) l
theorem pt (w : Wld) : dl w = w := kw w _ 0 w.c
theorem ik (y1 : SlV) (y2 : SlV) (y3 : SlV) (y4 : SlV) (y5 : SlV) (y6 : SlV) (y7 : SlV) (w1 : Wld) : DoesG Tryz.prog 25 [.agg ⟨[y1.val w1.h.h.l.length, y2.val w1.h.h.t.length, .int .i64 w1.h.version, y3.val w1.h.peers.length, y4.val w1.d.safe.length, y5.val w1.d.wait.length, .bool w1.up, y6.val w1.c.length, y7.val w1.mail.length]⟩] [RdL EStep y1 w1.h.h.l, RdL EPlace y2 w1.h.h.t, RdN NPeer y3 w1.h.peers, RdL EByte y4 w1.d.safe, RdL EByte y5 w1.d.wait, RdN NClient y6 w1.c, RdN NMail y7 w1.mail] ⟨[], []⟩ (fun (X : SlV × SlV × SlV × SlV × SlV × SlV × Option Nat × (Nat → SlV × SlV × SlV × SlV) × SlV) => .agg ⟨[X.1.val w1.h.h.l.length, X.2.1.val w1.h.h.t.length, .int .i64 w1.h.version, X.2.2.1.val w1.h.peers.length, X.2.2.2.1.val w1.d.safe.length, X.2.2.2.2.1.val w1.d.wait.length, .bool w1.up, X.2.2.2.2.2.1.val w1.c.length, X.2.2.2.2.2.2.2.2.val w1.mail.length]⟩) (fun X => [RdL EStep X.1 w1.h.h.l, RdL EPlace X.2.1 w1.h.h.t, RdN NPeer X.2.2.1 w1.h.peers, RdL EByte X.2.2.2.1 w1.d.safe, RdL EByte X.2.2.2.2.1 w1.d.wait, RdN NMail X.2.2.2.2.2.2.2.2 w1.mail, ao NClient X.2.2.2.2.2.2.2.1 w1.c]) (fun X => ⟨[], [ownL NClient.E 60 X.2.2.2.2.2.1 X.2.2.2.2.2.2.1 (zipG X.2.2.2.2.2.2.2.1 0 w1.c)]⟩) := by
 have := nD y1 y2 y3 y4 y5 y6 y7 w1
 rw [pt] at this
 exact this
end Go.Proofs.YtgkggkgdceapgaaGreatDoor
