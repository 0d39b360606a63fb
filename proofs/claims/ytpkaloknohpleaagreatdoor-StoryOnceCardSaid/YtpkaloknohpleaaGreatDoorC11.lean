/- Part of this claim. No condition. -/
import Derived.Test.YtpkaloknohpleaaGreatDoorC3
import Derived.Test.YtpkaloknohpleaaGreatDoorC10
import Derived.Test.YtpkaloknohpleaaGreatDoorC8
import Derived.Lib.Join
import Derived.Lib.ItoaLen
import Derived.Test.YtpkaloknohpleaaGreatDoorC5
import Derived.Test.YtpkaloknohpleaaGreatDoorC6
import Derived.Test.YtpkaloknohpleaaGreatDoorC9
import Derived.Test.YtpkaloknohpleaaGreatDoorC4
set_option linter.unusedVariables false
set_option linter.unusedSimpArgs false
namespace Go.Proofs.YtpkaloknohpleaaGreatDoor
open Go Go.Proofs.YtpkaloknohpleaaGreatDoor.Fw Go.Proofs Go.RowKit Go.Sort
theorem ra (w : World) (k : Nat) (os : Array Obj) : Below w.heap.size w (grow (w.drewN k) os) :=
 ⟨rfl, rfl, rfl, by show w.heap.size ≤ (w.heap ++ os).size; rw [Array.size_append]; omega, fun j hj => heap_grow_old (w.drewN k) os hj⟩
theorem rH (n : Int) (h : -9223372036854775808 ≤ n ∧ n ≤ 9223372036854775807) : Does Tryz.prog 101 [.int .i64 n] [LibP Tryz.prog] (fun (_ : Unit) => sV (Lib.itoa n)) (fun (_ : Unit) => []) :=
 nj (fun _ => inferInstance) fun M w _ hp => (Tryz.strconv_Itoa n h.1 h.2 w (hp _ (.head _)).2.tab).mono fun e w' ⟨he, k, os, hw⟩ => ⟨(), he, hw ▸ ra _ _ _, fun F hF => by cases hF⟩
theorem uE (t : Str) (h : t.length ≤ 281474976710656) : Does Tryz.prog 100 [sV t] [LibP Tryz.prog] (fun (X : Nat) => .tuple #[.int .i64 (atv t), eV (ate t) 221 (.pointer (some ⟨X, 0, none⟩))]) (fun (_ : Nat) => []) :=
 nj (fun _ => inferInstance) fun M w _ hp => by
  have hs := mn t
  obtain ⟨_, _, ⟨tp, p, h1⟩, ⟨tp', p', h2⟩⟩ := (hp _ (.head _)).2
  cases he : Lib.atoiAll t with
  | ok v =>
   refine (Tryz.strconv_Atoi_ok ⟨t.toArray⟩ (by rw [hs]; omega) v he w).mono fun e w' ⟨h3, h4⟩ => ⟨0, by rw [h3, atv, ate, he]; rfl, ?_, fun F hF => by cases hF⟩
   rcases h4 with rfl | ⟨u, rfl⟩
   ·exact Below.refl _ _
   ·exact rc _ _ _
  | range =>
   exact (Any.strconv_Atoi_range_var Tryz.laysC172 ⟨t.toArray⟩ (by rw [hs]; omega) he tp' p' w h2).mono fun e w' ⟨N, h3, _, _, h5⟩ => ⟨N, by rw [h3, atv, ate, he]; rfl, h5, fun F hF => by cases hF⟩
  | _ =>
   exact (Any.strconv_Atoi_syntax_var Tryz.laysC172 ⟨t.toArray⟩ (by rw [hs]; omega) he tp p w h1).mono fun e w' ⟨N, h3, _, _, h5⟩ => ⟨N, by rw [h3, atv, ate, he]; rfl, h5, fun F hF => by cases hF⟩
theorem tE {M : Nat → Prop} {w : World} (h : LibP Tryz.prog M w) : ∃ m, w.cell? ⟨0, 0, none⟩ = some (.int .i64 m) := by
 obtain ⟨g, m, hg, hc⟩ := h.2.len
 obtain rfl := Option.some.inj ((show Tryz.prog.globalNamed "internal/bytealg.MaxLen" = some 0 by kernel_rfl).symm.trans hg)
 exact ⟨m, hc⟩
theorem tF (s sep : Str) (hs : sep = [32]) (h : s.length < 4294967281) : Does Tryz.prog 99 [sV s, sV sep] [LibP Tryz.prog] (fun (X : SlV) => X.val (spl 32 s).length) (fun (X : SlV) => [RdL EStr X (spl 32 s)]) := by
 subst hs
 exact nj (fun _ => inferInstance) fun M w hM hp => by
  obtain ⟨m, hm⟩ := tE (hp _ (.head _))
  refine (Tryz.strings_Split ⟨s.toArray⟩ ⟨#[32]⟩ m w (by rw [mn]; exact h) hm (by decide)).mono fun e w' ⟨h1, h2⟩ => ?_
  have hl := sj 32 s
  have hlen : Lib.countB ⟨s.toArray⟩ ⟨#[32]⟩ + 1 = (spl 32 s).length := by
   have h3 := congrArg List.length hl
   rw [List.length_map, List.length_map] at h3
   rw [← h3, Lib.splitB_all ⟨#[32]⟩ (by decide) 0 _ _ rfl]
  rw [hl] at h2
  rw [hlen] at h1
  subst h2
  have hb := (qN 32 s).2
  refine ⟨⟨some ⟨w.heap.size, 0, none⟩, (spl 32 s).length⟩, h1, re _ _, fun F hF => ?_⟩
  rw [List.mem_singleton] at hF
  subst hF
  exact td hM _ _ (by omega)
theorem vW {c : UInt8} (s sep : Str) (hs : sep = [c]) (h : s.length < 4294967281) : Does Tryz.prog 72 [sV s, sV sep] [LibP Tryz.prog] (fun (_ : Unit) => .tuple #[sV (cutc c s).1, sV (cutc c s).2.1, .bool (cutc c s).2.2]) (fun (_ : Unit) => []) := by
 subst hs
 exact nj (fun _ => inferInstance) fun M w hM hp => by
  obtain ⟨m, hm⟩ := tE (hp _ (.head _))
  refine (Tryz.strings_Cut ⟨s.toArray⟩ ⟨#[c]⟩ m w (by rw [mn]; exact h) hm).mono fun e w' ⟨h1, n, h2⟩ => ⟨(), ?_, h2 ▸ rb n, fun F hF => by cases hF⟩
  rw [h1, show Lib.cut (ByteArray.mk s.toArray).data.toList (ByteArray.mk #[c]).data.toList = cutc c s from uM c s]
end Go.Proofs.YtpkaloknohpleaaGreatDoor

set_option maxHeartbeats 2000000
namespace Go.Proofs.YtpkaloknohpleaaGreatDoor
open Go Go.Proofs.YtpkaloknohpleaaGreatDoor.Fw Go.Proofs
attribute [local irreducible] RdL RdN VarP LibP RW CW
theorem c7 (x : SlV) (l : List UInt8) : DoesG Tryz.prog 62 [x.val l.length] [RdL EByte x l] ⟨[], []⟩ (fun (X : SlV × Option Nat) => X.1.val l.length) (fun _ => []) (fun X => ⟨[], [ownL EByte 5 X.1 X.2 l]⟩) := by
 refine co aZ Tryz.func62 rfl Tryz.ntmps62 Tryz.results62 rfl inferInstance (fun _ => inferInstance) fun C => ?_
 refine dP (φ := l.length * EByte.by_ ≤ 140737488355328) [RdL EByte x l] Sm (fun M w h => (allF1 h).len) fun hlen => ?_
 refine Tx ?_
 refine rw_q rfl rfl rfl (jR rfl rfl Zf rfl) ?_
 refine dY ?_
 (repeat refine ao ?_); refine jh rfl rfl (fun hc0 => ?_) (fun hc0 => ?_)
 ·refine dP [RdL EByte x l] Sm (fun M w h => (allF1 h).nil_of hc0) fun hnil => ?_
  subst hnil
  refine cw_le (eO EByte 5) ?_
  refine Tx ?_
  (repeat refine ao ?_); refine ai ?_
  exact ⟨(⟨none, 0⟩, none), _, (.cons (.tmp rfl) .nil), rfl, .nil _, .nil _, Sp⟩
 ·refine Tx ?_
  refine bB EByte [] .sq (ac rfl) rfl rfl rfl rfl rfl rfl rfl rfl rfl rfl rfl rfl rfl rfl rfl fun x1 x1b => ?_
  refine Rp rfl rfl rfl rfl ?_
  refine b5 EByte [] l (b := x1b) .sq (fun _ _ => .inl ⟨_, rfl⟩) (ac rfl) rfl rfl rfl rfl rfl rfl rfl (fun _ _ => Uo) rfl rfl rfl rfl rfl rfl rfl (fr Mm) (by simpa using hlen) fun x2 x2b => ?_
  refine Tx ?_
  (repeat refine ao ?_); refine ai ?_
  exact ⟨(x2, x2b), _, (.cons (.tmp rfl) .nil), rfl, .nil _, .nil _, Sp⟩
theorem ko (y : SlV) (l : List UInt8) (n : Int) (hy : y = ⟨none, 0⟩ ∧ l = []) (hn : 0 ≤ n ∧ n * 1 ≤ 140737488355328) : DoesG Tryz.prog 74 [y.val l.length, .int .i64 n] [RdL EByte y l] ⟨[], []⟩ (fun (X : SlV × Option Nat) => X.1.val ([] : List UInt8).length) (fun _ => []) (fun X => ⟨[], [ownL EByte 5 X.1 X.2 []]⟩) := by
 obtain ⟨hy1, hy2⟩ := hy
 subst hy1; subst hy2
 obtain ⟨k, rfl⟩ : ∃ k : Nat, n = k := ⟨n.toNat, by omega⟩
 refine co aZ Tryz.func74 rfl Tryz.ntmps74 Tryz.results74 rfl inferInstance (fun _ => inferInstance) fun C => ?_
 refine cw_le (eO EByte 5) ?_
 refine Tx ?_
 refine Cd (b := decide ((k : Int) < 0)) (fun hc => ?_) fun hc => ?_
 ·exact absurd (of_decide_eq_true hc) (by omega)
 ·refine Tx ?_
  refine rw_q rfl rfl rfl (q_cap rfl rfl Zf rfl) ?_
  refine Tx ?_
  refine rw_q rfl rfl rfl (q_is (v' := .int .i64 0) (q_sub rfl rfl Zf rfl Zf (fun _ => by decide)) rfl) ?_
  refine rw_q rfl rfl rfl (q_is (v' := .int .i64 (k : Int)) (q_sub rfl rfl Zf rfl Zf Zo) (by simp)) ?_
  refine Tx ?_
  refine Cd (b := decide ((k : Int) > 0)) (fun hc1 => ?_) fun hc1 => ?_
  ·have hk := of_decide_eq_true hc1
   refine Tx ?_
   refine rw_q rfl rfl rfl (q_cap rfl rfl Zf rfl) ?_
   refine rw_q rfl rfl rfl (pZ (h := 0) rfl rfl Zf rfl Zf rfl rfl Zf (fun _ => Nat.le_refl _)) ?_
   refine Rp rfl rfl rfl rfl ?_
   refine sn (n := k) (e := 5) (by_ := 1) .sq (ac rfl) rfl rfl rfl rfl rfl rfl rfl rfl und_3 (fun _ _ _ => .here _ _ _) rfl rfl rfl rfl rfl rfl (by omega) (by omega) (by omega) fun x1 b1 zs => ?_
   refine Tx ?_
   refine rx (k := 0) .sq (ac rfl) rfl rfl rfl rfl rfl rfl rfl rfl rfl (.here _ _ _) rfl (Nat.zero_le _) ?_
   refine Tx ?_
   (repeat refine ao ?_); refine ai ?_
   exact ⟨(x1, b1), _, (.cons (.tmp rfl) .nil), rfl, .nil _, .nil _, Sp⟩
  ·refine Tx ?_
   (repeat refine ao ?_); refine ai ?_
   exact ⟨(⟨none, 0⟩, none), _, (.cons (.tmp rfl) .nil), rfl, .nil _, .nil _, Sp⟩
def cb  : List (List UInt8) → (List UInt8) → (List UInt8)
 | [], newslice1 => newslice1
 | pn2 :: rn2, newslice1 => (cb rn2 (newslice1 ++ pn2))
def cG (slices1 : List (List UInt8)) : List (List UInt8) → Nat → (List UInt8)
 | [], size1 => (cb slices1 ([] : List UInt8))
 | pn1 :: rn1, size1 => (bif decide (((size1 : Int) + (pn1.length : Int)) < 0) then [] else (cG slices1 rn1 (size1 + pn1.length)))
def cr (slices1 : List (List UInt8)) : List UInt8 :=
 (cG slices1 slices1 0)
theorem jq (y1 : SlV) (slices1 : List (List UInt8)) (hct : slices1.flatten.length * 1 ≤ 140737488355328) : DoesG Tryz.prog 48 [y1.val slices1.length] [RdN NBytes y1 slices1] ⟨[], []⟩ (fun (X : SlV × Option Nat) => X.1.val (cr slices1).length) (fun X => []) (fun X => ⟨[], [ownL EByte 5 X.1 X.2 (cr slices1)]⟩) := by
 refine co aZ Tryz.func48 rfl Tryz.ntmps48 Tryz.results48 rfl inferInstance (fun _ => inferInstance) fun C => ?_
 refine Pn NBytes y1 slices1 24 fun hlen1 => ?_
 refine Tx ?_
 (repeat refine ao ?_); refine Lp [0,2,9,10] [] (fun (i_ : Nat × Nat) => match i_ with | ⟨size1, n1⟩ => (⟨[(3, .v (.int .i64 (size1 : Int))), (11, .v (.int .i64 (n1 : Int)))], [], [], [], (n1 ≤ slices1.length) ∧ (size1 = ((slices1.take n1).flatten.length : Int)) ∧ (cG slices1 (slices1.drop n1) size1) = (cr slices1), slices1.length - n1⟩ : Ls)) ⟨0, 0⟩ (Sc (Sc (Sc (Sc Sn)))) (.nil) ⟨Nat.zero_le _, (by simp), (by simp only [cr, Cf] : (cr slices1) = (cG slices1 slices1 0)).symm⟩ Le4 ?_
 rintro ⟨size1, n1⟩ ⟨hkn1, hsz, hf1⟩
 simp only [List.cons_append, List.nil_append]
 refine Tx ?_
 refine Cd (b := decide ((n1 : Int) < (slices1.length : Int))) (fun hc1 => ?_) fun hc1 => ?_
 ·have hlt0 : n1 < slices1.length := Int.ofNat_lt.1 (of_decide_eq_true hc1)
  refine Tx ?_
  refine fj NBytes (X := y1) (l := slices1) Mm fun (γ1 : Nat → SlV) => ?_
  refine rw_q rfl rfl rfl (dw NBytes γ1 n1 rfl rfl Zf rfl Zf rfl rfl rfl Mm rfl Zf (fun _ => by first | assumption | omega)) ?_
  refine rw_q rfl rfl rfl (kH NBytes γ1 (v := (γ1 n1).val (gt slices1 n1).length) rfl rfl Zf rfl rfl Mm (fun _ => by first | assumption | omega) rfl) ?_
  refine aI (F := RdL EByte (γ1 n1) (gt slices1 n1)) [am NBytes γ1 slices1] Sm (fun M w h => (allF1 h) n1 Zc _ (.head _)) ?_
  refine Tx ?_
  refine rw_q rfl rfl rfl (q_add rfl rfl Zf rfl Zf (fun _ => by have := (nk slices1 hlt0).2; omega)) ?_
  refine Tx ?_
  refine Cd (b := decide (((size1 : Int) + ((gt slices1 n1).length : Int)) < 0)) (fun hc2 => ?_) fun hc2 => ?_
  ·have hc2p := of_decide_eq_true hc2
   exact absurd (of_decide_eq_true hc2) (by omega)
  ·have hc2p := of_decide_eq_false hc2
   refine Tx ?_
   refine rw_q rfl rfl rfl (q_add rfl rfl Zf rfl Zf Zo) ?_
   refine Tx ?_
   refine ⟨⟨(size1 + (gt slices1 n1).length), (n1 + 1)⟩, ⟨hlt0, (by rw [(nk slices1 hlt0).1, List.length_append]; simp only [hsz]; omega), (by rw [← hf1, aE hlt0]; simp only [cG, hc2, Cf] : (cr slices1) = (cG slices1 (slices1.drop (n1 + 1)) (size1 + (gt slices1 n1).length))).symm⟩, (by simp only []; omega), Le4⟩
 ·have hge0 : slices1.length ≤ n1 := by have := of_decide_eq_false hc1; omega
  refine Tx ?_
  refine Fr EByte ?_
  refine Cg (ko (⟨none, 0⟩ : SlV) ([] : List UInt8) (size1 : Int) ⟨rfl, rfl⟩ (by have h_ : (slices1.take n1).flatten.length ≤ slices1.flatten.length := (by rw [List.take_of_length_le hge0]; exact Nat.le_refl _); omega)) fun x1 => ?_
  refine Tx ?_
  (repeat refine ao ?_); refine Lp [2,25,26] [] (fun (i_ : List UInt8 × SlV × Option Nat × Nat) => match i_ with | ⟨newslice1, x2, x2b, n2⟩ => (⟨[(6, .v (x2.val newslice1.length)), (27, .v (.int .i64 (n2 : Int)))], [], [ownL EByte 5 x2 x2b newslice1], [], (n2 ≤ slices1.length) ∧ (newslice1.length = (slices1.take n2).flatten.length) ∧ (cb (slices1.drop n2) newslice1) = (cr slices1), slices1.length - n2⟩ : Ls)) ⟨([] : List UInt8), x1.1, x1.2, 0⟩ (Sc (Sc (Sc Sn))) (.nil) ⟨Nat.zero_le _, (by simp), (by rw [← hf1, List.drop_of_length_le hge0]; simp only [cG, Cf] : (cr slices1) = (cb slices1 ([] : List UInt8))).symm⟩ Le4 ?_
  rintro ⟨newslice1, x2, x2b, n2⟩ ⟨hkn2, hnl, hf2⟩
  simp only [List.cons_append, List.nil_append]
  refine Tx ?_
  refine Cd (b := decide ((n2 : Int) < (slices1.length : Int))) (fun hc3 => ?_) fun hc3 => ?_
  ·have hlt1 : n2 < slices1.length := Int.ofNat_lt.1 (of_decide_eq_true hc3)
   refine Tx ?_
   refine fj NBytes (X := y1) (l := slices1) Mm fun (γ2 : Nat → SlV) => ?_
   refine rw_q rfl rfl rfl (dw NBytes γ2 n2 rfl rfl Zf rfl Zf rfl rfl rfl Mm rfl Zf (fun _ => by first | assumption | omega)) ?_
   refine rw_q rfl rfl rfl (kH NBytes γ2 (v := (γ2 n2).val (gt slices1 n2).length) rfl rfl Zf rfl rfl Mm (fun _ => by first | assumption | omega) rfl) ?_
   refine aI (F := RdL EByte (γ2 n2) (gt slices1 n2)) [am NBytes γ2 slices1] Sm (fun M w h => (allF1 h) n2 Zc _ (.head _)) ?_
   refine Tx ?_
   refine b5 EByte newslice1 (gt slices1 n2) (b := x2b) .sq (fun _ _ => .inl ⟨_, rfl⟩) (ac rfl) rfl rfl rfl rfl rfl rfl rfl (fun _ _ => Uo) rfl rfl rfl rfl rfl rfl rfl (fr Mm) (by have := (nk slices1 hlt1).2; show (_ + _) * 1 ≤ _; omega) fun x3 x3b => ?_
   refine Tx ?_
   refine rw_q rfl rfl rfl (q_add rfl rfl Zf rfl Zf Zo) ?_
   refine Tx ?_
   refine ⟨⟨(newslice1 ++ (gt slices1 n2)), x3, x3b, (n2 + 1)⟩, ⟨hlt1, (by rw [(nk slices1 hlt1).1]; simp only [List.length_append]; omega), (by rw [← hf2, aE hlt1]; simp only [cb, Cf] : (cr slices1) = (cb (slices1.drop (n2 + 1)) (newslice1 ++ (gt slices1 n2)))).symm⟩, (by simp only []; omega), Le4⟩
  ·have hge1 : slices1.length ≤ n2 := by have := of_decide_eq_false hc3; omega
   refine Tx ?_
   refine ai ?_; rw [show (cr slices1) = newslice1 by rw [← hf2, List.drop_of_length_le hge1]; simp only [cb, Cf]]; exact Re ⟨x2, x2b⟩ (Vt Vn)
theorem kt (ls : List (List UInt8)) : cr ls = ls.flatten := by
 have h1 : ∀ (l : List (List UInt8)) (acc : List UInt8), cb l acc = acc ++ l.flatten := by
  intro l
  induction l with
  | nil => intro acc; simp [cb]
  | cons a r ih => intro acc; rw [cb, ih]; simp
 have h0 : ∀ (l : List (List UInt8)) (k : Nat), cG ls l k = cb ls [] := by
  intro l
  induction l with
  | nil => intro k; rfl
  | cons a r ih =>
   intro k
   have : decide (((k : Int) + (a.length : Int)) < 0) = false := by simp; omega
   rw [cG, this, cond_false, ih]
 rw [cr, h0, h1, List.nil_append]
theorem fN (y1 : SlV) (ls : List (List UInt8)) (hct : ls.flatten.length * 1 ≤ 140737488355328) : DoesG Tryz.prog 48 [y1.val ls.length] [RdN NBytes y1 ls] ⟨[], []⟩ (fun (X : SlV × Option Nat) => X.1.val ls.flatten.length) (fun _ => []) (fun X => ⟨[], [ownL EByte 5 X.1 X.2 ls.flatten]⟩) := by
 have := jq y1 ls hct
 rw [kt] at this
 exact this
end Go.Proofs.YtpkaloknohpleaaGreatDoor

namespace Go.Proofs.YtpkaloknohpleaaGreatDoor
open Go Go.Proofs.YtpkaloknohpleaaGreatDoor.Fw Go.Proofs
abbrev I64 (n : Int) : Prop := -9223372036854775808 ≤ n ∧ n ≤ 9223372036854775807
theorem oC (o : Op) : ck o = 0 ↔ (1 ≤ o.time ∧ o.time ≤ 10000) ∧ (0 ≤ o.who ∧ o.who ≤ 2) ∧ (1 ≤ o.node ∧ o.node ≤ 15) ∧ (0 ≤ o.parent ∧ o.parent ≤ 16) ∧ (0 ≤ o.name ∧ o.name ≤ 99) ∧ (1 ≤ o.life ∧ o.life ≤ 50) ∧ (1 ≤ o.seq ∧ o.seq ≤ 30) := by
 unfold ck
 generalize hb : (((((((((((((decide (o.time < 1) || decide (o.time > 10000)) || decide (o.who < 0)) || decide (o.who ≥ 3)) || decide (o.node < 1)) || decide (o.node ≥ 16)) || decide (o.parent < 0)) || decide (o.parent > 16)) || decide (o.name < 0)) || decide (o.name > 99)) || decide (o.life < 1)) || decide (o.life > 50)) || decide (o.seq < 1)) || decide (o.seq > 30)) = b
 cases b with
 | true =>
  simp only [cond_true]
  simp only [Bool.or_eq_true, decide_eq_true_eq] at hb
  constructor
  ·intro h; exact absurd h (by decide)
  ·intro h; simp only [or_assoc] at hb; rcases hb with hb | hb | hb | hb | hb | hb | hb | hb | hb | hb | hb | hb | hb | hb <;> omega
 | false =>
  simp only [cond_false]
  simp only [Bool.or_eq_false_iff, decide_eq_false_iff_not] at hb
  refine ⟨fun _ => ?_, fun _ => trivial⟩
  refine ⟨⟨?_, ?_⟩, ⟨?_, ?_⟩, ⟨?_, ?_⟩, ⟨?_, ?_⟩, ⟨?_, ?_⟩, ⟨?_, ?_⟩, ?_, ?_⟩ <;> omega
def wordOf (r : Rec) : Str := bif r.kind == 1 then [111, 112] else bif r.kind == 2 then [108, 105, 102, 101] else [114, 111, 111, 116, 115]
def iG (r : Rec) : List Int := bif r.kind == 1 then [r.o.time, r.o.who, r.o.node, r.o.parent, r.o.name, r.o.life, r.o.seq] else bif r.kind == 2 then [r.who, r.life] else r.who :: r.roots
theorem uW {l : List Int} (h : bL l = 0) : l.length ≤ 4 ∧ ∀ n ∈ l, 0 ≤ n ∧ n ≤ 16 := ⟨((jF l).1 h).len, ((jF l).1 h).rng⟩
inductive Right (r : Rec) : Prop
 | op (h : r = ⟨1, 0, 0, [], r.o⟩) (ho : ck r.o = 0)
 | life (h : r = ⟨2, r.who, r.life, [], ⟨0, 0, 0, 0, 0, 0, 0⟩⟩) (hw : 0 ≤ r.who ∧ r.who ≤ 2) (hl : 1 ≤ r.life ∧ r.life ≤ 50)
 | roots (h : r = ⟨3, r.who, 0, r.roots, ⟨0, 0, 0, 0, 0, 0, 0⟩⟩) (hw : 0 ≤ r.who ∧ r.who ≤ 2) (hr : bL r.roots = 0)
theorem ip (r : Rec) : aM r = 0 ↔ Right r := by
 constructor
 ·intro h
  unfold aM at h
  obtain ⟨kind, who, life, roots, o⟩ := r
  simp only at h
  cases hk : (decide (kind < 1) || decide (kind > 3)) with
  | true => rw [hk] at h; simp at h
  | false =>
   rw [hk, cond_false] at h
   simp only [Bool.or_eq_false_iff, decide_eq_false_iff_not] at hk
   by_cases h1 : kind = 1
   ·subst h1
    simp only [beq_self_eq_true, cond_true] at h
    cases hb : ((who != 0) || (life != 0)) || decide ((roots.length : Int) > 0) with
    | true => rw [hb] at h; simp at h
    | false =>
     rw [hb, cond_false] at h
     simp only [Bool.or_eq_false_iff, decide_eq_false_iff_not, bne_eq_false_iff_eq] at hb
     obtain ⟨⟨rfl, rfl⟩, h3⟩ := hb
     have : roots = [] := List.eq_nil_of_length_eq_zero (by omega)
     subst this
     exact .op rfl h
   ·have h1' : (kind == 1) = false := by simpa using h1
    rw [h1', cond_false] at h
    cases hb : (((!(decide (o = (⟨0, 0, 0, 0, 0, 0, 0⟩ : Op)))) || ((kind == 3) && (life != 0))) || ((kind == 2) && decide ((roots.length : Int) > 0))) with
    | true => rw [hb] at h; simp at h
    | false =>
     rw [hb, cond_false] at h
     simp only [Bool.or_eq_false_iff, Bool.not_eq_false', decide_eq_true_eq] at hb
     obtain ⟨⟨rfl, hb1⟩, hb2⟩ := hb
     cases hc : ((decide (who < 0) || decide (who ≥ 3)) || ((kind == 2) && (decide (life < 1) || decide (life > 50)))) with
     | true => rw [hc] at h; simp at h
     | false =>
      rw [hc, cond_false] at h
      simp only [Bool.or_eq_false_iff, decide_eq_false_iff_not] at hc
      obtain ⟨⟨hc1, hc2⟩, hc3⟩ := hc
      by_cases h2 : kind = 2
      ·subst h2
       simp at hb2 hc3
       subst hb2
       exact .life rfl (by simp only; omega) (by simp only; omega)
      ·have h3 : kind = 3 := by omega
       subst h3
       simp at hb1
       subst hb1
       exact .roots rfl (by simp only; omega) h
 ·intro h
  unfold aM
  cases h with
  | op h ho => rw [h]; simpa using ho
  | life h hw hl =>
   rw [h]
   have e1 : (decide (r.who < 0) || decide (r.who ≥ 3)) = false := by simp; omega
   have e2 : (decide (r.life < 1) || decide (r.life > 50)) = false := by simp; omega
   simp only [e1, e2]
   rfl
  | roots h hw hr =>
   rw [h]
   have e1 : (decide (r.who < 0) || decide (r.who ≥ 3)) = false := by simp; omega
   simp only [e1]
   exact hr
theorem nK {r : Rec} (h : aM r = 0) : (iG r).length ≤ 7 ∧ ∀ n ∈ iG r, I64 n := by
 rcases (ip r).1 h with ⟨h1, ho⟩ | ⟨h1, hw, hl⟩ | ⟨h1, hw, hr⟩
 ·have h2 := (oC r.o).1 ho
  have : iG r = [r.o.time, r.o.who, r.o.node, r.o.parent, r.o.name, r.o.life, r.o.seq] := by rw [h1]; rfl
  rw [this]
  refine ⟨by simp, fun n hn => ?_⟩
  simp only [List.mem_cons, List.not_mem_nil, or_false] at hn
  rcases hn with rfl | rfl | rfl | rfl | rfl | rfl | rfl <;> (simp only [I64]; omega)
 ·have : iG r = [r.who, r.life] := by rw [h1]; rfl
  rw [this]
  refine ⟨by simp, fun n hn => ?_⟩
  simp only [List.mem_cons, List.not_mem_nil, or_false] at hn
  rcases hn with rfl | rfl <;> (simp only [I64]; omega)
 ·have : iG r = r.who :: r.roots := by rw [h1]; rfl
  rw [this]
  have h2 := uW hr
  refine ⟨by simp only [List.length_cons]; omega, fun n hn => ?_⟩
  rcases List.mem_cons.1 hn with rfl | hn
  ·simp only [I64]; omega
  ·have := h2.2 n hn; simp only [I64]; omega
theorem vP {r : Rec} (h : aM r = 0) (hk : (r.kind == 1) = true) : ∀ n ∈ [r.o.time, r.o.who, r.o.node, r.o.parent, r.o.name, r.o.life, r.o.seq], I64 n := by
 have := (nK h).2; rwa [iG, hk] at this
theorem tx {r : Rec} (h : aM r = 0) (hk : (r.kind == 2) = true) : ∀ n ∈ [r.who, r.life], I64 n := by
 have hk1 : (r.kind == 1) = false := by have := eq_of_beq hk; rw [this]; rfl
 have := (nK h).2; rwa [iG, hk1, hk] at this
theorem sx {r : Rec} (h : aM r = 0) (hk1 : (r.kind == 1) = false) (hk : (r.kind == 2) = false) : (r.roots.length ≤ 6) ∧ ∀ n ∈ r.who :: r.roots, I64 n := by
 have := nK h; rw [iG, hk1, hk] at this; simp only [cond_false, List.length_cons] at this; exact ⟨by omega, this.2⟩
theorem sA {r : Rec} (h : aM r = 0) (h1 : (r.kind == 2) = false) (h2 : (r.kind == 3) = false) : (r.kind == 1) = true := by
 rcases (ip r).1 h with ⟨e, _⟩ | ⟨e, _, _⟩ | ⟨e, _, _⟩
 ·rw [e]; rfl
 ·rw [e] at h1; cases h1
 ·rw [e] at h2; cases h2
theorem vR {r : Rec} {k : Int} (h : (r.kind == k) = true) (hk : (k == 1) = false) : (r.kind == 1) = false := by rw [eq_of_beq h]; exact hk
end Go.Proofs.YtpkaloknohpleaaGreatDoor

set_option maxHeartbeats 2000000
namespace Go.Proofs.YtpkaloknohpleaaGreatDoor
open Go Go.Proofs.YtpkaloknohpleaaGreatDoor.Fw Go.Proofs
attribute [local irreducible] RdL RdN VarP LibP RW CW
def d5  : List Int → Str → (Str × Int)
 | [], s2 => (s2, 0)
 | pn1 :: rn1, s2 => (d5 rn1 (s2 ++ (([32] : Str) ++ (Lib.itoa pn1))))
def bD (r1 : Rec) : Str × (List Int) :=
 (bif (r1.kind == 2) then (([108, 105, 102, 101] : Str), [r1.who, r1.life]) else (bif (r1.kind == 3) then (([114, 111, 111, 116, 115] : Str), ([r1.who] ++ r1.roots)) else (([111, 112] : Str), [r1.o.time, r1.o.who, r1.o.node, r1.o.parent, r1.o.name, r1.o.life, r1.o.seq])))
def b6 (r1 : Rec) : Str × Int :=
 (bif ((aM r1) != 0) then (([] : Str), (aM r1)) else (d5 (bD r1).2 (bD r1).1))
theorem nL (y1 : SlV) (r1 : Rec) : Does Tryz.prog 132 [.agg ⟨[.int .i64 r1.kind, .int .i64 r1.who, .int .i64 r1.life, y1.val r1.roots.length, .int .i64 r1.o.time, .int .i64 r1.o.who, .int .i64 r1.o.node, .int .i64 r1.o.parent, .int .i64 r1.o.name, .int .i64 r1.o.life, .int .i64 r1.o.seq]⟩] [RdL EInt y1 r1.roots, LibP Tryz.prog] (fun (_ : Unit) => .tuple #[sV (b6 r1).1, .int .i64 (b6 r1).2]) (fun _ => []) := by
 refine bj aZ Tryz.func132 rfl Tryz.ntmps132 Tryz.results132 rfl inferInstance (fun _ => inferInstance) fun C => ?_
 refine Pc EInt y1 r1.roots 8 fun hlen1 => ?_
 refine Tx ?_
 refine Bx fun g1 => ?_
 refine Tx ?_
 refine Cl (fw y1 r1) fun _ => ?_
 refine Tx ?_
 refine Cd (b := ((aM r1) != 0)) (fun hc1 => ?_) fun hc1 => ?_
 ·have hc1p := bne_iff_ne.1 hc1
  refine Tx ?_
  refine ai ?_; simp only [b6, hc1, Cf]; exact Re () (Vt (Vt Vn))
 ·have hc1p := ae hc1
  have hck := ae hc1
  refine Tx ?_
  (repeat refine ao ?_); refine au (fun _ => some []) ?_
  refine Rb 0 rfl Qp ?_
  refine Rb 1 rfl Qp ?_
  refine Rb 2 rfl Qp ?_
  refine Ra 3 rfl Q1 ?_
  refine Rb 4 rfl Qp ?_
  refine Rb 5 rfl Qp ?_
  refine Rb 6 rfl Qp ?_
  refine Ra 7 rfl Q1 ?_
  refine Rb 8 rfl Qp ?_
  refine Rb 9 rfl Qp ?_
  refine Ra 10 rfl Q1 ?_
  refine Rb 11 rfl Qp ?_
  refine Rb 12 rfl Qp ?_
  refine Ra 13 rfl Q1 ?_
  refine Rb 14 rfl Qp ?_
  refine Rb 15 rfl Qp ?_
  refine Ra 16 rfl Q1 ?_
  refine Rb 17 rfl Qp ?_
  refine Rb 18 rfl Qp ?_
  refine Ra 19 rfl Q1 ?_
  refine Rb 20 rfl Qp ?_
  refine Rb 21 rfl Qp ?_
  refine Ra 22 rfl Q1 ?_
  refine Ra 24 rfl Qp ?_
  refine ap 23 Kr ?_
  refine bB EInt [r1.o.time, r1.o.who, r1.o.node, r1.o.parent, r1.o.name, r1.o.life, r1.o.seq] (.an rfl rfl) (ac rfl) rfl rfl rfl rfl rfl rfl rfl rfl rfl rfl rfl rfl rfl rfl rfl fun x1 x1b => ?_
  refine Ra 25 rfl Qp ?_
  refine bn Kr ?_
  (repeat refine ao ?_); refine n8 ?_
  refine Rp rfl rfl rfl rfl ?_
  refine rw_q rfl rfl rfl (q_ld1 rfl rfl Zf rfl Mm rfl) ?_
  refine dY ?_
  (repeat refine ao ?_); refine pD ?_
  refine Ty ?_
  refine mf [2, 3] [true] (fun (i_ : Str × List Int × SlV × Option Nat) => match i_ with | ⟨s1, l1, x2, x2b⟩ => [(5, .v (sV s1)), (6, .v (x2.val l1.length))]) (fun (i_ : Str × List Int × SlV × Option Nat) => match i_ with | ⟨s1, l1, x2, x2b⟩ => []) (fun (i_ : Str × List Int × SlV × Option Nat) => match i_ with | ⟨s1, l1, x2, x2b⟩ => [ownL EInt 3 x2 x2b l1]) (fun (i_ : Str × List Int × SlV × Option Nat) => match i_ with | ⟨s1, l1, x2, x2b⟩ => []) (fun (i_ : Str × List Int × SlV × Option Nat) => match i_ with | ⟨s1, l1, x2, x2b⟩ => (s1.length ≤ 5) ∧ (∀ n ∈ l1, I64 n) ∧ s1 = (bD r1).1 ∧ l1 = (bD r1).2) (.cons rfl (.cons rfl (.nil _))) (.keep (.nil)) ?_ ?_
  ·(repeat refine ao ?_)
   refine Cd (b := (r1.kind == 2)) (fun hc2 => ?_) fun hc2 => ?_
   ·have hc2p := eq_of_beq hc2
    have hbn := tx hck hc2
    (repeat refine ao ?_); refine au (fun _ => some []) ?_
    refine Rb 0 rfl Qp ?_
    refine Ra 1 rfl Q1 ?_
    refine Rb 2 rfl Qp ?_
    refine Ra 3 rfl Q1 ?_
    refine Ra 5 rfl Qp ?_
    refine ap 4 Kr ?_
    refine bB EInt [r1.who, r1.life] (.an rfl rfl) (ac rfl) rfl rfl rfl rfl rfl rfl rfl rfl rfl rfl rfl rfl rfl rfl rfl fun x3 x3b => ?_
    refine Ra 6 rfl Qp ?_
    refine bn Kr ?_
    have hv1 : (bD r1) = (([108, 105, 102, 101] : Str), [r1.who, r1.life]) := by simp only [bD, hc2, Bool.true_and, Bool.and_true, Cf]
    refine ⟨⟨([108, 105, 102, 101] : Str), [r1.who, r1.life], x3, x3b⟩, ⟨(by decide), hbn, (by rw [hv1]), (by rw [hv1])⟩, Le4⟩
   ·have hc2p := ne_of_beq_false hc2
    have hk2 := hc2
    refine Tx ?_
    refine Cd (b := (r1.kind == 3)) (fun hc3 => ?_) fun hc3 => ?_
    ·have hc3p := eq_of_beq hc3
     have hbn0 := sx hck (vR hc3 rfl) hk2; have hbn := hbn0.2; have hrl := hbn0.1
     refine Tx ?_
     refine bB EInt [r1.who] .sq (ac rfl) rfl rfl rfl rfl rfl rfl rfl rfl rfl rfl rfl rfl rfl rfl rfl fun x4 x4b => ?_
     refine Tx ?_
     refine b5 EInt [r1.who] r1.roots (b := x4b) .sq (fun _ _ => .inl ⟨_, rfl⟩) (ac rfl) rfl rfl rfl rfl rfl rfl rfl (fun _ _ => Uo) rfl rfl rfl rfl rfl rfl rfl (fr Mm) (by show ([r1.who].length + r1.roots.length) * 8 ≤ 140737488355328; (try simp only [List.length_append, List.length_cons, List.length_nil]); omega) fun x5 x5b => ?_
     refine Tx ?_
     have hv2 : (bD r1) = (([114, 111, 111, 116, 115] : Str), ([r1.who] ++ r1.roots)) := by simp only [bD, hc2, hc3, Bool.true_and, Bool.and_true, Cf]
     refine ⟨⟨([114, 111, 111, 116, 115] : Str), ([r1.who] ++ r1.roots), x5, x5b⟩, ⟨(by decide), hbn, (by rw [hv2]), (by rw [hv2])⟩, Le4⟩
    ·have hc3p := ne_of_beq_false hc3
     have hbn := vP hck (sA hck hk2 hc3)
     refine Tx ?_
     have hv3 : (bD r1) = (([111, 112] : Str), [r1.o.time, r1.o.who, r1.o.node, r1.o.parent, r1.o.name, r1.o.life, r1.o.seq]) := by simp only [bD, hc2, hc3, Bool.true_and, Bool.and_true, Cf]
     refine ⟨⟨([111, 112] : Str), [r1.o.time, r1.o.who, r1.o.node, r1.o.parent, r1.o.name, r1.o.life, r1.o.seq], x1, x1b⟩, ⟨(by decide), hbn, (by rw [hv3]), (by rw [hv3])⟩, Le4⟩
  ·rintro ⟨s1, l1, x2, x2b⟩ ⟨hs5, hbn, rfl, rfl⟩
   simp only [List.cons_append, List.nil_append]
   refine Tx ?_
   refine cw_le (ay EInt 3 x2 x2b (bD r1).2 Uo) ?_
   refine Pc EInt x2 (bD r1).2 8 fun hlen2 => ?_
   (repeat refine ao ?_); refine Lp [2,3,55,56] [true] (fun (i_ : Str × Nat) => match i_ with | ⟨s2, n1⟩ => (⟨[(5, .v (sV s2)), (57, .v (.int .i64 (n1 : Int)))], [], [], [], (n1 ≤ (bD r1).2.length) ∧ (s2.length ≤ 5 + 22 * n1) ∧ (d5 ((bD r1).2.drop n1) s2) = (b6 r1), (bD r1).2.length - n1⟩ : Ls)) ⟨(bD r1).1, 0⟩ (Sc (Sc (Sc (Sc Sn)))) (.keep (.nil)) ⟨Nat.zero_le _, (by first | exact Nat.le_refl _ | exact Nat.zero_le _ | omega), (by simp only [b6, hc1, Cf] : (b6 r1) = (d5 (bD r1).2 (bD r1).1)).symm⟩ Le4 ?_
   rintro ⟨s2, n1⟩ ⟨hkn1, hsl, hf1⟩
   simp only [List.cons_append, List.nil_append]
   refine Tx ?_
   refine Cd (b := decide ((n1 : Int) < ((bD r1).2.length : Int))) (fun hc4 => ?_) fun hc4 => ?_
   ·have hlt0 : n1 < (bD r1).2.length := Int.ofNat_lt.1 (of_decide_eq_true hc4)
    have hit := Lib.itoa_length_le _ (hbn _ (gn hlt0)).1 (hbn _ (gn hlt0)).2
    refine Tx ?_
    refine rw_q rfl rfl rfl (q_idx EInt n1 rfl rfl Zf rfl Zf rfl rfl rfl Mm rfl Zf (fun _ => by first | assumption | omega)) ?_
    refine rw_q rfl rfl rfl (q_le1 EInt rfl rfl Zf rfl rfl Mm (fun _ => by first | assumption | omega) rfl) ?_
    refine Tx ?_
    refine Cl (rH (gt (bD r1).2 n1) (hbn _ (gn hlt0))) fun _ => ?_
    refine rw_q rfl rfl rfl (va (a := ([32] : Str)) (b := (Lib.itoa (gt (bD r1).2 n1))) rfl rfl Zf rfl Zf (fun _ => by (show ([32] : Str).length + _ ≤ _; simp only [List.length_cons, List.length_nil]; omega))) ?_
    refine rw_q rfl rfl rfl (va (a := s2) (b := (([32] : Str) ++ (Lib.itoa (gt (bD r1).2 n1)))) rfl rfl Zf rfl Zf (fun _ => by (simp only [List.length_append, List.length_cons, List.length_nil]; omega))) ?_
    refine Tx ?_
    refine rw_q rfl rfl rfl (q_add rfl rfl Zf rfl Zf Zo) ?_
    refine Tx ?_
    refine ⟨⟨(s2 ++ (([32] : Str) ++ (Lib.itoa (gt (bD r1).2 n1)))), (n1 + 1)⟩, ⟨hlt0, Zl, (by rw [← hf1, aE hlt0]; simp only [d5, Cf] : (b6 r1) = (d5 ((bD r1).2.drop (n1 + 1)) (s2 ++ (([32] : Str) ++ (Lib.itoa (gt (bD r1).2 n1)))))).symm⟩, (by simp only []; omega), Le4⟩
   ·have hge0 : (bD r1).2.length ≤ n1 := by have := of_decide_eq_false hc4; omega
    refine Tx ?_
    refine ai ?_; rw [show (b6 r1) = (s2, 0) by rw [← hf1, List.drop_of_length_le hge0]; simp only [d5, Cf]]; exact Re () (Vt (Vt Vn))
theorem vb {p : Bool} {n : Nat} {k : Int} (h : (p && ((n : Int) == k)) = true) : (n : Int) = k := by simp at h; exact h.2
theorem len_gt {p : Bool} {n : Nat} (h : (p && decide ((n : Int) > 0)) = true) : 0 < n := by simp at h; exact h.2
theorem sB {c : UInt8} {s : Str} {i : Nat} (h : i < ((spl c s).drop 1).length) : (gt ((spl c s).drop 1) i).length ≤ s.length := jH (List.mem_of_mem_drop (gn h))
def cQ (s1 : Str) : List Str → (List Int) → (Rec × Int)
 | [], n1 => (bif (((gt (spl 32 s1) 0) == ([111, 112] : Str)) && ((n1.length : Int) == 7)) then (bif ((aM (⟨1, 0, 0, ([] : List Int), (⟨(gt n1 0), (gt n1 1), (gt n1 2), (gt n1 3), (gt n1 4), (gt n1 5), (gt n1 6)⟩ : Op)⟩ : Rec)) != 0) then ((⟨0, 0, 0, ([] : List Int), (⟨0, 0, 0, 0, 0, 0, 0⟩ : Op)⟩ : Rec), (aM (⟨1, 0, 0, ([] : List Int), (⟨(gt n1 0), (gt n1 1), (gt n1 2), (gt n1 3), (gt n1 4), (gt n1 5), (gt n1 6)⟩ : Op)⟩ : Rec))) else ((⟨1, 0, 0, ([] : List Int), (⟨(gt n1 0), (gt n1 1), (gt n1 2), (gt n1 3), (gt n1 4), (gt n1 5), (gt n1 6)⟩ : Op)⟩ : Rec), 0)) else (bif (((gt (spl 32 s1) 0) == ([108, 105, 102, 101] : Str)) && ((n1.length : Int) == 2)) then (bif ((aM (⟨2, (gt n1 0), (gt n1 1), ([] : List Int), (⟨0, 0, 0, 0, 0, 0, 0⟩ : Op)⟩ : Rec)) != 0) then ((⟨0, 0, 0, ([] : List Int), (⟨0, 0, 0, 0, 0, 0, 0⟩ : Op)⟩ : Rec), (aM (⟨2, (gt n1 0), (gt n1 1), ([] : List Int), (⟨0, 0, 0, 0, 0, 0, 0⟩ : Op)⟩ : Rec))) else ((⟨2, (gt n1 0), (gt n1 1), ([] : List Int), (⟨0, 0, 0, 0, 0, 0, 0⟩ : Op)⟩ : Rec), 0)) else (bif (((gt (spl 32 s1) 0) == ([114, 111, 111, 116, 115] : Str)) && decide ((n1.length : Int) > 0)) then (bif ((aM (⟨3, (gt n1 0), 0, (n1.drop 1), (⟨0, 0, 0, 0, 0, 0, 0⟩ : Op)⟩ : Rec)) != 0) then ((⟨0, 0, 0, ([] : List Int), (⟨0, 0, 0, 0, 0, 0, 0⟩ : Op)⟩ : Rec), (aM (⟨3, (gt n1 0), 0, (n1.drop 1), (⟨0, 0, 0, 0, 0, 0, 0⟩ : Op)⟩ : Rec))) else ((⟨3, (gt n1 0), 0, (n1.drop 1), (⟨0, 0, 0, 0, 0, 0, 0⟩ : Op)⟩ : Rec), 0)) else ((⟨0, 0, 0, ([] : List Int), (⟨0, 0, 0, 0, 0, 0, 0⟩ : Op)⟩ : Rec), 1))))
 | pn2 :: rn2, n1 => (bif ((ate pn2) || ((Lib.itoa (atv pn2)) != pn2)) then ((⟨0, 0, 0, ([] : List Int), (⟨0, 0, 0, 0, 0, 0, 0⟩ : Op)⟩ : Rec), 1) else (cQ s1 rn2 (n1 ++ [(atv pn2)])))
def aU (s1 : Str) : Rec × Int :=
 (bif decide ((s1.length : Int) > 60000) then ((⟨0, 0, 0, ([] : List Int), (⟨0, 0, 0, 0, 0, 0, 0⟩ : Op)⟩ : Rec), 2) else (cQ s1 ((spl 32 s1).drop 1) []))
theorem nM (s1 : Str) : Does Tryz.prog 73 [sV s1] [LibP Tryz.prog] (fun (X : SlV) => .tuple #[.agg ⟨[.int .i64 (aU s1).1.kind, .int .i64 (aU s1).1.who, .int .i64 (aU s1).1.life, X.val (aU s1).1.roots.length, .int .i64 (aU s1).1.o.time, .int .i64 (aU s1).1.o.who, .int .i64 (aU s1).1.o.node, .int .i64 (aU s1).1.o.parent, .int .i64 (aU s1).1.o.name, .int .i64 (aU s1).1.o.life, .int .i64 (aU s1).1.o.seq]⟩, .int .i64 (aU s1).2]) (fun X => [RdL EInt X (aU s1).1.roots]) := by
 refine bj aZ Tryz.func73 rfl Tryz.ntmps73 Tryz.results73 rfl inferInstance (fun _ => inferInstance) fun C => ?_
 refine Tx ?_
 refine Al fun g1 => ?_
 refine Tx ?_
 refine rw_q rfl rfl rfl (oQ (a := s1) rfl rfl Zf und_9) ?_
 refine Tx ?_
 refine Cd (b := decide ((s1.length : Int) > 60000)) (fun hc1 => ?_) fun hc1 => ?_
 ·have hc1p := of_decide_eq_true hc1
  refine Tx ?_
  refine Fc EInt ?_
  refine ai ?_; simp only [aU, hc1, Cf]; exact Re (⟨none, 0⟩ : SlV) (Va (Vt Vn))
 ·have hc1p := of_decide_eq_false hc1
  refine Tx ?_
  refine Cl (tF s1 ([32] : Str) rfl (by omega)) fun x1 => ?_
  refine Pr EStr x1 (spl 32 s1) 16 fun hlen1 => ?_
  have hspl := (qN 32 s1).1
  refine Tx ?_
  refine rw_q rfl rfl rfl (p4 EStr 1 rfl rfl Zf rfl Zf rfl rfl Zo Zo) ?_
  refine aI (F := RdL EStr (⟨slA x1.a x1.c 1 EStr.esz, x1.c - 1⟩ : SlV) ((spl 32 s1).drop 1)) [RdL EStr x1 (spl 32 s1)] Sm (fun M w h => (allF1 h).drop _ (by omega)) ?_
  refine Tx ?_
  refine Pc EStr (⟨slA x1.a x1.c 1 EStr.esz, x1.c - 1⟩ : SlV) ((spl 32 s1).drop 1) 16 fun hlen2 => ?_
  (repeat refine ao ?_); refine Lp [2,3,4,19,20] [true] (fun (i_ : List Int × SlV × Option Nat × Nat) => match i_ with | ⟨n1, x2, x2b, n2⟩ => (⟨[(5, .v (x2.val n1.length)), (21, .v (.int .i64 (n2 : Int)))], [], [ownL EInt 3 x2 x2b n1], [], (n2 ≤ ((spl 32 s1).drop 1).length) ∧ (n1.length ≤ n2) ∧ (cQ s1 (((spl 32 s1).drop 1).drop n2) n1) = (aU s1), ((spl 32 s1).drop 1).length - n2⟩ : Ls)) ⟨[], ⟨none, 0⟩, none, 0⟩ (Sc (Sc (Sc (Sc (Sc Sn))))) (.keep (.nil)) ⟨Nat.zero_le _, (by first | exact Nat.le_refl _ | exact Nat.zero_le _ | omega), (by simp only [aU, hc1, Cf] : (aU s1) = (cQ s1 ((spl 32 s1).drop 1) [])).symm⟩ (Le.trans (eO EInt 3) Le4) ?_
  rintro ⟨n1, x2, x2b, n2⟩ ⟨hkn2, hn1, hf1⟩
  simp only [List.cons_append, List.nil_append]
  refine Tx ?_
  refine Cd (b := decide ((n2 : Int) < (((spl 32 s1).drop 1).length : Int))) (fun hc2 => ?_) fun hc2 => ?_
  ·have hlt0 : n2 < ((spl 32 s1).drop 1).length := Int.ofNat_lt.1 (of_decide_eq_true hc2)
   refine Tx ?_
   refine rw_q rfl rfl rfl (q_idx EStr n2 rfl rfl Zf rfl Zf rfl rfl rfl Mm rfl Zf (fun _ => by first | assumption | omega)) ?_
   refine rw_q rfl rfl rfl (q_le1 EStr rfl rfl Zf rfl rfl Mm (fun _ => by first | assumption | omega) rfl) ?_
   refine Tx ?_
   refine Cl (uE (gt ((spl 32 s1).drop 1) n2) (Nat.le_trans (sB hlt0) (by omega))) fun x3 => ?_
   refine Tx ?_
   refine rw_q rfl rfl rfl (vL rfl rfl Zf qM) ?_
   refine Tx ?_
   refine dv (fun hG_ => rH (atv (gt ((spl 32 s1).drop 1) n2)) (sG _)) Zf .sq (aB rfl rfl rfl) rfl rfl rfl Kr rfl Bt Sm ?_
   refine Tx ?_
   refine rw_qg (aB rfl rfl rfl) rfl rfl (q_neS (a := (Lib.itoa (atv (gt ((spl 32 s1).drop 1) n2)))) (b := (gt ((spl 32 s1).drop 1) n2)) rfl rfl Bt rfl Bt) ?_
   refine Tx ?_
   refine Cd (b := ((ate (gt ((spl 32 s1).drop 1) n2)) || ((Lib.itoa (atv (gt ((spl 32 s1).drop 1) n2))) != (gt ((spl 32 s1).drop 1) n2)))) (fun hc3 => ?_) fun hc3 => ?_
   ·refine Tx ?_
    refine Fc EInt ?_
    refine ai ?_; rw [show (aU s1) = ((⟨0, 0, 0, ([] : List Int), (⟨0, 0, 0, 0, 0, 0, 0⟩ : Op)⟩ : Rec), 1) by rw [← hf1, aE hlt0]; simp only [cQ, hc3, Cf]]; exact Re (⟨none, 0⟩ : SlV) (Va (Vt Vn))
   ·refine Tx ?_
    refine bB EInt [(atv (gt ((spl 32 s1).drop 1) n2))] .sq (ac rfl) rfl rfl rfl rfl rfl rfl rfl rfl rfl rfl rfl rfl rfl rfl rfl fun x4 x4b => ?_
    refine b5 EInt n1 [(atv (gt ((spl 32 s1).drop 1) n2))] (b := x2b) .sq (fun _ _ => .inl ⟨_, rfl⟩) (ac rfl) rfl rfl rfl rfl rfl rfl rfl (fun _ _ => Uo) rfl rfl rfl rfl rfl rfl rfl (c6 (e := 3) (b := x4b) Mm) (by show (n1.length + 1) * 8 ≤ 140737488355328; (try simp only [List.length_append, List.length_cons, List.length_nil]); omega) fun x5 x5b => ?_
    refine Tx ?_
    refine rw_q rfl rfl rfl (q_add rfl rfl Zf rfl Zf Zo) ?_
    refine Tx ?_
    refine ⟨⟨(n1 ++ [(atv (gt ((spl 32 s1).drop 1) n2))]), x5, x5b, (n2 + 1)⟩, ⟨hlt0, Zl, (by rw [← hf1, aE hlt0]; simp only [cQ, hc3, Cf] : (aU s1) = (cQ s1 (((spl 32 s1).drop 1).drop (n2 + 1)) (n1 ++ [(atv (gt ((spl 32 s1).drop 1) n2))]))).symm⟩, (by simp only []; omega), Le4⟩
  ·have hge0 : ((spl 32 s1).drop 1).length ≤ n2 := by have := of_decide_eq_false hc2; omega
   refine cw_le (ay EInt 3 x2 x2b n1 Uo) ?_
   refine Tx ?_
   refine Al fun g2 => ?_
   refine Tx ?_
   refine rw_q rfl rfl rfl (q_idx EStr 0 rfl rfl Zf rfl Zf rfl rfl rfl Mm rfl Zf (fun _ => by first | assumption | omega)) ?_
   refine rw_q rfl rfl rfl (q_le1 EStr rfl rfl Zf rfl rfl Mm (fun _ => by first | assumption | omega) rfl) ?_
   refine rw_q rfl rfl rfl (q_eqS (a := (gt (spl 32 s1) 0)) (b := ([111, 112] : Str)) rfl rfl Zf rfl Zf) ?_
   refine Tx ?_
   refine Cd (b := (((gt (spl 32 s1) 0) == ([111, 112] : Str)) && ((n1.length : Int) == 7))) (fun hc4 => ?_) fun hc4 => ?_
   ·have hl7 := vb hc4
    (repeat refine ao ?_); refine au (fun j => match j with | 24 => some [g2] | _ => some []) ?_
    refine Rb 0 rfl Qp ?_
    refine Rb 1 rfl (q_idx EInt 0 rfl rfl Zf rfl Zf rfl rfl rfl Mm rfl Zf (fun _ => by first | assumption | omega)) ?_
    refine Rb 2 rfl (q_le1 EInt rfl rfl Zf rfl rfl Mm (fun _ => by first | assumption | omega) rfl) ?_
    refine Rb 3 rfl Qp ?_
    refine Rb 4 rfl (q_idx EInt 1 rfl rfl Zf rfl Zf rfl rfl rfl Mm rfl Zf (fun _ => by first | assumption | omega)) ?_
    refine Rb 5 rfl (q_le1 EInt rfl rfl Zf rfl rfl Mm (fun _ => by first | assumption | omega) rfl) ?_
    refine Rb 6 rfl Qp ?_
    refine Rb 7 rfl Qp ?_
    refine Rb 8 rfl (q_idx EInt 2 rfl rfl Zf rfl Zf rfl rfl rfl Mm rfl Zf (fun _ => by first | assumption | omega)) ?_
    refine Rb 9 rfl (q_le1 EInt rfl rfl Zf rfl rfl Mm (fun _ => by first | assumption | omega) rfl) ?_
    refine Rb 10 rfl Qp ?_
    refine Rb 11 rfl (q_idx EInt 3 rfl rfl Zf rfl Zf rfl rfl rfl Mm rfl Zf (fun _ => by first | assumption | omega)) ?_
    refine Rb 12 rfl (q_le1 EInt rfl rfl Zf rfl rfl Mm (fun _ => by first | assumption | omega) rfl) ?_
    refine Rb 13 rfl Qp ?_
    refine Rb 14 rfl (q_idx EInt 4 rfl rfl Zf rfl Zf rfl rfl rfl Mm rfl Zf (fun _ => by first | assumption | omega)) ?_
    refine Rb 15 rfl (q_le1 EInt rfl rfl Zf rfl rfl Mm (fun _ => by first | assumption | omega) rfl) ?_
    refine Rb 16 rfl Qp ?_
    refine Rb 17 rfl (q_idx EInt 5 rfl rfl Zf rfl Zf rfl rfl rfl Mm rfl Zf (fun _ => by first | assumption | omega)) ?_
    refine Rb 18 rfl (q_le1 EInt rfl rfl Zf rfl rfl Mm (fun _ => by first | assumption | omega) rfl) ?_
    refine Rb 19 rfl Qp ?_
    refine Rb 20 rfl (q_idx EInt 6 rfl rfl Zf rfl Zf rfl rfl rfl Mm rfl Zf (fun _ => by first | assumption | omega)) ?_
    refine Rb 21 rfl (q_le1 EInt rfl rfl Zf rfl rfl Mm (fun _ => by first | assumption | omega) rfl) ?_
    refine Ra 22 rfl Qp ?_
    refine Ra 23 rfl Qp ?_
    refine ap 24 Kr ?_
    refine cY (.an rfl rfl) (.inr (by simp)) (ac rfl) rfl rfl rfl rfl rfl rfl rfl rfl rfl Ub rfl ?_
    refine bn Kr ?_
    refine Tx ?_
    refine Fr EInt ?_
    refine Cl (fw (⟨none, 0⟩ : SlV) (⟨1, 0, 0, ([] : List Int), (⟨(gt n1 0), (gt n1 1), (gt n1 2), (gt n1 3), (gt n1 4), (gt n1 5), (gt n1 6)⟩ : Op)⟩ : Rec)) fun _ => ?_
    refine Tx ?_
    refine Cd (b := ((aM (⟨1, 0, 0, ([] : List Int), (⟨(gt n1 0), (gt n1 1), (gt n1 2), (gt n1 3), (gt n1 4), (gt n1 5), (gt n1 6)⟩ : Op)⟩ : Rec)) != 0)) (fun hc5 => ?_) fun hc5 => ?_
    ·have hc5p := bne_iff_ne.1 hc5
     refine Tx ?_
     refine ai ?_; rw [show (aU s1) = ((⟨0, 0, 0, ([] : List Int), (⟨0, 0, 0, 0, 0, 0, 0⟩ : Op)⟩ : Rec), (aM (⟨1, 0, 0, ([] : List Int), (⟨(gt n1 0), (gt n1 1), (gt n1 2), (gt n1 3), (gt n1 4), (gt n1 5), (gt n1 6)⟩ : Op)⟩ : Rec))) by rw [← hf1, List.drop_of_length_le hge0]; simp only [cQ, hc4, hc5, Cf]]; exact Re (⟨none, 0⟩ : SlV) (Va (Vt Vn))
    ·have hc5p := ae hc5
     refine Tx ?_
     refine ai ?_; rw [show (aU s1) = ((⟨1, 0, 0, ([] : List Int), (⟨(gt n1 0), (gt n1 1), (gt n1 2), (gt n1 3), (gt n1 4), (gt n1 5), (gt n1 6)⟩ : Op)⟩ : Rec), 0) by rw [← hf1, List.drop_of_length_le hge0]; simp only [cQ, hc4, hc5, Cf]]; exact Re (⟨none, 0⟩ : SlV) (Va (Vt Vn))
   ·refine Tx ?_
    refine rw_q rfl rfl rfl (q_idx EStr 0 rfl rfl Zf rfl Zf rfl rfl rfl Mm rfl Zf (fun _ => by first | assumption | omega)) ?_
    refine rw_q rfl rfl rfl (q_le1 EStr rfl rfl Zf rfl rfl Mm (fun _ => by first | assumption | omega) rfl) ?_
    refine rw_q rfl rfl rfl (q_eqS (a := (gt (spl 32 s1) 0)) (b := ([108, 105, 102, 101] : Str)) rfl rfl Zf rfl Zf) ?_
    refine Tx ?_
    refine Cd (b := (((gt (spl 32 s1) 0) == ([108, 105, 102, 101] : Str)) && ((n1.length : Int) == 2))) (fun hc6 => ?_) fun hc6 => ?_
    ·have hl7 := vb hc6
     (repeat refine ao ?_); refine au (fun j => match j with | 7 => some [g2] | _ => some []) ?_
     refine Rb 0 rfl Qp ?_
     refine Rb 1 rfl (q_idx EInt 0 rfl rfl Zf rfl Zf rfl rfl rfl Mm rfl Zf (fun _ => by first | assumption | omega)) ?_
     refine Ra 2 rfl (q_le1 EInt rfl rfl Zf rfl rfl Mm (fun _ => by first | assumption | omega) rfl) ?_
     refine Rb 3 rfl Qp ?_
     refine Rb 4 rfl (q_idx EInt 1 rfl rfl Zf rfl Zf rfl rfl rfl Mm rfl Zf (fun _ => by first | assumption | omega)) ?_
     refine Ra 5 rfl (q_le1 EInt rfl rfl Zf rfl rfl Mm (fun _ => by first | assumption | omega) rfl) ?_
     refine Ra 6 rfl Qp ?_
     refine ap 7 Kr ?_
     refine cY (.an rfl rfl) (.inr (by simp)) (ac rfl) rfl rfl rfl rfl rfl rfl rfl rfl rfl Ub rfl ?_
     refine bn Kr ?_
     refine Tx ?_
     refine Fr EInt ?_
     refine Cl (fw (⟨none, 0⟩ : SlV) (⟨2, (gt n1 0), (gt n1 1), ([] : List Int), (⟨0, 0, 0, 0, 0, 0, 0⟩ : Op)⟩ : Rec)) fun _ => ?_
     refine Tx ?_
     refine Cd (b := ((aM (⟨2, (gt n1 0), (gt n1 1), ([] : List Int), (⟨0, 0, 0, 0, 0, 0, 0⟩ : Op)⟩ : Rec)) != 0)) (fun hc7 => ?_) fun hc7 => ?_
     ·have hc7p := bne_iff_ne.1 hc7
      refine Tx ?_
      refine ai ?_; rw [show (aU s1) = ((⟨0, 0, 0, ([] : List Int), (⟨0, 0, 0, 0, 0, 0, 0⟩ : Op)⟩ : Rec), (aM (⟨2, (gt n1 0), (gt n1 1), ([] : List Int), (⟨0, 0, 0, 0, 0, 0, 0⟩ : Op)⟩ : Rec))) by rw [← hf1, List.drop_of_length_le hge0]; simp only [cQ, hc4, hc6, hc7, Cf]]; exact Re (⟨none, 0⟩ : SlV) (Va (Vt Vn))
     ·have hc7p := ae hc7
      refine Tx ?_
      refine ai ?_; rw [show (aU s1) = ((⟨2, (gt n1 0), (gt n1 1), ([] : List Int), (⟨0, 0, 0, 0, 0, 0, 0⟩ : Op)⟩ : Rec), 0) by rw [← hf1, List.drop_of_length_le hge0]; simp only [cQ, hc4, hc6, hc7, Cf]]; exact Re (⟨none, 0⟩ : SlV) (Va (Vt Vn))
    ·refine Tx ?_
     refine rw_q rfl rfl rfl (q_idx EStr 0 rfl rfl Zf rfl Zf rfl rfl rfl Mm rfl Zf (fun _ => by first | assumption | omega)) ?_
     refine rw_q rfl rfl rfl (q_le1 EStr rfl rfl Zf rfl rfl Mm (fun _ => by first | assumption | omega) rfl) ?_
     refine rw_q rfl rfl rfl (q_eqS (a := (gt (spl 32 s1) 0)) (b := ([114, 111, 111, 116, 115] : Str)) rfl rfl Zf rfl Zf) ?_
     refine Tx ?_
     refine Cd (b := (((gt (spl 32 s1) 0) == ([114, 111, 111, 116, 115] : Str)) && decide ((n1.length : Int) > 0))) (fun hc8 => ?_) fun hc8 => ?_
     ·have hl7 := len_gt hc8
      (repeat refine ao ?_); refine au (fun j => match j with | 6 => some [g2] | _ => some []) ?_
      refine Rb 0 rfl Qp ?_
      refine Rb 1 rfl (q_idx EInt 0 rfl rfl Zf rfl Zf rfl rfl rfl Mm rfl Zf (fun _ => by first | assumption | omega)) ?_
      refine Ra 2 rfl (q_le1 EInt rfl rfl Zf rfl rfl Mm (fun _ => by first | assumption | omega) rfl) ?_
      refine Rb 3 rfl Qp ?_
      refine Ra 4 rfl (p4 EInt 1 rfl rfl Zf rfl Zf rfl rfl Zo Zo) ?_
      refine aI (F := RdL EInt (⟨slA x2.a x2.c 1 EInt.esz, x2.c - 1⟩ : SlV) (n1.drop 1)) [RdL EInt x2 n1] Sm (fun M w h => (allF1 h).drop _ (by omega)) ?_
      refine Ra 5 rfl Qp ?_
      refine ap 6 Kr ?_
      refine cY (.an rfl rfl) (.inr (by simp)) (ac rfl) rfl rfl rfl rfl rfl rfl rfl rfl rfl Ub rfl ?_
      refine bn Kr ?_
      refine Tx ?_
      refine Cl (fw (⟨slA x2.a x2.c 1 EInt.esz, x2.c - 1⟩ : SlV) (⟨3, (gt n1 0), 0, (n1.drop 1), (⟨0, 0, 0, 0, 0, 0, 0⟩ : Op)⟩ : Rec)) fun _ => ?_
      refine Tx ?_
      refine Cd (b := ((aM (⟨3, (gt n1 0), 0, (n1.drop 1), (⟨0, 0, 0, 0, 0, 0, 0⟩ : Op)⟩ : Rec)) != 0)) (fun hc9 => ?_) fun hc9 => ?_
      ·have hc9p := bne_iff_ne.1 hc9
       refine Tx ?_
       refine Fc EInt ?_
       refine ai ?_; rw [show (aU s1) = ((⟨0, 0, 0, ([] : List Int), (⟨0, 0, 0, 0, 0, 0, 0⟩ : Op)⟩ : Rec), (aM (⟨3, (gt n1 0), 0, (n1.drop 1), (⟨0, 0, 0, 0, 0, 0, 0⟩ : Op)⟩ : Rec))) by rw [← hf1, List.drop_of_length_le hge0]; simp only [cQ, hc4, hc6, hc8, hc9, Cf]]; exact Re (⟨none, 0⟩ : SlV) (Va (Vt Vn))
      ·have hc9p := ae hc9
       refine Tx ?_
       refine ai ?_; rw [show (aU s1) = ((⟨3, (gt n1 0), 0, (n1.drop 1), (⟨0, 0, 0, 0, 0, 0, 0⟩ : Op)⟩ : Rec), 0) by rw [← hf1, List.drop_of_length_le hge0]; simp only [cQ, hc4, hc6, hc8, hc9, Cf]]; exact Re (⟨slA x2.a x2.c 1 EInt.esz, x2.c - 1⟩ : SlV) (Va (Vt Vn))
     ·refine Tx ?_
      refine Fc EInt ?_
      refine ai ?_; rw [show (aU s1) = ((⟨0, 0, 0, ([] : List Int), (⟨0, 0, 0, 0, 0, 0, 0⟩ : Op)⟩ : Rec), 1) by rw [← hf1, List.drop_of_length_le hge0]; simp only [cQ, hc4, hc6, hc8, Cf]]; exact Re (⟨none, 0⟩ : SlV) (Va (Vt Vn))
def bQ (s1 : Str) (most1 : Int) : Nat → Str → (List Rec) → ((List Rec) × Int × Int)
 | 0, s2, l1 => default
 | f_k0 + 1, s2, l1 => (bif (s2 != ([] : Str)) then (bif (!(cutc 10 s2).2.2) then (l1, ((s1.length : Int) - (s2.length : Int)), 8) else (bif ((aU (cutc 10 s2).1).2 != 0) then (l1, ((s1.length : Int) - (s2.length : Int)), (aU (cutc 10 s2).1).2) else (bif ((l1.length : Int) == most1) then (l1, ((s1.length : Int) - (s2.length : Int)), 2) else (bQ s1 most1 f_k0 (cutc 10 s2).2.1 (l1 ++ [(aU (cutc 10 s2).1).1]))))) else (l1, (s1.length : Int), 0))
def az (s1 : Str) (most1 : Int) : (List Rec) × Int × Int :=
 (bQ s1 most1 (s1.length + 1) s1 [])
theorem iI (s1 : Str) (most1 : Int) (hs : s1.length ≤ 60000) : DoesG Tryz.prog 47 [sV s1, .int .i64 most1] [LibP Tryz.prog] ⟨[], []⟩ (fun (X : SlV × Option Nat × (Nat → SlV)) => .tuple #[X.1.val (az s1 most1).1.length, .int .i64 (az s1 most1).2.1, .int .i64 (az s1 most1).2.2]) (fun X => [am NRec X.2.2 (az s1 most1).1]) (fun X => ⟨[], [ownL NRec.E 76 X.1 X.2.1 (zipG X.2.2 0 (az s1 most1).1)]⟩) := by
 refine co aZ Tryz.func47 rfl Tryz.ntmps47 Tryz.results47 rfl inferInstance (fun _ => inferInstance) fun C => ?_
 refine Tx ?_
 refine rw_q rfl rfl rfl (oQ (a := s1) rfl rfl Zf und_9) ?_
 refine Tx ?_
 (repeat refine ao ?_); refine Lp [1,4,5,6,8] [] (fun (i_ : Str × List Rec × SlV × Option Nat × (Nat → SlV) × Nat) => match i_ with | ⟨s2, l1, x1, x1b, γ1, fz1⟩ => (⟨[(0, .v (sV s2)), (7, .v (x1.val l1.length))], [], [ownL NRec.E 76 x1 x1b (zipG γ1 0 l1)], [am NRec γ1 l1], (s2.length + l1.length ≤ s1.length) ∧ (s2.length < fz1) ∧ (bQ s1 most1 fz1 s2 l1) = (az s1 most1), fz1⟩ : Ls)) ⟨s1, [], ⟨none, 0⟩, none, (fun _ => default), s1.length + 1⟩ (Sc (Sc (Sc (Sc (Sc Sn))))) (.nil) ⟨(by simp only [List.length_nil]; omega), (by first | exact Nat.le_refl _ | exact Nat.zero_le _ | omega), (by simp only [az, Cf] : (az s1 most1) = (bQ s1 most1 (s1.length + 1) s1 [])).symm⟩ (Le.trans (eO NRec.E 76) (Le.trans (tH (am NRec (fun _ => default) ([] : List Rec)) [] (.nil _) (fun M w _ => am.nil NRec _ M w)) Le4)) ?_
 rintro ⟨s2, l1, x1, x1b, γ1, fz1⟩ ⟨hinv, hzfz1, hf1⟩
 simp only [List.cons_append, List.nil_append]
 have hlt0_ : (fz1 - 1) + 1 = fz1 := by omega
 refine Tx ?_
 refine rw_q rfl rfl rfl (q_neS (a := s2) (b := ([] : Str)) rfl rfl Zf rfl Zf) ?_
 refine dY ?_
 (repeat refine ao ?_)
 refine Cd (b := (s2 != ([] : Str))) (fun hc1 => ?_) fun hc1 => ?_
 ·have hc1p := bne_iff_ne.1 hc1
  refine Tx ?_
  refine Cl (vW s2 ([10] : Str) rfl (by omega)) fun _ => ?_
  have hcn := rU 10 s2; have hcl := pE 10 s2
  refine Tx ?_
  refine Cd (b := (!(cutc 10 s2).2.2)) (fun hc2 => ?_) fun hc2 => ?_
  ·refine Tx ?_
   refine rw_q rfl rfl rfl (oQ (a := s2) rfl rfl Zf und_9) ?_
   refine rw_q rfl rfl rfl (q_sub rfl rfl Zf rfl Zf Zo) ?_
   refine Tx ?_
   refine ai ?_; rw [show (az s1 most1) = (l1, ((s1.length : Int) - (s2.length : Int)), 8) by rw [← hf1]; (conv => lhs; rw [← hlt0_]); simp only [bQ, hc1, hc2, Cf]]; exact Re ⟨x1, x1b, γ1⟩ (Vt (Vt (Vt Vn)))
  ·have hcl2 := hcl (by simpa using hc2)
   refine Tx ?_
   refine Cl (nM (cutc 10 s2).1) fun x2 => ?_
   refine Pr EInt x2 (aU (cutc 10 s2).1).1.roots 8 fun hlen1 => ?_
   refine Tx ?_
   refine Al fun g1 => ?_
   refine Tx ?_
   refine Cd (b := ((aU (cutc 10 s2).1).2 != 0)) (fun hc3 => ?_) fun hc3 => ?_
   ·have hc3p := bne_iff_ne.1 hc3
    refine Tx ?_
    refine rw_q rfl rfl rfl (oQ (a := s2) rfl rfl Zf und_9) ?_
    refine rw_q rfl rfl rfl (q_sub rfl rfl Zf rfl Zf Zo) ?_
    refine Tx ?_
    refine ai ?_; rw [show (az s1 most1) = (l1, ((s1.length : Int) - (s2.length : Int)), (aU (cutc 10 s2).1).2) by rw [← hf1]; (conv => lhs; rw [← hlt0_]); simp only [bQ, hc1, hc2, hc3, Cf]]; exact Re ⟨x1, x1b, γ1⟩ (Vt (Vt (Vt Vn)))
   ·have hc3p := ae hc3
    refine Tx ?_
    refine Cd (b := ((l1.length : Int) == most1)) (fun hc4 => ?_) fun hc4 => ?_
    ·have hc4p := eq_of_beq hc4
     refine Tx ?_
     refine rw_q rfl rfl rfl (oQ (a := s2) rfl rfl Zf und_9) ?_
     refine rw_q rfl rfl rfl (q_sub rfl rfl Zf rfl Zf Zo) ?_
     refine Tx ?_
     refine ai ?_; rw [show (az s1 most1) = (l1, ((s1.length : Int) - (s2.length : Int)), 2) by rw [← hf1]; (conv => lhs; rw [← hlt0_]); simp only [bQ, hc1, hc2, hc3, hc4, Cf]]; exact Re ⟨x1, x1b, γ1⟩ (Vt (Vt (Vt Vn)))
    ·have hc4p := ne_of_beq_false hc4
     refine Tx ?_
     refine bB NRec.E [(x2, (aU (cutc 10 s2).1).1)] .sq (ac rfl) rfl rfl rfl rfl rfl rfl rfl rfl rfl rfl rfl rfl rfl (ma rfl rfl) rfl fun x3 x3b => ?_
     refine rw_le (ay NRec.E 76 x3 x3b [(x2, (aU (cutc 10 s2).1).1)] Uo) ?_
     refine aI (F := RdN NRec x3 [(aU (cutc 10 s2).1).1]) [RdL NRec.E x3 [(x2, (aU (cutc 10 s2).1).1)], RdL EInt x2 (aU (cutc 10 s2).1).1.roots] Sm (fun M w h => RdN.of NRec (hs := [(x2, (aU (cutc 10 s2).1).1)]) rfl (h _ (.head _)) (aY (da Sm h) (fun p hp => by cases hp))) ?_
     refine fj NRec (X := x3) (l := [(aU (cutc 10 s2).1).1]) Mm fun (γ2 : Nat → SlV) => ?_
     refine mo NRec γ1 γ2 l1 [(aU (cutc 10 s2).1).1] (b := x1b) .sq (fun _ _ => .inl ⟨_, rfl⟩) (ac rfl) rfl rfl rfl rfl rfl rfl rfl (fun _ _ => Uo) rfl rfl rfl rfl rfl rfl rfl (ta (EN := NRec) (X := x3) (γ := γ2) (l := [(aU (cutc 10 s2).1).1]) Mm) (by show (l1.length + [(aU (cutc 10 s2).1).1].length) * 104 ≤ 140737488355328; (try simp only [List.length_append, List.length_cons, List.length_nil]); omega) fun x4 x4b => ?_
     refine aI (F := am NRec (appG γ1 l1.length γ2) (l1 ++ [(aU (cutc 10 s2).1).1])) [am NRec γ1 l1, am NRec γ2 [(aU (cutc 10 s2).1).1]] Sm (fun M w h => am.app NRec (h _ (.head _)) (h _ (.tail _ (.head _)))) ?_
     refine Tx ?_
     refine ⟨⟨(cutc 10 s2).2.1, (l1 ++ [(aU (cutc 10 s2).1).1]), x4, x4b, (appG γ1 l1.length γ2), (fz1 - 1)⟩, ⟨Zl, (by (try simp only []); first | omega | (simp only [List.length_append, List.length_cons, List.length_nil]; omega)), (by rw [← hf1]; (conv => lhs; rw [← hlt0_]); simp only [bQ, hc1, hc2, hc3, hc4, Cf] : (az s1 most1) = (bQ s1 most1 (fz1 - 1) (cutc 10 s2).2.1 (l1 ++ [(aU (cutc 10 s2).1).1]))).symm⟩, (by simp only []; omega), Le4⟩
 ·have hc1p := ae hc1
  refine Tx ?_
  refine ai ?_; rw [show (az s1 most1) = (l1, (s1.length : Int), 0) by rw [← hf1]; (conv => lhs; rw [← hlt0_]); simp only [bQ, hc1, Cf]]; exact Re ⟨x1, x1b, γ1⟩ (Vt (Vt (Vt Vn)))
theorem kj (s0 : Str) (most : Int) : ∀ (f : Nat) (s : Str) (l : List Rec), s.length < f → s.length + l.length ≤ s0.length →
  (bQ s0 most f s l).1.length ≤ s0.length ∧ 0 ≤ (bQ s0 most f s l).2.1 ∧ (bQ s0 most f s l).2.1 ≤ (s0.length : Int)
 | 0, s, l, h, _ => absurd h (Nat.not_lt_zero _)
 | f + 1, s, l, h, hl => by
  rw [bQ]
  cases h1 : (s != ([] : Str)) with
  | false => simp only [cond_false]; omega
  | true =>
   simp only [cond_true]
   cases h2 : (!(cutc 10 s).2.2) with
   | true => simp only [cond_true]; omega
   | false =>
    have h2 : (cutc 10 s).2.2 = true := by simpa using h2
    have h3 := pE 10 s h2
    simp only [cond_false]
    cases ((aU (cutc 10 s).1).2 != 0) with
    | true => simp only [cond_true]; omega
    | false =>
     simp only [cond_false]
     cases ((l.length : Int) == most) with
     | true => simp only [cond_true]; omega
     | false => exact kj s0 most f _ _ (by omega) Zl
theorem mc (s : Str) (most : Int) : (az s most).1.length ≤ s.length ∧ 0 ≤ (az s most).2.1 ∧ (az s most).2.1 ≤ (s.length : Int) :=
 kj s most _ s [] (by omega) (by simp)
end Go.Proofs.YtpkaloknohpleaaGreatDoor

namespace Go.Proofs.YtpkaloknohpleaaGreatDoor
open Go Go.Proofs.YtpkaloknohpleaaGreatDoor.Fw Go.Proofs
def jt (r : Rec) : Str := wordOf r ++ glue 32 ((iG r).map Lib.itoa)
theorem oh : ∀ (l : List Int) (s : Str), d5 l s = (s ++ glue 32 (l.map Lib.itoa), 0)
 | [], s => by simp [d5, glue]
 | n :: l, s => by rw [d5, oh l]; simp [glue]
theorem V1_eq {r : Rec} (h : aM r = 0) : bD r = (wordOf r, iG r) := by
 unfold bD wordOf iG
 rcases (ip r).1 h with ⟨h1, _⟩ | ⟨h1, _, _⟩ | ⟨h1, _, _⟩ <;> (rw [h1]; rfl)
theorem sc (r : Rec) : b6 r = if aM r = 0 then (jt r, 0) else ([], aM r) := by
 unfold b6
 by_cases h : aM r = 0
 ·rw [if_pos h, V1_eq h, oh, h]
  rfl
 ·rw [if_neg h]
  have : (aM r != 0) = true := by simpa using h
  rw [this, cond_true]
def pn : List Str → Option (List Int)
 | [] => some []
 | t :: r => bif ate t || (Lib.itoa (atv t) != t) then none else (pn r).map (atv t :: ·)
abbrev noRec : Rec := ⟨0, 0, 0, [], ⟨0, 0, 0, 0, 0, 0, 0⟩⟩
def mkRec (w : Str) (n : List Int) : Option Rec :=
 if w = [111, 112] ∧ n.length = 7 then some ⟨1, 0, 0, [], ⟨gt n 0, gt n 1, gt n 2, gt n 3, gt n 4, gt n 5, gt n 6⟩⟩
 else if w = [108, 105, 102, 101] ∧ n.length = 2 then some ⟨2, gt n 0, gt n 1, [], ⟨0, 0, 0, 0, 0, 0, 0⟩⟩
 else if w = [114, 111, 111, 116, 115] ∧ 0 < n.length then some ⟨3, gt n 0, 0, n.drop 1, ⟨0, 0, 0, 0, 0, 0, 0⟩⟩
 else none
def finR (w : Str) (n : List Int) : Rec × Int := match mkRec w n with
 | none => (noRec, 1)
 | some r => if aM r = 0 then (r, 0) else (noRec, aM r)
def readP (w : Str) : Option (List Int) → Rec × Int
 | none => (noRec, 1)
 | some n => finR w n
theorem tV {w u : Str} {n : List Int} {k : Nat} : ((w == u) && ((n.length : Int) == (k : Int))) = decide (w = u ∧ n.length = k) := by
 rw [Bool.eq_iff_iff]; simp only [Bool.and_eq_true, beq_iff_eq, decide_eq_true_eq]; exact and_congr_right fun _ => by omega
theorem and_gt {w u : Str} {n : List Int} : ((w == u) && decide ((n.length : Int) > 0)) = decide (w = u ∧ 0 < n.length) := by
 rw [Bool.eq_iff_iff]; simp only [Bool.and_eq_true, beq_iff_eq, decide_eq_true_eq]; exact and_congr_right fun _ => by omega
theorem vY (r : Rec) : (bif (aM r != 0) then (noRec, aM r) else (r, (0 : Int))) = if aM r = 0 then (r, 0) else (noRec, aM r) := by
 by_cases h : aM r = 0
 ·rw [if_pos h, h]; rfl
 ·rw [if_neg h]
  have : (aM r != 0) = true := by simpa using h
  rw [this, cond_true]
theorem q9 {α : Type} {p : Prop} [Decidable p] (a b : α) : (bif decide p then a else b) = if p then a else b := by
 by_cases h : p <;> simp [h]
theorem ol (s : Str) : ∀ (l : List Str) (acc : List Int), cQ s l acc = readP (gt (spl 32 s) 0) ((pn l).map (acc ++ ·))
 | [], acc => by
  rw [cQ]
  have e7 : (7 : Int) = ((7 : Nat) : Int) := rfl
  have e2 : (2 : Int) = ((2 : Nat) : Int) := rfl
  simp only [pn, Option.map_some, List.append_nil, readP, finR, mkRec]
  simp only [vY]
  rw [show (((gt (spl 32 s) 0) == ([111, 112] : Str)) && ((acc.length : Int) == 7)) = decide (gt (spl 32 s) 0 = [111, 112] ∧ acc.length = 7) from tV (k := 7),
   show (((gt (spl 32 s) 0) == ([108, 105, 102, 101] : Str)) && ((acc.length : Int) == 2)) = decide (gt (spl 32 s) 0 = [108, 105, 102, 101] ∧ acc.length = 2) from tV (k := 2), and_gt, q9, q9, q9]
  by_cases h1 : gt (spl 32 s) 0 = [111, 112] ∧ acc.length = 7
  ·rw [if_pos h1, if_pos h1]
  ·rw [if_neg h1, if_neg h1]
   by_cases h2 : gt (spl 32 s) 0 = [108, 105, 102, 101] ∧ acc.length = 2
   ·rw [if_pos h2, if_pos h2]
   ·rw [if_neg h2, if_neg h2]
    by_cases h3 : gt (spl 32 s) 0 = [114, 111, 111, 116, 115] ∧ 0 < acc.length
    ·rw [if_pos h3, if_pos h3]
    ·rw [if_neg h3, if_neg h3]
 | t :: r, acc => by
  rw [cQ, pn]
  cases (ate t || (Lib.itoa (atv t) != t)) with
  | true => rfl
  | false =>
   simp only [cond_false]
   rw [ol s r, Option.map_map]
   congr 2
   funext x; simp
theorem se {s : Str} (h : s.length ≤ 60000) : aU s = readP (gt (spl 32 s) 0) (pn ((spl 32 s).drop 1)) := by
 unfold aU
 have : decide ((s.length : Int) > 60000) = false := by simp; omega
 rw [this, cond_false, ol]
 congr 1
 cases pn ((spl 32 s).drop 1) <;> simp
theorem sI {s : Str} (h : 60000 < s.length) : aU s = (noRec, 2) := by
 unfold aU
 have : decide ((s.length : Int) > 60000) = true := by simp; omega
 rw [this, cond_true]
theorem tq : ∀ {l : List Int}, (∀ n ∈ l, I64 n) → pn (l.map Lib.itoa) = some l
 | [], _ => rfl
 | n :: l, h => by
  have hn := h n (.head _)
  rw [List.map_cons, pn, uT hn, uR hn, tq (fun m hm => h m (.tail _ hm))]
  simp
theorem tn : ∀ {l : List Str} {n : List Int}, pn l = some n → l = n.map Lib.itoa
 | [], n, h => by simp [pn] at h; subst h; rfl
 | t :: l, n, h => by
  rw [pn] at h
  cases hb : (ate t || (Lib.itoa (atv t) != t)) with
  | true => rw [hb] at h; cases h
  | false =>
   rw [hb, cond_false] at h
   simp only [Bool.or_eq_false_iff, bne_eq_false_iff_eq] at hb
   cases hp : pn l with
   | none => rw [hp] at h; cases h
   | some m =>
    rw [hp] at h
    simp only [Option.map_some, Option.some.injEq] at h
    subst h
    rw [List.map_cons, hb.2, ← tn hp]
theorem vy (r : Rec) : (32 : UInt8) ∉ wordOf r := by
 unfold wordOf
 cases r.kind == 1 with
 | true => rw [cond_true]; decide
 | false => rw [cond_false]; cases r.kind == 2 with
  | true => rw [cond_true]; decide
  | false => rw [cond_false]; decide
theorem mk_of {r : Rec} (h : aM r = 0) : mkRec (wordOf r) (iG r) = some r := by
 rcases (ip r).1 h with ⟨h1, _⟩ | ⟨h1, _, _⟩ | ⟨h1, _, _⟩ <;> (rw [h1]; rfl)
theorem vT {w : Str} {n : List Int} {r : Rec} (h : mkRec w n = some r) : wordOf r = w ∧ iG r = n := by
 unfold mkRec at h
 split at h
 ·rename_i hw
  obtain ⟨rfl, hl⟩ := hw
  simp only [Option.some.injEq] at h
  subst h
  match n, hl with
  | [a, b, c, d, e, f, g], _ => exact ⟨rfl, rfl⟩
 ·split at h
  ·rename_i hw
   obtain ⟨rfl, hl⟩ := hw
   simp only [Option.some.injEq] at h
   subst h
   match n, hl with
   | [a, b], _ => exact ⟨rfl, rfl⟩
  ·split at h
   ·rename_i hw
    obtain ⟨rfl, hl⟩ := hw
    simp only [Option.some.injEq] at h
    subst h
    match n, hl with
    | a :: l, _ => exact ⟨rfl, rfl⟩
   ·cases h
theorem rN : ∀ {l : List Int}, (∀ n ∈ l, I64 n) → (glue 32 (l.map Lib.itoa)).length ≤ 22 * l.length
 | [], _ => by simp [glue]
 | n :: l, h => by
  have h1 := rN (fun m hm => h m (.tail n hm))
  have h2 := Lib.itoa_length_le n (h n (.head _)).1 (h n (.head _)).2
  simp only [glue, List.map_cons, List.flatMap_cons, List.length_append, List.length_cons] at h1 ⊢
  omega
theorem ut (r : Rec) : (wordOf r).length ≤ 5 := by
 unfold wordOf
 cases r.kind == 1 with
 | true => rw [cond_true]; decide
 | false => rw [cond_false]; cases r.kind == 2 with
  | true => rw [cond_true]; decide
  | false => rw [cond_false]; decide
theorem k4 {r : Rec} (h : aM r = 0) : (jt r).length ≤ 159 := by
 have h1 := nK h
 have h2 := rN h1.2
 have h3 := ut r
 rw [jt, List.length_append]
 omega
theorem spl_pr {r : Rec} : spl 32 (jt r) = wordOf r :: (iG r).map Lib.itoa :=
 rv _ _ (vy r) (fun t ht => by
  obtain ⟨n, _, rfl⟩ := List.mem_map.1 ht
  exact tI (by decide))
theorem ri {r : Rec} (h : aM r = 0) : aU (jt r) = (r, 0) := by
 rw [se (by have := k4 h; omega), spl_pr, show gt (wordOf r :: (iG r).map Lib.itoa) 0 = wordOf r from rfl, List.drop_succ_cons, List.drop_zero, tq (nK h).2, readP, finR, mk_of h]
 simp only [h, if_pos]
theorem uZ {s : Str} {x : Rec} (h : aU s = (x, 0)) : aM x = 0 ∧ jt x = s := by
 by_cases hs : s.length ≤ 60000
 ·rw [se hs] at h
  obtain ⟨w, l, h1, h2⟩ := rM 32 s.length s (Nat.le_refl _)
  rw [h1] at h
  have e : gt (w :: l) 0 = w := rfl
  rw [e, List.drop_succ_cons, List.drop_zero] at h
  cases hp : pn l with
  | none => rw [hp, readP] at h; cases h
  | some n =>
   rw [hp, readP, finR] at h
   cases hm : mkRec w n with
   | none => rw [hm] at h; cases h
   | some r =>
    rw [hm] at h
    simp only at h
    split at h
    ·rename_i hc
     simp only [Prod.mk.injEq, and_true] at h
     subst h
     obtain ⟨h3, h4⟩ := vT hm
     refine ⟨hc, ?_⟩
     rw [jt, h3, h4, h2, tn hp]
    ·rename_i hc
     simp only [Prod.mk.injEq] at h
     exact absurd h.2 hc
 ·rw [sI (by omega)] at h; cases h
end Go.Proofs.YtpkaloknohpleaaGreatDoor

set_option maxHeartbeats 2000000
namespace Go.Proofs.YtpkaloknohpleaaGreatDoor
open Go Go.Proofs.YtpkaloknohpleaaGreatDoor.Fw Go.Proofs
attribute [local irreducible] RdL RdN VarP LibP RW CW
theorem qw {a b : Nat} (h : (decide ((a : Int) > 60000) || decide ((b : Int) > (60000 - (a : Int)))) = false) : a ≤ 60000 ∧ a + b ≤ 60000 := by
 simp only [Bool.or_eq_false_iff, decide_eq_false_iff_not] at h; omega
theorem uf (r : Rec) : (b6 r).1.length ≤ 159 := by
 rw [sc]
 split
 ·rename_i h; exact k4 h
 ·simp
def cK (d1 : Disk) : Int :=
 (bif (decide ((d1.safe.length : Int) > 60000) || decide ((d1.wait.length : Int) > (60000 - (d1.safe.length : Int)))) then 2 else (az d1.safe 60).2.2)
theorem go (y1 : SlV) (y2 : SlV) (d1 : Disk) : Does Tryz.prog 46 [.agg ⟨[y1.val d1.safe.length, y2.val d1.wait.length]⟩] [RdL EByte y1 d1.safe, RdL EByte y2 d1.wait, LibP Tryz.prog] (fun (_ : Unit) => .int .i64 (cK d1)) (fun _ => []) := by
 refine bj aZ Tryz.func46 rfl Tryz.ntmps46 Tryz.results46 rfl inferInstance (fun _ => inferInstance) fun C => ?_
 refine Pc EByte y1 d1.safe 1 fun hlen1 => ?_
 refine Pc EByte y2 d1.wait 1 fun hlen2 => ?_
 refine Tx ?_
 refine Bx fun g1 => ?_
 refine Tx ?_
 refine rw_qg (aB rfl rfl rfl) rfl rfl (q_sub rfl rfl Bt rfl Bt (by intro h; first | omega | (simp at h; omega))) ?_
 refine Tx ?_
 refine Cd (b := (decide ((d1.safe.length : Int) > 60000) || decide ((d1.wait.length : Int) > (60000 - (d1.safe.length : Int))))) (fun hc1 => ?_) fun hc1 => ?_
 ·refine Tx ?_
  refine ai ?_; simp only [cK, hc1, Cf]; exact Re () (Vt Vn)
 ·have hdl := qw hc1
  refine Tx ?_
  refine rw_q rfl rfl rfl (tk (X := y1) (l := d1.safe) sO und_5 und_9 rfl rfl Zf Mm) ?_
  refine Cg (iI d1.safe 60 Zc) fun x1 => ?_
  refine Tx ?_
  refine ai ?_; simp only [cK, hc1, Cf]; exact Re () (Vt Vn)
theorem iJ {d : Disk} (h : cK d = 0) : d.safe.length ≤ 60000 ∧ d.safe.length + d.wait.length ≤ 60000 := by
 unfold cK at h
 generalize hb : (decide ((d.safe.length : Int) > 60000) || decide ((d.wait.length : Int) > (60000 - (d.safe.length : Int)))) = b at h
 cases b with
 | true => simp at h
 | false => exact qw hb
def dy (d1 : Disk) (r1 : Rec) : Disk × Int :=
 (bif ((cK d1) != 0) then ((⟨[], []⟩ : Disk), (cK d1)) else (bif ((b6 r1).2 != 0) then ((⟨[], []⟩ : Disk), (b6 r1).2) else (bif decide ((((b6 r1).1.length : Int) + 1) > ((60000 - (d1.safe.length : Int)) - (d1.wait.length : Int))) then ((⟨[], []⟩ : Disk), 2) else ((⟨d1.safe, ((d1.wait ++ (b6 r1).1) ++ [10])⟩ : Disk), 0))))
theorem md (y1 : SlV) (y2 : SlV) (d1 : Disk) (y3 : SlV) (r1 : Rec) : Does Tryz.prog 110 [.agg ⟨[y1.val d1.safe.length, y2.val d1.wait.length]⟩, .agg ⟨[.int .i64 r1.kind, .int .i64 r1.who, .int .i64 r1.life, y3.val r1.roots.length, .int .i64 r1.o.time, .int .i64 r1.o.who, .int .i64 r1.o.node, .int .i64 r1.o.parent, .int .i64 r1.o.name, .int .i64 r1.o.life, .int .i64 r1.o.seq]⟩] [RdL EByte y1 d1.safe, RdL EByte y2 d1.wait, RdL EInt y3 r1.roots, LibP Tryz.prog] (fun (X : SlV × SlV) => .tuple #[.agg ⟨[X.1.val (dy d1 r1).1.safe.length, X.2.val (dy d1 r1).1.wait.length]⟩, .int .i64 (dy d1 r1).2]) (fun X => [RdL EByte X.1 (dy d1 r1).1.safe, RdL EByte X.2 (dy d1 r1).1.wait]) := by
 refine bj aZ Tryz.func110 rfl Tryz.ntmps110 Tryz.results110 rfl inferInstance (fun _ => inferInstance) fun C => ?_
 refine Pc EByte y1 d1.safe 1 fun hlen1 => ?_
 refine Pc EByte y2 d1.wait 1 fun hlen2 => ?_
 refine Pc EInt y3 r1.roots 8 fun hlen3 => ?_
 refine Tx ?_
 refine Bx fun g1 => ?_
 refine Bx fun g2 => ?_
 refine Al fun g3 => ?_
 refine Tx ?_
 refine Cl (go y1 y2 d1) fun _ => ?_
 refine Tx ?_
 refine Cd (b := ((cK d1) != 0)) (fun hc1 => ?_) fun hc1 => ?_
 ·have hc1p := bne_iff_ne.1 hc1
  refine Tx ?_
  refine Fc EByte ?_
  refine ai ?_; simp only [dy, hc1, Cf]; exact Re ⟨(⟨none, 0⟩ : SlV), (⟨none, 0⟩ : SlV)⟩ (Va (Vt Vn))
 ·have hc1p := ae hc1
  have hdl := iJ (ae hc1)
  refine Tx ?_
  refine Cl (nL y3 r1) fun _ => ?_
  refine Tx ?_
  refine Cd (b := ((b6 r1).2 != 0)) (fun hc2 => ?_) fun hc2 => ?_
  ·have hc2p := bne_iff_ne.1 hc2
   refine Tx ?_
   refine Fc EByte ?_
   refine ai ?_; simp only [dy, hc1, hc2, Cf]; exact Re ⟨(⟨none, 0⟩ : SlV), (⟨none, 0⟩ : SlV)⟩ (Va (Vt Vn))
  ·have hc2p := ae hc2
   have hpl := uf r1
   refine Tx ?_
   refine rw_q rfl rfl rfl (oQ (a := (b6 r1).1) rfl rfl Zf und_9) ?_
   refine rw_q rfl rfl rfl (q_add rfl rfl Zf rfl Zf Zo) ?_
   refine Tx ?_
   refine rw_q rfl rfl rfl (q_sub rfl rfl Zf rfl Zf Zo) ?_
   refine Tx ?_
   refine rw_q rfl rfl rfl (q_sub rfl rfl Zf rfl Zf Zo) ?_
   refine Tx ?_
   refine Cd (b := decide ((((b6 r1).1.length : Int) + 1) > ((60000 - (d1.safe.length : Int)) - (d1.wait.length : Int)))) (fun hc3 => ?_) fun hc3 => ?_
   ·have hc3p := of_decide_eq_true hc3
    refine Tx ?_
    refine Fc EByte ?_
    refine ai ?_; simp only [dy, hc1, hc2, hc3, Cf]; exact Re ⟨(⟨none, 0⟩ : SlV), (⟨none, 0⟩ : SlV)⟩ (Va (Vt Vn))
   ·have hc3p := of_decide_eq_false hc3
    refine Tx ?_
    refine gp [4, 5] [false, true, true] (fun (i_ : SlV × Option Nat × SlV × Option Nat) => match i_ with | ⟨x1, b1, x2, b2⟩ => []) (fun (i_ : SlV × Option Nat × SlV × Option Nat) => match i_ with | ⟨x1, b1, x2, b2⟩ => [⟨g3, 35, [x1.val d1.safe.length, x2.val ((d1.wait ++ (b6 r1).1) ++ [10]).length]⟩]) (fun (i_ : SlV × Option Nat × SlV × Option Nat) => match i_ with | ⟨x1, b1, x2, b2⟩ => [ownL EByte 5 x1 b1 d1.safe, ownL EByte 5 x2 b2 ((d1.wait ++ (b6 r1).1) ++ [10])]) (fun (i_ : SlV × Option Nat × SlV × Option Nat) => match i_ with | ⟨x1, b1, x2, b2⟩ => []) (fun _ => True) (.cons rfl (.cons rfl (.nil _))) (.drop (.keep (.keep (.nil)))) ?_ ?_
    ·refine au (fun j => match j with | 7 => none | 9 => none | 11 => some [g3] | _ => some []) ?_
     refine Rb 0 rfl Qp ?_
     refine Rb 1 rfl Q1 ?_
     refine Rb 3 rfl Qp ?_
     refine Rb 4 rfl Q1 ?_
     refine Rb 6 rfl Qp ?_
     refine fu 2 8 Kr ?_ ?_
     ·refine aV (c7 y1 d1.safe) (.an rfl rfl) (.inr (by simp [Lent.ids])) (ac rfl) rfl rfl rfl Kr rfl rfl Sm (.nil _) (.nil _) ?_
      intro x3
      refine fu 5 8 Kr ?_ ?_
      ·refine aV (c7 y2 d1.wait) (.an rfl rfl) (.inr (by simp [Lent.ids])) (ac rfl) rfl rfl rfl Kr rfl rfl Sm (.nil _) (.nil _) ?_
       intro x4
       refine fu 7 8 Kr ?_ ?_
       ·refine kY d1.wait (b6 r1).1 (b := x4.2) (.lo (x4.2 : Option Nat).toList rfl rfl) (fun g h => .inr (by simp [h])) (ac rfl) rfl rfl rfl rfl rfl rfl rfl und_9 (fun _ _ => Uo) rfl rfl rfl rfl rfl (by omega) fun x5 x5b => ?_
        refine ap 8 Kr ?_
        refine bB EByte [10] (.an rfl rfl) (ac rfl) rfl rfl rfl rfl rfl rfl rfl rfl rfl rfl rfl rfl rfl rfl rfl fun x6 x6b => ?_
        refine ap 9 Kr ?_
        refine b5 EByte (d1.wait ++ (b6 r1).1) [10] (b := x5b) (.lo (x5b : Option Nat).toList rfl rfl) (fun g h => .inr (by simp [h])) (ac rfl) rfl rfl rfl rfl rfl rfl rfl (fun _ _ => Uo) rfl rfl rfl rfl rfl rfl rfl (c6 (e := 5) (b := x6b) Mm) (by show ((d1.wait ++ (b6 r1).1).length + 1) * 1 ≤ 140737488355328; (try simp only [List.length_append, List.length_cons, List.length_nil]); omega) fun x7 x7b => ?_
        refine Ra 10 rfl Qp ?_
        refine ap 11 Kr ?_
        refine cY (.an rfl rfl) (.inr (by simp)) (ac rfl) rfl rfl rfl rfl rfl rfl rfl rfl rfl Ub rfl ?_
        refine Ra 12 rfl Qp ?_
        refine bn Kr ?_
        refine ⟨⟨x3.1, x3.2, x7, x7b⟩, trivial, Le4⟩
       ·refine bB EByte [10] (.an rfl rfl) (ac rfl) rfl rfl rfl rfl rfl rfl rfl rfl rfl rfl rfl rfl rfl rfl rfl fun x8 x8b => ?_
        refine ap 7 Kr ?_
        refine kY d1.wait (b6 r1).1 (b := x4.2) (.lo (x4.2 : Option Nat).toList rfl rfl) (fun g h => .inr (by simp [h])) (ac rfl) rfl rfl rfl rfl rfl rfl rfl und_9 (fun _ _ => Uo) rfl rfl rfl rfl rfl (by omega) fun x9 x9b => ?_
        refine ap 9 Kr ?_
        refine b5 EByte (d1.wait ++ (b6 r1).1) [10] (b := x9b) (.lo (x9b : Option Nat).toList rfl rfl) (fun g h => .inr (by simp [h])) (ac rfl) rfl rfl rfl rfl rfl rfl rfl (fun _ _ => Uo) rfl rfl rfl rfl rfl rfl rfl (c6 (e := 5) (b := x8b) Mm) (by show ((d1.wait ++ (b6 r1).1).length + 1) * 1 ≤ 140737488355328; (try simp only [List.length_append, List.length_cons, List.length_nil]); omega) fun x10 x10b => ?_
        refine Ra 10 rfl Qp ?_
        refine ap 11 Kr ?_
        refine cY (.an rfl rfl) (.inr (by simp)) (ac rfl) rfl rfl rfl rfl rfl rfl rfl rfl rfl Ub rfl ?_
        refine Ra 12 rfl Qp ?_
        refine bn Kr ?_
        refine ⟨⟨x3.1, x3.2, x10, x10b⟩, trivial, Le4⟩
      ·refine bB EByte [10] (.an rfl rfl) (ac rfl) rfl rfl rfl rfl rfl rfl rfl rfl rfl rfl rfl rfl rfl rfl rfl fun x11 x11b => ?_
       refine ap 5 Kr ?_
       refine aV (c7 y2 d1.wait) (.an rfl rfl) (.inr (by simp [Lent.ids])) (ac rfl) rfl rfl rfl Kr rfl rfl Sm (.nil _) (.nil _) ?_
       intro x12
       refine ap 7 Kr ?_
       refine kY d1.wait (b6 r1).1 (b := x12.2) (.lo (x12.2 : Option Nat).toList rfl rfl) (fun g h => .inr (by simp [h])) (ac rfl) rfl rfl rfl rfl rfl rfl rfl und_9 (fun _ _ => Uo) rfl rfl rfl rfl rfl (by omega) fun x13 x13b => ?_
       refine ap 9 Kr ?_
       refine b5 EByte (d1.wait ++ (b6 r1).1) [10] (b := x13b) (.lo (x13b : Option Nat).toList rfl rfl) (fun g h => .inr (by simp [h])) (ac rfl) rfl rfl rfl rfl rfl rfl rfl (fun _ _ => Uo) rfl rfl rfl rfl rfl rfl rfl (c6 (e := 5) (b := x11b) Mm) (by show ((d1.wait ++ (b6 r1).1).length + 1) * 1 ≤ 140737488355328; (try simp only [List.length_append, List.length_cons, List.length_nil]); omega) fun x14 x14b => ?_
       refine Ra 10 rfl Qp ?_
       refine ap 11 Kr ?_
       refine cY (.an rfl rfl) (.inr (by simp)) (ac rfl) rfl rfl rfl rfl rfl rfl rfl rfl rfl Ub rfl ?_
       refine Ra 12 rfl Qp ?_
       refine bn Kr ?_
       refine ⟨⟨x3.1, x3.2, x14, x14b⟩, trivial, Le4⟩
     ·refine bB EByte [10] (.an rfl rfl) (ac rfl) rfl rfl rfl rfl rfl rfl rfl rfl rfl rfl rfl rfl rfl rfl rfl fun x15 x15b => ?_
      refine ap 2 Kr ?_
      refine aV (c7 y1 d1.safe) (.an rfl rfl) (.inr (by simp [Lent.ids])) (ac rfl) rfl rfl rfl Kr rfl rfl Sm (.nil _) (.nil _) ?_
      intro x16
      refine ap 5 Kr ?_
      refine aV (c7 y2 d1.wait) (.an rfl rfl) (.inr (by simp [Lent.ids])) (ac rfl) rfl rfl rfl Kr rfl rfl Sm (.nil _) (.nil _) ?_
      intro x17
      refine ap 7 Kr ?_
      refine kY d1.wait (b6 r1).1 (b := x17.2) (.lo (x17.2 : Option Nat).toList rfl rfl) (fun g h => .inr (by simp [h])) (ac rfl) rfl rfl rfl rfl rfl rfl rfl und_9 (fun _ _ => Uo) rfl rfl rfl rfl rfl (by omega) fun x18 x18b => ?_
      refine ap 9 Kr ?_
      refine b5 EByte (d1.wait ++ (b6 r1).1) [10] (b := x18b) (.lo (x18b : Option Nat).toList rfl rfl) (fun g h => .inr (by simp [h])) (ac rfl) rfl rfl rfl rfl rfl rfl rfl (fun _ _ => Uo) rfl rfl rfl rfl rfl rfl rfl (c6 (e := 5) (b := x15b) Mm) (by show ((d1.wait ++ (b6 r1).1).length + 1) * 1 ≤ 140737488355328; (try simp only [List.length_append, List.length_cons, List.length_nil]); omega) fun x19 x19b => ?_
      refine Ra 10 rfl Qp ?_
      refine ap 11 Kr ?_
      refine cY (.an rfl rfl) (.inr (by simp)) (ac rfl) rfl rfl rfl rfl rfl rfl rfl rfl rfl Ub rfl ?_
      refine Ra 12 rfl Qp ?_
      refine bn Kr ?_
      refine ⟨⟨x16.1, x16.2, x19, x19b⟩, trivial, Le4⟩
    ·rintro ⟨x1, b1, x2, b2⟩ -
     simp only [List.cons_append, List.nil_append]
     (repeat refine ao ?_)
     refine cw_le (ay EByte 5 x1 b1 d1.safe Uo) ?_
     refine cw_le (ay EByte 5 x2 b2 ((d1.wait ++ (b6 r1).1) ++ [10]) Uo) ?_
     refine ai ?_; simp only [dy, hc1, hc2, hc3, Cf]; exact Re ⟨x1, x2⟩ (Va (Vt Vn))
def ey (d1 : Disk) : Disk × Int :=
 (bif ((cK d1) != 0) then ((⟨[], []⟩ : Disk), (cK d1)) else (bif ((cK (⟨([d1.safe, d1.wait].flatten), ([] : List UInt8)⟩ : Disk)) != 0) then ((⟨[], []⟩ : Disk), (cK (⟨([d1.safe, d1.wait].flatten), ([] : List UInt8)⟩ : Disk))) else ((⟨([d1.safe, d1.wait].flatten), ([] : List UInt8)⟩ : Disk), 0)))
theorem oD (y1 : SlV) (y2 : SlV) (d1 : Disk) : Does Tryz.prog 111 [.agg ⟨[y1.val d1.safe.length, y2.val d1.wait.length]⟩] [RdL EByte y1 d1.safe, RdL EByte y2 d1.wait, LibP Tryz.prog] (fun (X : SlV × SlV) => .tuple #[.agg ⟨[X.1.val (ey d1).1.safe.length, X.2.val (ey d1).1.wait.length]⟩, .int .i64 (ey d1).2]) (fun X => [RdL EByte X.1 (ey d1).1.safe, RdL EByte X.2 (ey d1).1.wait]) := by
 refine bj aZ Tryz.func111 rfl Tryz.ntmps111 Tryz.results111 rfl inferInstance (fun _ => inferInstance) fun C => ?_
 refine Pc EByte y1 d1.safe 1 fun hlen1 => ?_
 refine Pc EByte y2 d1.wait 1 fun hlen2 => ?_
 refine Tx ?_
 refine Bx fun g1 => ?_
 refine Al fun g2 => ?_
 refine Tx ?_
 refine Cl (go y1 y2 d1) fun _ => ?_
 refine Tx ?_
 refine Cd (b := ((cK d1) != 0)) (fun hc1 => ?_) fun hc1 => ?_
 ·have hc1p := bne_iff_ne.1 hc1
  refine Tx ?_
  refine Fc EByte ?_
  refine ai ?_; simp only [ey, hc1, Cf]; exact Re ⟨(⟨none, 0⟩ : SlV), (⟨none, 0⟩ : SlV)⟩ (Va (Vt Vn))
 ·have hc1p := ae hc1
  have hdl := iJ (ae hc1)
  refine Tx ?_
  refine bB NBytes.E [(y1, d1.safe), (y2, d1.wait)] .sq (ac rfl) rfl rfl rfl rfl rfl rfl rfl rfl rfl rfl rfl rfl rfl rfl rfl fun x1 x1b => ?_
  refine rw_le (ay NBytes.E 33 x1 x1b [(y1, d1.safe), (y2, d1.wait)] Uo) ?_
  refine aI (F := RdN NBytes x1 [d1.safe, d1.wait]) [RdL NBytes.E x1 [(y1, d1.safe), (y2, d1.wait)], RdL EByte y1 d1.safe, RdL EByte y2 d1.wait] Sm (fun M w h => RdN.of NBytes (hs := [(y1, d1.safe), (y2, d1.wait)]) rfl (h _ (.head _)) (aY (da Sm h) (aY (da Sm h) (fun p hp => by cases hp)))) ?_
  refine Cg (fN x1 [d1.safe, d1.wait] (by simp only [List.flatten_cons, List.flatten_nil, List.length_append, List.length_nil, List.length_take]; omega)) fun x2 => ?_
  refine Rp rfl rfl rfl rfl ?_
  refine Al fun g3 => ?_
  refine Tx ?_
  refine Fr EByte ?_
  refine pj (go x2.1 (⟨none, 0⟩ : SlV) (⟨([d1.safe, d1.wait].flatten), ([] : List UInt8)⟩ : Disk)) .sq (ac rfl) rfl rfl rfl Kr rfl rfl (.own Mm (.fact Mm (.fact Mm (.nil _ _)))) ?_
  intro _
  refine Tx ?_
  refine Cd (b := ((cK (⟨([d1.safe, d1.wait].flatten), ([] : List UInt8)⟩ : Disk)) != 0)) (fun hc2 => ?_) fun hc2 => ?_
  ·have hc2p := bne_iff_ne.1 hc2
   refine Tx ?_
   refine ai ?_; simp only [ey, hc1, hc2, Cf]; exact Re ⟨(⟨none, 0⟩ : SlV), (⟨none, 0⟩ : SlV)⟩ (Va (Vt Vn))
  ·have hc2p := ae hc2
   refine Tx ?_
   refine cw_le (ay EByte 5 x2.1 x2.2 ([d1.safe, d1.wait].flatten) Uo) ?_
   refine ai ?_; simp only [ey, hc1, hc2, Cf]; exact Re ⟨x2.1, (⟨none, 0⟩ : SlV)⟩ (Va (Vt Vn))
def al (d1 : Disk) : Disk × (List Rec) × Int :=
 (bif ((cK d1) != 0) then ((⟨[], []⟩ : Disk), ([] : List Rec), (cK d1)) else ((⟨([d1.safe, (d1.wait.take (az d1.wait (60 - ((az d1.safe 60).1.length : Int))).2.1.toNat)].flatten), ([] : List UInt8)⟩ : Disk), ((az d1.safe 60).1 ++ (az d1.wait (60 - ((az d1.safe 60).1.length : Int))).1), 0))
theorem eP (y1 : SlV) (y2 : SlV) (d1 : Disk) : Does Tryz.prog 22 [.agg ⟨[y1.val d1.safe.length, y2.val d1.wait.length]⟩] [RdL EByte y1 d1.safe, RdL EByte y2 d1.wait, LibP Tryz.prog] (fun (X : SlV × SlV × SlV) => .tuple #[.agg ⟨[X.1.val (al d1).1.safe.length, X.2.1.val (al d1).1.wait.length]⟩, X.2.2.val (al d1).2.1.length, .int .i64 (al d1).2.2]) (fun X => [RdL EByte X.1 (al d1).1.safe, RdL EByte X.2.1 (al d1).1.wait, RdN NRec X.2.2 (al d1).2.1]) := by
 refine bj aZ Tryz.func22 rfl Tryz.ntmps22 Tryz.results22 rfl inferInstance (fun _ => inferInstance) fun C => ?_
 refine Pc EByte y1 d1.safe 1 fun hlen1 => ?_
 refine Pc EByte y2 d1.wait 1 fun hlen2 => ?_
 refine Tx ?_
 refine Bx fun g1 => ?_
 refine Al fun g2 => ?_
 refine Tx ?_
 refine Cl (go y1 y2 d1) fun _ => ?_
 refine Tx ?_
 refine Cd (b := ((cK d1) != 0)) (fun hc1 => ?_) fun hc1 => ?_
 ·have hc1p := bne_iff_ne.1 hc1
  refine Tx ?_
  refine Fc EByte ?_
  refine cS (F := RdN NRec ⟨none, 0⟩ ([] : List Rec)) [] (.nil _) (fun M w _ => RdN.nil _ M w) ?_
  refine ai ?_; simp only [al, hc1, Cf]; exact Re ⟨(⟨none, 0⟩ : SlV), (⟨none, 0⟩ : SlV), (⟨none, 0⟩ : SlV)⟩ (Va (Vt (Vt Vn)))
 ·have hc1p := ae hc1
  have hdl := iJ (ae hc1)
  refine Tx ?_
  refine rw_q rfl rfl rfl (tk (X := y1) (l := d1.safe) sO und_5 und_9 rfl rfl Zf Mm) ?_
  refine Cg (iI d1.safe 60 Zc) fun x1 => ?_
  have hl1 := mc d1.safe 60
  refine Tx ?_
  refine rw_q rfl rfl rfl (tk (X := y2) (l := d1.wait) sO und_5 und_9 rfl rfl Zf Mm) ?_
  refine Tx ?_
  refine rw_q rfl rfl rfl (q_sub rfl rfl Zf rfl Zf Zo) ?_
  refine Cg (iI d1.wait (60 - ((az d1.safe 60).1.length : Int)) Zc) fun x2 => ?_
  have hl2 := mc d1.wait (60 - ((az d1.safe 60).1.length : Int))
  refine Tx ?_
  (repeat refine ao ?_); refine au (fun j => match j with | 11 => some x1.2.1.toList | 12 => some [g2] | _ => some []) ?_
  refine Rb 0 rfl Qp ?_
  refine Rb 1 rfl Q1 ?_
  refine Rb 2 rfl Qp ?_
  refine Rb 3 rfl Q1 ?_
  refine Rb 4 rfl Qp ?_
  refine Rb 5 rfl (th EByte (az d1.wait (60 - ((az d1.safe 60).1.length : Int))).2.1.toNat rfl rfl Zf rfl Zf rfl rfl Mm Zo Zo) ?_
  refine aI (F := RdL EByte y2 (d1.wait.take (az d1.wait (60 - ((az d1.safe 60).1.length : Int))).2.1.toNat)) [RdL EByte y2 d1.wait] Sm (fun M w h => (allF1 h).take _) ?_
  refine Rb 9 rfl Qp ?_
  refine Rb 10 rfl Qp ?_
  refine ap 6 Kr ?_
  refine bB NBytes.E [(y1, d1.safe), (y2, (d1.wait.take (az d1.wait (60 - ((az d1.safe 60).1.length : Int))).2.1.toNat))] (.an rfl rfl) (ac rfl) rfl rfl rfl rfl rfl rfl rfl rfl rfl rfl rfl rfl rfl rfl rfl fun x3 x3b => ?_
  refine ap 7 Kr ?_
  refine rw_le (ay NBytes.E 33 x3 x3b [(y1, d1.safe), (y2, (d1.wait.take (az d1.wait (60 - ((az d1.safe 60).1.length : Int))).2.1.toNat))] Uo) ?_
  refine aI (F := RdN NBytes x3 [d1.safe, (d1.wait.take (az d1.wait (60 - ((az d1.safe 60).1.length : Int))).2.1.toNat)]) [RdL NBytes.E x3 [(y1, d1.safe), (y2, (d1.wait.take (az d1.wait (60 - ((az d1.safe 60).1.length : Int))).2.1.toNat))], RdL EByte y1 d1.safe, RdL EByte y2 (d1.wait.take (az d1.wait (60 - ((az d1.safe 60).1.length : Int))).2.1.toNat)] Sm (fun M w h => RdN.of NBytes (hs := [(y1, d1.safe), (y2, (d1.wait.take (az d1.wait (60 - ((az d1.safe 60).1.length : Int))).2.1.toNat))]) rfl (h _ (.head _)) (aY (da Sm h) (aY (da Sm h) (fun p hp => by cases hp)))) ?_
  refine aV (fN x3 [d1.safe, (d1.wait.take (az d1.wait (60 - ((az d1.safe 60).1.length : Int))).2.1.toNat)] (by simp only [List.flatten_cons, List.flatten_nil, List.length_append, List.length_nil, List.length_take]; omega)) (.an rfl rfl) (.inr (by simp [Lent.ids])) (ac rfl) rfl rfl rfl Kr rfl rfl Sm (.nil _) (.nil _) ?_
  intro x4
  refine ra_q (.an (i := 8) (js := [11]) rfl Kr Kr Kr Kr) (bK.all _) (by intro g hg; simp only [List.mem_append, List.mem_singleton, List.not_mem_nil, or_false, false_or, Option.mem_toList, Option.mem_def, List.append_nil] at hg; first | exact .inr ⟨ownL NRec.E 76 x1.1 x1.2.1 (zipG x1.2.2 0 (az d1.safe 60).1), Mm, hg⟩) rfl rfl rfl (q_pev rfl Zf) ?_
  refine ap 11 Kr ?_
  refine mo NRec x1.2.2 x2.2.2 (az d1.safe 60).1 (az d1.wait (60 - ((az d1.safe 60).1.length : Int))).1 (b := x1.2.1) (.an rfl rfl) (fun g h => .inr (by simp [h])) (ac rfl) rfl rfl rfl rfl rfl rfl rfl (fun _ _ => Uo) rfl rfl rfl rfl rfl rfl rfl (oP (e := 76) (b := x2.2.1) Mm) (by show ((az d1.safe 60).1.length + (az d1.wait (60 - ((az d1.safe 60).1.length : Int))).1.length) * 104 ≤ 140737488355328; (try simp only [List.length_append, List.length_cons, List.length_nil]); omega) fun x5 x5b => ?_
  refine aI (F := am NRec (appG x1.2.2 (az d1.safe 60).1.length x2.2.2) ((az d1.safe 60).1 ++ (az d1.wait (60 - ((az d1.safe 60).1.length : Int))).1)) [am NRec x1.2.2 (az d1.safe 60).1, am NRec x2.2.2 (az d1.wait (60 - ((az d1.safe 60).1.length : Int))).1] Sm (fun M w h => am.app NRec (h _ (.head _)) (h _ (.tail _ (.head _)))) ?_
  refine ap 12 Kr ?_
  refine cY (.an rfl rfl) (.inr (by simp)) (ac rfl) rfl rfl rfl rfl rfl rfl rfl rfl rfl Ub rfl ?_
  refine Ra 13 rfl Qp ?_
  refine Ra 14 rfl Qp ?_
  refine bn Kr ?_
  (repeat refine ao ?_)
  refine cw_le (ay EByte 5 x4.1 x4.2 ([d1.safe, (d1.wait.take (az d1.wait (60 - ((az d1.safe 60).1.length : Int))).2.1.toNat)].flatten) Uo) ?_
  refine Fc EByte ?_
  refine cw_le (ay NRec.E 76 x5 x5b (zipG (appG x1.2.2 (az d1.safe 60).1.length x2.2.2) 0 ((az d1.safe 60).1 ++ (az d1.wait (60 - ((az d1.safe 60).1.length : Int))).1)) Uo) ?_
  refine cS (F := RdN NRec x5 ((az d1.safe 60).1 ++ (az d1.wait (60 - ((az d1.safe 60).1.length : Int))).1)) [RdG NRec x5 (appG x1.2.2 (az d1.safe 60).1.length x2.2.2) ((az d1.safe 60).1 ++ (az d1.wait (60 - ((az d1.safe 60).1.length : Int))).1), am NRec (appG x1.2.2 (az d1.safe 60).1.length x2.2.2) ((az d1.safe 60).1 ++ (az d1.wait (60 - ((az d1.safe 60).1.length : Int))).1)] Sm (fun M w h => RdN.ofG NRec (h _ (.head _)) (h _ (.tail _ (.head _)))) ?_
  refine ai ?_; simp only [al, hc1, Cf]; exact Re ⟨x4.1, (⟨none, 0⟩ : SlV), x5⟩ (Va (Vt (Vt Vn)))
theorem je (x : SlV) (l : List (NClient.G × Client)) : DoesG Tryz.prog 60 [x.val l.length] [RdL NClient.E x l] ⟨[], []⟩ (fun (X : SlV × Option Nat) => X.1.val l.length) (fun _ => []) (fun X => ⟨[], [ownL NClient.E 61 X.1 X.2 l]⟩) := by
 refine co aZ Tryz.func60 rfl Tryz.ntmps60 Tryz.results60 rfl inferInstance (fun _ => inferInstance) fun C => ?_
 refine dP (φ := l.length * NClient.E.by_ ≤ 140737488355328) [RdL NClient.E x l] Sm (fun M w h => (allF1 h).len) fun hlen => ?_
 refine Tx ?_
 refine rw_q rfl rfl rfl (jR rfl rfl Zf rfl) ?_
 refine dY ?_
 (repeat refine ao ?_); refine jh rfl rfl (fun hc0 => ?_) (fun hc0 => ?_)
 ·refine dP [RdL NClient.E x l] Sm (fun M w h => (allF1 h).nil_of hc0) fun hnil => ?_
  subst hnil
  refine cw_le (eO NClient.E 61) ?_
  refine Tx ?_
  (repeat refine ao ?_); refine ai ?_
  exact ⟨(⟨none, 0⟩, none), _, (.cons (.tmp rfl) .nil), rfl, .nil _, .nil _, Sp⟩
 ·refine Tx ?_
  refine bB NClient.E [] .sq (ac rfl) rfl rfl rfl rfl rfl rfl rfl rfl rfl rfl rfl rfl rfl rfl rfl fun x1 x1b => ?_
  refine Rp rfl rfl rfl rfl ?_
  refine b5 NClient.E [] l (b := x1b) .sq (fun _ _ => .inl ⟨_, rfl⟩) (ac rfl) rfl rfl rfl rfl rfl rfl rfl (fun _ _ => Uo) rfl rfl rfl rfl rfl rfl rfl (fr Mm) (by simpa using hlen) fun x2 x2b => ?_
  refine Tx ?_
  (repeat refine ao ?_); refine ai ?_
  exact ⟨(x2, x2b), _, (.cons (.tmp rfl) .nil), rfl, .nil _, .nil _, Sp⟩
theorem jr (x : SlV) (γ : Nat → NClient.G) (l : List Client) : DoesG Tryz.prog 60 [x.val l.length] [RdG NClient x γ l] ⟨[], []⟩ (fun (X : SlV × Option Nat) => X.1.val l.length) (fun _ => []) (fun X => ⟨[], [ownL NClient.E 61 X.1 X.2 (zipG γ 0 l)]⟩) := by
 have := je x (zipG γ 0 l)
 rw [dh] at this
 exact this
def bV  : Wld :=
 (⟨b8, (⟨[], []⟩ : Disk), true, [(⟨0, 0, 0, ([] : List Op), 0, (⟨[], [], []⟩ : View)⟩ : Client), (⟨0, 0, 0, ([] : List Op), 0, (⟨[], [], []⟩ : View)⟩ : Client), (⟨0, 0, 0, ([] : List Op), 0, (⟨[], [], []⟩ : View)⟩ : Client)], ([] : List Mail)⟩ : Wld)
theorem i8  : Does Tryz.prog 19 [] [] (fun (X : SlV × SlV × SlV × SlV × SlV × SlV × SlV) => .agg ⟨[X.1.val bV.h.h.l.length, X.2.1.val bV.h.h.t.length, .int .i64 bV.h.version, X.2.2.1.val bV.h.peers.length, X.2.2.2.1.val bV.d.safe.length, X.2.2.2.2.1.val bV.d.wait.length, .bool bV.up, X.2.2.2.2.2.1.val bV.c.length, X.2.2.2.2.2.2.val bV.mail.length]⟩) (fun X => [RdL EStep X.1 bV.h.h.l, RdL EPlace X.2.1 bV.h.h.t, RdN NPeer X.2.2.1 bV.h.peers, RdL EByte X.2.2.2.1 bV.d.safe, RdL EByte X.2.2.2.2.1 bV.d.wait, RdN NClient X.2.2.2.2.2.1 bV.c, RdN NMail X.2.2.2.2.2.2 bV.mail]) := by
 refine bj aZ Tryz.func19 rfl Tryz.ntmps19 Tryz.results19 rfl inferInstance (fun _ => inferInstance) fun C => ?_
 refine Tx ?_
 refine Al fun g1 => ?_
 refine Tx ?_
 refine gp [0] [false] (fun (i_ : SlV × SlV × SlV × SlV × Option Nat) => match i_ with | ⟨x1, x2, x3, x4, b1⟩ => []) (fun (i_ : SlV × SlV × SlV × SlV × Option Nat) => match i_ with | ⟨x1, x2, x3, x4, b1⟩ => [⟨g1, 39, [x1.val b8.h.l.length, x2.val b8.h.t.length, .int .i64 b8.version, x3.val b8.peers.length, .slice none 0 0, .slice none 0 0, .bool true, x4.val [(⟨0, 0, 0, ([] : List Op), 0, (⟨[], [], []⟩ : View)⟩ : Client), (⟨0, 0, 0, ([] : List Op), 0, (⟨[], [], []⟩ : View)⟩ : Client), (⟨0, 0, 0, ([] : List Op), 0, (⟨[], [], []⟩ : View)⟩ : Client)].length, .slice none 0 0]⟩]) (fun (i_ : SlV × SlV × SlV × SlV × Option Nat) => match i_ with | ⟨x1, x2, x3, x4, b1⟩ => [ownL NClient.E 61 x4 b1 (zipG (fun _ => ((⟨none, 0⟩ : SlV), (⟨none, 0⟩ : SlV), (⟨none, 0⟩ : SlV), (⟨none, 0⟩ : SlV))) 0 [(⟨0, 0, 0, ([] : List Op), 0, (⟨[], [], []⟩ : View)⟩ : Client), (⟨0, 0, 0, ([] : List Op), 0, (⟨[], [], []⟩ : View)⟩ : Client), (⟨0, 0, 0, ([] : List Op), 0, (⟨[], [], []⟩ : View)⟩ : Client)])]) (fun (i_ : SlV × SlV × SlV × SlV × Option Nat) => match i_ with | ⟨x1, x2, x3, x4, b1⟩ => [RdL EStep x1 b8.h.l, RdL EPlace x2 b8.h.t, RdN NPeer x3 b8.peers, am NClient (fun _ => ((⟨none, 0⟩ : SlV), (⟨none, 0⟩ : SlV), (⟨none, 0⟩ : SlV), (⟨none, 0⟩ : SlV))) [(⟨0, 0, 0, ([] : List Op), 0, (⟨[], [], []⟩ : View)⟩ : Client), (⟨0, 0, 0, ([] : List Op), 0, (⟨[], [], []⟩ : View)⟩ : Client), (⟨0, 0, 0, ([] : List Op), 0, (⟨[], [], []⟩ : View)⟩ : Client)]]) (fun _ => True) (.cons rfl (.nil _)) (.drop (.nil)) ?_ ?_
 ·refine au (fun j => match j with | 3 => some [g1] | _ => some []) ?_
  refine fu 0 1 Kr ?_ ?_
  ·refine cJ (iV ) (.an rfl rfl) (ac rfl) rfl rfl rfl Kr rfl rfl Sm ?_
   intro x5
   refine Pr EStep x5.1 b8.h.l 88 fun hlen1 => ?_
   refine Pr EPlace x5.2.1 b8.h.t 24 fun hlen2 => ?_
   refine Pm NPeer x5.2.2 b8.peers 40 fun hlen3 => ?_
   refine ap 1 Kr ?_
   refine lA NClient.E (zipG (fun _ => ((⟨none, 0⟩ : SlV), (⟨none, 0⟩ : SlV), (⟨none, 0⟩ : SlV), (⟨none, 0⟩ : SlV))) 0 [(⟨0, 0, 0, ([] : List Op), 0, (⟨[], [], []⟩ : View)⟩ : Client), (⟨0, 0, 0, ([] : List Op), 0, (⟨[], [], []⟩ : View)⟩ : Client), (⟨0, 0, 0, ([] : List Op), 0, (⟨[], [], []⟩ : View)⟩ : Client)]) (.an rfl rfl) (ac rfl) rfl rfl rfl rfl rfl rfl rfl rfl rfl rfl rfl rfl rfl rfl rfl rfl rfl fun x6 x6b => ?_
   refine Fr EOp ?_
   refine Fr EInt ?_
   refine Fr EPlace ?_
   refine aI (F := am NClient (fun _ => ((⟨none, 0⟩ : SlV), (⟨none, 0⟩ : SlV), (⟨none, 0⟩ : SlV), (⟨none, 0⟩ : SlV))) [(⟨0, 0, 0, ([] : List Op), 0, (⟨[], [], []⟩ : View)⟩ : Client), (⟨0, 0, 0, ([] : List Op), 0, (⟨[], [], []⟩ : View)⟩ : Client), (⟨0, 0, 0, ([] : List Op), 0, (⟨[], [], []⟩ : View)⟩ : Client)]) [RdL EOp (⟨none, 0⟩ : SlV) ([] : List Op), RdL EInt (⟨none, 0⟩ : SlV) ([] : List Int), RdL EPlace (⟨none, 0⟩ : SlV) ([] : List Place), RdL EPlace (⟨none, 0⟩ : SlV) ([] : List Place)] Sm (fun M w h => am.const NClient (by intro a ha; simp only [List.mem_cons, List.not_mem_nil, or_false, or_self] at ha; subst ha; exact da Sm h)) ?_
   refine Ra 2 rfl Qp ?_
   refine ap 3 Kr ?_
   refine cY (.an rfl rfl) (.inr (by simp)) (ac rfl) rfl rfl rfl rfl rfl rfl rfl rfl rfl Ub rfl ?_
   refine bn Kr ?_
   refine ⟨⟨x5.1, x5.2.1, x5.2.2, x6, x6b⟩, trivial, Le4⟩
  ·refine lA NClient.E (zipG (fun _ => ((⟨none, 0⟩ : SlV), (⟨none, 0⟩ : SlV), (⟨none, 0⟩ : SlV), (⟨none, 0⟩ : SlV))) 0 [(⟨0, 0, 0, ([] : List Op), 0, (⟨[], [], []⟩ : View)⟩ : Client), (⟨0, 0, 0, ([] : List Op), 0, (⟨[], [], []⟩ : View)⟩ : Client), (⟨0, 0, 0, ([] : List Op), 0, (⟨[], [], []⟩ : View)⟩ : Client)]) (.an rfl rfl) (ac rfl) rfl rfl rfl rfl rfl rfl rfl rfl rfl rfl rfl rfl rfl rfl rfl rfl rfl fun x7 x7b => ?_
   refine Fr EOp ?_
   refine Fr EInt ?_
   refine Fr EPlace ?_
   refine aI (F := am NClient (fun _ => ((⟨none, 0⟩ : SlV), (⟨none, 0⟩ : SlV), (⟨none, 0⟩ : SlV), (⟨none, 0⟩ : SlV))) [(⟨0, 0, 0, ([] : List Op), 0, (⟨[], [], []⟩ : View)⟩ : Client), (⟨0, 0, 0, ([] : List Op), 0, (⟨[], [], []⟩ : View)⟩ : Client), (⟨0, 0, 0, ([] : List Op), 0, (⟨[], [], []⟩ : View)⟩ : Client)]) [RdL EOp (⟨none, 0⟩ : SlV) ([] : List Op), RdL EInt (⟨none, 0⟩ : SlV) ([] : List Int), RdL EPlace (⟨none, 0⟩ : SlV) ([] : List Place), RdL EPlace (⟨none, 0⟩ : SlV) ([] : List Place)] Sm (fun M w h => am.const NClient (by intro a ha; simp only [List.mem_cons, List.not_mem_nil, or_false, or_self] at ha; subst ha; exact da Sm h)) ?_
   refine ap 0 Kr ?_
   refine cJ (iV ) (.an rfl rfl) (ac rfl) rfl rfl rfl Kr rfl rfl Sm ?_
   intro x8
   refine Pr EStep x8.1 b8.h.l 88 fun hlen4 => ?_
   refine Pr EPlace x8.2.1 b8.h.t 24 fun hlen5 => ?_
   refine Pm NPeer x8.2.2 b8.peers 40 fun hlen6 => ?_
   refine Ra 2 rfl Qp ?_
   refine ap 3 Kr ?_
   refine cY (.an rfl rfl) (.inr (by simp)) (ac rfl) rfl rfl rfl rfl rfl rfl rfl rfl rfl Ub rfl ?_
   refine bn Kr ?_
   refine ⟨⟨x8.1, x8.2.1, x8.2.2, x7, x7b⟩, trivial, Le4⟩
 ·rintro ⟨x1, x2, x3, x4, b1⟩ -
  simp only [List.cons_append, List.nil_append]
  (repeat refine ao ?_)
  refine Fc EByte ?_
  refine cw_le (ay NClient.E 61 x4 b1 (zipG (fun _ => ((⟨none, 0⟩ : SlV), (⟨none, 0⟩ : SlV), (⟨none, 0⟩ : SlV), (⟨none, 0⟩ : SlV))) 0 [(⟨0, 0, 0, ([] : List Op), 0, (⟨[], [], []⟩ : View)⟩ : Client), (⟨0, 0, 0, ([] : List Op), 0, (⟨[], [], []⟩ : View)⟩ : Client), (⟨0, 0, 0, ([] : List Op), 0, (⟨[], [], []⟩ : View)⟩ : Client)]) Uo) ?_
  refine cS (F := RdN NClient x4 [(⟨0, 0, 0, ([] : List Op), 0, (⟨[], [], []⟩ : View)⟩ : Client), (⟨0, 0, 0, ([] : List Op), 0, (⟨[], [], []⟩ : View)⟩ : Client), (⟨0, 0, 0, ([] : List Op), 0, (⟨[], [], []⟩ : View)⟩ : Client)]) [RdG NClient x4 (fun _ => ((⟨none, 0⟩ : SlV), (⟨none, 0⟩ : SlV), (⟨none, 0⟩ : SlV), (⟨none, 0⟩ : SlV))) [(⟨0, 0, 0, ([] : List Op), 0, (⟨[], [], []⟩ : View)⟩ : Client), (⟨0, 0, 0, ([] : List Op), 0, (⟨[], [], []⟩ : View)⟩ : Client), (⟨0, 0, 0, ([] : List Op), 0, (⟨[], [], []⟩ : View)⟩ : Client)], am NClient (fun _ => ((⟨none, 0⟩ : SlV), (⟨none, 0⟩ : SlV), (⟨none, 0⟩ : SlV), (⟨none, 0⟩ : SlV))) [(⟨0, 0, 0, ([] : List Op), 0, (⟨[], [], []⟩ : View)⟩ : Client), (⟨0, 0, 0, ([] : List Op), 0, (⟨[], [], []⟩ : View)⟩ : Client), (⟨0, 0, 0, ([] : List Op), 0, (⟨[], [], []⟩ : View)⟩ : Client)]] Sm (fun M w h => RdN.ofG NClient (h _ (.head _)) (h _ (.tail _ (.head _)))) ?_
  refine cS (F := RdN NMail ⟨none, 0⟩ ([] : List Mail)) [] (.nil _) (fun M w _ => RdN.nil _ M w) ?_
  refine ai ?_; simp only [bV, Cf]; exact Re ⟨x1, x2, x3, (⟨none, 0⟩ : SlV), (⟨none, 0⟩ : SlV), x4, (⟨none, 0⟩ : SlV)⟩ (Va Vn)
def ei (w1 : Wld) : List Client → Nat → (List Client) → Wld
 | [], n1, l1 => (⟨w1.h, w1.d, w1.up, l1, w1.mail⟩ : Wld)
 | pn1 :: rn1, n1, l1 => (ei w1 rn1 (n1 + 1) (l1.set n1 (gt l1 n1)))
def cU (w1 : Wld) : Wld :=
 (ei w1 w1.c 0 w1.c)
theorem nt (y1 : SlV) (y2 : SlV) (y3 : SlV) (y4 : SlV) (y5 : SlV) (y6 : SlV) (y7 : SlV) (w1 : Wld) : DoesG Tryz.prog 41 [.agg ⟨[y1.val w1.h.h.l.length, y2.val w1.h.h.t.length, .int .i64 w1.h.version, y3.val w1.h.peers.length, y4.val w1.d.safe.length, y5.val w1.d.wait.length, .bool w1.up, y6.val w1.c.length, y7.val w1.mail.length]⟩] [RdL EStep y1 w1.h.h.l, RdL EPlace y2 w1.h.h.t, RdN NPeer y3 w1.h.peers, RdL EByte y4 w1.d.safe, RdL EByte y5 w1.d.wait, RdN NClient y6 w1.c, RdN NMail y7 w1.mail] ⟨[], []⟩ (fun (X : SlV × SlV × SlV × SlV × SlV × SlV × Option Nat × (Nat → SlV × SlV × SlV × SlV) × SlV) => .agg ⟨[X.1.val (cU w1).h.h.l.length, X.2.1.val (cU w1).h.h.t.length, .int .i64 (cU w1).h.version, X.2.2.1.val (cU w1).h.peers.length, X.2.2.2.1.val (cU w1).d.safe.length, X.2.2.2.2.1.val (cU w1).d.wait.length, .bool (cU w1).up, X.2.2.2.2.2.1.val (cU w1).c.length, X.2.2.2.2.2.2.2.2.val (cU w1).mail.length]⟩) (fun X => [RdL EStep X.1 (cU w1).h.h.l, RdL EPlace X.2.1 (cU w1).h.h.t, RdN NPeer X.2.2.1 (cU w1).h.peers, RdL EByte X.2.2.2.1 (cU w1).d.safe, RdL EByte X.2.2.2.2.1 (cU w1).d.wait, RdN NMail X.2.2.2.2.2.2.2.2 (cU w1).mail, am NClient X.2.2.2.2.2.2.2.1 (cU w1).c]) (fun X => ⟨[], [ownL NClient.E 61 X.2.2.2.2.2.1 X.2.2.2.2.2.2.1 (zipG X.2.2.2.2.2.2.2.1 0 (cU w1).c)]⟩) := by
 refine co aZ Tryz.func41 rfl Tryz.ntmps41 Tryz.results41 rfl inferInstance (fun _ => inferInstance) fun C => ?_
 refine Pc EStep y1 w1.h.h.l 88 fun hlen1 => ?_
 refine Pc EPlace y2 w1.h.h.t 24 fun hlen2 => ?_
 refine Pn NPeer y3 w1.h.peers 40 fun hlen3 => ?_
 refine Pc EByte y4 w1.d.safe 1 fun hlen4 => ?_
 refine Pc EByte y5 w1.d.wait 1 fun hlen5 => ?_
 refine Pn NClient y6 w1.c 128 fun hlen6 => ?_
 refine Pn NMail y7 w1.mail 280 fun hlen7 => ?_
 refine Tx ?_
 refine Bx fun g1 => ?_
 refine Al fun g2 => ?_
 refine dY ?_
 (repeat refine ao ?_); refine au (fun j => match j with | 10 => some [g1] | 12 => some [g1] | 14 => some [g1] | _ => some []) ?_
 refine Rb 0 rfl Qp ?_
 refine Rb 1 rfl (q_ldP rfl rfl Zf rfl Mm rfl) ?_
 refine Rb 3 rfl Qp ?_
 refine Rb 4 rfl Q1 ?_
 refine Rb 6 rfl Qp ?_
 refine Ra 7 rfl Q1 ?_
 refine ap 2 Kr ?_
 refine aV (lq y1 y2 y3 w1.h) (.an rfl rfl) (.inr (by simp [Lent.ids])) (ac rfl) rfl rfl rfl Kr rfl rfl Sm (.nil _) (.nil _) ?_
 intro x1
 refine Pr EStep x1.1 w1.h.h.l 88 fun hlen8 => ?_
 refine Pr EPlace x1.2.1 w1.h.h.t 24 fun hlen9 => ?_
 refine Ra 9 rfl Qp ?_
 refine ap 5 Kr ?_
 refine fj NClient (X := y6) (l := w1.c) Mm fun (γ1 : Nat → SlV × SlV × SlV × SlV) => ?_
 refine aV (jr y6 γ1 w1.c) (.an rfl rfl) (.inr (by simp [Lent.ids])) (ac rfl) rfl rfl rfl Kr rfl rfl Sm (.nil _) (.nil _) ?_
 intro x2
 refine ap 8 Kr ?_
 refine aV (gw y7 w1.mail) (.an rfl rfl) (.inr (by simp [Lent.ids])) (ac rfl) rfl rfl rfl Kr rfl rfl Sm (.nil _) (.nil _) ?_
 intro x3
 refine ap 10 Kr ?_
 refine eS (.an rfl rfl) (.inr (by simp)) (ac rfl) rfl rfl rfl rfl rfl rfl rfl rfl rfl Ub rfl ?_
 refine Ra 11 rfl Qp ?_
 refine ap 12 Kr ?_
 refine ew (.an rfl rfl) (.inr (by simp)) (ac rfl) rfl rfl rfl rfl rfl rfl rfl rfl rfl Ub rfl ?_
 refine Ra 13 rfl Qp ?_
 refine ap 14 Kr ?_
 refine ew (.an rfl rfl) (.inr (by simp)) (ac rfl) rfl rfl rfl rfl rfl rfl rfl rfl rfl Ub rfl ?_
 refine bn Kr ?_
 (repeat refine ao ?_); refine au (fun j => match j with | 10 => some [g1] | _ => some []) ?_
 refine Rb 0 rfl Qp ?_
 refine Rb 1 rfl Qp ?_
 refine Rb 2 rfl Q1 ?_
 refine Rb 4 rfl Qp ?_
 refine Rb 5 rfl Qp ?_
 refine Rb 6 rfl Q1 ?_
 refine ap 3 Kr ?_
 refine aV (c7 y4 w1.d.safe) (.an rfl rfl) (.inr (by simp [Lent.ids])) (ac rfl) rfl rfl rfl Kr rfl rfl Sm (.nil _) (.nil _) ?_
 intro x4
 refine ap 7 Kr ?_
 refine aV (c7 y5 w1.d.wait) (.an rfl rfl) (.inr (by simp [Lent.ids])) (ac rfl) rfl rfl rfl Kr rfl rfl Sm (.nil _) (.nil _) ?_
 intro x5
 refine Ra 8 rfl Qp ?_
 refine Ra 9 rfl Qp ?_
 refine ap 10 Kr ?_
 refine eS (.an rfl rfl) (.inr (by simp)) (ac rfl) rfl rfl rfl rfl rfl rfl rfl rfl rfl Ub rfl ?_
 refine bn Kr ?_
 refine Tx ?_
 (repeat refine ao ?_); refine Lp [1,2,29] [true, false] (fun (i_ : List Client × (Nat → SlV × SlV × SlV × SlV) × Nat) => match i_ with | ⟨l1, γ2, n1⟩ => (⟨[(28, .v (x2.1.val l1.length)), (30, .v (.int .i64 (n1 : Int)))], [⟨g1, 39, [x1.1.val w1.h.h.l.length, x1.2.1.val w1.h.h.t.length, .int .i64 w1.h.version, x1.2.2.1.val w1.h.peers.length, x4.1.val w1.d.safe.length, x5.1.val w1.d.wait.length, .bool w1.up, x2.1.val l1.length, x3.1.val w1.mail.length]⟩], [ownL NClient.E 61 x2.1 x2.2 (zipG γ2 0 l1), ownL NPeer.E 101 x1.2.2.1 x1.2.2.2.1 (zipG x1.2.2.2.2 0 w1.h.peers), ownL EByte 5 x4.1 x4.2 w1.d.safe, ownL EByte 5 x5.1 x5.2 w1.d.wait, ownL NMail.E 132 x3.1 x3.2.1 (zipG x3.2.2 0 w1.mail)], [am NClient γ2 l1], (n1 ≤ w1.c.length) ∧ (l1.length = w1.c.length) ∧ (ei w1 (w1.c.drop n1) n1 l1) = (cU w1), w1.c.length - n1⟩ : Ls)) ⟨w1.c, γ1, 0⟩ (Sc (Sc (Sc Sn))) (.keep (.drop (.nil))) ⟨Nat.zero_le _, rfl, (by simp only [cU, Cf] : (cU w1) = (ei w1 w1.c 0 w1.c)).symm⟩ Le4 ?_
 rintro ⟨l1, γ2, n1⟩ ⟨hkn1, hll, hf1⟩
 simp only [List.cons_append, List.nil_append]
 refine Tx ?_
 refine Cd (b := decide ((n1 : Int) < (w1.c.length : Int))) (fun hc1 => ?_) fun hc1 => ?_
 ·have hlt0 : n1 < w1.c.length := Int.ofNat_lt.1 (of_decide_eq_true hc1)
  refine Tx ?_
  refine rw_qO NClient.E (e := 61) (X := x2.1) (b := x2.2) (l := zipG γ2 0 l1) Mm .sq rfl rfl rfl (dw NClient γ2 n1 rfl rfl Zf rfl Zf rfl rfl rfl (.head _) rfl Zf Za) ?_
  refine rw_qO NClient.E (e := 61) (X := x2.1) (b := x2.2) (l := zipG γ2 0 l1) Mm .sq rfl rfl rfl (q_is (v' := .agg ⟨[.int .i64 (gt l1 n1).life, .int .i64 (gt l1 n1).time, .int .i64 (gt l1 n1).seq, (γ2 n1).1.val (gt l1 n1).pending.length, .int .i64 (gt l1 n1).version, (γ2 n1).2.1.val (gt l1 n1).v.roots.length, (γ2 n1).2.2.1.val (gt l1 n1).v.known.length, (γ2 n1).2.2.2.val (gt l1 n1).v.way.length]⟩) (fP NClient γ2 rfl rfl Zf rfl rfl (.head _) Za) rfl) ?_
  refine aI (F := RdL EOp (γ2 n1).1 (gt l1 n1).pending) [am NClient γ2 l1] Sm (fun M w h => (allF1 h) n1 Zc _ (.head _)) ?_
  refine aI (F := RdL EInt (γ2 n1).2.1 (gt l1 n1).v.roots) [am NClient γ2 l1] Sm (fun M w h => (allF1 h) n1 Zc _ (.tail _ (.head _))) ?_
  refine aI (F := RdL EPlace (γ2 n1).2.2.1 (gt l1 n1).v.known) [am NClient γ2 l1] Sm (fun M w h => (allF1 h) n1 Zc _ (.tail _ (.tail _ (.head _)))) ?_
  refine aI (F := RdL EPlace (γ2 n1).2.2.2 (gt l1 n1).v.way) [am NClient γ2 l1] Sm (fun M w h => (allF1 h) n1 Zc _ (.tail _ (.tail _ (.tail _ (.head _))))) ?_
  refine Al fun g3 => ?_
  refine Tx ?_
  (repeat refine ao ?_); refine au (fun j => match j with | 6 => some x2.2.toList | _ => some []) ?_
  refine Ra 0 rfl Qp ?_
  refine Ra 1 rfl Q1 ?_
  refine Ra 2 rfl Qp ?_
  refine Ra 3 rfl (q_ldA rfl rfl Zf rfl Mm rfl) ?_
  refine ap 4 Kr ?_
  refine aV (gY (γ2 n1).1 (γ2 n1).2.1 (γ2 n1).2.2.1 (γ2 n1).2.2.2 (gt l1 n1)) (.an rfl rfl) (.inr (by simp [Lent.ids])) (ac rfl) rfl rfl rfl Kr rfl rfl Sm (.nil _) (.nil _) ?_
  intro x8
  refine Pr EInt x8.2.2.1 (gt l1 n1).v.roots 8 fun hlen10 => ?_
  refine Pr EPlace x8.2.2.2.1 (gt l1 n1).v.known 24 fun hlen11 => ?_
  refine Pr EPlace x8.2.2.2.2 (gt l1 n1).v.way 24 fun hlen12 => ?_
  refine rw_qO NClient.E (e := 61) (X := x2.1) (b := x2.2) (l := zipG γ2 0 l1) Mm (.an (i := 5) (js := []) rfl Kr Kr Kr Kr) rfl rfl rfl (dw NClient γ2 n1 rfl rfl Zf rfl Zf rfl rfl rfl (.head _) rfl Zf Za) ?_
  refine ap 6 Kr ?_
  refine rw_le (ay EOp 49 x8.1 x8.2.1 (gt l1 n1).pending Uo) ?_
  refine gf NClient γ2 l1 n1 0 (x8.1, x8.2.2.1, x8.2.2.2.1, x8.2.2.2.2) (gt l1 n1) (e := 61) (X := x2.1) (b := x2.2) (.an rfl rfl) (.inr (fun g h => by simp [h])) (ac rfl) rfl rfl rfl rfl rfl rfl rfl rfl rfl rfl rfl Zb rfl Uo ?_
  refine aI (F := am NClient (updG γ2 n1 (x8.1, x8.2.2.1, x8.2.2.2.1, x8.2.2.2.2)) (l1.set n1 (gt l1 n1))) [am NClient γ2 l1, RdL EOp x8.1 (gt l1 n1).pending, RdL EInt x8.2.2.1 (gt l1 n1).v.roots, RdL EPlace x8.2.2.2.1 (gt l1 n1).v.known, RdL EPlace x8.2.2.2.2 (gt l1 n1).v.way] Sm (fun M w h => am.upd NClient (h _ (.head _)) (da Sm h)) ?_
  have hv1 : x2.1.val l1.length = x2.1.val (l1.set n1 (gt l1 n1)).length := congrArg (SlV.val x2.1) List.length_set.symm
  try rw [hv1]
  refine bn Kr ?_
  refine Tx ?_
  refine rw_q rfl rfl rfl (q_add rfl rfl Zf rfl Zf Zo) ?_
  refine Tx ?_
  refine ⟨⟨(l1.set n1 (gt l1 n1)), (updG γ2 n1 (x8.1, x8.2.2.1, x8.2.2.2.1, x8.2.2.2.2)), (n1 + 1)⟩, ⟨hlt0, (by (try simp only [List.length_set]); omega), (by rw [← hf1, aE hlt0]; simp only [ei, Cf] : (cU w1) = (ei w1 (w1.c.drop (n1 + 1)) (n1 + 1) (l1.set n1 (gt l1 n1)))).symm⟩, (by simp only []; omega), Le4⟩
 ·have hge0 : w1.c.length ≤ n1 := by have := of_decide_eq_false hc1; omega
  refine Tx ?_
  refine cw_le (ay NPeer.E 101 x1.2.2.1 x1.2.2.2.1 (zipG x1.2.2.2.2 0 w1.h.peers) Uo) ?_
  refine cS (F := RdN NPeer x1.2.2.1 w1.h.peers) [RdG NPeer x1.2.2.1 x1.2.2.2.2 w1.h.peers, am NPeer x1.2.2.2.2 w1.h.peers] Sm (fun M w h => RdN.ofG NPeer (h _ (.head _)) (h _ (.tail _ (.head _)))) ?_
  refine cw_le (ay EByte 5 x4.1 x4.2 w1.d.safe Uo) ?_
  refine cw_le (ay EByte 5 x5.1 x5.2 w1.d.wait Uo) ?_
  refine cw_le (ay NMail.E 132 x3.1 x3.2.1 (zipG x3.2.2 0 w1.mail) Uo) ?_
  refine cS (F := RdN NMail x3.1 w1.mail) [RdG NMail x3.1 x3.2.2 w1.mail, am NMail x3.2.2 w1.mail] Sm (fun M w h => RdN.ofG NMail (h _ (.head _)) (h _ (.tail _ (.head _)))) ?_
  refine ai ?_; rw [show (cU w1) = (⟨w1.h, w1.d, w1.up, l1, w1.mail⟩ : Wld) by rw [← hf1, List.drop_of_length_le hge0]; simp only [ei, Cf]]; exact Re ⟨x1.1, x1.2.1, x1.2.2.1, x4.1, x5.1, x2.1, x2.2, γ2, x3.1⟩ (Va Vn)
theorem kc (w : Wld) : ∀ (r : List Client) (n : Nat) (l : List Client), ei w r n l = ⟨w.h, w.d, w.up, l, w.mail⟩
 | [], _, _ => rfl
 | _ :: r, n, l => by
  have : l.set n (gt l n) = l := by
   by_cases h : n < l.length
   ·rw [gt_eq h]; exact List.set_getElem_self h
   ·exact List.set_eq_of_length_le (Nat.le_of_not_lt h)
  rw [ei, this]; exact kc w r (n + 1) l
theorem pa (w : Wld) : cU w = w := kc w _ 0 w.c
theorem gP (y1 : SlV) (y2 : SlV) (y3 : SlV) (y4 : SlV) (y5 : SlV) (y6 : SlV) (y7 : SlV) (w1 : Wld) : DoesG Tryz.prog 41 [.agg ⟨[y1.val w1.h.h.l.length, y2.val w1.h.h.t.length, .int .i64 w1.h.version, y3.val w1.h.peers.length, y4.val w1.d.safe.length, y5.val w1.d.wait.length, .bool w1.up, y6.val w1.c.length, y7.val w1.mail.length]⟩] [RdL EStep y1 w1.h.h.l, RdL EPlace y2 w1.h.h.t, RdN NPeer y3 w1.h.peers, RdL EByte y4 w1.d.safe, RdL EByte y5 w1.d.wait, RdN NClient y6 w1.c, RdN NMail y7 w1.mail] ⟨[], []⟩ (fun (X : SlV × SlV × SlV × SlV × SlV × SlV × Option Nat × (Nat → SlV × SlV × SlV × SlV) × SlV) => .agg ⟨[X.1.val w1.h.h.l.length, X.2.1.val w1.h.h.t.length, .int .i64 w1.h.version, X.2.2.1.val w1.h.peers.length, X.2.2.2.1.val w1.d.safe.length, X.2.2.2.2.1.val w1.d.wait.length, .bool w1.up, X.2.2.2.2.2.1.val w1.c.length, X.2.2.2.2.2.2.2.2.val w1.mail.length]⟩) (fun X => [RdL EStep X.1 w1.h.h.l, RdL EPlace X.2.1 w1.h.h.t, RdN NPeer X.2.2.1 w1.h.peers, RdL EByte X.2.2.2.1 w1.d.safe, RdL EByte X.2.2.2.2.1 w1.d.wait, RdN NMail X.2.2.2.2.2.2.2.2 w1.mail, am NClient X.2.2.2.2.2.2.2.1 w1.c]) (fun X => ⟨[], [ownL NClient.E 61 X.2.2.2.2.2.1 X.2.2.2.2.2.2.1 (zipG X.2.2.2.2.2.2.2.1 0 w1.c)]⟩) := by
 have := nt y1 y2 y3 y4 y5 y6 y7 w1
 rw [pa] at this
 exact this
def cx (f1 : Int → Bool) : List Int → Nat → Int
 | [], n1 => (-1)
 | pn1 :: rn1, n1 => (bif (f1 pn1) then (n1 : Int) else (cx f1 rn1 (n1 + 1)))
def cF (s1 : List Int) (f1 : Int → Bool) : Int :=
 (cx f1 s1 0)
theorem iw (y1 : SlV) (s1 : List Int) (f2 : Nat) (caps1 : List Value) (pre1 : List Pred) [StabL pre1] (f1 : Int → Bool) (hfb1 : tab.fnb f2 = true) (hfn1 : ∀ (a0_ : Int), Does Tryz.prog f2 ([.int .i64 a0_] ++ caps1) pre1 (fun (_ : Unit) => .bool (f1 a0_)) (fun _ => [])) : Does Tryz.prog 53 [y1.val s1.length, .func (.func f2) #[] ⟨caps1⟩] (RdL EInt y1 s1 :: pre1) (fun (_ : Unit) => .int .i64 (cF s1 f1)) (fun _ => []) := by
 refine bj aZ Tryz.func53 rfl Tryz.ntmps53 Tryz.results53 rfl inferInstance (fun _ => inferInstance) fun C => ?_
 refine dP (φ := s1.length * 8 ≤ 140737488355328) [RdL EInt y1 s1] Sf (fun M w h => (allF1 h).len) fun hlen1 => ?_
 refine Tx ?_
 (repeat refine ao ?_); refine Lp [0,1,4,7] [] (fun (n1 : Nat) => (⟨[(8, .v (.int .i64 (n1 : Int)))], [], [], [], (n1 ≤ s1.length) ∧ (cx f1 (s1.drop n1) n1) = (cF s1 f1), s1.length - n1⟩ : Ls)) 0 (Sc (Sc (Sc (Sc Sn)))) (.nil) ⟨Nat.zero_le _, (by simp only [cF, Cf] : (cF s1 f1) = (cx f1 s1 0)).symm⟩ Le5 ?_
 rintro n1 ⟨hkn1, hf1⟩
 simp only [List.cons_append, List.nil_append]
 refine Tx ?_
 refine Cd (b := decide ((n1 : Int) < (s1.length : Int))) (fun hc1 => ?_) fun hc1 => ?_
 ·have hlt0 : n1 < s1.length := Int.ofNat_lt.1 (of_decide_eq_true hc1)
  refine Tx ?_
  refine rw_q rfl rfl rfl (q_idx EInt n1 rfl rfl Zf rfl Zf rfl rfl rfl Mm rfl Zf (fun _ => by first | assumption | omega)) ?_
  refine rw_q rfl rfl rfl (q_le1 EInt rfl rfl Zf rfl rfl Mm (fun _ => by first | assumption | omega) rfl) ?_
  refine gg (hfn1 (gt s1 n1)) .sq (ac rfl) rfl rfl rfl rfl rfl (by assumption) rfl rfl rfl Sf ?_
  intro _
  refine dY ?_
  (repeat refine ao ?_)
  refine Cd (b := (f1 (gt s1 n1))) (fun hc2 => ?_) fun hc2 => ?_
  ·refine Tx ?_
   have hr1 : (cF s1 f1) = (n1 : Int) := by rw [← hf1, aE hlt0]; simp only [cx, hc2, Cf]
   refine ai ?_
   rw [hr1]
   exact ⟨(), _, (.cons (.tmp rfl) .nil), rfl, Sf, .nil _, .nil _⟩
  ·refine Tx ?_
   refine rw_q rfl rfl rfl (q_add rfl rfl Zf rfl Zf Zo) ?_
   refine Tx ?_
   refine ⟨(n1 + 1), ⟨hlt0, (by rw [← hf1, aE hlt0]; simp only [cx, hc2, Cf] : (cF s1 f1) = (cx f1 (s1.drop (n1 + 1)) (n1 + 1))).symm⟩, (by simp only []; omega), Le5⟩
 ·have hge0 : s1.length ≤ n1 := by have := of_decide_eq_false hc1; omega
  refine Tx ?_
  have hr2 : (cF s1 f1) = (-1) := by rw [← hf1, List.drop_of_length_le hge0]; simp only [cx, Cf]
  refine ai ?_
  rw [hr2]
  exact ⟨(), _, (.cons (.tmp rfl) .nil), rfl, Sf, .nil _, .nil _⟩
def d4 (s1 : List Int) (f1 : Int → Bool) : Bool :=
 decide ((cF s1 f1) ≥ 0)
theorem gJ (y1 : SlV) (s1 : List Int) (f2 : Nat) (caps1 : List Value) (pre1 : List Pred) [StabL pre1] (f1 : Int → Bool) (hfb1 : tab.fnb f2 = true) (hfn1 : ∀ (a0_ : Int), Does Tryz.prog f2 ([.int .i64 a0_] ++ caps1) pre1 (fun (_ : Unit) => .bool (f1 a0_)) (fun _ => [])) : Does Tryz.prog 34 [y1.val s1.length, .func (.func f2) #[] ⟨caps1⟩] (RdL EInt y1 s1 :: pre1) (fun (_ : Unit) => .bool (d4 s1 f1)) (fun _ => []) := by
 refine bj aZ Tryz.func34 rfl Tryz.ntmps34 Tryz.results34 rfl inferInstance (fun _ => inferInstance) fun C => ?_
 refine dP (φ := s1.length * 8 ≤ 140737488355328) [RdL EInt y1 s1] Sf (fun M w h => (allF1 h).len) fun hlen1 => ?_
 refine Tx ?_
 refine cJ (iw y1 s1 _ _ _ f1 (by assumption) hfn1) .sq (ac rfl) rfl rfl rfl Kr rfl rfl Sf ?_
 intro _
 refine Tx ?_
 have hr1 : (d4 s1 f1) = decide ((cF s1 f1) ≥ 0) := by simp only [d4, Cf]
 refine ai ?_
 rw [hr1]
 exact ⟨(), _, (.cons (.tmp rfl) .nil), rfl, Sf, .nil _, .nil _⟩
def cg  : List Client → Nat → Int
 | [], n1 => 0
 | pn1 :: rn1, n1 => (bif ((bh pn1 (n1 : Int)) != 0) then (bh pn1 (n1 : Int)) else (cg rn1 (n1 + 1)))
def aW (w1 : Wld) : Int :=
 (bif ((w1.c.length : Int) != 3) then 4 else (bif ((bO w1.mail) != 0) then (bO w1.mail) else (bif ((al w1.d).2.2 != 0) then (al w1.d).2.2 else (bif (w1.up && decide ((w1.d.wait.length : Int) > 0)) then 4 else (bif (!w1.up) then (bif ((aq ([] : List Rec)).2 != 0) then (aq ([] : List Rec)).2 else (bif (!(fT (aq ([] : List Rec)).1 w1.h)) then 4 else (cg w1.c 0))) else (bif ((aq (al w1.d).2.1).2 != 0) then (aq (al w1.d).2.1).2 else (bif (!(fT (aq (al w1.d).2.1).1 w1.h)) then 4 else (cg w1.c 0))))))))
theorem fR (y1 : SlV) (y2 : SlV) (y3 : SlV) (y4 : SlV) (y5 : SlV) (y6 : SlV) (y7 : SlV) (w1 : Wld) : Does Tryz.prog 21 [.agg ⟨[y1.val w1.h.h.l.length, y2.val w1.h.h.t.length, .int .i64 w1.h.version, y3.val w1.h.peers.length, y4.val w1.d.safe.length, y5.val w1.d.wait.length, .bool w1.up, y6.val w1.c.length, y7.val w1.mail.length]⟩] [RdL EStep y1 w1.h.h.l, RdL EPlace y2 w1.h.h.t, RdN NPeer y3 w1.h.peers, RdL EByte y4 w1.d.safe, RdL EByte y5 w1.d.wait, RdN NClient y6 w1.c, RdN NMail y7 w1.mail, LibP Tryz.prog] (fun (_ : Unit) => .int .i64 (aW w1)) (fun _ => []) := by
 refine bj aZ Tryz.func21 rfl Tryz.ntmps21 Tryz.results21 rfl inferInstance (fun _ => inferInstance) fun C => ?_
 refine Pc EStep y1 w1.h.h.l 88 fun hlen1 => ?_
 refine Pc EPlace y2 w1.h.h.t 24 fun hlen2 => ?_
 refine Pn NPeer y3 w1.h.peers 40 fun hlen3 => ?_
 refine Pc EByte y4 w1.d.safe 1 fun hlen4 => ?_
 refine Pc EByte y5 w1.d.wait 1 fun hlen5 => ?_
 refine Pn NClient y6 w1.c 128 fun hlen6 => ?_
 refine Pn NMail y7 w1.mail 280 fun hlen7 => ?_
 refine Tx ?_
 refine Bx fun g1 => ?_
 refine Tx ?_
 refine Cd (b := ((w1.c.length : Int) != 3)) (fun hc1 => ?_) fun hc1 => ?_
 ·have hc1p := bne_iff_ne.1 hc1
  refine Tx ?_
  refine ai ?_; simp only [aW, hc1, Cf]; exact Re () (Vt Vn)
 ·have hc1p := ae hc1
  refine Tx ?_
  refine Cl (fI y7 w1.mail) fun _ => ?_
  refine Tx ?_
  refine Cd (b := ((bO w1.mail) != 0)) (fun hc2 => ?_) fun hc2 => ?_
  ·have hc2p := bne_iff_ne.1 hc2
   refine Tx ?_
   refine ai ?_; simp only [aW, hc1, hc2, Cf]; exact Re () (Vt Vn)
  ·have hc2p := ae hc2
   refine Tx ?_
   refine Cl (eP y4 y5 w1.d) fun x1 => ?_
   refine Tx ?_
   refine Al fun g2 => ?_
   refine Tx ?_
   refine Cd (b := ((al w1.d).2.2 != 0)) (fun hc3 => ?_) fun hc3 => ?_
   ·have hc3p := bne_iff_ne.1 hc3
    refine Tx ?_
    refine ai ?_; simp only [aW, hc1, hc2, hc3, Cf]; exact Re () (Vt Vn)
   ·have hc3p := ae hc3
    refine Tx ?_
    refine Cd (b := (w1.up && decide ((w1.d.wait.length : Int) > 0))) (fun hc4 => ?_) fun hc4 => ?_
    ·refine Tx ?_
     refine ai ?_; simp only [aW, hc1, hc2, hc3, hc4, Cf]; exact Re () (Vt Vn)
    ·refine Tx ?_
     refine Cd (b := (!w1.up)) (fun hc5 => ?_) fun hc5 => ?_
     ·refine Tx ?_
      refine aI (F := RdN NRec ⟨none, 0⟩ ([] : List Rec)) [] (.nil _) (fun M w _ => RdN.nil _ M w) ?_
      refine Cl (fx (⟨none, 0⟩ : SlV) ([] : List Rec)) fun x2 => ?_
      refine Tx ?_
      refine Al fun g3 => ?_
      refine Tx ?_
      refine Cd (b := ((aq ([] : List Rec)).2 != 0)) (fun hc6 => ?_) fun hc6 => ?_
      ·have hc6p := bne_iff_ne.1 hc6
       refine Tx ?_
       refine ai ?_; simp only [aW, hc1, hc2, hc3, hc4, hc5, hc6, Cf]; exact Re () (Vt Vn)
      ·have hc6p := ae hc6
       refine Tx ?_
       refine Cl (lZ x2.1 x2.2.1 x2.2.2 (aq ([] : List Rec)).1 y1 y2 y3 w1.h) fun _ => ?_
       generalize hS1 : (fT (aq ([] : List Rec)).1 w1.h) = S1
       refine Tx ?_
       refine Cd (b := (!S1)) (fun hc7 => ?_) fun hc7 => ?_
       ·refine Tx ?_
        refine ai ?_; simp only [aW, hc1, hc2, hc3, hc4, hc5, hc6, hS1, hc7, Cf]; exact Re () (Vt Vn)
       ·refine Tx ?_
        (repeat refine ao ?_); refine Lp [2,57,58] [true, true, true] (fun (n1 : Nat) => (⟨[(59, .v (.int .i64 (n1 : Int)))], [], [], [], (n1 ≤ w1.c.length) ∧ (cg (w1.c.drop n1) n1) = (aW w1), w1.c.length - n1⟩ : Ls)) 0 (Sc (Sc (Sc Sn))) (.keep (.keep (.keep (.nil)))) ⟨Nat.zero_le _, (by simp only [aW, hc1, hc2, hc3, hc4, hc5, hc6, hS1, hc7, Cf] : (aW w1) = (cg w1.c 0)).symm⟩ Le4 ?_
        rintro n1 ⟨hkn1, hf1⟩
        simp only [List.cons_append, List.nil_append]
        refine Tx ?_
        refine Cd (b := decide ((n1 : Int) < (w1.c.length : Int))) (fun hc8 => ?_) fun hc8 => ?_
        ·have hlt0 : n1 < w1.c.length := Int.ofNat_lt.1 (of_decide_eq_true hc8)
         refine Tx ?_
         refine fj NClient (X := y6) (l := w1.c) Mm fun (γ1 : Nat → SlV × SlV × SlV × SlV) => ?_
         refine rw_q rfl rfl rfl (dw NClient γ1 n1 rfl rfl Zf rfl Zf rfl rfl rfl Mm rfl Zf (fun _ => by first | assumption | omega)) ?_
         refine rw_q rfl rfl rfl (q_is (v' := .agg ⟨[.int .i64 (gt w1.c n1).life, .int .i64 (gt w1.c n1).time, .int .i64 (gt w1.c n1).seq, (γ1 n1).1.val (gt w1.c n1).pending.length, .int .i64 (gt w1.c n1).version, (γ1 n1).2.1.val (gt w1.c n1).v.roots.length, (γ1 n1).2.2.1.val (gt w1.c n1).v.known.length, (γ1 n1).2.2.2.val (gt w1.c n1).v.way.length]⟩) (fP NClient γ1 rfl rfl Zf rfl rfl Mm (fun _ => by first | assumption | omega)) rfl) ?_
         refine aI (F := RdL EOp (γ1 n1).1 (gt w1.c n1).pending) [am NClient γ1 w1.c] Sm (fun M w h => (allF1 h) n1 Zc _ (.head _)) ?_
         refine aI (F := RdL EInt (γ1 n1).2.1 (gt w1.c n1).v.roots) [am NClient γ1 w1.c] Sm (fun M w h => (allF1 h) n1 Zc _ (.tail _ (.head _))) ?_
         refine aI (F := RdL EPlace (γ1 n1).2.2.1 (gt w1.c n1).v.known) [am NClient γ1 w1.c] Sm (fun M w h => (allF1 h) n1 Zc _ (.tail _ (.tail _ (.head _)))) ?_
         refine aI (F := RdL EPlace (γ1 n1).2.2.2 (gt w1.c n1).v.way) [am NClient γ1 w1.c] Sm (fun M w h => (allF1 h) n1 Zc _ (.tail _ (.tail _ (.tail _ (.head _))))) ?_
         refine Al fun g4 => ?_
         refine Tx ?_
         refine Cl (fF (γ1 n1).1 (γ1 n1).2.1 (γ1 n1).2.2.1 (γ1 n1).2.2.2 (gt w1.c n1) (n1 : Int)) fun _ => ?_
         generalize hS2 : (bh (gt w1.c n1) (n1 : Int)) = S2
         refine Tx ?_
         refine Cd (b := (S2 != 0)) (fun hc9 => ?_) fun hc9 => ?_
         ·have hc9p := bne_iff_ne.1 hc9
          refine Tx ?_
          refine ai ?_; rw [show (aW w1) = S2 by rw [← hf1, aE hlt0]; simp only [cg, hS2, hc9, Cf]]; exact Re () (Vt Vn)
         ·have hc9p := ae hc9
          refine Tx ?_
          refine rw_q rfl rfl rfl (q_add rfl rfl Zf rfl Zf Zo) ?_
          refine Tx ?_
          refine ⟨(n1 + 1), ⟨hlt0, (by rw [← hf1, aE hlt0]; simp only [cg, hS2, hc9, Cf] : (aW w1) = (cg (w1.c.drop (n1 + 1)) (n1 + 1))).symm⟩, (by simp only []; omega), Le4⟩
        ·have hge0 : w1.c.length ≤ n1 := by have := of_decide_eq_false hc8; omega
         refine Tx ?_
         refine ai ?_; rw [show (aW w1) = 0 by rw [← hf1, List.drop_of_length_le hge0]; simp only [cg, Cf]]; exact Re () (Vt Vn)
     ·refine Tx ?_
      refine Cl (fx x1.2.2 (al w1.d).2.1) fun x3 => ?_
      generalize hS3 : (aq (al w1.d).2.1) = S3
      refine Tx ?_
      refine Al fun g5 => ?_
      refine Tx ?_
      refine Cd (b := (S3.2 != 0)) (fun hc10 => ?_) fun hc10 => ?_
      ·have hc10p := bne_iff_ne.1 hc10
       refine Tx ?_
       refine ai ?_; simp only [aW, hc1, hc2, hc3, hc4, hc5, hS3, hc10, Cf]; exact Re () (Vt Vn)
      ·have hc10p := ae hc10
       refine Tx ?_
       refine Cl (lZ x3.1 x3.2.1 x3.2.2 S3.1 y1 y2 y3 w1.h) fun _ => ?_
       refine Tx ?_
       refine Cd (b := (!(fT S3.1 w1.h))) (fun hc11 => ?_) fun hc11 => ?_
       ·refine Tx ?_
        refine ai ?_; simp only [aW, hc1, hc2, hc3, hc4, hc5, hS3, hc10, hc11, Cf]; exact Re () (Vt Vn)
       ·refine Tx ?_
        (repeat refine ao ?_); refine Lp [2,57,58] [true, true, true] (fun (n2 : Nat) => (⟨[(59, .v (.int .i64 (n2 : Int)))], [], [], [], (n2 ≤ w1.c.length) ∧ (cg (w1.c.drop n2) n2) = (aW w1), w1.c.length - n2⟩ : Ls)) 0 (Sc (Sc (Sc Sn))) (.keep (.keep (.keep (.nil)))) ⟨Nat.zero_le _, (by simp only [aW, hc1, hc2, hc3, hc4, hc5, hS3, hc10, hc11, Cf] : (aW w1) = (cg w1.c 0)).symm⟩ Le4 ?_
        rintro n2 ⟨hkn2, hf2⟩
        simp only [List.cons_append, List.nil_append]
        refine Tx ?_
        refine Cd (b := decide ((n2 : Int) < (w1.c.length : Int))) (fun hc12 => ?_) fun hc12 => ?_
        ·have hlt0 : n2 < w1.c.length := Int.ofNat_lt.1 (of_decide_eq_true hc12)
         refine Tx ?_
         refine fj NClient (X := y6) (l := w1.c) Mm fun (γ2 : Nat → SlV × SlV × SlV × SlV) => ?_
         refine rw_q rfl rfl rfl (dw NClient γ2 n2 rfl rfl Zf rfl Zf rfl rfl rfl Mm rfl Zf (fun _ => by first | assumption | omega)) ?_
         refine rw_q rfl rfl rfl (q_is (v' := .agg ⟨[.int .i64 (gt w1.c n2).life, .int .i64 (gt w1.c n2).time, .int .i64 (gt w1.c n2).seq, (γ2 n2).1.val (gt w1.c n2).pending.length, .int .i64 (gt w1.c n2).version, (γ2 n2).2.1.val (gt w1.c n2).v.roots.length, (γ2 n2).2.2.1.val (gt w1.c n2).v.known.length, (γ2 n2).2.2.2.val (gt w1.c n2).v.way.length]⟩) (fP NClient γ2 rfl rfl Zf rfl rfl Mm (fun _ => by first | assumption | omega)) rfl) ?_
         refine aI (F := RdL EOp (γ2 n2).1 (gt w1.c n2).pending) [am NClient γ2 w1.c] Sm (fun M w h => (allF1 h) n2 Zc _ (.head _)) ?_
         refine aI (F := RdL EInt (γ2 n2).2.1 (gt w1.c n2).v.roots) [am NClient γ2 w1.c] Sm (fun M w h => (allF1 h) n2 Zc _ (.tail _ (.head _))) ?_
         refine aI (F := RdL EPlace (γ2 n2).2.2.1 (gt w1.c n2).v.known) [am NClient γ2 w1.c] Sm (fun M w h => (allF1 h) n2 Zc _ (.tail _ (.tail _ (.head _)))) ?_
         refine aI (F := RdL EPlace (γ2 n2).2.2.2 (gt w1.c n2).v.way) [am NClient γ2 w1.c] Sm (fun M w h => (allF1 h) n2 Zc _ (.tail _ (.tail _ (.tail _ (.head _))))) ?_
         refine Al fun g6 => ?_
         refine Tx ?_
         refine Cl (fF (γ2 n2).1 (γ2 n2).2.1 (γ2 n2).2.2.1 (γ2 n2).2.2.2 (gt w1.c n2) (n2 : Int)) fun _ => ?_
         generalize hS4 : (bh (gt w1.c n2) (n2 : Int)) = S4
         refine Tx ?_
         refine Cd (b := (S4 != 0)) (fun hc13 => ?_) fun hc13 => ?_
         ·have hc13p := bne_iff_ne.1 hc13
          refine Tx ?_
          refine ai ?_; rw [show (aW w1) = S4 by rw [← hf2, aE hlt0]; simp only [cg, hS4, hc13, Cf]]; exact Re () (Vt Vn)
         ·have hc13p := ae hc13
          refine Tx ?_
          refine rw_q rfl rfl rfl (q_add rfl rfl Zf rfl Zf Zo) ?_
          refine Tx ?_
          refine ⟨(n2 + 1), ⟨hlt0, (by rw [← hf2, aE hlt0]; simp only [cg, hS4, hc13, Cf] : (aW w1) = (cg (w1.c.drop (n2 + 1)) (n2 + 1))).symm⟩, (by simp only []; omega), Le4⟩
        ·have hge0 : w1.c.length ≤ n2 := by have := of_decide_eq_false hc12; omega
         refine Tx ?_
         refine ai ?_; rw [show (aW w1) = 0 by rw [← hf2, List.drop_of_length_le hge0]; simp only [cg, Cf]]; exact Re () (Vt Vn)
def ba (w1 : Wld) (r1 : Rec) : Int × Wld :=
 (bif ((dG w1.h r1).2 != 0) then ((dG w1.h r1).2, w1) else (bif ((dy w1.d r1).2 != 0) then ((dy w1.d r1).2, w1) else (bif ((ey (dy w1.d r1).1).2 != 0) then ((ey (dy w1.d r1).1).2, w1) else (0, (⟨(dG w1.h r1).1, (ey (dy w1.d r1).1).1, w1.up, w1.c, w1.mail⟩ : Wld)))))
theorem gO (c1 : Nat) (y1 : SlV) (y2 : SlV) (y3 : SlV) (y4 : SlV) (y5 : SlV) (y6 : SlV) (y6b : Option Nat) (γ1 : Nat → SlV × SlV × SlV × SlV) (y7 : SlV) (w1 : Wld) (y8 : SlV) (r1 : Rec) : DoesG Tryz.prog 89 [.pointer (some ⟨c1, 0, none⟩), .agg ⟨[.int .i64 r1.kind, .int .i64 r1.who, .int .i64 r1.life, y8.val r1.roots.length, .int .i64 r1.o.time, .int .i64 r1.o.who, .int .i64 r1.o.node, .int .i64 r1.o.parent, .int .i64 r1.o.name, .int .i64 r1.o.life, .int .i64 r1.o.seq]⟩] [RdL EStep y1 w1.h.h.l, RdL EPlace y2 w1.h.h.t, RdN NPeer y3 w1.h.peers, RdL EByte y4 w1.d.safe, RdL EByte y5 w1.d.wait, am NClient γ1 w1.c, RdN NMail y7 w1.mail, RdL EInt y8 r1.roots, LibP Tryz.prog] ⟨[⟨c1, 39, [y1.val w1.h.h.l.length, y2.val w1.h.h.t.length, .int .i64 w1.h.version, y3.val w1.h.peers.length, y4.val w1.d.safe.length, y5.val w1.d.wait.length, .bool w1.up, y6.val w1.c.length, y7.val w1.mail.length]⟩], [ownL NClient.E 61 y6 y6b (zipG γ1 0 w1.c)]⟩ (fun (X : SlV × SlV × SlV × SlV × SlV × SlV × Option Nat × (Nat → SlV × SlV × SlV × SlV) × SlV) => .int .i64 (ba w1 r1).1) (fun X => [RdL EStep X.1 (ba w1 r1).2.h.h.l, RdL EPlace X.2.1 (ba w1 r1).2.h.h.t, RdN NPeer X.2.2.1 (ba w1 r1).2.h.peers, RdL EByte X.2.2.2.1 (ba w1 r1).2.d.safe, RdL EByte X.2.2.2.2.1 (ba w1 r1).2.d.wait, am NClient X.2.2.2.2.2.2.2.1 (ba w1 r1).2.c, RdN NMail X.2.2.2.2.2.2.2.2 (ba w1 r1).2.mail]) (fun X => ⟨[⟨c1, 39, [X.1.val (ba w1 r1).2.h.h.l.length, X.2.1.val (ba w1 r1).2.h.h.t.length, .int .i64 (ba w1 r1).2.h.version, X.2.2.1.val (ba w1 r1).2.h.peers.length, X.2.2.2.1.val (ba w1 r1).2.d.safe.length, X.2.2.2.2.1.val (ba w1 r1).2.d.wait.length, .bool (ba w1 r1).2.up, X.2.2.2.2.2.1.val (ba w1 r1).2.c.length, X.2.2.2.2.2.2.2.2.val (ba w1 r1).2.mail.length]⟩], [ownL NClient.E 61 X.2.2.2.2.2.1 X.2.2.2.2.2.2.1 (zipG X.2.2.2.2.2.2.2.1 0 (ba w1 r1).2.c)]⟩) := by
 refine co aZ Tryz.func89 rfl Tryz.ntmps89 Tryz.results89 rfl inferInstance (fun _ => inferInstance) fun C => ?_
 refine Pc EInt y8 r1.roots 8 fun hlen1 => ?_
 refine Tx ?_
 refine Bx fun g1 => ?_
 refine Tx ?_
 refine gp [0, 3, 4] [true, true] (fun (i_ : Nat × SlV × SlV × SlV) => match i_ with | ⟨g2, x1, x2, x3⟩ => [(5, .v (.pointer (some ⟨g2, 0, none⟩))), (6, .v (.int .i64 (dG w1.h r1).2))]) (fun (i_ : Nat × SlV × SlV × SlV) => match i_ with | ⟨g2, x1, x2, x3⟩ => [⟨g2, 32, [x1.val (dG w1.h r1).1.h.l.length, x2.val (dG w1.h r1).1.h.t.length, .int .i64 (dG w1.h r1).1.version, x3.val (dG w1.h r1).1.peers.length]⟩]) (fun (i_ : Nat × SlV × SlV × SlV) => match i_ with | ⟨g2, x1, x2, x3⟩ => [ownL NClient.E 61 y6 y6b (zipG γ1 0 w1.c)]) (fun (i_ : Nat × SlV × SlV × SlV) => match i_ with | ⟨g2, x1, x2, x3⟩ => [RdL EStep x1 (dG w1.h r1).1.h.l, RdL EPlace x2 (dG w1.h r1).1.h.t, RdN NPeer x3 (dG w1.h r1).1.peers]) (fun _ => True) (.cons rfl (.cons rfl (.cons rfl (.nil _)))) (.keep (.keep (.nil))) ?_ ?_
 ·refine au (fun j => match j with | 10 => none | _ => some []) ?_
  refine Rb 0 rfl Qp ?_
  refine Rb 1 rfl Qp ?_
  refine Rb 2 rfl Qp ?_
  refine Rb 3 rfl (q_ldP rfl rfl Zf rfl Mm rfl) ?_
  refine Rb 4 rfl (q_ldA rfl rfl Zf rfl Mm rfl) ?_
  refine fu 5 9 Kr ?_ ?_
  ·refine cJ (l4 y1 y2 y3 w1.h y8 r1) (.an rfl rfl) (ac rfl) rfl rfl rfl Kr rfl rfl Sm ?_
   intro x4
   refine Ra 6 rfl Qp ?_
   refine Ra 7 rfl Qp ?_
   refine ra_p (.an (i := 8) (js := [9, 10]) rfl Kr Kr Kr Kr) rfl rfl rfl (q_pev rfl Zf) ?_
   refine ap 9 Kr ?_
   refine di (.an rfl rfl) (ac rfl) rfl rfl rfl rfl fun g3 => ?_
   refine ap 10 Kr ?_
   refine cY (.lo [g3] rfl rfl) (.inr (by simp)) (ac rfl) rfl rfl rfl rfl rfl rfl rfl rfl rfl Ub rfl ?_
   refine Ra 11 rfl Qp ?_
   refine bn Kr ?_
   refine ⟨⟨g3, x4.1, x4.2.1, x4.2.2⟩, trivial, Le4⟩
  ·refine di (.an rfl rfl) (ac rfl) rfl rfl rfl rfl fun g4 => ?_
   refine ap 5 Kr ?_
   refine cJ (l4 y1 y2 y3 w1.h y8 r1) (.an rfl rfl) (ac rfl) rfl rfl rfl Kr rfl rfl Sm ?_
   intro x5
   refine Ra 6 rfl Qp ?_
   refine Ra 7 rfl Qp ?_
   refine ra_p (.an (i := 8) (js := [10]) rfl Kr Kr Kr Kr) rfl rfl rfl (q_pev rfl Zf) ?_
   refine ap 10 Kr ?_
   refine cY (.lo [g4] rfl rfl) (.inr (by simp)) (ac rfl) rfl rfl rfl rfl rfl rfl rfl rfl rfl Ub rfl ?_
   refine Ra 11 rfl Qp ?_
   refine bn Kr ?_
   refine ⟨⟨g4, x5.1, x5.2.1, x5.2.2⟩, trivial, Le4⟩
 ·rintro ⟨g2, x1, x2, x3⟩ -
  simp only [List.cons_append, List.nil_append]
  refine Tx ?_
  refine Cd (b := ((dG w1.h r1).2 != 0)) (fun hc1 => ?_) fun hc1 => ?_
  ·have hc1p := bne_iff_ne.1 hc1
   refine Tx ?_
   refine ai ?_; simp only [ba, hc1, Cf]; exact Re ⟨y1, y2, y3, y4, y5, y6, y6b, γ1, y7⟩ (Vt Vn)
  ·have hc1p := ae hc1
   refine Tx ?_
   refine gp [0, 4, 5] [true, true, true] (fun (i_ : Nat × SlV × SlV) => match i_ with | ⟨g5, x6, x7⟩ => [(6, .v (.int .i64 (dy w1.d r1).2)), (7, .v (.pointer (some ⟨g5, 0, none⟩)))]) (fun (i_ : Nat × SlV × SlV) => match i_ with | ⟨g5, x6, x7⟩ => [⟨g5, 35, [x6.val (dy w1.d r1).1.safe.length, x7.val (dy w1.d r1).1.wait.length]⟩]) (fun (i_ : Nat × SlV × SlV) => match i_ with | ⟨g5, x6, x7⟩ => [ownL NClient.E 61 y6 y6b (zipG γ1 0 w1.c)]) (fun (i_ : Nat × SlV × SlV) => match i_ with | ⟨g5, x6, x7⟩ => [RdL EByte x6 (dy w1.d r1).1.safe, RdL EByte x7 (dy w1.d r1).1.wait]) (fun _ => True) (.cons rfl (.cons rfl (.cons rfl (.nil _)))) (.keep (.keep (.keep (.nil)))) ?_ ?_
   ·refine au (fun j => match j with | 10 => none | _ => some []) ?_
    refine Rb 0 rfl Qp ?_
    refine Rb 1 rfl Qp ?_
    refine Rb 2 rfl Qp ?_
    refine Rb 3 rfl (q_ldP rfl rfl Zf rfl Mm rfl) ?_
    refine Rb 4 rfl (q_ldA rfl rfl Zf rfl Mm rfl) ?_
    refine fu 5 9 Kr ?_ ?_
    ·refine cJ (md y4 y5 w1.d y8 r1) (.an rfl rfl) (ac rfl) rfl rfl rfl Kr rfl rfl Sm ?_
     intro x8
     refine Ra 6 rfl Qp ?_
     refine Ra 7 rfl Qp ?_
     refine ra_p (.an (i := 8) (js := [9, 10]) rfl Kr Kr Kr Kr) rfl rfl rfl (q_pev rfl Zf) ?_
     refine ap 9 Kr ?_
     refine di (.an rfl rfl) (ac rfl) rfl rfl rfl rfl fun g6 => ?_
     refine ap 10 Kr ?_
     refine cY (.lo [g6] rfl rfl) (.inr (by simp)) (ac rfl) rfl rfl rfl rfl rfl rfl rfl rfl rfl Ub rfl ?_
     refine Ra 11 rfl Qp ?_
     refine bn Kr ?_
     refine ⟨⟨g6, x8.1, x8.2⟩, trivial, Le4⟩
    ·refine di (.an rfl rfl) (ac rfl) rfl rfl rfl rfl fun g7 => ?_
     refine ap 5 Kr ?_
     refine cJ (md y4 y5 w1.d y8 r1) (.an rfl rfl) (ac rfl) rfl rfl rfl Kr rfl rfl Sm ?_
     intro x9
     refine Ra 6 rfl Qp ?_
     refine Ra 7 rfl Qp ?_
     refine ra_p (.an (i := 8) (js := [10]) rfl Kr Kr Kr Kr) rfl rfl rfl (q_pev rfl Zf) ?_
     refine ap 10 Kr ?_
     refine cY (.lo [g7] rfl rfl) (.inr (by simp)) (ac rfl) rfl rfl rfl rfl rfl rfl rfl rfl rfl Ub rfl ?_
     refine Ra 11 rfl Qp ?_
     refine bn Kr ?_
     refine ⟨⟨g7, x9.1, x9.2⟩, trivial, Le4⟩
   ·rintro ⟨g5, x6, x7⟩ -
    simp only [List.cons_append, List.nil_append]
    refine Tx ?_
    refine Cd (b := ((dy w1.d r1).2 != 0)) (fun hc2 => ?_) fun hc2 => ?_
    ·have hc2p := bne_iff_ne.1 hc2
     refine Tx ?_
     refine ai ?_; simp only [ba, hc1, hc2, Cf]; exact Re ⟨y1, y2, y3, y4, y5, y6, y6b, γ1, y7⟩ (Vt Vn)
    ·have hc2p := ae hc2
     refine Tx ?_
     refine Cl (oD x6 x7 (dy w1.d r1).1) fun x10 => ?_
     generalize hS1 : (ey (dy w1.d r1).1) = S1
     refine Tx ?_
     refine Cd (b := (S1.2 != 0)) (fun hc3 => ?_) fun hc3 => ?_
     ·have hc3p := bne_iff_ne.1 hc3
      refine Tx ?_
      refine ai ?_; simp only [ba, hc1, hc2, hS1, hc3, Cf]; exact Re ⟨y1, y2, y3, y4, y5, y6, y6b, γ1, y7⟩ (Vt Vn)
     ·have hc3p := ae hc3
      refine Tx ?_
      (repeat refine ao ?_); refine au (fun j => match j with | 6 => none | 9 => none | _ => some []) ?_
      refine Ra 0 rfl Qp ?_
      refine ra_p (.an (i := 1) (js := [2, 3, 4, 5, 6]) rfl Kr Kr Kr Kr) rfl rfl rfl (q_pev rfl Zf) ?_
      refine Ra 2 rfl (q_ldA rfl rfl Zf rfl Mm rfl) ?_
      refine Rb 4 rfl Qp ?_
      refine Ra 5 rfl Qp ?_
      refine fu 3 6 Kr ?_ ?_
      ·refine tg rfl rfl rfl rfl (q_ldA rfl rfl Zf rfl Mm rfl) ?_
       refine ap 6 Kr ?_
       refine eS (.lo [c1] rfl rfl) (.inr (by simp)) (ac rfl) rfl rfl rfl rfl rfl rfl rfl rfl rfl Ub rfl ?_
       refine Rb 7 rfl Qp ?_
       refine Ra 8 rfl Qp ?_
       refine ap 9 Kr ?_
       refine eS (.lo [c1] rfl rfl) (.inr (by simp)) (ac rfl) rfl rfl rfl rfl rfl rfl rfl rfl rfl Ub rfl ?_
       refine bn Kr ?_
       refine Tx ?_
       refine ai ?_; simp only [ba, hc1, hc2, hS1, hc3, Cf]; exact Re ⟨x1, x2, x3, x10.1, x10.2, y6, y6b, γ1, y7⟩ (Vt Vn)
      ·refine eS (.lo [c1] rfl rfl) (.inr (by simp)) (ac rfl) rfl rfl rfl rfl rfl rfl rfl rfl rfl Ub rfl ?_
       refine Ra 3 rfl (q_ldA rfl rfl Zf rfl Mm rfl) ?_
       refine Rb 7 rfl Qp ?_
       refine Ra 8 rfl Qp ?_
       refine ap 9 Kr ?_
       refine eS (.lo [c1] rfl rfl) (.inr (by simp)) (ac rfl) rfl rfl rfl rfl rfl rfl rfl rfl rfl Ub rfl ?_
       refine bn Kr ?_
       refine Tx ?_
       refine ai ?_; simp only [ba, hc1, hc2, hS1, hc3, Cf]; exact Re ⟨x1, x2, x3, x10.1, x10.2, y6, y6b, γ1, y7⟩ (Vt Vn)
end Go.Proofs.YtpkaloknohpleaaGreatDoor
