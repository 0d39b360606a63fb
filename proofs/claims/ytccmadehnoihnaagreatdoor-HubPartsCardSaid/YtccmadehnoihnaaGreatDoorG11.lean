/- Part of this claim. No condition. -/
import Derived.Test.YtccmadehnoihnaaGreatDoorG3
import Derived.Test.YtccmadehnoihnaaGreatDoorG10
import Derived.Test.YtccmadehnoihnaaGreatDoorG9
import Derived.Lib.Join
import Derived.Lib.ItoaLen
import Derived.Test.YtccmadehnoihnaaGreatDoorG4
import Derived.Test.YtccmadehnoihnaaGreatDoorG8
set_option linter.unusedVariables false
set_option linter.unusedSimpArgs false
namespace Go.Proofs.YtccmadehnoihnaaGreatDoor
open Go Go.Proofs.YtccmadehnoihnaaGreatDoor.Fw Go.Proofs Go.RowKit Go.Sort

theorem below_grown (w : World) (k : Nat) (os : Array Obj) : Below w.heap.size w (grow (w.drewN k) os) :=
  ⟨rfl, rfl, rfl, by show w.heap.size ≤ (w.heap ++ os).size; rw [Array.size_append]; omega, fun j hj => heap_grow_old (w.drewN k) os hj⟩
theorem lib_Itoa (n : Int) (h : -9223372036854775808 ≤ n ∧ n ≤ 9223372036854775807) : Does Tryz.prog 37 [.int .i64 n] [LibP Tryz.prog] (fun (_ : Unit) => sV (Lib.itoa n)) (fun (_ : Unit) => []) :=
  does_lib (fun _ => inferInstance) fun M w _ hp => (Tryz.strconv_Itoa n h.1 h.2 w (hp _ (.head _)).2.tab).mono fun e w' ⟨he, k, os, hw⟩ => ⟨(), he, hw ▸ below_grown _ _ _, fun F hF => by cases hF⟩
theorem lib_Atoi (t : Str) (h : t.length ≤ 281474976710656) : Does Tryz.prog 55 [sV t] [LibP Tryz.prog] (fun (X : Nat) => .tuple #[.int .i64 (atv t), eV (ate t) 157 (.pointer (some ⟨X, 0, none⟩))]) (fun (_ : Nat) => []) :=
  does_lib (fun _ => inferInstance) fun M w _ hp => by
    have hs := size_sV t
    obtain ⟨_, _, ⟨tp, p, h1⟩, ⟨tp', p', h2⟩⟩ := (hp _ (.head _)).2
    cases he : Lib.atoiAll t with
    | ok v =>
      refine (Tryz.strconv_Atoi_ok ⟨t.toArray⟩ (by rw [hs]; omega) v he w).mono fun e w' ⟨h3, h4⟩ => ⟨0, by rw [h3, atv, ate, he]; rfl, ?_, fun F hF => by cases hF⟩
      rcases h4 with rfl | ⟨u, rfl⟩
      · exact Below.refl _ _
      · exact below_bytes _ _ _
    | range =>
      exact (Any.strconv_Atoi_range_var Tryz.laysC172 ⟨t.toArray⟩ (by rw [hs]; omega) he tp' p' w h2).mono fun e w' ⟨N, h3, _, _, h5⟩ => ⟨N, by rw [h3, atv, ate, he]; rfl, h5, fun F hF => by cases hF⟩
    | _ =>
      exact (Any.strconv_Atoi_syntax_var Tryz.laysC172 ⟨t.toArray⟩ (by rw [hs]; omega) he tp p w h1).mono fun e w' ⟨N, h3, _, _, h5⟩ => ⟨N, by rw [h3, atv, ate, he]; rfl, h5, fun F hF => by cases hF⟩
theorem lib_len {M : Nat → Prop} {w : World} (h : LibP Tryz.prog M w) : ∃ m, w.cell? ⟨0, 0, none⟩ = some (.int .i64 m) := by
  obtain ⟨g, m, hg, hc⟩ := h.2.len
  obtain rfl := Option.some.inj ((show Tryz.prog.globalNamed "internal/bytealg.MaxLen" = some 0 by kernel_rfl).symm.trans hg)
  exact ⟨m, hc⟩

theorem lib_Split (s sep : Str) (hs : sep = [32]) (h : s.length < 4294967281) : Does Tryz.prog 54 [sV s, sV sep] [LibP Tryz.prog] (fun (X : SlV) => X.val (spl 32 s).length) (fun (X : SlV) => [RdL EStr X (spl 32 s)]) := by
  subst hs
  exact does_lib (fun _ => inferInstance) fun M w hM hp => by
    obtain ⟨m, hm⟩ := lib_len (hp _ (.head _))
    refine (Tryz.strings_Split ⟨s.toArray⟩ ⟨#[32]⟩ m w (by rw [size_sV]; exact h) hm (by decide)).mono fun e w' ⟨h1, h2⟩ => ?_
    have hl := splitB_spl 32 s
    have hlen : Lib.countB ⟨s.toArray⟩ ⟨#[32]⟩ + 1 = (spl 32 s).length := by
      have h3 := congrArg List.length hl
      rw [List.length_map, List.length_map] at h3
      rw [← h3, Lib.splitB_all ⟨#[32]⟩ (by decide) 0 _ _ rfl]
    rw [hl] at h2
    rw [hlen] at h1
    subst h2
    have hb := (spl_len 32 s).2
    refine ⟨⟨some ⟨w.heap.size, 0, none⟩, (spl 32 s).length⟩, h1, below_alloc _ _, fun F hF => ?_⟩
    rw [List.mem_singleton] at hF
    subst hF
    exact rd_newrow hM _ _ (by omega)

theorem lib_Cut {c : UInt8} (s sep : Str) (hs : sep = [c]) (h : s.length < 4294967281) : Does Tryz.prog 39 [sV s, sV sep] [LibP Tryz.prog] (fun (_ : Unit) => .tuple #[sV (cutc c s).1, sV (cutc c s).2.1, .bool (cutc c s).2.2]) (fun (_ : Unit) => []) := by
  subst hs
  exact does_lib (fun _ => inferInstance) fun M w hM hp => by
    obtain ⟨m, hm⟩ := lib_len (hp _ (.head _))
    refine (Tryz.strings_Cut ⟨s.toArray⟩ ⟨#[c]⟩ m w (by rw [size_sV]; exact h) hm).mono fun e w' ⟨h1, n, h2⟩ => ⟨(), ?_, h2 ▸ below_drewN n, fun F hF => by cases hF⟩
    rw [h1, show Lib.cut (ByteArray.mk s.toArray).data.toList (ByteArray.mk #[c]).data.toList = cutc c s from cut_cutc c s]

end Go.Proofs.YtccmadehnoihnaaGreatDoor

set_option maxHeartbeats 2000000
namespace Go.Proofs.YtccmadehnoihnaaGreatDoor
open Go Go.Proofs.YtccmadehnoihnaaGreatDoor.Fw Go.Proofs
attribute [local irreducible] RdL RdN VarP LibP RW CW
theorem slices_Clone_UInt8_spec (x : SlV) (l : List UInt8) : DoesG Tryz.prog 23 [x.val l.length] [RdL EByte x l] ⟨[], []⟩ (fun (X : SlV × Option Nat) => X.1.val l.length) (fun (_ : SlV × Option Nat) => []) (fun (X : SlV × Option Nat) => ⟨[], [ownL EByte 5 X.1 X.2 l]⟩) := by
  refine does_ofG tab_ok Tryz.func23 rfl Tryz.ntmps23 Tryz.results23 rfl inferInstance (fun _ => inferInstance) fun C => ?_
  refine cw_pure (φ := l.length * EByte.by_ ≤ 140737488355328) [RdL EByte x l] Sm (fun M w h => (allF1 h).len) fun hlen => ?_
  refine Tx ?_
  refine rw_q rfl rfl rfl (q_eqnil rfl rfl (fun _ => rfl) rfl) ?_
  refine rw_nil ?_
  (repeat refine cw_seq ?_); refine cw_cond rfl rfl (fun hc0 => ?_) (fun hc0 => ?_)
  · refine cw_pure [RdL EByte x l] Sm (fun M w h => (allF1 h).nil_of hc0) fun hnil => ?_
    subst hnil
    refine cw_le (le_nilL EByte 5) ?_
    refine Tx ?_
    (repeat refine cw_seq ?_); refine cw_ret ?_
    exact ⟨(⟨none, 0⟩, none), _, (.cons (.tmp rfl) .nil), rfl, .nil _, .nil _, Sp⟩
  · refine Tx ?_
    refine rw_bsliceL EByte [] .sq (guard_none rfl) rfl rfl rfl rfl rfl rfl rfl rfl rfl rfl rfl rfl rfl rfl rfl fun x1 x1b => ?_
    refine Rp rfl rfl rfl rfl ?_
    refine rw_appendL EByte [] l (b := x1b) .sq (fun _ _ => .inl ⟨_, rfl⟩) (guard_none rfl) rfl rfl rfl rfl rfl rfl rfl (fun _ _ => Uo) rfl rfl rfl rfl rfl rfl rfl (reads_rdL Mm) (by simpa using hlen) fun x2 x2b => ?_
    refine Tx ?_
    (repeat refine cw_seq ?_); refine cw_ret ?_
    exact ⟨(x2, x2b), _, (.cons (.tmp rfl) .nil), rfl, .nil _, .nil _, Sp⟩

theorem slices_Grow_UInt8_spec (y : SlV) (l : List UInt8) (n : Int) (hy : y = ⟨none, 0⟩ ∧ l = []) (hn : 0 ≤ n ∧ n * 1 ≤ 140737488355328) : DoesG Tryz.prog 38 [y.val l.length, .int .i64 n] [RdL EByte y l] ⟨[], []⟩ (fun (X : SlV × Option Nat) => X.1.val ([] : List UInt8).length) (fun (_ : SlV × Option Nat) => []) (fun (X : SlV × Option Nat) => ⟨[], [ownL EByte 5 X.1 X.2 []]⟩) := by
  obtain ⟨hy1, hy2⟩ := hy
  subst hy1; subst hy2
  obtain ⟨k, rfl⟩ : ∃ k : Nat, n = k := ⟨n.toNat, by omega⟩
  refine does_ofG tab_ok Tryz.func38 rfl Tryz.ntmps38 Tryz.results38 rfl inferInstance (fun _ => inferInstance) fun C => ?_
  refine cw_le (le_nilL EByte 5) ?_
  refine Tx ?_
  refine Cd (b := decide ((k : Int) < 0)) (fun hc => ?_) fun hc => ?_
  · exact absurd (of_decide_eq_true hc) (by omega)
  · refine Tx ?_
    refine rw_q rfl rfl rfl (q_cap rfl rfl (fun _ => rfl) rfl) ?_
    refine Tx ?_
    refine rw_q rfl rfl rfl (q_is (v' := .int .i64 0) (q_sub rfl rfl (fun _ => rfl) rfl (fun _ => rfl) (fun _ => by decide)) rfl) ?_
    refine rw_q rfl rfl rfl (q_is (v' := .int .i64 (k : Int)) (q_sub rfl rfl (fun _ => rfl) rfl (fun _ => rfl) (fun _ => by omega)) (by simp)) ?_
    refine Tx ?_
    refine Cd (b := decide ((k : Int) > 0)) (fun hc1 => ?_) fun hc1 => ?_
    · have hk := of_decide_eq_true hc1
      refine Tx ?_
      refine rw_q rfl rfl rfl (q_cap rfl rfl (fun _ => rfl) rfl) ?_
      refine rw_q rfl rfl rfl (q_slhi (h := 0) rfl rfl (fun _ => rfl) rfl (fun _ => rfl) rfl rfl (fun _ => rfl) (fun _ => Nat.le_refl _)) ?_
      refine Rp rfl rfl rfl rfl ?_
      refine rw_appendZ (n := k) (e := 5) (by_ := 1) .sq (guard_none rfl) rfl rfl rfl rfl rfl rfl rfl rfl und_3 (fun _ _ _ => .here _ _ _) rfl rfl rfl rfl rfl rfl (by omega) (by omega) (by omega) fun x1 b1 zs => ?_
      refine Tx ?_
      refine rw_takeO (k := 0) .sq (guard_none rfl) rfl rfl rfl rfl rfl rfl rfl rfl rfl (.here _ _ _) rfl (Nat.zero_le _) ?_
      refine Tx ?_
      (repeat refine cw_seq ?_); refine cw_ret ?_
      exact ⟨(x1, b1), _, (.cons (.tmp rfl) .nil), rfl, .nil _, .nil _, Sp⟩
    · refine Tx ?_
      (repeat refine cw_seq ?_); refine cw_ret ?_
      exact ⟨(⟨none, 0⟩, none), _, (.cons (.tmp rfl) .nil), rfl, .nil _, .nil _, Sp⟩

def slices_Concat_UInt8_L1  : List (List UInt8) → (List UInt8) → (List UInt8)
  | [], newslice1 => newslice1
  | pn2 :: rn2, newslice1 => (slices_Concat_UInt8_L1 rn2 (newslice1 ++ pn2))
def slices_Concat_UInt8_L0 (slices1 : List (List UInt8)) : List (List UInt8) → Nat → (List UInt8)
  | [], size1 => (slices_Concat_UInt8_L1 slices1 ([] : List UInt8))
  | pn1 :: rn1, size1 => (bif decide (((size1 : Int) + (pn1.length : Int)) < 0) then [] else (slices_Concat_UInt8_L0 slices1 rn1 (size1 + pn1.length)))
def slices_Concat_UInt8 (slices1 : List (List UInt8)) : List UInt8 :=
  (slices_Concat_UInt8_L0 slices1 slices1 0)
theorem slices_Concat_UInt8_spec (y1 : SlV) (slices1 : List (List UInt8)) (hct : slices1.flatten.length * 1 ≤ 140737488355328) : DoesG Tryz.prog 24 [y1.val slices1.length] [RdN NBytes y1 slices1] ⟨[], []⟩ (fun (X : SlV × Option Nat) => X.1.val (slices_Concat_UInt8 slices1).length) (fun (X : SlV × Option Nat) => []) (fun (X : SlV × Option Nat) => ⟨[], [ownL EByte 5 X.1 X.2 (slices_Concat_UInt8 slices1)]⟩) := by
  refine does_ofG tab_ok Tryz.func24 rfl Tryz.ntmps24 Tryz.results24 rfl inferInstance (fun _ => inferInstance) fun C => ?_
  refine Pn NBytes y1 slices1 24 fun hlen1 => ?_
  refine Tx ?_
  (repeat refine cw_seq ?_); refine Lp [0,2,9,10] [] (fun (i_ : Nat × Nat) => match i_ with | ⟨size1, n1⟩ => (⟨[(3, .v (.int .i64 (size1 : Int))), (11, .v (.int .i64 (n1 : Int)))], [], [], [], (n1 ≤ slices1.length) ∧ (size1 = ((slices1.take n1).flatten.length : Int)) ∧ (slices_Concat_UInt8_L0 slices1 (slices1.drop n1) size1) = (slices_Concat_UInt8 slices1), slices1.length - n1⟩ : Ls)) ⟨0, 0⟩ (Sc (Sc (Sc (Sc Sn)))) (.nil) ⟨Nat.zero_le _, (by simp), (by simp only [slices_Concat_UInt8, cond_true, cond_false] : (slices_Concat_UInt8 slices1) = (slices_Concat_UInt8_L0 slices1 slices1 0)).symm⟩ Le4 ?_
  rintro ⟨size1, n1⟩ ⟨hkn1, hsz, hf1⟩
  simp only [List.cons_append, List.nil_append]
  refine Tx ?_
  refine Cd (b := decide ((n1 : Int) < (slices1.length : Int))) (fun hc1 => ?_) fun hc1 => ?_
  · have hlt0 : n1 < slices1.length := Int.ofNat_lt.1 (of_decide_eq_true hc1)
    refine Tx ?_
    refine rw_exN NBytes (X := y1) (l := slices1) Mm fun (γ1 : Nat → SlV) => ?_
    refine rw_q rfl rfl rfl (q_idxN NBytes γ1 n1 rfl rfl (fun _ => rfl) rfl (fun _ => rfl) rfl rfl rfl Mm rfl (fun _ => rfl) (fun _ => by first | assumption | omega)) ?_
    refine rw_q rfl rfl rfl (q_le1N NBytes γ1 (v := (γ1 n1).val (gt slices1 n1).length) rfl rfl (fun _ => rfl) rfl rfl Mm (fun _ => by first | assumption | omega) rfl) ?_
    refine rw_fact (F := RdL EByte (γ1 n1) (gt slices1 n1)) [FactsG NBytes γ1 slices1] Sm (fun M w h => (allF1 h) n1 (by first | assumption | omega) _ (.head _)) ?_
    refine Tx ?_
    refine rw_q rfl rfl rfl (q_add rfl rfl (fun _ => rfl) rfl (fun _ => rfl) (fun _ => by have := (cat_step slices1 hlt0).2; omega)) ?_
    refine Tx ?_
    refine Cd (b := decide (((size1 : Int) + ((gt slices1 n1).length : Int)) < 0)) (fun hc2 => ?_) fun hc2 => ?_
    · have hc2p := of_decide_eq_true hc2
      exact absurd (of_decide_eq_true hc2) (by omega)
    · have hc2p := of_decide_eq_false hc2
      refine Tx ?_
      refine rw_q rfl rfl rfl (q_add rfl rfl (fun _ => rfl) rfl (fun _ => rfl) (fun _ => by omega)) ?_
      refine Tx ?_
      refine ⟨⟨(size1 + (gt slices1 n1).length), (n1 + 1)⟩, ⟨hlt0, (by rw [(cat_step slices1 hlt0).1, List.length_append]; simp only [hsz]; omega), (by rw [← hf1, drop_gt hlt0]; simp only [slices_Concat_UInt8_L0, hc2, cond_true, cond_false] : (slices_Concat_UInt8 slices1) = (slices_Concat_UInt8_L0 slices1 (slices1.drop (n1 + 1)) (size1 + (gt slices1 n1).length))).symm⟩, (by simp only []; omega), Le4⟩
  · have hge0 : slices1.length ≤ n1 := by have := of_decide_eq_false hc1; omega
    refine Tx ?_
    refine Fr EByte ?_
    refine Cg (slices_Grow_UInt8_spec (⟨none, 0⟩ : SlV) ([] : List UInt8) (size1 : Int) ⟨rfl, rfl⟩ (by have h_ : (slices1.take n1).flatten.length ≤ slices1.flatten.length := (by rw [List.take_of_length_le hge0]; exact Nat.le_refl _); omega)) fun x1 => ?_
    refine Tx ?_
    (repeat refine cw_seq ?_); refine Lp [2,25,26] [] (fun (i_ : List UInt8 × SlV × Option Nat × Nat) => match i_ with | ⟨newslice1, x2, x2b, n2⟩ => (⟨[(6, .v (x2.val newslice1.length)), (27, .v (.int .i64 (n2 : Int)))], [], [ownL EByte 5 x2 x2b newslice1], [], (n2 ≤ slices1.length) ∧ (newslice1.length = (slices1.take n2).flatten.length) ∧ (slices_Concat_UInt8_L1 (slices1.drop n2) newslice1) = (slices_Concat_UInt8 slices1), slices1.length - n2⟩ : Ls)) ⟨([] : List UInt8), x1.1, x1.2, 0⟩ (Sc (Sc (Sc Sn))) (.nil) ⟨Nat.zero_le _, (by simp), (by rw [← hf1, List.drop_of_length_le hge0]; simp only [slices_Concat_UInt8_L0, cond_true, cond_false] : (slices_Concat_UInt8 slices1) = (slices_Concat_UInt8_L1 slices1 ([] : List UInt8))).symm⟩ Le4 ?_
    rintro ⟨newslice1, x2, x2b, n2⟩ ⟨hkn2, hnl, hf2⟩
    simp only [List.cons_append, List.nil_append]
    refine Tx ?_
    refine Cd (b := decide ((n2 : Int) < (slices1.length : Int))) (fun hc3 => ?_) fun hc3 => ?_
    · have hlt1 : n2 < slices1.length := Int.ofNat_lt.1 (of_decide_eq_true hc3)
      refine Tx ?_
      refine rw_exN NBytes (X := y1) (l := slices1) Mm fun (γ2 : Nat → SlV) => ?_
      refine rw_q rfl rfl rfl (q_idxN NBytes γ2 n2 rfl rfl (fun _ => rfl) rfl (fun _ => rfl) rfl rfl rfl Mm rfl (fun _ => rfl) (fun _ => by first | assumption | omega)) ?_
      refine rw_q rfl rfl rfl (q_le1N NBytes γ2 (v := (γ2 n2).val (gt slices1 n2).length) rfl rfl (fun _ => rfl) rfl rfl Mm (fun _ => by first | assumption | omega) rfl) ?_
      refine rw_fact (F := RdL EByte (γ2 n2) (gt slices1 n2)) [FactsG NBytes γ2 slices1] Sm (fun M w h => (allF1 h) n2 (by first | assumption | omega) _ (.head _)) ?_
      refine Tx ?_
      refine rw_appendL EByte newslice1 (gt slices1 n2) (b := x2b) .sq (fun _ _ => .inl ⟨_, rfl⟩) (guard_none rfl) rfl rfl rfl rfl rfl rfl rfl (fun _ _ => Uo) rfl rfl rfl rfl rfl rfl rfl (reads_rdL Mm) (by have := (cat_step slices1 hlt1).2; show (_ + _) * 1 ≤ _; omega) fun x3 x3b => ?_
      refine Tx ?_
      refine rw_q rfl rfl rfl (q_add rfl rfl (fun _ => rfl) rfl (fun _ => rfl) (fun _ => by omega)) ?_
      refine Tx ?_
      refine ⟨⟨(newslice1 ++ (gt slices1 n2)), x3, x3b, (n2 + 1)⟩, ⟨hlt1, (by rw [(cat_step slices1 hlt1).1]; simp only [List.length_append]; omega), (by rw [← hf2, drop_gt hlt1]; simp only [slices_Concat_UInt8_L1, cond_true, cond_false] : (slices_Concat_UInt8 slices1) = (slices_Concat_UInt8_L1 (slices1.drop (n2 + 1)) (newslice1 ++ (gt slices1 n2)))).symm⟩, (by simp only []; omega), Le4⟩
    · have hge1 : slices1.length ≤ n2 := by have := of_decide_eq_false hc3; omega
      refine Tx ?_
      have hr1 : (slices_Concat_UInt8 slices1) = newslice1 := by rw [← hf2, List.drop_of_length_le hge1]; simp only [slices_Concat_UInt8_L1, cond_true, cond_false]
      refine cw_ret ?_; rw [hr1]; exact Re ⟨x2, x2b⟩ (Vt Vn)
theorem slices_Concat_UInt8_eq (ls : List (List UInt8)) : slices_Concat_UInt8 ls = ls.flatten := by
  have h1 : ∀ (l : List (List UInt8)) (acc : List UInt8), slices_Concat_UInt8_L1 l acc = acc ++ l.flatten := by
    intro l
    induction l with
    | nil => intro acc; simp [slices_Concat_UInt8_L1]
    | cons a r ih => intro acc; rw [slices_Concat_UInt8_L1, ih]; simp
  have h0 : ∀ (l : List (List UInt8)) (k : Nat), slices_Concat_UInt8_L0 ls l k = slices_Concat_UInt8_L1 ls [] := by
    intro l
    induction l with
    | nil => intro k; rfl
    | cons a r ih =>
      intro k
      have : decide (((k : Int) + (a.length : Int)) < 0) = false := by simp; omega
      rw [slices_Concat_UInt8_L0, this, cond_false, ih]
  rw [slices_Concat_UInt8, h0, h1, List.nil_append]
theorem slices_Concat_UInt8_spec' (y1 : SlV) (ls : List (List UInt8)) (hct : ls.flatten.length * 1 ≤ 140737488355328) : DoesG Tryz.prog 24 [y1.val ls.length] [RdN NBytes y1 ls] ⟨[], []⟩ (fun (X : SlV × Option Nat) => X.1.val ls.flatten.length) (fun (_ : SlV × Option Nat) => []) (fun (X : SlV × Option Nat) => ⟨[], [ownL EByte 5 X.1 X.2 ls.flatten]⟩) := by
  have := slices_Concat_UInt8_spec y1 ls hct
  rw [slices_Concat_UInt8_eq] at this
  exact this
end Go.Proofs.YtccmadehnoihnaaGreatDoor

set_option maxHeartbeats 2000000
namespace Go.Proofs.YtccmadehnoihnaaGreatDoor
open Go Go.Proofs.YtccmadehnoihnaaGreatDoor.Fw Go.Proofs
attribute [local irreducible] RdL RdN VarP LibP RW CW
def slices_EqualFunc_Rec_L0 (s2 : List Rec) (eq1 : Rec → Rec → Bool) : List Rec → Nat → Bool
  | [], n1 => true
  | pn1 :: rn1, n1 => (bif (!(eq1 pn1 (gt s2 n1))) then false else (slices_EqualFunc_Rec_L0 s2 eq1 rn1 (n1 + 1)))
def slices_EqualFunc_Rec (s1 : List Rec) (s2 : List Rec) (eq1 : Rec → Rec → Bool) : Bool :=
  (bif ((s1.length : Int) != (s2.length : Int)) then false else (slices_EqualFunc_Rec_L0 s2 eq1 s1 0))
theorem slices_EqualFunc_Rec_spec (y1 : SlV) (s1 : List Rec) (y2 : SlV) (s2 : List Rec) (f1 : Nat) (caps1 : List Value) (pre1 : List Pred) [StabL pre1] (eq1 : Rec → Rec → Bool) (hfb1 : tab.fnb f1 = true) (hfn1 : ∀ (z0a_ : SlV) (a0_ : Rec) (z1a_ : SlV) (a1_ : Rec), Does Tryz.prog f1 ([.agg ⟨[.int .i64 a0_.kind, .int .i64 a0_.who, .int .i64 a0_.life, z0a_.val a0_.roots.length, .int .i64 a0_.o.time, .int .i64 a0_.o.who, .int .i64 a0_.o.node, .int .i64 a0_.o.parent, .int .i64 a0_.o.name, .int .i64 a0_.o.life, .int .i64 a0_.o.seq]⟩, .agg ⟨[.int .i64 a1_.kind, .int .i64 a1_.who, .int .i64 a1_.life, z1a_.val a1_.roots.length, .int .i64 a1_.o.time, .int .i64 a1_.o.who, .int .i64 a1_.o.node, .int .i64 a1_.o.parent, .int .i64 a1_.o.name, .int .i64 a1_.o.life, .int .i64 a1_.o.seq]⟩] ++ caps1) (RdL EInt z0a_ a0_.roots :: RdL EInt z1a_ a1_.roots :: pre1) (fun (_ : Unit) => .bool (eq1 a0_ a1_)) (fun (_ : Unit) => [])) : Does Tryz.prog 12 [y1.val s1.length, y2.val s2.length, .func (.func f1) #[] ⟨caps1⟩] (RdN NRec y1 s1 :: RdN NRec y2 s2 :: pre1) (fun (_ : Unit) => .bool (slices_EqualFunc_Rec s1 s2 eq1)) (fun (_ : Unit) => []) := by
  refine does_of tab_ok Tryz.func12 rfl Tryz.ntmps12 Tryz.results12 rfl inferInstance (fun _ => inferInstance) fun C => ?_
  refine cw_pure (φ := s1.length * 104 ≤ 140737488355328) [RdN NRec y1 s1] Sf (fun M w h => (allF1 h).len) fun hlen1 => ?_
  refine cw_pure (φ := s2.length * 104 ≤ 140737488355328) [RdN NRec y2 s2] Sf (fun M w h => (allF1 h).len) fun hlen2 => ?_
  refine Tx ?_
  refine Cd (b := ((s1.length : Int) != (s2.length : Int))) (fun hc1 => ?_) fun hc1 => ?_
  · have hc1p := bne_iff_ne.1 hc1
    refine Tx ?_
    have hr1 : (slices_EqualFunc_Rec s1 s2 eq1) = false := by simp only [slices_EqualFunc_Rec, hc1, cond_true, cond_false]
    refine cw_ret ?_
    rw [hr1]
    exact ⟨(), _, (.cons (.tmp rfl) .nil), rfl, Sf, .nil _, .nil _⟩
  · have hc1p := eq_of_bne_false hc1
    refine Tx ?_
    (repeat refine cw_seq ?_); refine Lp [1,2,6,15,16] [] (fun (n1 : Nat) => (⟨[(17, .v (.int .i64 (n1 : Int)))], [], [], [], (n1 ≤ s1.length) ∧ (slices_EqualFunc_Rec_L0 s2 eq1 (s1.drop n1) n1) = (slices_EqualFunc_Rec s1 s2 eq1), s1.length - n1⟩ : Ls)) 0 (Sc (Sc (Sc (Sc (Sc Sn))))) (.nil) ⟨Nat.zero_le _, (by simp only [slices_EqualFunc_Rec, hc1, cond_true, cond_false] : (slices_EqualFunc_Rec s1 s2 eq1) = (slices_EqualFunc_Rec_L0 s2 eq1 s1 0)).symm⟩ Le5 ?_
    rintro n1 ⟨hkn1, hf1⟩
    simp only [List.cons_append, List.nil_append]
    refine Tx ?_
    refine Cd (b := decide ((n1 : Int) < (s1.length : Int))) (fun hc2 => ?_) fun hc2 => ?_
    · have hlt0 : n1 < s1.length := Int.ofNat_lt.1 (of_decide_eq_true hc2)
      refine Tx ?_
      refine rw_exN NRec (X := y1) (l := s1) Mm fun (γ1 : Nat → SlV) => ?_
      refine rw_q rfl rfl rfl (q_idxN NRec γ1 n1 rfl rfl (fun _ => rfl) rfl (fun _ => rfl) rfl rfl rfl Mm rfl (fun _ => rfl) (fun _ => by first | assumption | omega)) ?_
      refine rw_q rfl rfl rfl (q_is (v' := .agg ⟨[.int .i64 ((gt s1 n1).kind), .int .i64 ((gt s1 n1).who), .int .i64 ((gt s1 n1).life), (γ1 n1).val ((gt s1 n1).roots).length, .int .i64 (((gt s1 n1).o).time), .int .i64 (((gt s1 n1).o).who), .int .i64 (((gt s1 n1).o).node), .int .i64 (((gt s1 n1).o).parent), .int .i64 (((gt s1 n1).o).name), .int .i64 (((gt s1 n1).o).life), .int .i64 (((gt s1 n1).o).seq)]⟩) (q_leAN NRec γ1 rfl rfl (fun _ => rfl) rfl rfl Mm (fun _ => by first | assumption | omega)) rfl) ?_
      refine rw_fact (F := RdL EInt (γ1 n1) ((gt s1 n1).roots)) [FactsG NRec γ1 s1] Sf (fun M w h => (allF1 h) n1 (by first | assumption | omega) _ (.head _)) ?_
      refine Al fun g1 => ?_
      refine Tx ?_
      refine rw_exN NRec (X := y2) (l := s2) Mm fun (γ2 : Nat → SlV) => ?_
      refine rw_q rfl rfl rfl (q_idxN NRec γ2 n1 rfl rfl (fun _ => rfl) rfl (fun _ => rfl) rfl rfl rfl Mm rfl (fun _ => rfl) (fun _ => by first | assumption | omega)) ?_
      refine rw_q rfl rfl rfl (q_is (v' := .agg ⟨[.int .i64 ((gt s2 n1).kind), .int .i64 ((gt s2 n1).who), .int .i64 ((gt s2 n1).life), (γ2 n1).val ((gt s2 n1).roots).length, .int .i64 (((gt s2 n1).o).time), .int .i64 (((gt s2 n1).o).who), .int .i64 (((gt s2 n1).o).node), .int .i64 (((gt s2 n1).o).parent), .int .i64 (((gt s2 n1).o).name), .int .i64 (((gt s2 n1).o).life), .int .i64 (((gt s2 n1).o).seq)]⟩) (q_leAN NRec γ2 rfl rfl (fun _ => rfl) rfl rfl Mm (fun _ => by first | assumption | omega)) rfl) ?_
      refine rw_fact (F := RdL EInt (γ2 n1) ((gt s2 n1).roots)) [FactsG NRec γ2 s2] Sf (fun M w h => (allF1 h) n1 (by first | assumption | omega) _ (.head _)) ?_
      refine Al fun g2 => ?_
      refine Tx ?_
      refine rw_callv (hfn1 (γ1 n1) (gt s1 n1) (γ2 n1) (gt s2 n1)) .sq (guard_none rfl) rfl rfl rfl rfl rfl (by assumption) rfl rfl rfl Sf ?_
      intro _
      refine Tx ?_
      refine Cd (b := (!(eq1 (gt s1 n1) (gt s2 n1)))) (fun hc3 => ?_) fun hc3 => ?_
      · refine Tx ?_
        have hr2 : (slices_EqualFunc_Rec s1 s2 eq1) = false := by rw [← hf1, drop_gt hlt0]; simp only [slices_EqualFunc_Rec_L0, hc3, cond_true, cond_false]
        refine cw_ret ?_
        rw [hr2]
        exact ⟨(), _, (.cons (.tmp rfl) .nil), rfl, Sf, .nil _, .nil _⟩
      · refine Tx ?_
        refine rw_q rfl rfl rfl (q_add rfl rfl (fun _ => rfl) rfl (fun _ => rfl) (fun _ => by omega)) ?_
        refine Tx ?_
        refine ⟨(n1 + 1), ⟨hlt0, (by rw [← hf1, drop_gt hlt0]; simp only [slices_EqualFunc_Rec_L0, hc3, cond_true, cond_false] : (slices_EqualFunc_Rec s1 s2 eq1) = (slices_EqualFunc_Rec_L0 s2 eq1 (s1.drop (n1 + 1)) (n1 + 1))).symm⟩, (by simp only []; omega), Le5⟩
    · have hge0 : s1.length ≤ n1 := by have := of_decide_eq_false hc2; omega
      refine Tx ?_
      have hr3 : (slices_EqualFunc_Rec s1 s2 eq1) = true := by rw [← hf1, List.drop_of_length_le hge0]; simp only [slices_EqualFunc_Rec_L0, cond_true, cond_false]
      refine cw_ret ?_
      rw [hr3]
      exact ⟨(), _, (.cons (.tmp rfl) .nil), rfl, Sf, .nil _, .nil _⟩
end Go.Proofs.YtccmadehnoihnaaGreatDoor

namespace Go.Proofs.YtccmadehnoihnaaGreatDoor
open Go Go.Proofs.YtccmadehnoihnaaGreatDoor.Fw Go.Proofs

/-! ### Records: the checks, and the numbers that are printed -/
abbrev I64 (n : Int) : Prop := -9223372036854775808 ≤ n ∧ n ≤ 9223372036854775807

theorem move_Check_iff (o : Op) : move_Check o = 0 ↔ (1 ≤ o.time ∧ o.time ≤ 10000) ∧ (0 ≤ o.who ∧ o.who ≤ 2) ∧ (1 ≤ o.node ∧ o.node ≤ 15) ∧ (0 ≤ o.parent ∧ o.parent ≤ 16) ∧ (0 ≤ o.name ∧ o.name ≤ 99) ∧ (1 ≤ o.life ∧ o.life ≤ 50) ∧ (1 ≤ o.seq ∧ o.seq ≤ 30) := by
  unfold move_Check
  generalize hb : (((((((((((((decide (o.time < 1) || decide (o.time > 10000)) || decide (o.who < 0)) || decide (o.who ≥ 3)) || decide (o.node < 1)) || decide (o.node ≥ 16)) || decide (o.parent < 0)) || decide (o.parent > 16)) || decide (o.name < 0)) || decide (o.name > 99)) || decide (o.life < 1)) || decide (o.life > 50)) || decide (o.seq < 1)) || decide (o.seq > 30)) = b
  cases b with
  | true =>
    simp only [cond_true]
    simp only [Bool.or_eq_true, decide_eq_true_eq] at hb
    constructor
    · intro h; exact absurd h (by decide)
    · intro h; simp only [or_assoc] at hb; rcases hb with hb | hb | hb | hb | hb | hb | hb | hb | hb | hb | hb | hb | hb | hb <;> omega
  | false =>
    simp only [cond_false]
    simp only [Bool.or_eq_false_iff, decide_eq_false_iff_not] at hb
    refine ⟨fun _ => ?_, fun _ => trivial⟩
    refine ⟨⟨?_, ?_⟩, ⟨?_, ?_⟩, ⟨?_, ?_⟩, ⟨?_, ?_⟩, ⟨?_, ?_⟩, ⟨?_, ?_⟩, ?_, ?_⟩ <;> omega

/-- What a record's text has: its word, its numbers. -/
def wordOf (r : Rec) : Str := bif r.kind == 1 then [111, 112] else bif r.kind == 2 then [108, 105, 102, 101] else [114, 111, 111, 116, 115]
def numsOf (r : Rec) : List Int := bif r.kind == 1 then [r.o.time, r.o.who, r.o.node, r.o.parent, r.o.name, r.o.life, r.o.seq] else bif r.kind == 2 then [r.who, r.life] else r.who :: r.roots

theorem Roots_ok {l : List Int} (h : view_Roots l = 0) : l.length ≤ 4 ∧ ∀ n ∈ l, 0 ≤ n ∧ n ≤ 16 := ⟨((Roots_iff l).1 h).len, ((Roots_iff l).1 h).rng⟩
/-- A right record: one of three kinds. -/
inductive Right (r : Rec) : Prop
  | op (h : r = ⟨1, 0, 0, [], r.o⟩) (ho : move_Check r.o = 0)
  | life (h : r = ⟨2, r.who, r.life, [], ⟨0, 0, 0, 0, 0, 0, 0⟩⟩) (hw : 0 ≤ r.who ∧ r.who ≤ 2) (hl : 1 ≤ r.life ∧ r.life ≤ 50)
  | roots (h : r = ⟨3, r.who, 0, r.roots, ⟨0, 0, 0, 0, 0, 0, 0⟩⟩) (hw : 0 ≤ r.who ∧ r.who ≤ 2) (hr : view_Roots r.roots = 0)

theorem noteCheck_iff (r : Rec) : note_Check r = 0 ↔ Right r := by
  constructor
  · intro h
    unfold note_Check at h
    obtain ⟨kind, who, life, roots, o⟩ := r
    simp only at h
    cases hk : (decide (kind < 1) || decide (kind > 3)) with
    | true => rw [hk] at h; simp at h
    | false =>
      rw [hk, cond_false] at h
      simp only [Bool.or_eq_false_iff, decide_eq_false_iff_not] at hk
      by_cases h1 : kind = 1
      · subst h1
        simp only [beq_self_eq_true, cond_true] at h
        cases hb : ((who != 0) || (life != 0)) || decide ((roots.length : Int) > 0) with
        | true => rw [hb] at h; simp at h
        | false =>
          rw [hb, cond_false] at h
          simp only [Bool.or_eq_false_iff, decide_eq_false_iff_not, bne_eq_false_iff_eq] at hb
          obtain ⟨⟨rfl, rfl⟩, h3⟩ := hb
          have : roots = [] := List.eq_nil_of_length_eq_zero (by omega)
          subst this
          exact .op rfl h
      · have h1' : (kind == 1) = false := by simpa using h1
        rw [h1', cond_false] at h
        cases hb : (((!(decide (o = (⟨0, 0, 0, 0, 0, 0, 0⟩ : Op)))) || ((kind == 3) && (life != 0))) || ((kind == 2) && decide ((roots.length : Int) > 0))) with
        | true => rw [hb] at h; simp at h
        | false =>
          rw [hb, cond_false] at h
          simp only [Bool.or_eq_false_iff, Bool.not_eq_false', decide_eq_true_eq] at hb
          obtain ⟨⟨rfl, hb1⟩, hb2⟩ := hb
          cases hc : ((decide (who < 0) || decide (who ≥ 3)) || ((kind == 2) && (decide (life < 1) || decide (life > 50)))) with
          | true => rw [hc] at h; simp at h
          | false =>
            rw [hc, cond_false] at h
            simp only [Bool.or_eq_false_iff, decide_eq_false_iff_not] at hc
            obtain ⟨⟨hc1, hc2⟩, hc3⟩ := hc
            by_cases h2 : kind = 2
            · subst h2
              simp at hb2 hc3
              subst hb2
              exact .life rfl (by simp only; omega) (by simp only; omega)
            · have h3 : kind = 3 := by omega
              subst h3
              simp at hb1
              subst hb1
              exact .roots rfl (by simp only; omega) h
  · intro h
    unfold note_Check
    cases h with
    | op h ho => rw [h]; simpa using ho
    | life h hw hl =>
      rw [h]
      have e1 : (decide (r.who < 0) || decide (r.who ≥ 3)) = false := by simp; omega
      have e2 : (decide (r.life < 1) || decide (r.life > 50)) = false := by simp; omega
      simp only [e1, e2]
      rfl
    | roots h hw hr =>
      rw [h]
      have e1 : (decide (r.who < 0) || decide (r.who ≥ 3)) = false := by simp; omega
      simp only [e1]
      exact hr

theorem nums_ok {r : Rec} (h : note_Check r = 0) : (numsOf r).length ≤ 7 ∧ ∀ n ∈ numsOf r, I64 n := by
  rcases (noteCheck_iff r).1 h with ⟨h1, ho⟩ | ⟨h1, hw, hl⟩ | ⟨h1, hw, hr⟩
  · have h2 := (move_Check_iff r.o).1 ho
    have : numsOf r = [r.o.time, r.o.who, r.o.node, r.o.parent, r.o.name, r.o.life, r.o.seq] := by rw [h1]; rfl
    rw [this]
    refine ⟨by simp, fun n hn => ?_⟩
    simp only [List.mem_cons, List.not_mem_nil, or_false] at hn
    rcases hn with rfl | rfl | rfl | rfl | rfl | rfl | rfl <;> (simp only [I64]; omega)
  · have : numsOf r = [r.who, r.life] := by rw [h1]; rfl
    rw [this]
    refine ⟨by simp, fun n hn => ?_⟩
    simp only [List.mem_cons, List.not_mem_nil, or_false] at hn
    rcases hn with rfl | rfl <;> (simp only [I64]; omega)
  · have : numsOf r = r.who :: r.roots := by rw [h1]; rfl
    rw [this]
    have h2 := Roots_ok hr
    refine ⟨by simp only [List.length_cons]; omega, fun n hn => ?_⟩
    rcases List.mem_cons.1 hn with rfl | hn
    · simp only [I64]; omega
    · have := h2.2 n hn; simp only [I64]; omega
theorem nums_op {r : Rec} (h : note_Check r = 0) (hk : (r.kind == 1) = true) : ∀ n ∈ [r.o.time, r.o.who, r.o.node, r.o.parent, r.o.name, r.o.life, r.o.seq], I64 n := by
  have := (nums_ok h).2; rwa [numsOf, hk] at this
theorem nums_life {r : Rec} (h : note_Check r = 0) (hk : (r.kind == 2) = true) : ∀ n ∈ [r.who, r.life], I64 n := by
  have hk1 : (r.kind == 1) = false := by have := eq_of_beq hk; rw [this]; rfl
  have := (nums_ok h).2; rwa [numsOf, hk1, hk] at this
theorem nums_roots {r : Rec} (h : note_Check r = 0) (hk1 : (r.kind == 1) = false) (hk : (r.kind == 2) = false) : (r.roots.length ≤ 6) ∧ ∀ n ∈ r.who :: r.roots, I64 n := by
  have := nums_ok h; rw [numsOf, hk1, hk] at this; simp only [cond_false, List.length_cons] at this; exact ⟨by omega, this.2⟩
theorem kind_three {r : Rec} (h : note_Check r = 0) (h1 : (r.kind == 2) = false) (h2 : (r.kind == 3) = false) : (r.kind == 1) = true := by
  rcases (noteCheck_iff r).1 h with ⟨e, _⟩ | ⟨e, _, _⟩ | ⟨e, _, _⟩
  · rw [e]; rfl
  · rw [e] at h1; cases h1
  · rw [e] at h2; cases h2
theorem not_one {r : Rec} {k : Int} (h : (r.kind == k) = true) (hk : (k == 1) = false) : (r.kind == 1) = false := by rw [eq_of_beq h]; exact hk
end Go.Proofs.YtccmadehnoihnaaGreatDoor

set_option maxHeartbeats 2000000
namespace Go.Proofs.YtccmadehnoihnaaGreatDoor
open Go Go.Proofs.YtccmadehnoihnaaGreatDoor.Fw Go.Proofs
attribute [local irreducible] RdL RdN VarP LibP RW CW
def note_Print_L0  : List Int → Str → (Str × Int)
  | [], s2 => (s2, 0)
  | pn1 :: rn1, s2 => (note_Print_L0 rn1 (s2 ++ (([32] : Str) ++ (Lib.itoa pn1))))
def note_Print_V1 (r1 : Rec) : Str × (List Int) :=
  (bif (r1.kind == 2) then (([108, 105, 102, 101] : Str), [r1.who, r1.life]) else (bif (r1.kind == 3) then (([114, 111, 111, 116, 115] : Str), ([r1.who] ++ r1.roots)) else (([111, 112] : Str), [r1.o.time, r1.o.who, r1.o.node, r1.o.parent, r1.o.name, r1.o.life, r1.o.seq])))
def note_Print (r1 : Rec) : Str × Int :=
  (bif ((note_Check r1) != 0) then (([] : Str), (note_Check r1)) else (note_Print_L0 (((note_Print_V1 r1)).2) (((note_Print_V1 r1)).1)))
theorem note_Print_spec (y1 : SlV) (r1 : Rec) : Does Tryz.prog 22 [.agg ⟨[.int .i64 r1.kind, .int .i64 r1.who, .int .i64 r1.life, y1.val r1.roots.length, .int .i64 r1.o.time, .int .i64 r1.o.who, .int .i64 r1.o.node, .int .i64 r1.o.parent, .int .i64 r1.o.name, .int .i64 r1.o.life, .int .i64 r1.o.seq]⟩] [RdL EInt y1 r1.roots, LibP Tryz.prog] (fun (_ : Unit) => .tuple #[sV ((note_Print r1).1), .int .i64 ((note_Print r1).2)]) (fun (_ : Unit) => []) := by
  refine does_of tab_ok Tryz.func22 rfl Tryz.ntmps22 Tryz.results22 rfl inferInstance (fun _ => inferInstance) fun C => ?_
  refine Pc EInt y1 r1.roots 8 fun hlen1 => ?_
  refine Tx ?_
  refine Bx fun g1 => ?_
  refine Tx ?_
  refine Cl (note_Check_spec y1 r1) fun _ => ?_
  refine Tx ?_
  refine Cd (b := ((note_Check r1) != 0)) (fun hc1 => ?_) fun hc1 => ?_
  · have hc1p := bne_iff_ne.1 hc1
    refine Tx ?_
    have hr1 : (note_Print r1) = (([] : Str), (note_Check r1)) := by simp only [note_Print, hc1, cond_true, cond_false]
    refine cw_ret ?_; rw [hr1]; exact Re () (Vt (Vt Vn))
  · have hc1p := eq_of_bne_false hc1
    have hck := eq_of_bne_false hc1
    refine Tx ?_
    (repeat refine cw_seq ?_); refine cw_regionA (fun _ => some []) ?_
    refine Rb 0 [4,5,6,7,8,9,10,11,12,13,14,15,16,17,18,19,20,21,22,24] [1,2,3,23,25] rfl Qp ?_
    refine Rb 1 [4,5,6,7,8,9,10,11,12,13,14,15,16,17,18,19,20,21,22,24] [2,3,23,25] rfl Qp ?_
    refine Rb 2 [4,5,6,7,8,9,10,11,12,13,14,15,16,17,18,19,20,21,22,24] [3,23,25] rfl Qp ?_
    refine Ra 3 [4,5,6,7,8,9,10,11,12,13,14,15,16,17,18,19,20,21,22,24] rfl Q1 ?_
    refine Rb 4 [8,9,10,11,12,13,14,15,16,17,18,19,20,21,22,24] [5,6,7,23,25] rfl Qp ?_
    refine Rb 5 [8,9,10,11,12,13,14,15,16,17,18,19,20,21,22,24] [6,7,23,25] rfl Qp ?_
    refine Rb 6 [8,9,10,11,12,13,14,15,16,17,18,19,20,21,22,24] [7,23,25] rfl Qp ?_
    refine Ra 7 [8,9,10,11,12,13,14,15,16,17,18,19,20,21,22,24] rfl Q1 ?_
    refine Rb 8 [11,12,13,14,15,16,17,18,19,20,21,22,24] [9,10,23,25] rfl Qp ?_
    refine Rb 9 [11,12,13,14,15,16,17,18,19,20,21,22,24] [10,23,25] rfl Qp ?_
    refine Ra 10 [11,12,13,14,15,16,17,18,19,20,21,22,24] rfl Q1 ?_
    refine Rb 11 [14,15,16,17,18,19,20,21,22,24] [12,13,23,25] rfl Qp ?_
    refine Rb 12 [14,15,16,17,18,19,20,21,22,24] [13,23,25] rfl Qp ?_
    refine Ra 13 [14,15,16,17,18,19,20,21,22,24] rfl Q1 ?_
    refine Rb 14 [17,18,19,20,21,22,24] [15,16,23,25] rfl Qp ?_
    refine Rb 15 [17,18,19,20,21,22,24] [16,23,25] rfl Qp ?_
    refine Ra 16 [17,18,19,20,21,22,24] rfl Q1 ?_
    refine Rb 17 [20,21,22,24] [18,19,23,25] rfl Qp ?_
    refine Rb 18 [20,21,22,24] [19,23,25] rfl Qp ?_
    refine Ra 19 [20,21,22,24] rfl Q1 ?_
    refine Rb 20 [24] [21,22,23,25] rfl Qp ?_
    refine Rb 21 [24] [22,23,25] rfl Qp ?_
    refine Ra 22 [24] rfl Q1 ?_
    refine Ra 24 [23] rfl Qp ?_
    refine ra_one 23 Kr ?_
    refine rw_bsliceL EInt [r1.o.time, r1.o.who, r1.o.node, r1.o.parent, r1.o.name, r1.o.life, r1.o.seq] (.an rfl rfl) (guard_none rfl) rfl rfl rfl rfl rfl rfl rfl rfl rfl rfl rfl rfl rfl rfl rfl fun x1 x1b => ?_
    refine Ra 25 [] rfl Qp ?_
    refine ra_nil Kr ?_
    (repeat refine cw_seq ?_); refine cw_region ?_
    refine Rp rfl rfl rfl rfl ?_
    refine rw_q rfl rfl rfl (q_ld1 rfl rfl (fun _ => rfl) rfl Mm rfl) ?_
    refine rw_nil ?_
    (repeat refine cw_seq ?_); refine cw_block ?_
    refine Ty ?_
    refine cw_joinB [2, 3] [true] (fun (i_ : Str × List Int × SlV × Option Nat) => match i_ with | ⟨s1, l1, x2, x2b⟩ => [(5, .v (sV s1)), (6, .v (x2.val l1.length))]) (fun (i_ : Str × List Int × SlV × Option Nat) => match i_ with | ⟨s1, l1, x2, x2b⟩ => []) (fun (i_ : Str × List Int × SlV × Option Nat) => match i_ with | ⟨s1, l1, x2, x2b⟩ => [ownL EInt 3 x2 x2b l1]) (fun (i_ : Str × List Int × SlV × Option Nat) => match i_ with | ⟨s1, l1, x2, x2b⟩ => []) (fun (i_ : Str × List Int × SlV × Option Nat) => match i_ with | ⟨s1, l1, x2, x2b⟩ => (s1.length ≤ 5) ∧ (∀ n ∈ l1, I64 n) ∧ s1 = ((note_Print_V1 r1)).1 ∧ l1 = ((note_Print_V1 r1)).2) (.cons rfl (.cons rfl (.nil _))) (.keep (.nil)) ?_ ?_
    · (repeat refine cw_seq ?_)
      refine Cd (b := (r1.kind == 2)) (fun hc2 => ?_) fun hc2 => ?_
      · have hc2p := eq_of_beq hc2
        have hbn := nums_life hck hc2
        (repeat refine cw_seq ?_); refine cw_regionA (fun _ => some []) ?_
        refine Rb 0 [2,3,5] [1,4,6] rfl Qp ?_
        refine Ra 1 [2,3,5] rfl Q1 ?_
        refine Rb 2 [5] [3,4,6] rfl Qp ?_
        refine Ra 3 [5] rfl Q1 ?_
        refine Ra 5 [4] rfl Qp ?_
        refine ra_one 4 Kr ?_
        refine rw_bsliceL EInt [r1.who, r1.life] (.an rfl rfl) (guard_none rfl) rfl rfl rfl rfl rfl rfl rfl rfl rfl rfl rfl rfl rfl rfl rfl fun x3 x3b => ?_
        refine Ra 6 [] rfl Qp ?_
        refine ra_nil Kr ?_
        have hv1 : (note_Print_V1 r1) = (([108, 105, 102, 101] : Str), [r1.who, r1.life]) := by simp only [note_Print_V1, hc2, Bool.true_and, Bool.and_true, cond_true, cond_false]
        refine ⟨⟨([108, 105, 102, 101] : Str), [r1.who, r1.life], x3, x3b⟩, ⟨(by decide), hbn, (by rw [hv1]), (by rw [hv1])⟩, Le4⟩
      · have hc2p := ne_of_beq_false hc2
        have hk2 := hc2
        refine Tx ?_
        refine Cd (b := (r1.kind == 3)) (fun hc3 => ?_) fun hc3 => ?_
        · have hc3p := eq_of_beq hc3
          have hbn0 := nums_roots hck (not_one hc3 rfl) hk2; have hbn := hbn0.2; have hrl := hbn0.1
          refine Tx ?_
          refine rw_bsliceL EInt [r1.who] .sq (guard_none rfl) rfl rfl rfl rfl rfl rfl rfl rfl rfl rfl rfl rfl rfl rfl rfl fun x4 x4b => ?_
          refine Tx ?_
          refine rw_appendL EInt [r1.who] r1.roots (b := x4b) .sq (fun _ _ => .inl ⟨_, rfl⟩) (guard_none rfl) rfl rfl rfl rfl rfl rfl rfl (fun _ _ => Uo) rfl rfl rfl rfl rfl rfl rfl (reads_rdL Mm) (by show ([r1.who].length + r1.roots.length) * 8 ≤ 140737488355328; (try simp only [List.length_append, List.length_cons, List.length_nil]); omega) fun x5 x5b => ?_
          refine Tx ?_
          have hv2 : (note_Print_V1 r1) = (([114, 111, 111, 116, 115] : Str), ([r1.who] ++ r1.roots)) := by simp only [note_Print_V1, hc2, hc3, Bool.true_and, Bool.and_true, cond_true, cond_false]
          refine ⟨⟨([114, 111, 111, 116, 115] : Str), ([r1.who] ++ r1.roots), x5, x5b⟩, ⟨(by decide), hbn, (by rw [hv2]), (by rw [hv2])⟩, Le4⟩
        · have hc3p := ne_of_beq_false hc3
          have hbn := nums_op hck (kind_three hck hk2 hc3)
          refine Tx ?_
          have hv3 : (note_Print_V1 r1) = (([111, 112] : Str), [r1.o.time, r1.o.who, r1.o.node, r1.o.parent, r1.o.name, r1.o.life, r1.o.seq]) := by simp only [note_Print_V1, hc2, hc3, Bool.true_and, Bool.and_true, cond_true, cond_false]
          refine ⟨⟨([111, 112] : Str), [r1.o.time, r1.o.who, r1.o.node, r1.o.parent, r1.o.name, r1.o.life, r1.o.seq], x1, x1b⟩, ⟨(by decide), hbn, (by rw [hv3]), (by rw [hv3])⟩, Le4⟩
    · rintro ⟨s1, l1, x2, x2b⟩ ⟨hs5, hbn, rfl, rfl⟩
      simp only [List.cons_append, List.nil_append]
      refine Tx ?_
      refine cw_le (le_freezeL EInt 3 x2 x2b (((note_Print_V1 r1)).2) Uo) ?_
      refine Pc EInt x2 (((note_Print_V1 r1)).2) 8 fun hlen2 => ?_
      (repeat refine cw_seq ?_); refine Lp [2,3,55,56] [true] (fun (i_ : Str × Nat) => match i_ with | ⟨s2, n1⟩ => (⟨[(5, .v (sV s2)), (57, .v (.int .i64 (n1 : Int)))], [], [], [], (n1 ≤ (((note_Print_V1 r1)).2).length) ∧ (s2.length ≤ 5 + 22 * n1) ∧ (note_Print_L0 ((((note_Print_V1 r1)).2).drop n1) s2) = (note_Print r1), (((note_Print_V1 r1)).2).length - n1⟩ : Ls)) ⟨(((note_Print_V1 r1)).1), 0⟩ (Sc (Sc (Sc (Sc Sn)))) (.keep (.nil)) ⟨Nat.zero_le _, (by first | exact Nat.le_refl _ | exact Nat.zero_le _ | omega), (by simp only [note_Print, hc1, cond_true, cond_false] : (note_Print r1) = (note_Print_L0 (((note_Print_V1 r1)).2) (((note_Print_V1 r1)).1))).symm⟩ Le4 ?_
      rintro ⟨s2, n1⟩ ⟨hkn1, hsl, hf1⟩
      simp only [List.cons_append, List.nil_append]
      refine Tx ?_
      refine Cd (b := decide ((n1 : Int) < ((((note_Print_V1 r1)).2).length : Int))) (fun hc4 => ?_) fun hc4 => ?_
      · have hlt0 : n1 < (((note_Print_V1 r1)).2).length := Int.ofNat_lt.1 (of_decide_eq_true hc4)
        have hit := Lib.itoa_length_le _ (hbn _ (gt_mem hlt0)).1 (hbn _ (gt_mem hlt0)).2
        refine Tx ?_
        refine rw_q rfl rfl rfl (q_idx EInt n1 rfl rfl (fun _ => rfl) rfl (fun _ => rfl) rfl rfl rfl Mm rfl (fun _ => rfl) (fun _ => by first | assumption | omega)) ?_
        refine rw_q rfl rfl rfl (q_le1 EInt rfl rfl (fun _ => rfl) rfl rfl Mm (fun _ => by first | assumption | omega) rfl) ?_
        refine Tx ?_
        refine Cl (lib_Itoa (gt (((note_Print_V1 r1)).2) n1) (hbn _ (gt_mem hlt0))) fun _ => ?_
        refine rw_q rfl rfl rfl (q_addS (a := ([32] : Str)) (b := (Lib.itoa (gt (((note_Print_V1 r1)).2) n1))) rfl rfl (fun _ => rfl) rfl (fun _ => rfl) (fun _ => by (show ([32] : Str).length + _ ≤ _; simp only [List.length_cons, List.length_nil]; omega))) ?_
        refine rw_q rfl rfl rfl (q_addS (a := s2) (b := (([32] : Str) ++ (Lib.itoa (gt (((note_Print_V1 r1)).2) n1)))) rfl rfl (fun _ => rfl) rfl (fun _ => rfl) (fun _ => by (simp only [List.length_append, List.length_cons, List.length_nil]; omega))) ?_
        refine Tx ?_
        refine rw_q rfl rfl rfl (q_add rfl rfl (fun _ => rfl) rfl (fun _ => rfl) (fun _ => by omega)) ?_
        refine Tx ?_
        refine ⟨⟨(s2 ++ (([32] : Str) ++ (Lib.itoa (gt (((note_Print_V1 r1)).2) n1)))), (n1 + 1)⟩, ⟨hlt0, (by simp only [List.length_append, List.length_cons, List.length_nil]; omega), (by rw [← hf1, drop_gt hlt0]; simp only [note_Print_L0, cond_true, cond_false] : (note_Print r1) = (note_Print_L0 ((((note_Print_V1 r1)).2).drop (n1 + 1)) (s2 ++ (([32] : Str) ++ (Lib.itoa (gt (((note_Print_V1 r1)).2) n1)))))).symm⟩, (by simp only []; omega), Le4⟩
      · have hge0 : (((note_Print_V1 r1)).2).length ≤ n1 := by have := of_decide_eq_false hc4; omega
        refine Tx ?_
        have hr2 : (note_Print r1) = (s2, 0) := by rw [← hf1, List.drop_of_length_le hge0]; simp only [note_Print_L0, cond_true, cond_false]
        refine cw_ret ?_; rw [hr2]; exact Re () (Vt (Vt Vn))
end Go.Proofs.YtccmadehnoihnaaGreatDoor

set_option maxHeartbeats 2000000
namespace Go.Proofs.YtccmadehnoihnaaGreatDoor
open Go Go.Proofs.YtccmadehnoihnaaGreatDoor.Fw Go.Proofs
attribute [local irreducible] RdL RdN VarP LibP RW CW

theorem len_of {p : Bool} {n : Nat} {k : Int} (h : (p && ((n : Int) == k)) = true) : (n : Int) = k := by simp at h; exact h.2
theorem len_gt {p : Bool} {n : Nat} (h : (p && decide ((n : Int) > 0)) = true) : 0 < n := by simp at h; exact h.2
theorem gt_spl_len {c : UInt8} {s : Str} {i : Nat} (h : i < ((spl c s).drop 1).length) : (gt ((spl c s).drop 1) i).length ≤ s.length := spl_mem_len (List.mem_of_mem_drop (gt_mem h))

def note_Parse_L0 (s1 : Str) : List Str → (List Int) → (Rec × Int)
  | [], n1 => (bif (((gt (spl 32 s1) 0) == ([111, 112] : Str)) && ((n1.length : Int) == 7)) then (bif ((note_Check (⟨1, 0, 0, ([] : List Int), (⟨(gt n1 0), (gt n1 1), (gt n1 2), (gt n1 3), (gt n1 4), (gt n1 5), (gt n1 6)⟩ : Op)⟩ : Rec)) != 0) then ((⟨0, 0, 0, ([] : List Int), (⟨0, 0, 0, 0, 0, 0, 0⟩ : Op)⟩ : Rec), (note_Check (⟨1, 0, 0, ([] : List Int), (⟨(gt n1 0), (gt n1 1), (gt n1 2), (gt n1 3), (gt n1 4), (gt n1 5), (gt n1 6)⟩ : Op)⟩ : Rec))) else ((⟨1, 0, 0, ([] : List Int), (⟨(gt n1 0), (gt n1 1), (gt n1 2), (gt n1 3), (gt n1 4), (gt n1 5), (gt n1 6)⟩ : Op)⟩ : Rec), 0)) else (bif (((gt (spl 32 s1) 0) == ([108, 105, 102, 101] : Str)) && ((n1.length : Int) == 2)) then (bif ((note_Check (⟨2, (gt n1 0), (gt n1 1), ([] : List Int), (⟨0, 0, 0, 0, 0, 0, 0⟩ : Op)⟩ : Rec)) != 0) then ((⟨0, 0, 0, ([] : List Int), (⟨0, 0, 0, 0, 0, 0, 0⟩ : Op)⟩ : Rec), (note_Check (⟨2, (gt n1 0), (gt n1 1), ([] : List Int), (⟨0, 0, 0, 0, 0, 0, 0⟩ : Op)⟩ : Rec))) else ((⟨2, (gt n1 0), (gt n1 1), ([] : List Int), (⟨0, 0, 0, 0, 0, 0, 0⟩ : Op)⟩ : Rec), 0)) else (bif (((gt (spl 32 s1) 0) == ([114, 111, 111, 116, 115] : Str)) && decide ((n1.length : Int) > 0)) then (bif ((note_Check (⟨3, (gt n1 0), 0, (n1.drop 1), (⟨0, 0, 0, 0, 0, 0, 0⟩ : Op)⟩ : Rec)) != 0) then ((⟨0, 0, 0, ([] : List Int), (⟨0, 0, 0, 0, 0, 0, 0⟩ : Op)⟩ : Rec), (note_Check (⟨3, (gt n1 0), 0, (n1.drop 1), (⟨0, 0, 0, 0, 0, 0, 0⟩ : Op)⟩ : Rec))) else ((⟨3, (gt n1 0), 0, (n1.drop 1), (⟨0, 0, 0, 0, 0, 0, 0⟩ : Op)⟩ : Rec), 0)) else ((⟨0, 0, 0, ([] : List Int), (⟨0, 0, 0, 0, 0, 0, 0⟩ : Op)⟩ : Rec), 1))))
  | pn2 :: rn2, n1 => (bif ((ate pn2) || ((Lib.itoa (atv pn2)) != pn2)) then ((⟨0, 0, 0, ([] : List Int), (⟨0, 0, 0, 0, 0, 0, 0⟩ : Op)⟩ : Rec), 1) else (note_Parse_L0 s1 rn2 (n1 ++ [(atv pn2)])))
def note_Parse (s1 : Str) : Rec × Int :=
  (bif decide ((s1.length : Int) > 60000) then ((⟨0, 0, 0, ([] : List Int), (⟨0, 0, 0, 0, 0, 0, 0⟩ : Op)⟩ : Rec), 2) else (note_Parse_L0 s1 ((spl 32 s1).drop 1) []))
theorem note_Parse_spec (s1 : Str) : Does Tryz.prog 40 [sV s1] [LibP Tryz.prog] (fun (X : SlV) => .tuple #[.agg ⟨[.int .i64 (((note_Parse s1).1).kind), .int .i64 (((note_Parse s1).1).who), .int .i64 (((note_Parse s1).1).life), X.val (((note_Parse s1).1).roots).length, .int .i64 ((((note_Parse s1).1).o).time), .int .i64 ((((note_Parse s1).1).o).who), .int .i64 ((((note_Parse s1).1).o).node), .int .i64 ((((note_Parse s1).1).o).parent), .int .i64 ((((note_Parse s1).1).o).name), .int .i64 ((((note_Parse s1).1).o).life), .int .i64 ((((note_Parse s1).1).o).seq)]⟩, .int .i64 ((note_Parse s1).2)]) (fun (X : SlV) => [RdL EInt X (((note_Parse s1).1).roots)]) := by
  refine does_of tab_ok Tryz.func40 rfl Tryz.ntmps40 Tryz.results40 rfl inferInstance (fun _ => inferInstance) fun C => ?_
  refine Tx ?_
  refine Al fun g1 => ?_
  refine Tx ?_
  refine rw_q rfl rfl rfl (q_lenS (a := s1) rfl rfl (fun _ => rfl) und_9) ?_
  refine Tx ?_
  refine Cd (b := decide ((s1.length : Int) > 60000)) (fun hc1 => ?_) fun hc1 => ?_
  · have hc1p := of_decide_eq_true hc1
    refine Tx ?_
    refine Fc EInt ?_
    have hr1 : (note_Parse s1) = ((⟨0, 0, 0, ([] : List Int), (⟨0, 0, 0, 0, 0, 0, 0⟩ : Op)⟩ : Rec), 2) := by simp only [note_Parse, hc1, cond_true, cond_false]
    refine cw_ret ?_; rw [hr1]; exact Re (⟨none, 0⟩ : SlV) (Va (Vt Vn))
  · have hc1p := of_decide_eq_false hc1
    refine Tx ?_
    refine Cl (lib_Split s1 ([32] : Str) rfl (by omega)) fun x1 => ?_
    refine Pr EStr x1 (spl 32 s1) 16 fun hlen1 => ?_
    have hspl := (spl_len 32 s1).1
    refine Tx ?_
    refine rw_q rfl rfl rfl (q_drop EStr 1 rfl rfl (fun _ => rfl) rfl (fun _ => rfl) rfl rfl (fun _ => by omega) (fun _ => by omega)) ?_
    refine rw_fact (F := RdL EStr (⟨slA x1.a x1.c 1 EStr.esz, x1.c - 1⟩ : SlV) ((spl 32 s1).drop 1)) [RdL EStr x1 (spl 32 s1)] Sm (fun M w h => (allF1 h).drop _ (by omega)) ?_
    refine Tx ?_
    refine Pc EStr (⟨slA x1.a x1.c 1 EStr.esz, x1.c - 1⟩ : SlV) ((spl 32 s1).drop 1) 16 fun hlen2 => ?_
    (repeat refine cw_seq ?_); refine Lp [2,3,4,19,20] [true] (fun (i_ : List Int × SlV × Option Nat × Nat) => match i_ with | ⟨n1, x2, x2b, n2⟩ => (⟨[(5, .v (x2.val n1.length)), (21, .v (.int .i64 (n2 : Int)))], [], [ownL EInt 3 x2 x2b n1], [], (n2 ≤ ((spl 32 s1).drop 1).length) ∧ (n1.length ≤ n2) ∧ (note_Parse_L0 s1 (((spl 32 s1).drop 1).drop n2) n1) = (note_Parse s1), ((spl 32 s1).drop 1).length - n2⟩ : Ls)) ⟨[], ⟨none, 0⟩, none, 0⟩ (Sc (Sc (Sc (Sc (Sc Sn))))) (.keep (.nil)) ⟨Nat.zero_le _, (by first | exact Nat.le_refl _ | exact Nat.zero_le _ | omega), (by simp only [note_Parse, hc1, cond_true, cond_false] : (note_Parse s1) = (note_Parse_L0 s1 ((spl 32 s1).drop 1) [])).symm⟩ (Le.trans (le_nilL EInt 3) Le4) ?_
    rintro ⟨n1, x2, x2b, n2⟩ ⟨hkn2, hn1, hf1⟩
    simp only [List.cons_append, List.nil_append]
    refine Tx ?_
    refine Cd (b := decide ((n2 : Int) < (((spl 32 s1).drop 1).length : Int))) (fun hc2 => ?_) fun hc2 => ?_
    · have hlt0 : n2 < ((spl 32 s1).drop 1).length := Int.ofNat_lt.1 (of_decide_eq_true hc2)
      refine Tx ?_
      refine rw_q rfl rfl rfl (q_idx EStr n2 rfl rfl (fun _ => rfl) rfl (fun _ => rfl) rfl rfl rfl Mm rfl (fun _ => rfl) (fun _ => by first | assumption | omega)) ?_
      refine rw_q rfl rfl rfl (q_le1 EStr rfl rfl (fun _ => rfl) rfl rfl Mm (fun _ => by first | assumption | omega) rfl) ?_
      refine Tx ?_
      refine Cl (lib_Atoi (gt ((spl 32 s1).drop 1) n2) (Nat.le_trans (gt_spl_len hlt0) (by omega))) fun x3 => ?_
      refine Tx ?_
      refine rw_q rfl rfl rfl (q_neNil rfl rfl (fun _ => rfl) und_114) ?_
      refine Tx ?_
      refine rw_callg (fun hG_ => lib_Itoa (atv (gt ((spl 32 s1).drop 1) n2)) (atv_bounds _)) (fun _ => rfl) .sq (guard_vf rfl rfl rfl) rfl rfl rfl Kr rfl Bt Sm ?_
      refine Tx ?_
      refine rw_qg (guard_vf rfl rfl rfl) rfl rfl (q_neS (a := (Lib.itoa (atv (gt ((spl 32 s1).drop 1) n2)))) (b := (gt ((spl 32 s1).drop 1) n2)) rfl rfl Bt rfl Bt) ?_
      refine Tx ?_
      refine Cd (b := ((ate (gt ((spl 32 s1).drop 1) n2)) || ((Lib.itoa (atv (gt ((spl 32 s1).drop 1) n2))) != (gt ((spl 32 s1).drop 1) n2)))) (fun hc3 => ?_) fun hc3 => ?_
      · refine Tx ?_
        refine Fc EInt ?_
        have hr2 : (note_Parse s1) = ((⟨0, 0, 0, ([] : List Int), (⟨0, 0, 0, 0, 0, 0, 0⟩ : Op)⟩ : Rec), 1) := by rw [← hf1, drop_gt hlt0]; simp only [note_Parse_L0, hc3, cond_true, cond_false]
        refine cw_ret ?_; rw [hr2]; exact Re (⟨none, 0⟩ : SlV) (Va (Vt Vn))
      · refine Tx ?_
        refine rw_bsliceL EInt [(atv (gt ((spl 32 s1).drop 1) n2))] .sq (guard_none rfl) rfl rfl rfl rfl rfl rfl rfl rfl rfl rfl rfl rfl rfl rfl rfl fun x4 x4b => ?_
        refine rw_appendL EInt n1 [(atv (gt ((spl 32 s1).drop 1) n2))] (b := x2b) .sq (fun _ _ => .inl ⟨_, rfl⟩) (guard_none rfl) rfl rfl rfl rfl rfl rfl rfl (fun _ _ => Uo) rfl rfl rfl rfl rfl rfl rfl (reads_ownL (e := 3) (b := x4b) Mm) (by show (n1.length + 1) * 8 ≤ 140737488355328; (try simp only [List.length_append, List.length_cons, List.length_nil]); omega) fun x5 x5b => ?_
        refine Tx ?_
        refine rw_q rfl rfl rfl (q_add rfl rfl (fun _ => rfl) rfl (fun _ => rfl) (fun _ => by omega)) ?_
        refine Tx ?_
        refine ⟨⟨(n1 ++ [(atv (gt ((spl 32 s1).drop 1) n2))]), x5, x5b, (n2 + 1)⟩, ⟨hlt0, (by simp only [List.length_append, List.length_cons, List.length_nil]; omega), (by rw [← hf1, drop_gt hlt0]; simp only [note_Parse_L0, hc3, cond_true, cond_false] : (note_Parse s1) = (note_Parse_L0 s1 (((spl 32 s1).drop 1).drop (n2 + 1)) (n1 ++ [(atv (gt ((spl 32 s1).drop 1) n2))]))).symm⟩, (by simp only []; omega), Le4⟩
    · have hge0 : ((spl 32 s1).drop 1).length ≤ n2 := by have := of_decide_eq_false hc2; omega
      refine cw_le (le_freezeL EInt 3 x2 x2b n1 Uo) ?_
      refine Tx ?_
      refine Al fun g2 => ?_
      refine Tx ?_
      refine rw_q rfl rfl rfl (q_idx EStr 0 rfl rfl (fun _ => rfl) rfl (fun _ => rfl) rfl rfl rfl Mm rfl (fun _ => rfl) (fun _ => by first | assumption | omega)) ?_
      refine rw_q rfl rfl rfl (q_le1 EStr rfl rfl (fun _ => rfl) rfl rfl Mm (fun _ => by first | assumption | omega) rfl) ?_
      refine rw_q rfl rfl rfl (q_eqS (a := (gt (spl 32 s1) 0)) (b := ([111, 112] : Str)) rfl rfl (fun _ => rfl) rfl (fun _ => rfl)) ?_
      refine Tx ?_
      refine Cd (b := (((gt (spl 32 s1) 0) == ([111, 112] : Str)) && ((n1.length : Int) == 7))) (fun hc4 => ?_) fun hc4 => ?_
      · have hl7 := len_of hc4
        (repeat refine cw_seq ?_); refine cw_regionA (fun j => match j with | 24 => some [g2] | _ => some []) ?_
        refine Rb 0 [3,4,5,7,8,9,10,11,12,13,14,15,16,17,18,19,20,21] [1,2,6,22,23,24] rfl Qp ?_
        refine Rb 1 [3,4,5,7,8,9,10,11,12,13,14,15,16,17,18,19,20,21] [2,6,22,23,24] rfl (q_idx EInt 0 rfl rfl (fun _ => rfl) rfl (fun _ => rfl) rfl rfl rfl Mm rfl (fun _ => rfl) (fun _ => by first | assumption | omega)) ?_
        refine Rb 2 [3,4,5,7,8,9,10,11,12,13,14,15,16,17,18,19,20,21] [6,22,23,24] rfl (q_le1 EInt rfl rfl (fun _ => rfl) rfl rfl Mm (fun _ => by first | assumption | omega) rfl) ?_
        refine Rb 3 [7,8,9,10,11,12,13,14,15,16,17,18,19,20,21] [4,5,6,22,23,24] rfl Qp ?_
        refine Rb 4 [7,8,9,10,11,12,13,14,15,16,17,18,19,20,21] [5,6,22,23,24] rfl (q_idx EInt 1 rfl rfl (fun _ => rfl) rfl (fun _ => rfl) rfl rfl rfl Mm rfl (fun _ => rfl) (fun _ => by first | assumption | omega)) ?_
        refine Rb 5 [7,8,9,10,11,12,13,14,15,16,17,18,19,20,21] [6,22,23,24] rfl (q_le1 EInt rfl rfl (fun _ => rfl) rfl rfl Mm (fun _ => by first | assumption | omega) rfl) ?_
        refine Rb 6 [7,8,9,10,11,12,13,14,15,16,17,18,19,20,21] [22,23,24] rfl Qp ?_
        refine Rb 7 [10,11,12,13,14,15,16,17,18,19,20,21] [8,9,22,23,24] rfl Qp ?_
        refine Rb 8 [10,11,12,13,14,15,16,17,18,19,20,21] [9,22,23,24] rfl (q_idx EInt 2 rfl rfl (fun _ => rfl) rfl (fun _ => rfl) rfl rfl rfl Mm rfl (fun _ => rfl) (fun _ => by first | assumption | omega)) ?_
        refine Rb 9 [10,11,12,13,14,15,16,17,18,19,20,21] [22,23,24] rfl (q_le1 EInt rfl rfl (fun _ => rfl) rfl rfl Mm (fun _ => by first | assumption | omega) rfl) ?_
        refine Rb 10 [13,14,15,16,17,18,19,20,21] [11,12,22,23,24] rfl Qp ?_
        refine Rb 11 [13,14,15,16,17,18,19,20,21] [12,22,23,24] rfl (q_idx EInt 3 rfl rfl (fun _ => rfl) rfl (fun _ => rfl) rfl rfl rfl Mm rfl (fun _ => rfl) (fun _ => by first | assumption | omega)) ?_
        refine Rb 12 [13,14,15,16,17,18,19,20,21] [22,23,24] rfl (q_le1 EInt rfl rfl (fun _ => rfl) rfl rfl Mm (fun _ => by first | assumption | omega) rfl) ?_
        refine Rb 13 [16,17,18,19,20,21] [14,15,22,23,24] rfl Qp ?_
        refine Rb 14 [16,17,18,19,20,21] [15,22,23,24] rfl (q_idx EInt 4 rfl rfl (fun _ => rfl) rfl (fun _ => rfl) rfl rfl rfl Mm rfl (fun _ => rfl) (fun _ => by first | assumption | omega)) ?_
        refine Rb 15 [16,17,18,19,20,21] [22,23,24] rfl (q_le1 EInt rfl rfl (fun _ => rfl) rfl rfl Mm (fun _ => by first | assumption | omega) rfl) ?_
        refine Rb 16 [19,20,21] [17,18,22,23,24] rfl Qp ?_
        refine Rb 17 [19,20,21] [18,22,23,24] rfl (q_idx EInt 5 rfl rfl (fun _ => rfl) rfl (fun _ => rfl) rfl rfl rfl Mm rfl (fun _ => rfl) (fun _ => by first | assumption | omega)) ?_
        refine Rb 18 [19,20,21] [22,23,24] rfl (q_le1 EInt rfl rfl (fun _ => rfl) rfl rfl Mm (fun _ => by first | assumption | omega) rfl) ?_
        refine Rb 19 [] [20,21,22,23,24] rfl Qp ?_
        refine Rb 20 [] [21,22,23,24] rfl (q_idx EInt 6 rfl rfl (fun _ => rfl) rfl (fun _ => rfl) rfl rfl rfl Mm rfl (fun _ => rfl) (fun _ => by first | assumption | omega)) ?_
        refine Rb 21 [] [22,23,24] rfl (q_le1 EInt rfl rfl (fun _ => rfl) rfl rfl Mm (fun _ => by first | assumption | omega) rfl) ?_
        refine Ra 22 [] rfl Qp ?_
        refine Ra 23 [] rfl Qp ?_
        refine ra_one 24 Kr ?_
        refine rw_stA (.an rfl rfl) (.inr (by simp)) (guard_none rfl) rfl rfl rfl rfl rfl rfl rfl rfl rfl Ub rfl ?_
        refine ra_nil Kr ?_
        refine Tx ?_
        refine Fr EInt ?_
        refine Cl (note_Check_spec (⟨none, 0⟩ : SlV) (⟨1, 0, 0, ([] : List Int), (⟨(gt n1 0), (gt n1 1), (gt n1 2), (gt n1 3), (gt n1 4), (gt n1 5), (gt n1 6)⟩ : Op)⟩ : Rec)) fun _ => ?_
        refine Tx ?_
        refine Cd (b := ((note_Check (⟨1, 0, 0, ([] : List Int), (⟨(gt n1 0), (gt n1 1), (gt n1 2), (gt n1 3), (gt n1 4), (gt n1 5), (gt n1 6)⟩ : Op)⟩ : Rec)) != 0)) (fun hc5 => ?_) fun hc5 => ?_
        · have hc5p := bne_iff_ne.1 hc5
          refine Tx ?_
          have hr3 : (note_Parse s1) = ((⟨0, 0, 0, ([] : List Int), (⟨0, 0, 0, 0, 0, 0, 0⟩ : Op)⟩ : Rec), (note_Check (⟨1, 0, 0, ([] : List Int), (⟨(gt n1 0), (gt n1 1), (gt n1 2), (gt n1 3), (gt n1 4), (gt n1 5), (gt n1 6)⟩ : Op)⟩ : Rec))) := by rw [← hf1, List.drop_of_length_le hge0]; simp only [note_Parse_L0, hc4, hc5, cond_true, cond_false]
          refine cw_ret ?_; rw [hr3]; exact Re (⟨none, 0⟩ : SlV) (Va (Vt Vn))
        · have hc5p := eq_of_bne_false hc5
          refine Tx ?_
          have hr4 : (note_Parse s1) = ((⟨1, 0, 0, ([] : List Int), (⟨(gt n1 0), (gt n1 1), (gt n1 2), (gt n1 3), (gt n1 4), (gt n1 5), (gt n1 6)⟩ : Op)⟩ : Rec), 0) := by rw [← hf1, List.drop_of_length_le hge0]; simp only [note_Parse_L0, hc4, hc5, cond_true, cond_false]
          refine cw_ret ?_; rw [hr4]; exact Re (⟨none, 0⟩ : SlV) (Va (Vt Vn))
      · refine Tx ?_
        refine rw_q rfl rfl rfl (q_idx EStr 0 rfl rfl (fun _ => rfl) rfl (fun _ => rfl) rfl rfl rfl Mm rfl (fun _ => rfl) (fun _ => by first | assumption | omega)) ?_
        refine rw_q rfl rfl rfl (q_le1 EStr rfl rfl (fun _ => rfl) rfl rfl Mm (fun _ => by first | assumption | omega) rfl) ?_
        refine rw_q rfl rfl rfl (q_eqS (a := (gt (spl 32 s1) 0)) (b := ([108, 105, 102, 101] : Str)) rfl rfl (fun _ => rfl) rfl (fun _ => rfl)) ?_
        refine Tx ?_
        refine Cd (b := (((gt (spl 32 s1) 0) == ([108, 105, 102, 101] : Str)) && ((n1.length : Int) == 2))) (fun hc6 => ?_) fun hc6 => ?_
        · have hl7 := len_of hc6
          (repeat refine cw_seq ?_); refine cw_regionA (fun j => match j with | 7 => some [g2] | _ => some []) ?_
          refine Rb 0 [3,4,5] [1,2,6,7] rfl Qp ?_
          refine Rb 1 [3,4,5] [2,6,7] rfl (q_idx EInt 0 rfl rfl (fun _ => rfl) rfl (fun _ => rfl) rfl rfl rfl Mm rfl (fun _ => rfl) (fun _ => by first | assumption | omega)) ?_
          refine Ra 2 [3,4,5] rfl (q_le1 EInt rfl rfl (fun _ => rfl) rfl rfl Mm (fun _ => by first | assumption | omega) rfl) ?_
          refine Rb 3 [] [4,5,6,7] rfl Qp ?_
          refine Rb 4 [] [5,6,7] rfl (q_idx EInt 1 rfl rfl (fun _ => rfl) rfl (fun _ => rfl) rfl rfl rfl Mm rfl (fun _ => rfl) (fun _ => by first | assumption | omega)) ?_
          refine Ra 5 [] rfl (q_le1 EInt rfl rfl (fun _ => rfl) rfl rfl Mm (fun _ => by first | assumption | omega) rfl) ?_
          refine Ra 6 [] rfl Qp ?_
          refine ra_one 7 Kr ?_
          refine rw_stA (.an rfl rfl) (.inr (by simp)) (guard_none rfl) rfl rfl rfl rfl rfl rfl rfl rfl rfl Ub rfl ?_
          refine ra_nil Kr ?_
          refine Tx ?_
          refine Fr EInt ?_
          refine Cl (note_Check_spec (⟨none, 0⟩ : SlV) (⟨2, (gt n1 0), (gt n1 1), ([] : List Int), (⟨0, 0, 0, 0, 0, 0, 0⟩ : Op)⟩ : Rec)) fun _ => ?_
          refine Tx ?_
          refine Cd (b := ((note_Check (⟨2, (gt n1 0), (gt n1 1), ([] : List Int), (⟨0, 0, 0, 0, 0, 0, 0⟩ : Op)⟩ : Rec)) != 0)) (fun hc7 => ?_) fun hc7 => ?_
          · have hc7p := bne_iff_ne.1 hc7
            refine Tx ?_
            have hr5 : (note_Parse s1) = ((⟨0, 0, 0, ([] : List Int), (⟨0, 0, 0, 0, 0, 0, 0⟩ : Op)⟩ : Rec), (note_Check (⟨2, (gt n1 0), (gt n1 1), ([] : List Int), (⟨0, 0, 0, 0, 0, 0, 0⟩ : Op)⟩ : Rec))) := by rw [← hf1, List.drop_of_length_le hge0]; simp only [note_Parse_L0, hc4, hc6, hc7, cond_true, cond_false]
            refine cw_ret ?_; rw [hr5]; exact Re (⟨none, 0⟩ : SlV) (Va (Vt Vn))
          · have hc7p := eq_of_bne_false hc7
            refine Tx ?_
            have hr6 : (note_Parse s1) = ((⟨2, (gt n1 0), (gt n1 1), ([] : List Int), (⟨0, 0, 0, 0, 0, 0, 0⟩ : Op)⟩ : Rec), 0) := by rw [← hf1, List.drop_of_length_le hge0]; simp only [note_Parse_L0, hc4, hc6, hc7, cond_true, cond_false]
            refine cw_ret ?_; rw [hr6]; exact Re (⟨none, 0⟩ : SlV) (Va (Vt Vn))
        · refine Tx ?_
          refine rw_q rfl rfl rfl (q_idx EStr 0 rfl rfl (fun _ => rfl) rfl (fun _ => rfl) rfl rfl rfl Mm rfl (fun _ => rfl) (fun _ => by first | assumption | omega)) ?_
          refine rw_q rfl rfl rfl (q_le1 EStr rfl rfl (fun _ => rfl) rfl rfl Mm (fun _ => by first | assumption | omega) rfl) ?_
          refine rw_q rfl rfl rfl (q_eqS (a := (gt (spl 32 s1) 0)) (b := ([114, 111, 111, 116, 115] : Str)) rfl rfl (fun _ => rfl) rfl (fun _ => rfl)) ?_
          refine Tx ?_
          refine Cd (b := (((gt (spl 32 s1) 0) == ([114, 111, 111, 116, 115] : Str)) && decide ((n1.length : Int) > 0))) (fun hc8 => ?_) fun hc8 => ?_
          · have hl7 := len_gt hc8
            (repeat refine cw_seq ?_); refine cw_regionA (fun j => match j with | 6 => some [g2] | _ => some []) ?_
            refine Rb 0 [3,4] [1,2,5,6] rfl Qp ?_
            refine Rb 1 [3,4] [2,5,6] rfl (q_idx EInt 0 rfl rfl (fun _ => rfl) rfl (fun _ => rfl) rfl rfl rfl Mm rfl (fun _ => rfl) (fun _ => by first | assumption | omega)) ?_
            refine Ra 2 [3,4] rfl (q_le1 EInt rfl rfl (fun _ => rfl) rfl rfl Mm (fun _ => by first | assumption | omega) rfl) ?_
            refine Rb 3 [] [4,5,6] rfl Qp ?_
            refine Ra 4 [] rfl (q_drop EInt 1 rfl rfl (fun _ => rfl) rfl (fun _ => rfl) rfl rfl (fun _ => by omega) (fun _ => by omega)) ?_
            refine rw_fact (F := RdL EInt (⟨slA x2.a x2.c 1 EInt.esz, x2.c - 1⟩ : SlV) (n1.drop 1)) [RdL EInt x2 n1] Sm (fun M w h => (allF1 h).drop _ (by omega)) ?_
            refine Ra 5 [] rfl Qp ?_
            refine ra_one 6 Kr ?_
            refine rw_stA (.an rfl rfl) (.inr (by simp)) (guard_none rfl) rfl rfl rfl rfl rfl rfl rfl rfl rfl Ub rfl ?_
            refine ra_nil Kr ?_
            refine Tx ?_
            refine Cl (note_Check_spec (⟨slA x2.a x2.c 1 EInt.esz, x2.c - 1⟩ : SlV) (⟨3, (gt n1 0), 0, (n1.drop 1), (⟨0, 0, 0, 0, 0, 0, 0⟩ : Op)⟩ : Rec)) fun _ => ?_
            refine Tx ?_
            refine Cd (b := ((note_Check (⟨3, (gt n1 0), 0, (n1.drop 1), (⟨0, 0, 0, 0, 0, 0, 0⟩ : Op)⟩ : Rec)) != 0)) (fun hc9 => ?_) fun hc9 => ?_
            · have hc9p := bne_iff_ne.1 hc9
              refine Tx ?_
              refine Fc EInt ?_
              have hr7 : (note_Parse s1) = ((⟨0, 0, 0, ([] : List Int), (⟨0, 0, 0, 0, 0, 0, 0⟩ : Op)⟩ : Rec), (note_Check (⟨3, (gt n1 0), 0, (n1.drop 1), (⟨0, 0, 0, 0, 0, 0, 0⟩ : Op)⟩ : Rec))) := by rw [← hf1, List.drop_of_length_le hge0]; simp only [note_Parse_L0, hc4, hc6, hc8, hc9, cond_true, cond_false]
              refine cw_ret ?_; rw [hr7]; exact Re (⟨none, 0⟩ : SlV) (Va (Vt Vn))
            · have hc9p := eq_of_bne_false hc9
              refine Tx ?_
              have hr8 : (note_Parse s1) = ((⟨3, (gt n1 0), 0, (n1.drop 1), (⟨0, 0, 0, 0, 0, 0, 0⟩ : Op)⟩ : Rec), 0) := by rw [← hf1, List.drop_of_length_le hge0]; simp only [note_Parse_L0, hc4, hc6, hc8, hc9, cond_true, cond_false]
              refine cw_ret ?_; rw [hr8]; exact Re (⟨slA x2.a x2.c 1 EInt.esz, x2.c - 1⟩ : SlV) (Va (Vt Vn))
          · refine Tx ?_
            refine Fc EInt ?_
            have hr9 : (note_Parse s1) = ((⟨0, 0, 0, ([] : List Int), (⟨0, 0, 0, 0, 0, 0, 0⟩ : Op)⟩ : Rec), 1) := by rw [← hf1, List.drop_of_length_le hge0]; simp only [note_Parse_L0, hc4, hc6, hc8, cond_true, cond_false]
            refine cw_ret ?_; rw [hr9]; exact Re (⟨none, 0⟩ : SlV) (Va (Vt Vn))
end Go.Proofs.YtccmadehnoihnaaGreatDoor

set_option maxHeartbeats 2000000
namespace Go.Proofs.YtccmadehnoihnaaGreatDoor
open Go Go.Proofs.YtccmadehnoihnaaGreatDoor.Fw Go.Proofs
attribute [local irreducible] RdL RdN VarP LibP RW CW
def disk_lines_L0 (s1 : Str) (most1 : Int) : Nat → Str → (List Rec) → ((List Rec) × Int × Int)
  | 0, s2, l1 => default
  | f_k0 + 1, s2, l1 => (bif (s2 != ([] : Str)) then (bif (!((cutc 10 s2).2.2)) then (l1, ((s1.length : Int) - (s2.length : Int)), 8) else (bif (((note_Parse ((cutc 10 s2).1)).2) != 0) then (l1, ((s1.length : Int) - (s2.length : Int)), (note_Parse ((cutc 10 s2).1)).2) else (bif ((l1.length : Int) == most1) then (l1, ((s1.length : Int) - (s2.length : Int)), 2) else (disk_lines_L0 s1 most1 f_k0 ((cutc 10 s2).2.1) (l1 ++ [((note_Parse ((cutc 10 s2).1)).1)]))))) else (l1, (s1.length : Int), 0))
def disk_lines (s1 : Str) (most1 : Int) : (List Rec) × Int × Int :=
  (disk_lines_L0 s1 most1 (s1.length + 1) s1 [])
theorem disk_lines_spec (s1 : Str) (most1 : Int) (hs : s1.length ≤ 60000) : DoesG Tryz.prog 25 [sV s1, .int .i64 most1] [LibP Tryz.prog] ⟨[], []⟩ (fun (X : SlV × Option Nat × (Nat → SlV)) => .tuple #[X.1.val ((disk_lines s1 most1).1).length, .int .i64 ((disk_lines s1 most1).2.1), .int .i64 ((disk_lines s1 most1).2.2)]) (fun (X : SlV × Option Nat × (Nat → SlV)) => [FactsG NRec X.2.2 ((disk_lines s1 most1).1)]) (fun (X : SlV × Option Nat × (Nat → SlV)) => ⟨[], [ownL NRec.E 43 X.1 X.2.1 (zipG X.2.2 0 ((disk_lines s1 most1).1))]⟩) := by
  refine does_ofG tab_ok Tryz.func25 rfl Tryz.ntmps25 Tryz.results25 rfl inferInstance (fun _ => inferInstance) fun C => ?_
  refine Tx ?_
  refine rw_q rfl rfl rfl (q_lenS (a := s1) rfl rfl (fun _ => rfl) und_9) ?_
  refine Tx ?_
  (repeat refine cw_seq ?_); refine Lp [1,4,5,6,8] [] (fun (i_ : Str × List Rec × SlV × Option Nat × (Nat → SlV) × Nat) => match i_ with | ⟨s2, l1, x1, x1b, γ1, fz1⟩ => (⟨[(0, .v (sV s2)), (7, .v (x1.val l1.length))], [], [ownL NRec.E 43 x1 x1b (zipG γ1 0 l1)], [FactsG NRec γ1 l1], (s2.length + l1.length ≤ s1.length) ∧ (s2.length < fz1) ∧ (disk_lines_L0 s1 most1 (fz1) s2 l1) = (disk_lines s1 most1), fz1⟩ : Ls)) ⟨s1, [], ⟨none, 0⟩, none, (fun _ => default), s1.length + 1⟩ (Sc (Sc (Sc (Sc (Sc Sn))))) (.nil) ⟨(by simp only [List.length_nil]; omega), (by first | exact Nat.le_refl _ | exact Nat.zero_le _ | omega), (by simp only [disk_lines, cond_true, cond_false] : (disk_lines s1 most1) = (disk_lines_L0 s1 most1 (s1.length + 1) s1 [])).symm⟩ (Le.trans (le_nilL NRec.E 43) (Le.trans (le_fact (FactsG NRec (fun _ => default) ([] : List Rec)) [] (.nil _) (fun M w _ => FactsG.nil NRec _ M w)) Le4)) ?_
  rintro ⟨s2, l1, x1, x1b, γ1, fz1⟩ ⟨hinv, hzfz1, hf1⟩
  simp only [List.cons_append, List.nil_append]
  have hlt0_ : (fz1 - 1) + 1 = fz1 := by omega
  refine Tx ?_
  refine rw_q rfl rfl rfl (q_neS (a := s2) (b := ([] : Str)) rfl rfl (fun _ => rfl) rfl (fun _ => rfl)) ?_
  refine rw_nil ?_
  (repeat refine cw_seq ?_)
  refine Cd (b := (s2 != ([] : Str))) (fun hc1 => ?_) fun hc1 => ?_
  · have hc1p := bne_iff_ne.1 hc1
    refine Tx ?_
    refine Cl (lib_Cut s2 ([10] : Str) rfl (by omega)) fun _ => ?_
    have hcn := cutc_len 10 s2; have hcl := cutc_lt 10 s2
    refine Tx ?_
    refine Cd (b := (!((cutc 10 s2).2.2))) (fun hc2 => ?_) fun hc2 => ?_
    · refine Tx ?_
      refine rw_q rfl rfl rfl (q_lenS (a := s2) rfl rfl (fun _ => rfl) und_9) ?_
      refine rw_q rfl rfl rfl (q_sub rfl rfl (fun _ => rfl) rfl (fun _ => rfl) (fun _ => by omega)) ?_
      refine Tx ?_
      have hr1 : (disk_lines s1 most1) = (l1, ((s1.length : Int) - (s2.length : Int)), 8) := by rw [← hf1]; (conv => lhs; rw [← hlt0_]); simp only [disk_lines_L0, hc1, hc2, cond_true, cond_false]
      refine cw_ret ?_; rw [hr1]; exact Re ⟨x1, x1b, γ1⟩ (Vt (Vt (Vt Vn)))
    · have hcl2 := hcl (by simpa using hc2)
      refine Tx ?_
      refine Cl (note_Parse_spec ((cutc 10 s2).1)) fun x2 => ?_
      refine Pr EInt x2 (((note_Parse ((cutc 10 s2).1)).1).roots) 8 fun hlen1 => ?_
      refine Tx ?_
      refine Al fun g1 => ?_
      refine Tx ?_
      refine Cd (b := (((note_Parse ((cutc 10 s2).1)).2) != 0)) (fun hc3 => ?_) fun hc3 => ?_
      · have hc3p := bne_iff_ne.1 hc3
        refine Tx ?_
        refine rw_q rfl rfl rfl (q_lenS (a := s2) rfl rfl (fun _ => rfl) und_9) ?_
        refine rw_q rfl rfl rfl (q_sub rfl rfl (fun _ => rfl) rfl (fun _ => rfl) (fun _ => by omega)) ?_
        refine Tx ?_
        have hr2 : (disk_lines s1 most1) = (l1, ((s1.length : Int) - (s2.length : Int)), (note_Parse ((cutc 10 s2).1)).2) := by rw [← hf1]; (conv => lhs; rw [← hlt0_]); simp only [disk_lines_L0, hc1, hc2, hc3, cond_true, cond_false]
        refine cw_ret ?_; rw [hr2]; exact Re ⟨x1, x1b, γ1⟩ (Vt (Vt (Vt Vn)))
      · have hc3p := eq_of_bne_false hc3
        refine Tx ?_
        refine Cd (b := ((l1.length : Int) == most1)) (fun hc4 => ?_) fun hc4 => ?_
        · have hc4p := eq_of_beq hc4
          refine Tx ?_
          refine rw_q rfl rfl rfl (q_lenS (a := s2) rfl rfl (fun _ => rfl) und_9) ?_
          refine rw_q rfl rfl rfl (q_sub rfl rfl (fun _ => rfl) rfl (fun _ => rfl) (fun _ => by omega)) ?_
          refine Tx ?_
          have hr3 : (disk_lines s1 most1) = (l1, ((s1.length : Int) - (s2.length : Int)), 2) := by rw [← hf1]; (conv => lhs; rw [← hlt0_]); simp only [disk_lines_L0, hc1, hc2, hc3, hc4, cond_true, cond_false]
          refine cw_ret ?_; rw [hr3]; exact Re ⟨x1, x1b, γ1⟩ (Vt (Vt (Vt Vn)))
        · have hc4p := ne_of_beq_false hc4
          refine Tx ?_
          refine rw_bsliceL NRec.E [(x2, ((note_Parse ((cutc 10 s2).1)).1))] .sq (guard_none rfl) rfl rfl rfl rfl rfl rfl rfl rfl rfl rfl rfl rfl rfl (fillL_one rfl rfl) rfl fun x3 x3b => ?_
          refine rw_le (le_freezeL NRec.E 43 x3 x3b [(x2, ((note_Parse ((cutc 10 s2).1)).1))] Uo) ?_
          refine rw_fact (F := RdN NRec x3 [((note_Parse ((cutc 10 s2).1)).1)]) [RdL NRec.E x3 [(x2, ((note_Parse ((cutc 10 s2).1)).1))], RdL EInt x2 (((note_Parse ((cutc 10 s2).1)).1).roots)] Sm (fun M w h => RdN.of NRec (hs := [(x2, ((note_Parse ((cutc 10 s2).1)).1))]) rfl (h _ (.head _)) (allP_cons (allF_sub Sm h) (fun p hp => by cases hp))) ?_
          refine rw_exN NRec (X := x3) (l := [((note_Parse ((cutc 10 s2).1)).1)]) Mm fun (γ2 : Nat → SlV) => ?_
          refine rw_appendN NRec γ1 γ2 l1 [((note_Parse ((cutc 10 s2).1)).1)] (b := x1b) .sq (fun _ _ => .inl ⟨_, rfl⟩) (guard_none rfl) rfl rfl rfl rfl rfl rfl rfl (fun _ _ => Uo) rfl rfl rfl rfl rfl rfl rfl (reads_rdN (EN := NRec) (X := x3) (γ := γ2) (l := [((note_Parse ((cutc 10 s2).1)).1)]) Mm) (by show (l1.length + [((note_Parse ((cutc 10 s2).1)).1)].length) * 104 ≤ 140737488355328; (try simp only [List.length_append, List.length_cons, List.length_nil]); omega) fun x4 x4b => ?_
          refine rw_fact (F := FactsG NRec (appG γ1 l1.length γ2) (l1 ++ [((note_Parse ((cutc 10 s2).1)).1)])) [FactsG NRec γ1 l1, FactsG NRec γ2 [((note_Parse ((cutc 10 s2).1)).1)]] Sm (fun M w h => FactsG.app NRec (h _ (.head _)) (h _ (.tail _ (.head _)))) ?_
          refine Tx ?_
          refine ⟨⟨(cutc 10 s2).2.1, (l1 ++ [((note_Parse ((cutc 10 s2).1)).1)]), x4, x4b, (appG γ1 l1.length γ2), (fz1 - 1)⟩, ⟨(by simp only [List.length_append, List.length_cons, List.length_nil]; omega), (by (try simp only []); first | omega | (simp only [List.length_append, List.length_cons, List.length_nil]; omega)), (by rw [← hf1]; (conv => lhs; rw [← hlt0_]); simp only [disk_lines_L0, hc1, hc2, hc3, hc4, cond_true, cond_false] : (disk_lines s1 most1) = (disk_lines_L0 s1 most1 (fz1 - 1) ((cutc 10 s2).2.1) (l1 ++ [((note_Parse ((cutc 10 s2).1)).1)]))).symm⟩, (by simp only []; omega), Le4⟩
  · have hc1p := eq_of_bne_false hc1
    refine Tx ?_
    have hr4 : (disk_lines s1 most1) = (l1, (s1.length : Int), 0) := by rw [← hf1]; (conv => lhs; rw [← hlt0_]); simp only [disk_lines_L0, hc1, cond_true, cond_false]
    refine cw_ret ?_; rw [hr4]; exact Re ⟨x1, x1b, γ1⟩ (Vt (Vt (Vt Vn)))


theorem disk_lines_L0_ok (s0 : Str) (most : Int) : ∀ (f : Nat) (s : Str) (l : List Rec), s.length < f → s.length + l.length ≤ s0.length →
    (disk_lines_L0 s0 most f s l).1.length ≤ s0.length ∧ 0 ≤ (disk_lines_L0 s0 most f s l).2.1 ∧ (disk_lines_L0 s0 most f s l).2.1 ≤ (s0.length : Int)
  | 0, s, l, h, _ => absurd h (Nat.not_lt_zero _)
  | f + 1, s, l, h, hl => by
    rw [disk_lines_L0]
    cases h1 : (s != ([] : Str)) with
    | false => simp only [cond_false]; omega
    | true =>
      simp only [cond_true]
      cases h2 : (!(cutc 10 s).2.2) with
      | true => simp only [cond_true]; omega
      | false =>
        have h2 : (cutc 10 s).2.2 = true := by simpa using h2
        have h3 := cutc_lt 10 s h2
        simp only [cond_false]
        cases ((note_Parse (cutc 10 s).1).2 != 0) with
        | true => simp only [cond_true]; omega
        | false =>
          simp only [cond_false]
          cases ((l.length : Int) == most) with
          | true => simp only [cond_true]; omega
          | false => exact disk_lines_L0_ok s0 most f _ _ (by omega) (by simp only [List.length_append, List.length_cons, List.length_nil]; omega)
theorem disk_lines_ok (s : Str) (most : Int) : (disk_lines s most).1.length ≤ s.length ∧ 0 ≤ (disk_lines s most).2.1 ∧ (disk_lines s most).2.1 ≤ (s.length : Int) :=
  disk_lines_L0_ok s most _ s [] (by omega) (by simp)
end Go.Proofs.YtccmadehnoihnaaGreatDoor

namespace Go.Proofs.YtccmadehnoihnaaGreatDoor
open Go Go.Proofs.YtccmadehnoihnaaGreatDoor.Fw Go.Proofs

/-! ### A record as a line, and back -/
def prText (r : Rec) : Str := wordOf r ++ glue 32 ((numsOf r).map Lib.itoa)

theorem Print_L0_eq : ∀ (l : List Int) (s : Str), note_Print_L0 l s = (s ++ glue 32 (l.map Lib.itoa), 0)
  | [], s => by simp [note_Print_L0, glue]
  | n :: l, s => by rw [note_Print_L0, Print_L0_eq l]; simp [glue]

theorem V1_eq {r : Rec} (h : note_Check r = 0) : note_Print_V1 r = (wordOf r, numsOf r) := by
  unfold note_Print_V1 wordOf numsOf
  rcases (noteCheck_iff r).1 h with ⟨h1, _⟩ | ⟨h1, _, _⟩ | ⟨h1, _, _⟩ <;> (rw [h1]; rfl)

theorem Print_eq (r : Rec) : note_Print r = if note_Check r = 0 then (prText r, 0) else ([], note_Check r) := by
  unfold note_Print
  by_cases h : note_Check r = 0
  · rw [if_pos h, V1_eq h, Print_L0_eq, h]
    rfl
  · rw [if_neg h]
    have : (note_Check r != 0) = true := by simpa using h
    rw [this, cond_true]

/-- The numbers of the pieces, if all are. -/
def pn : List Str → Option (List Int)
  | [] => some []
  | t :: r => bif ate t || (Lib.itoa (atv t) != t) then none else (pn r).map (atv t :: ·)

abbrev noRec : Rec := ⟨0, 0, 0, [], ⟨0, 0, 0, 0, 0, 0, 0⟩⟩
def mkRec (w : Str) (n : List Int) : Option Rec :=
  if w = [111, 112] ∧ n.length = 7 then some ⟨1, 0, 0, [], ⟨gt n 0, gt n 1, gt n 2, gt n 3, gt n 4, gt n 5, gt n 6⟩⟩
  else if w = [108, 105, 102, 101] ∧ n.length = 2 then some ⟨2, gt n 0, gt n 1, [], ⟨0, 0, 0, 0, 0, 0, 0⟩⟩
  else if w = [114, 111, 111, 116, 115] ∧ 0 < n.length then some ⟨3, gt n 0, 0, n.drop 1, ⟨0, 0, 0, 0, 0, 0, 0⟩⟩
  else none
def finR (w : Str) (n : List Int) : Rec × Int := match mkRec w n with
  | none => (noRec, 1)
  | some r => if note_Check r = 0 then (r, 0) else (noRec, note_Check r)
def readP (w : Str) : Option (List Int) → Rec × Int
  | none => (noRec, 1)
  | some n => finR w n

theorem and_len {w u : Str} {n : List Int} {k : Nat} : ((w == u) && ((n.length : Int) == (k : Int))) = decide (w = u ∧ n.length = k) := by
  rw [Bool.eq_iff_iff]; simp only [Bool.and_eq_true, beq_iff_eq, decide_eq_true_eq]; exact and_congr_right fun _ => by omega
theorem and_gt {w u : Str} {n : List Int} : ((w == u) && decide ((n.length : Int) > 0)) = decide (w = u ∧ 0 < n.length) := by
  rw [Bool.eq_iff_iff]; simp only [Bool.and_eq_true, beq_iff_eq, decide_eq_true_eq]; exact and_congr_right fun _ => by omega
theorem fin_aux (r : Rec) : (bif (note_Check r != 0) then (noRec, note_Check r) else (r, (0 : Int))) = if note_Check r = 0 then (r, 0) else (noRec, note_Check r) := by
  by_cases h : note_Check r = 0
  · rw [if_pos h, h]; rfl
  · rw [if_neg h]
    have : (note_Check r != 0) = true := by simpa using h
    rw [this, cond_true]

theorem bif_dec {α : Type} {p : Prop} [Decidable p] (a b : α) : (bif decide p then a else b) = if p then a else b := by
  by_cases h : p <;> simp [h]

theorem Parse_L0_eq (s : Str) : ∀ (l : List Str) (acc : List Int), note_Parse_L0 s l acc = readP (gt (spl 32 s) 0) ((pn l).map (acc ++ ·))
  | [], acc => by
    rw [note_Parse_L0]
    have e7 : ((7 : Int)) = ((7 : Nat) : Int) := rfl
    have e2 : ((2 : Int)) = ((2 : Nat) : Int) := rfl
    simp only [pn, Option.map_some, List.append_nil, readP, finR, mkRec]
    simp only [fin_aux]
    rw [show (((gt (spl 32 s) 0) == ([111, 112] : Str)) && ((acc.length : Int) == 7)) = decide (gt (spl 32 s) 0 = [111, 112] ∧ acc.length = 7) from and_len (k := 7),
      show (((gt (spl 32 s) 0) == ([108, 105, 102, 101] : Str)) && ((acc.length : Int) == 2)) = decide (gt (spl 32 s) 0 = [108, 105, 102, 101] ∧ acc.length = 2) from and_len (k := 2), and_gt, bif_dec, bif_dec, bif_dec]
    by_cases h1 : gt (spl 32 s) 0 = [111, 112] ∧ acc.length = 7
    · rw [if_pos h1, if_pos h1]
    · rw [if_neg h1, if_neg h1]
      by_cases h2 : gt (spl 32 s) 0 = [108, 105, 102, 101] ∧ acc.length = 2
      · rw [if_pos h2, if_pos h2]
      · rw [if_neg h2, if_neg h2]
        by_cases h3 : gt (spl 32 s) 0 = [114, 111, 111, 116, 115] ∧ 0 < acc.length
        · rw [if_pos h3, if_pos h3]
        · rw [if_neg h3, if_neg h3]
  | t :: r, acc => by
    rw [note_Parse_L0, pn]
    cases (ate t || (Lib.itoa (atv t) != t)) with
    | true => rfl
    | false =>
      simp only [cond_false]
      rw [Parse_L0_eq s r, Option.map_map]
      congr 2
      funext x; simp

theorem Parse_eq {s : Str} (h : s.length ≤ 60000) : note_Parse s = readP (gt (spl 32 s) 0) (pn ((spl 32 s).drop 1)) := by
  unfold note_Parse
  have : decide ((s.length : Int) > 60000) = false := by simp; omega
  rw [this, cond_false, Parse_L0_eq]
  congr 1
  cases pn ((spl 32 s).drop 1) <;> simp
/-! ### What is printed is read -/
theorem pn_itoa : ∀ {l : List Int}, (∀ n ∈ l, I64 n) → pn (l.map Lib.itoa) = some l
  | [], _ => rfl
  | n :: l, h => by
    have hn := h n (.head _)
    rw [List.map_cons, pn, ate_itoa hn, atv_itoa hn, pn_itoa (fun m hm => h m (.tail _ hm))]
    simp
theorem word_no (r : Rec) : (32 : UInt8) ∉ wordOf r := by
  unfold wordOf
  cases r.kind == 1 with
  | true => rw [cond_true]; decide
  | false => rw [cond_false]; cases r.kind == 2 with
    | true => rw [cond_true]; decide
    | false => rw [cond_false]; decide
theorem mk_of {r : Rec} (h : note_Check r = 0) : mkRec (wordOf r) (numsOf r) = some r := by
  rcases (noteCheck_iff r).1 h with ⟨h1, _⟩ | ⟨h1, _, _⟩ | ⟨h1, _, _⟩ <;> (rw [h1]; rfl)
theorem glue_len : ∀ {l : List Int}, (∀ n ∈ l, I64 n) → (glue 32 (l.map Lib.itoa)).length ≤ 22 * l.length
  | [], _ => by simp [glue]
  | n :: l, h => by
    have h1 := glue_len (fun m hm => h m (.tail n hm))
    have h2 := Lib.itoa_length_le n (h n (.head _)).1 (h n (.head _)).2
    simp only [glue, List.map_cons, List.flatMap_cons, List.length_append, List.length_cons] at h1 ⊢
    omega
theorem word_len (r : Rec) : (wordOf r).length ≤ 5 := by
  unfold wordOf
  cases r.kind == 1 with
  | true => rw [cond_true]; decide
  | false => rw [cond_false]; cases r.kind == 2 with
    | true => rw [cond_true]; decide
    | false => rw [cond_false]; decide
theorem prText_len {r : Rec} (h : note_Check r = 0) : (prText r).length ≤ 159 := by
  have h1 := nums_ok h
  have h2 := glue_len h1.2
  have h3 := word_len r
  rw [prText, List.length_append]
  omega
theorem spl_pr {r : Rec} : spl 32 (prText r) = wordOf r :: (numsOf r).map Lib.itoa :=
  spl_glue _ _ (word_no r) (fun t ht => by
    obtain ⟨n, _, rfl⟩ := List.mem_map.1 ht
    exact itoa_no (by decide))

theorem Parse_print {r : Rec} (h : note_Check r = 0) : note_Parse (prText r) = (r, 0) := by
  rw [Parse_eq (by have := prText_len h; omega), spl_pr, show gt (wordOf r :: (numsOf r).map Lib.itoa) 0 = wordOf r from rfl, List.drop_succ_cons, List.drop_zero, pn_itoa (nums_ok h).2, readP, finR, mk_of h]
  simp only [h, if_pos]

theorem noteSame_iff (a b : Rec) : note_Same a b = decide (a = b) := by
  obtain ⟨k, w, l, r, o⟩ := a
  obtain ⟨k', w', l', r', o'⟩ := b
  rw [note_Same, Bool.eq_iff_iff]
  simp only [Bool.and_eq_true, beq_iff_eq, decide_eq_true_eq, Rec.mk.injEq]
  constructor
  · rintro ⟨⟨⟨⟨h1, h2⟩, h3⟩, h4⟩, h5⟩; exact ⟨h1, h2, h3, h5, h4⟩
  · rintro ⟨h1, h2, h3, h4, h5⟩; exact ⟨⟨⟨⟨h1, h2⟩, h3⟩, h5⟩, h4⟩
end Go.Proofs.YtccmadehnoihnaaGreatDoor

set_option maxHeartbeats 2000000
namespace Go.Proofs.YtccmadehnoihnaaGreatDoor
open Go Go.Proofs.YtccmadehnoihnaaGreatDoor.Fw Go.Proofs
attribute [local irreducible] RdL RdN VarP LibP RW CW

theorem disk_lens {a b : Nat} (h : (decide ((a : Int) > 60000) || decide ((b : Int) > (60000 - (a : Int)))) = false) : a ≤ 60000 ∧ a + b ≤ 60000 := by
  simp only [Bool.or_eq_false_iff, decide_eq_false_iff_not] at h; omega
theorem Print_len (r : Rec) : (note_Print r).1.length ≤ 159 := by
  rw [Print_eq]
  split
  · rename_i h; exact prText_len h
  · simp

def disk_Check (d1 : Disk) : Int :=
  (bif (decide ((d1.safe.length : Int) > 60000) || decide ((d1.wait.length : Int) > (60000 - (d1.safe.length : Int)))) then 2 else (disk_lines d1.safe 60).2.2)
theorem disk_Check_spec (y1 : SlV) (y2 : SlV) (d1 : Disk) : Does Tryz.prog 21 [.agg ⟨[y1.val d1.safe.length, y2.val d1.wait.length]⟩] [RdL EByte y1 d1.safe, RdL EByte y2 d1.wait, LibP Tryz.prog] (fun (_ : Unit) => .int .i64 (disk_Check d1)) (fun (_ : Unit) => []) := by
  refine does_of tab_ok Tryz.func21 rfl Tryz.ntmps21 Tryz.results21 rfl inferInstance (fun _ => inferInstance) fun C => ?_
  refine Pc EByte y1 d1.safe 1 fun hlen1 => ?_
  refine Pc EByte y2 d1.wait 1 fun hlen2 => ?_
  refine Tx ?_
  refine Bx fun g1 => ?_
  refine Tx ?_
  refine rw_qg (guard_vf rfl rfl rfl) rfl rfl (q_sub rfl rfl Bt rfl Bt (by intro h; first | omega | (simp at h; omega))) ?_
  refine Tx ?_
  refine Cd (b := (decide ((d1.safe.length : Int) > 60000) || decide ((d1.wait.length : Int) > (60000 - (d1.safe.length : Int))))) (fun hc1 => ?_) fun hc1 => ?_
  · refine Tx ?_
    have hr1 : (disk_Check d1) = 2 := by simp only [disk_Check, hc1, cond_true, cond_false]
    refine cw_ret ?_; rw [hr1]; exact Re () (Vt Vn)
  · have hdl := disk_lens hc1
    refine Tx ?_
    refine rw_q rfl rfl rfl (q_bstr (X := y1) (l := d1.safe) und_45 und_5 und_9 rfl rfl (fun _ => rfl) Mm) ?_
    refine Cg (disk_lines_spec d1.safe 60 (by first | assumption | omega)) fun x1 => ?_
    refine Tx ?_
    have hr2 : (disk_Check d1) = (disk_lines d1.safe 60).2.2 := by simp only [disk_Check, hc1, cond_true, cond_false]
    refine cw_ret ?_; rw [hr2]; exact Re () (Vt Vn)


theorem disk_Check_lens {d : Disk} (h : disk_Check d = 0) : d.safe.length ≤ 60000 ∧ d.safe.length + d.wait.length ≤ 60000 := by
  unfold disk_Check at h
  generalize hb : (decide ((d.safe.length : Int) > 60000) || decide ((d.wait.length : Int) > (60000 - (d.safe.length : Int)))) = b at h
  cases b with
  | true => simp at h
  | false => exact disk_lens hb

def disk_Put (d1 : Disk) (r1 : Rec) : Disk × Int :=
  (bif ((disk_Check d1) != 0) then ((⟨([] : List UInt8), ([] : List UInt8)⟩ : Disk), (disk_Check d1)) else (bif (((note_Print r1).2) != 0) then ((⟨([] : List UInt8), ([] : List UInt8)⟩ : Disk), (note_Print r1).2) else (bif decide (((((note_Print r1).1).length : Int) + 1) > ((60000 - (d1.safe.length : Int)) - (d1.wait.length : Int))) then ((⟨([] : List UInt8), ([] : List UInt8)⟩ : Disk), 2) else ((⟨d1.safe, ((d1.wait ++ ((note_Print r1).1)) ++ [10])⟩ : Disk), 0))))
theorem disk_Put_spec (y1 : SlV) (y2 : SlV) (d1 : Disk) (y3 : SlV) (r1 : Rec) : Does Tryz.prog 8 [.agg ⟨[y1.val d1.safe.length, y2.val d1.wait.length]⟩, .agg ⟨[.int .i64 r1.kind, .int .i64 r1.who, .int .i64 r1.life, y3.val r1.roots.length, .int .i64 r1.o.time, .int .i64 r1.o.who, .int .i64 r1.o.node, .int .i64 r1.o.parent, .int .i64 r1.o.name, .int .i64 r1.o.life, .int .i64 r1.o.seq]⟩] [RdL EByte y1 d1.safe, RdL EByte y2 d1.wait, RdL EInt y3 r1.roots, LibP Tryz.prog] (fun (X : SlV × SlV) => .tuple #[.agg ⟨[X.1.val (((disk_Put d1 r1).1).safe).length, X.2.val (((disk_Put d1 r1).1).wait).length]⟩, .int .i64 ((disk_Put d1 r1).2)]) (fun (X : SlV × SlV) => [RdL EByte X.1 (((disk_Put d1 r1).1).safe), RdL EByte X.2 (((disk_Put d1 r1).1).wait)]) := by
  refine does_of tab_ok Tryz.func8 rfl Tryz.ntmps8 Tryz.results8 rfl inferInstance (fun _ => inferInstance) fun C => ?_
  refine Pc EByte y1 d1.safe 1 fun hlen1 => ?_
  refine Pc EByte y2 d1.wait 1 fun hlen2 => ?_
  refine Pc EInt y3 r1.roots 8 fun hlen3 => ?_
  refine Tx ?_
  refine Bx fun g1 => ?_
  refine Bx fun g2 => ?_
  refine Al fun g3 => ?_
  refine Tx ?_
  refine Cl (disk_Check_spec y1 y2 d1) fun _ => ?_
  refine Tx ?_
  refine Cd (b := ((disk_Check d1) != 0)) (fun hc1 => ?_) fun hc1 => ?_
  · have hc1p := bne_iff_ne.1 hc1
    refine Tx ?_
    refine Fc EByte ?_
    have hr1 : (disk_Put d1 r1) = ((⟨([] : List UInt8), ([] : List UInt8)⟩ : Disk), (disk_Check d1)) := by simp only [disk_Put, hc1, cond_true, cond_false]
    refine cw_ret ?_; rw [hr1]; exact Re ⟨(⟨none, 0⟩ : SlV), (⟨none, 0⟩ : SlV)⟩ (Va (Vt Vn))
  · have hc1p := eq_of_bne_false hc1
    have hdl := disk_Check_lens (eq_of_bne_false hc1)
    refine Tx ?_
    refine Cl (note_Print_spec y3 r1) fun _ => ?_
    refine Tx ?_
    refine Cd (b := (((note_Print r1).2) != 0)) (fun hc2 => ?_) fun hc2 => ?_
    · have hc2p := bne_iff_ne.1 hc2
      refine Tx ?_
      refine Fc EByte ?_
      have hr2 : (disk_Put d1 r1) = ((⟨([] : List UInt8), ([] : List UInt8)⟩ : Disk), (note_Print r1).2) := by simp only [disk_Put, hc1, hc2, cond_true, cond_false]
      refine cw_ret ?_; rw [hr2]; exact Re ⟨(⟨none, 0⟩ : SlV), (⟨none, 0⟩ : SlV)⟩ (Va (Vt Vn))
    · have hc2p := eq_of_bne_false hc2
      have hpl := Print_len r1
      refine Tx ?_
      refine rw_q rfl rfl rfl (q_lenS (a := (note_Print r1).1) rfl rfl (fun _ => rfl) und_9) ?_
      refine rw_q rfl rfl rfl (q_add rfl rfl (fun _ => rfl) rfl (fun _ => rfl) (fun _ => by omega)) ?_
      refine Tx ?_
      refine rw_q rfl rfl rfl (q_sub rfl rfl (fun _ => rfl) rfl (fun _ => rfl) (fun _ => by omega)) ?_
      refine Tx ?_
      refine rw_q rfl rfl rfl (q_sub rfl rfl (fun _ => rfl) rfl (fun _ => rfl) (fun _ => by omega)) ?_
      refine Tx ?_
      refine Cd (b := decide (((((note_Print r1).1).length : Int) + 1) > ((60000 - (d1.safe.length : Int)) - (d1.wait.length : Int)))) (fun hc3 => ?_) fun hc3 => ?_
      · have hc3p := of_decide_eq_true hc3
        refine Tx ?_
        refine Fc EByte ?_
        have hr3 : (disk_Put d1 r1) = ((⟨([] : List UInt8), ([] : List UInt8)⟩ : Disk), 2) := by simp only [disk_Put, hc1, hc2, hc3, cond_true, cond_false]
        refine cw_ret ?_; rw [hr3]; exact Re ⟨(⟨none, 0⟩ : SlV), (⟨none, 0⟩ : SlV)⟩ (Va (Vt Vn))
      · have hc3p := of_decide_eq_false hc3
        refine Tx ?_
        refine cw_join [4, 5] [false, true, true] (fun (i_ : SlV × Option Nat × SlV × Option Nat) => match i_ with | ⟨x1, b1, x2, b2⟩ => []) (fun (i_ : SlV × Option Nat × SlV × Option Nat) => match i_ with | ⟨x1, b1, x2, b2⟩ => [⟨g3, 47, [x1.val d1.safe.length, x2.val ((d1.wait ++ ((note_Print r1).1)) ++ [10]).length]⟩]) (fun (i_ : SlV × Option Nat × SlV × Option Nat) => match i_ with | ⟨x1, b1, x2, b2⟩ => [ownL EByte 5 x1 b1 d1.safe, ownL EByte 5 x2 b2 ((d1.wait ++ ((note_Print r1).1)) ++ [10])]) (fun (i_ : SlV × Option Nat × SlV × Option Nat) => match i_ with | ⟨x1, b1, x2, b2⟩ => []) (fun _ => True) (.cons rfl (.cons rfl (.nil _))) (.drop (.keep (.keep (.nil)))) ?_ ?_
        · refine cw_regionA (fun j => match j with | 7 => none | 9 => none | 11 => some [g3] | _ => some []) ?_
          refine Rb 0 [3,4,6,8] [1,2,5,7,9,10,11,12] rfl Qp ?_
          refine Rb 1 [3,4,6,8] [2,5,7,9,10,11,12] rfl Q1 ?_
          refine Rb 3 [2,6,8] [4,5,7,9,10,11,12] rfl Qp ?_
          refine Rb 4 [2,6,8] [5,7,9,10,11,12] rfl Q1 ?_
          refine Rb 6 [2,5,8] [7,9,10,11,12] rfl Qp ?_
          refine ra_two 2 8 Kr ?_ ?_
          · refine rw_callG (slices_Clone_UInt8_spec y1 d1.safe) (.an rfl rfl) (.inr (by simp [Lent.ids])) (guard_none rfl) rfl rfl rfl Kr rfl rfl Sm (.nil _) (.nil _) ?_
            intro x3
            refine ra_two 5 8 Kr ?_ ?_
            · refine rw_callG (slices_Clone_UInt8_spec y2 d1.wait) (.an rfl rfl) (.inr (by simp [Lent.ids])) (guard_none rfl) rfl rfl rfl Kr rfl rfl Sm (.nil _) (.nil _) ?_
              intro x4
              refine ra_two 7 8 Kr ?_ ?_
              · refine rw_appendS d1.wait ((note_Print r1).1) (b := x4.2) (.lo (x4.2 : Option Nat).toList rfl rfl) (fun g h => .inr (by simp [h])) (guard_none rfl) rfl rfl rfl rfl rfl rfl rfl und_9 (fun _ _ => Uo) rfl rfl rfl rfl rfl (by omega) fun x5 x5b => ?_
                refine ra_one 8 Kr ?_
                refine rw_bsliceL EByte [10] (.an rfl rfl) (guard_none rfl) rfl rfl rfl rfl rfl rfl rfl rfl rfl rfl rfl rfl rfl rfl rfl fun x6 x6b => ?_
                refine ra_one 9 Kr ?_
                refine rw_appendL EByte (d1.wait ++ ((note_Print r1).1)) [10] (b := x5b) (.lo (x5b : Option Nat).toList rfl rfl) (fun g h => .inr (by simp [h])) (guard_none rfl) rfl rfl rfl rfl rfl rfl rfl (fun _ _ => Uo) rfl rfl rfl rfl rfl rfl rfl (reads_ownL (e := 5) (b := x6b) Mm) (by show ((d1.wait ++ ((note_Print r1).1)).length + 1) * 1 ≤ 140737488355328; (try simp only [List.length_append, List.length_cons, List.length_nil]); omega) fun x7 x7b => ?_
                refine Ra 10 [] rfl Qp ?_
                refine ra_one 11 Kr ?_
                refine rw_stA (.an rfl rfl) (.inr (by simp)) (guard_none rfl) rfl rfl rfl rfl rfl rfl rfl rfl rfl Ub rfl ?_
                refine Ra 12 [] rfl Qp ?_
                refine ra_nil Kr ?_
                refine ⟨⟨x3.1, x3.2, x7, x7b⟩, trivial, Le4⟩
              · refine rw_bsliceL EByte [10] (.an rfl rfl) (guard_none rfl) rfl rfl rfl rfl rfl rfl rfl rfl rfl rfl rfl rfl rfl rfl rfl fun x8 x8b => ?_
                refine ra_one 7 Kr ?_
                refine rw_appendS d1.wait ((note_Print r1).1) (b := x4.2) (.lo (x4.2 : Option Nat).toList rfl rfl) (fun g h => .inr (by simp [h])) (guard_none rfl) rfl rfl rfl rfl rfl rfl rfl und_9 (fun _ _ => Uo) rfl rfl rfl rfl rfl (by omega) fun x9 x9b => ?_
                refine ra_one 9 Kr ?_
                refine rw_appendL EByte (d1.wait ++ ((note_Print r1).1)) [10] (b := x9b) (.lo (x9b : Option Nat).toList rfl rfl) (fun g h => .inr (by simp [h])) (guard_none rfl) rfl rfl rfl rfl rfl rfl rfl (fun _ _ => Uo) rfl rfl rfl rfl rfl rfl rfl (reads_ownL (e := 5) (b := x8b) Mm) (by show ((d1.wait ++ ((note_Print r1).1)).length + 1) * 1 ≤ 140737488355328; (try simp only [List.length_append, List.length_cons, List.length_nil]); omega) fun x10 x10b => ?_
                refine Ra 10 [] rfl Qp ?_
                refine ra_one 11 Kr ?_
                refine rw_stA (.an rfl rfl) (.inr (by simp)) (guard_none rfl) rfl rfl rfl rfl rfl rfl rfl rfl rfl Ub rfl ?_
                refine Ra 12 [] rfl Qp ?_
                refine ra_nil Kr ?_
                refine ⟨⟨x3.1, x3.2, x10, x10b⟩, trivial, Le4⟩
            · refine rw_bsliceL EByte [10] (.an rfl rfl) (guard_none rfl) rfl rfl rfl rfl rfl rfl rfl rfl rfl rfl rfl rfl rfl rfl rfl fun x11 x11b => ?_
              refine ra_one 5 Kr ?_
              refine rw_callG (slices_Clone_UInt8_spec y2 d1.wait) (.an rfl rfl) (.inr (by simp [Lent.ids])) (guard_none rfl) rfl rfl rfl Kr rfl rfl Sm (.nil _) (.nil _) ?_
              intro x12
              refine ra_one 7 Kr ?_
              refine rw_appendS d1.wait ((note_Print r1).1) (b := x12.2) (.lo (x12.2 : Option Nat).toList rfl rfl) (fun g h => .inr (by simp [h])) (guard_none rfl) rfl rfl rfl rfl rfl rfl rfl und_9 (fun _ _ => Uo) rfl rfl rfl rfl rfl (by omega) fun x13 x13b => ?_
              refine ra_one 9 Kr ?_
              refine rw_appendL EByte (d1.wait ++ ((note_Print r1).1)) [10] (b := x13b) (.lo (x13b : Option Nat).toList rfl rfl) (fun g h => .inr (by simp [h])) (guard_none rfl) rfl rfl rfl rfl rfl rfl rfl (fun _ _ => Uo) rfl rfl rfl rfl rfl rfl rfl (reads_ownL (e := 5) (b := x11b) Mm) (by show ((d1.wait ++ ((note_Print r1).1)).length + 1) * 1 ≤ 140737488355328; (try simp only [List.length_append, List.length_cons, List.length_nil]); omega) fun x14 x14b => ?_
              refine Ra 10 [] rfl Qp ?_
              refine ra_one 11 Kr ?_
              refine rw_stA (.an rfl rfl) (.inr (by simp)) (guard_none rfl) rfl rfl rfl rfl rfl rfl rfl rfl rfl Ub rfl ?_
              refine Ra 12 [] rfl Qp ?_
              refine ra_nil Kr ?_
              refine ⟨⟨x3.1, x3.2, x14, x14b⟩, trivial, Le4⟩
          · refine rw_bsliceL EByte [10] (.an rfl rfl) (guard_none rfl) rfl rfl rfl rfl rfl rfl rfl rfl rfl rfl rfl rfl rfl rfl rfl fun x15 x15b => ?_
            refine ra_one 2 Kr ?_
            refine rw_callG (slices_Clone_UInt8_spec y1 d1.safe) (.an rfl rfl) (.inr (by simp [Lent.ids])) (guard_none rfl) rfl rfl rfl Kr rfl rfl Sm (.nil _) (.nil _) ?_
            intro x16
            refine ra_one 5 Kr ?_
            refine rw_callG (slices_Clone_UInt8_spec y2 d1.wait) (.an rfl rfl) (.inr (by simp [Lent.ids])) (guard_none rfl) rfl rfl rfl Kr rfl rfl Sm (.nil _) (.nil _) ?_
            intro x17
            refine ra_one 7 Kr ?_
            refine rw_appendS d1.wait ((note_Print r1).1) (b := x17.2) (.lo (x17.2 : Option Nat).toList rfl rfl) (fun g h => .inr (by simp [h])) (guard_none rfl) rfl rfl rfl rfl rfl rfl rfl und_9 (fun _ _ => Uo) rfl rfl rfl rfl rfl (by omega) fun x18 x18b => ?_
            refine ra_one 9 Kr ?_
            refine rw_appendL EByte (d1.wait ++ ((note_Print r1).1)) [10] (b := x18b) (.lo (x18b : Option Nat).toList rfl rfl) (fun g h => .inr (by simp [h])) (guard_none rfl) rfl rfl rfl rfl rfl rfl rfl (fun _ _ => Uo) rfl rfl rfl rfl rfl rfl rfl (reads_ownL (e := 5) (b := x15b) Mm) (by show ((d1.wait ++ ((note_Print r1).1)).length + 1) * 1 ≤ 140737488355328; (try simp only [List.length_append, List.length_cons, List.length_nil]); omega) fun x19 x19b => ?_
            refine Ra 10 [] rfl Qp ?_
            refine ra_one 11 Kr ?_
            refine rw_stA (.an rfl rfl) (.inr (by simp)) (guard_none rfl) rfl rfl rfl rfl rfl rfl rfl rfl rfl Ub rfl ?_
            refine Ra 12 [] rfl Qp ?_
            refine ra_nil Kr ?_
            refine ⟨⟨x16.1, x16.2, x19, x19b⟩, trivial, Le4⟩
        · rintro ⟨x1, b1, x2, b2⟩ -
          simp only [List.cons_append, List.nil_append]
          (repeat refine cw_seq ?_)
          refine cw_le (le_freezeL EByte 5 x1 b1 d1.safe Uo) ?_
          refine cw_le (le_freezeL EByte 5 x2 b2 ((d1.wait ++ ((note_Print r1).1)) ++ [10]) Uo) ?_
          have hr4 : (disk_Put d1 r1) = ((⟨d1.safe, ((d1.wait ++ ((note_Print r1).1)) ++ [10])⟩ : Disk), 0) := by simp only [disk_Put, hc1, hc2, hc3, cond_true, cond_false]
          refine cw_ret ?_; rw [hr4]; exact Re ⟨x1, x2⟩ (Va (Vt Vn))

def disk_Sync (d1 : Disk) : Disk × Int :=
  (bif ((disk_Check d1) != 0) then ((⟨([] : List UInt8), ([] : List UInt8)⟩ : Disk), (disk_Check d1)) else (bif ((disk_Check (⟨([d1.safe, d1.wait].flatten), ([] : List UInt8)⟩ : Disk)) != 0) then ((⟨([] : List UInt8), ([] : List UInt8)⟩ : Disk), (disk_Check (⟨([d1.safe, d1.wait].flatten), ([] : List UInt8)⟩ : Disk))) else ((⟨([d1.safe, d1.wait].flatten), ([] : List UInt8)⟩ : Disk), 0)))
theorem disk_Sync_spec (y1 : SlV) (y2 : SlV) (d1 : Disk) : Does Tryz.prog 9 [.agg ⟨[y1.val d1.safe.length, y2.val d1.wait.length]⟩] [RdL EByte y1 d1.safe, RdL EByte y2 d1.wait, LibP Tryz.prog] (fun (X : SlV × SlV) => .tuple #[.agg ⟨[X.1.val (((disk_Sync d1).1).safe).length, X.2.val (((disk_Sync d1).1).wait).length]⟩, .int .i64 ((disk_Sync d1).2)]) (fun (X : SlV × SlV) => [RdL EByte X.1 (((disk_Sync d1).1).safe), RdL EByte X.2 (((disk_Sync d1).1).wait)]) := by
  refine does_of tab_ok Tryz.func9 rfl Tryz.ntmps9 Tryz.results9 rfl inferInstance (fun _ => inferInstance) fun C => ?_
  refine Pc EByte y1 d1.safe 1 fun hlen1 => ?_
  refine Pc EByte y2 d1.wait 1 fun hlen2 => ?_
  refine Tx ?_
  refine Bx fun g1 => ?_
  refine Al fun g2 => ?_
  refine Tx ?_
  refine Cl (disk_Check_spec y1 y2 d1) fun _ => ?_
  refine Tx ?_
  refine Cd (b := ((disk_Check d1) != 0)) (fun hc1 => ?_) fun hc1 => ?_
  · have hc1p := bne_iff_ne.1 hc1
    refine Tx ?_
    refine Fc EByte ?_
    have hr1 : (disk_Sync d1) = ((⟨([] : List UInt8), ([] : List UInt8)⟩ : Disk), (disk_Check d1)) := by simp only [disk_Sync, hc1, cond_true, cond_false]
    refine cw_ret ?_; rw [hr1]; exact Re ⟨(⟨none, 0⟩ : SlV), (⟨none, 0⟩ : SlV)⟩ (Va (Vt Vn))
  · have hc1p := eq_of_bne_false hc1
    have hdl := disk_Check_lens (eq_of_bne_false hc1)
    refine Tx ?_
    refine rw_bsliceL NBytes.E [(y1, d1.safe), (y2, d1.wait)] .sq (guard_none rfl) rfl rfl rfl rfl rfl rfl rfl rfl rfl rfl rfl rfl rfl rfl rfl fun x1 x1b => ?_
    refine rw_le (le_freezeL NBytes.E 45 x1 x1b [(y1, d1.safe), (y2, d1.wait)] Uo) ?_
    refine rw_fact (F := RdN NBytes x1 [d1.safe, d1.wait]) [RdL NBytes.E x1 [(y1, d1.safe), (y2, d1.wait)], RdL EByte y1 d1.safe, RdL EByte y2 d1.wait] Sm (fun M w h => RdN.of NBytes (hs := [(y1, d1.safe), (y2, d1.wait)]) rfl (h _ (.head _)) (allP_cons (allF_sub Sm h) (allP_cons (allF_sub Sm h) (fun p hp => by cases hp)))) ?_
    refine Cg (slices_Concat_UInt8_spec' x1 [d1.safe, d1.wait] (by simp only [List.flatten_cons, List.flatten_nil, List.length_append, List.length_nil, List.length_take]; omega)) fun x2 => ?_
    refine Rp rfl rfl rfl rfl ?_
    refine Al fun g3 => ?_
    refine Tx ?_
    refine Fr EByte ?_
    refine rw_callR (disk_Check_spec x2.1 (⟨none, 0⟩ : SlV) (⟨([d1.safe, d1.wait].flatten), ([] : List UInt8)⟩ : Disk)) .sq (guard_none rfl) rfl rfl rfl Kr rfl rfl (.own Mm (.fact Mm (.fact Mm (.nil _ _)))) ?_
    intro _
    refine Tx ?_
    refine Cd (b := ((disk_Check (⟨([d1.safe, d1.wait].flatten), ([] : List UInt8)⟩ : Disk)) != 0)) (fun hc2 => ?_) fun hc2 => ?_
    · have hc2p := bne_iff_ne.1 hc2
      refine Tx ?_
      have hr2 : (disk_Sync d1) = ((⟨([] : List UInt8), ([] : List UInt8)⟩ : Disk), (disk_Check (⟨([d1.safe, d1.wait].flatten), ([] : List UInt8)⟩ : Disk))) := by simp only [disk_Sync, hc1, hc2, cond_true, cond_false]
      refine cw_ret ?_; rw [hr2]; exact Re ⟨(⟨none, 0⟩ : SlV), (⟨none, 0⟩ : SlV)⟩ (Va (Vt Vn))
    · have hc2p := eq_of_bne_false hc2
      refine Tx ?_
      refine cw_le (le_freezeL EByte 5 x2.1 x2.2 ([d1.safe, d1.wait].flatten) Uo) ?_
      have hr3 : (disk_Sync d1) = ((⟨([d1.safe, d1.wait].flatten), ([] : List UInt8)⟩ : Disk), 0) := by simp only [disk_Sync, hc1, hc2, cond_true, cond_false]
      refine cw_ret ?_; rw [hr3]; exact Re ⟨x2.1, (⟨none, 0⟩ : SlV)⟩ (Va (Vt Vn))


def disk_Recover (d1 : Disk) : Disk × (List Rec) × Int :=
  (bif ((disk_Check d1) != 0) then ((⟨([] : List UInt8), ([] : List UInt8)⟩ : Disk), ([] : List Rec), (disk_Check d1)) else ((⟨([d1.safe, (d1.wait.take (((disk_lines d1.wait (60 - (((disk_lines d1.safe 60).1).length : Int))).2.1).toNat))].flatten), ([] : List UInt8)⟩ : Disk), ((disk_lines d1.safe 60).1 ++ (disk_lines d1.wait (60 - (((disk_lines d1.safe 60).1).length : Int))).1), 0))
theorem disk_Recover_spec (y1 : SlV) (y2 : SlV) (d1 : Disk) : Does Tryz.prog 10 [.agg ⟨[y1.val d1.safe.length, y2.val d1.wait.length]⟩] [RdL EByte y1 d1.safe, RdL EByte y2 d1.wait, LibP Tryz.prog] (fun (X : SlV × SlV × SlV) => .tuple #[.agg ⟨[X.1.val (((disk_Recover d1).1).safe).length, X.2.1.val (((disk_Recover d1).1).wait).length]⟩, X.2.2.val ((disk_Recover d1).2.1).length, .int .i64 ((disk_Recover d1).2.2)]) (fun (X : SlV × SlV × SlV) => [RdL EByte X.1 (((disk_Recover d1).1).safe), RdL EByte X.2.1 (((disk_Recover d1).1).wait), RdN NRec X.2.2 ((disk_Recover d1).2.1)]) := by
  refine does_of tab_ok Tryz.func10 rfl Tryz.ntmps10 Tryz.results10 rfl inferInstance (fun _ => inferInstance) fun C => ?_
  refine Pc EByte y1 d1.safe 1 fun hlen1 => ?_
  refine Pc EByte y2 d1.wait 1 fun hlen2 => ?_
  refine Tx ?_
  refine Bx fun g1 => ?_
  refine Al fun g2 => ?_
  refine Tx ?_
  refine Cl (disk_Check_spec y1 y2 d1) fun _ => ?_
  refine Tx ?_
  refine Cd (b := ((disk_Check d1) != 0)) (fun hc1 => ?_) fun hc1 => ?_
  · have hc1p := bne_iff_ne.1 hc1
    refine Tx ?_
    refine Fc EByte ?_
    refine cw_fact (F := RdN NRec ⟨none, 0⟩ ([] : List Rec)) [] (.nil _) (fun M w _ => RdN.nil _ M w) ?_
    have hr1 : (disk_Recover d1) = ((⟨([] : List UInt8), ([] : List UInt8)⟩ : Disk), ([] : List Rec), (disk_Check d1)) := by simp only [disk_Recover, hc1, cond_true, cond_false]
    refine cw_ret ?_; rw [hr1]; exact Re ⟨(⟨none, 0⟩ : SlV), (⟨none, 0⟩ : SlV), (⟨none, 0⟩ : SlV)⟩ (Va (Vt (Vt Vn)))
  · have hc1p := eq_of_bne_false hc1
    have hdl := disk_Check_lens (eq_of_bne_false hc1)
    refine Tx ?_
    refine rw_q rfl rfl rfl (q_bstr (X := y1) (l := d1.safe) und_45 und_5 und_9 rfl rfl (fun _ => rfl) Mm) ?_
    refine Cg (disk_lines_spec d1.safe 60 (by first | assumption | omega)) fun x1 => ?_
    have hl1 := disk_lines_ok d1.safe 60
    refine Tx ?_
    refine rw_q rfl rfl rfl (q_bstr (X := y2) (l := d1.wait) und_45 und_5 und_9 rfl rfl (fun _ => rfl) Mm) ?_
    refine Tx ?_
    refine rw_q rfl rfl rfl (q_sub rfl rfl (fun _ => rfl) rfl (fun _ => rfl) (fun _ => by omega)) ?_
    refine Cg (disk_lines_spec d1.wait (60 - (((disk_lines d1.safe 60).1).length : Int)) (by first | assumption | omega)) fun x2 => ?_
    have hl2 := disk_lines_ok d1.wait (60 - ((disk_lines d1.safe 60).1.length : Int))
    refine Tx ?_
    (repeat refine cw_seq ?_); refine cw_regionA (fun j => match j with | 11 => some x1.2.1.toList | 12 => some [g2] | _ => some []) ?_
    refine Rb 0 [2,3,4,5,9,10] [1,6,7,8,11,12,13,14] rfl Qp ?_
    refine Rb 1 [2,3,4,5,9,10] [6,7,8,11,12,13,14] rfl Q1 ?_
    refine Rb 2 [4,9,10] [3,5,6,7,8,11,12,13,14] rfl Qp ?_
    refine Rb 3 [4,9,10] [5,6,7,8,11,12,13,14] rfl Q1 ?_
    refine Rb 4 [9,10] [5,6,7,8,11,12,13,14] rfl Qp ?_
    refine Rb 5 [9,10] [6,7,8,11,12,13,14] rfl (q_take EByte (((disk_lines d1.wait (60 - (((disk_lines d1.safe 60).1).length : Int))).2.1).toNat) rfl rfl (fun _ => rfl) rfl (fun _ => rfl) rfl rfl Mm (fun _ => by omega) (fun _ => by omega)) ?_
    refine rw_fact (F := RdL EByte y2 (d1.wait.take (((disk_lines d1.wait (60 - (((disk_lines d1.safe 60).1).length : Int))).2.1).toNat))) [RdL EByte y2 d1.wait] Sm (fun M w h => (allF1 h).take _) ?_
    refine Rb 9 [6,7,8,10] [11,12,13,14] rfl Qp ?_
    refine Rb 10 [6,7,8] [11,12,13,14] rfl Qp ?_
    refine ra_one 6 Kr ?_
    refine rw_bsliceL NBytes.E [(y1, d1.safe), (y2, (d1.wait.take (((disk_lines d1.wait (60 - (((disk_lines d1.safe 60).1).length : Int))).2.1).toNat)))] (.an rfl rfl) (guard_none rfl) rfl rfl rfl rfl rfl rfl rfl rfl rfl rfl rfl rfl rfl rfl rfl fun x3 x3b => ?_
    refine ra_one 7 Kr ?_
    refine rw_le (le_freezeL NBytes.E 45 x3 x3b [(y1, d1.safe), (y2, (d1.wait.take (((disk_lines d1.wait (60 - (((disk_lines d1.safe 60).1).length : Int))).2.1).toNat)))] Uo) ?_
    refine rw_fact (F := RdN NBytes x3 [d1.safe, (d1.wait.take (((disk_lines d1.wait (60 - (((disk_lines d1.safe 60).1).length : Int))).2.1).toNat))]) [RdL NBytes.E x3 [(y1, d1.safe), (y2, (d1.wait.take (((disk_lines d1.wait (60 - (((disk_lines d1.safe 60).1).length : Int))).2.1).toNat)))], RdL EByte y1 d1.safe, RdL EByte y2 (d1.wait.take (((disk_lines d1.wait (60 - (((disk_lines d1.safe 60).1).length : Int))).2.1).toNat))] Sm (fun M w h => RdN.of NBytes (hs := [(y1, d1.safe), (y2, (d1.wait.take (((disk_lines d1.wait (60 - (((disk_lines d1.safe 60).1).length : Int))).2.1).toNat)))]) rfl (h _ (.head _)) (allP_cons (allF_sub Sm h) (allP_cons (allF_sub Sm h) (fun p hp => by cases hp)))) ?_
    refine rw_callG (slices_Concat_UInt8_spec' x3 [d1.safe, (d1.wait.take (((disk_lines d1.wait (60 - (((disk_lines d1.safe 60).1).length : Int))).2.1).toNat))] (by simp only [List.flatten_cons, List.flatten_nil, List.length_append, List.length_nil, List.length_take]; omega)) (.an rfl rfl) (.inr (by simp [Lent.ids])) (guard_none rfl) rfl rfl rfl Kr rfl rfl Sm (.nil _) (.nil _) ?_
    intro x4
    refine ra_q (.an (i := 8) (js := [11]) rfl Kr Kr Kr Kr) (SplitB.all _) (by intro g hg; simp only [List.mem_append, List.mem_singleton, List.not_mem_nil, or_false, false_or, Option.mem_toList, Option.mem_def, List.append_nil] at hg; first | exact .inr ⟨ownL NRec.E 43 x1.1 x1.2.1 (zipG x1.2.2 0 ((disk_lines d1.safe 60).1)), Mm, hg⟩) rfl rfl rfl (q_pev rfl (fun _ => rfl)) ?_
    refine ra_one 11 Kr ?_
    refine rw_appendN NRec x1.2.2 x2.2.2 ((disk_lines d1.safe 60).1) ((disk_lines d1.wait (60 - (((disk_lines d1.safe 60).1).length : Int))).1) (b := x1.2.1) (.an rfl rfl) (fun g h => .inr (by simp [h])) (guard_none rfl) rfl rfl rfl rfl rfl rfl rfl (fun _ _ => Uo) rfl rfl rfl rfl rfl rfl rfl (reads_ownN (e := 43) (b := x2.2.1) Mm) (by show (((disk_lines d1.safe 60).1).length + ((disk_lines d1.wait (60 - (((disk_lines d1.safe 60).1).length : Int))).1).length) * 104 ≤ 140737488355328; (try simp only [List.length_append, List.length_cons, List.length_nil]); omega) fun x5 x5b => ?_
    refine rw_fact (F := FactsG NRec (appG x1.2.2 ((disk_lines d1.safe 60).1).length x2.2.2) ((disk_lines d1.safe 60).1 ++ (disk_lines d1.wait (60 - (((disk_lines d1.safe 60).1).length : Int))).1)) [FactsG NRec x1.2.2 ((disk_lines d1.safe 60).1), FactsG NRec x2.2.2 ((disk_lines d1.wait (60 - (((disk_lines d1.safe 60).1).length : Int))).1)] Sm (fun M w h => FactsG.app NRec (h _ (.head _)) (h _ (.tail _ (.head _)))) ?_
    refine ra_one 12 Kr ?_
    refine rw_stA (.an rfl rfl) (.inr (by simp)) (guard_none rfl) rfl rfl rfl rfl rfl rfl rfl rfl rfl Ub rfl ?_
    refine Ra 13 [] rfl Qp ?_
    refine Ra 14 [] rfl Qp ?_
    refine ra_nil Kr ?_
    (repeat refine cw_seq ?_)
    refine cw_le (le_freezeL EByte 5 x4.1 x4.2 ([d1.safe, (d1.wait.take (((disk_lines d1.wait (60 - (((disk_lines d1.safe 60).1).length : Int))).2.1).toNat))].flatten) Uo) ?_
    refine Fc EByte ?_
    refine cw_le (le_freezeL NRec.E 43 x5 x5b (zipG (appG x1.2.2 ((disk_lines d1.safe 60).1).length x2.2.2) 0 ((disk_lines d1.safe 60).1 ++ (disk_lines d1.wait (60 - (((disk_lines d1.safe 60).1).length : Int))).1)) Uo) ?_
    refine cw_fact (F := RdN NRec x5 ((disk_lines d1.safe 60).1 ++ (disk_lines d1.wait (60 - (((disk_lines d1.safe 60).1).length : Int))).1)) [RdG NRec x5 (appG x1.2.2 ((disk_lines d1.safe 60).1).length x2.2.2) ((disk_lines d1.safe 60).1 ++ (disk_lines d1.wait (60 - (((disk_lines d1.safe 60).1).length : Int))).1), FactsG NRec (appG x1.2.2 ((disk_lines d1.safe 60).1).length x2.2.2) ((disk_lines d1.safe 60).1 ++ (disk_lines d1.wait (60 - (((disk_lines d1.safe 60).1).length : Int))).1)] Sm (fun M w h => RdN.ofG NRec (h _ (.head _)) (h _ (.tail _ (.head _)))) ?_
    have hr2 : (disk_Recover d1) = ((⟨([d1.safe, (d1.wait.take (((disk_lines d1.wait (60 - (((disk_lines d1.safe 60).1).length : Int))).2.1).toNat))].flatten), ([] : List UInt8)⟩ : Disk), ((disk_lines d1.safe 60).1 ++ (disk_lines d1.wait (60 - (((disk_lines d1.safe 60).1).length : Int))).1), 0) := by simp only [disk_Recover, hc1, cond_true, cond_false]
    refine cw_ret ?_; rw [hr2]; exact Re ⟨x4.1, (⟨none, 0⟩ : SlV), x5⟩ (Va (Vt (Vt Vn)))


end Go.Proofs.YtccmadehnoihnaaGreatDoor
