/- Part of this claim. No condition. -/
import Derived.Test.YtaiefncoholnnaaDoorTData4
import Derived.Test.YtaiefncoholnnaaDoorTShelf
import Derived.Test.YtaiefncoholnnaaDoorFwLb
import Derived.Lib.Join
import Derived.Lib.ItoaLen
set_option linter.unusedVariables false
set_option linter.unusedSimpArgs false
namespace Go.Proofs.YtaiefncoholnnaaDoor
open Go Go.Proofs.YtaiefncoholnnaaDoor.Fw Go.Proofs Go.RowKit Go.Sort

/-! ### The contracts of strings and strconv, as the walks meet them -/
theorem flat_str : ∀ l : List Str, l.flatMap EStr.enc = l.map sV
  | [] => rfl
  | a :: r => by rw [List.flatMap_cons, flat_str r]; rfl
theorem below_grown (w : World) (k : Nat) (os : Array Obj) : Below w.heap.size w (grow (w.drewN k) os) :=
  ⟨rfl, rfl, rfl, by show w.heap.size ≤ (w.heap ++ os).size; rw [Array.size_append]; omega, fun j hj => heap_grow_old (w.drewN k) os hj⟩
theorem lib_Itoa (n : Int) (h : -9223372036854775808 ≤ n ∧ n ≤ 9223372036854775807) : Does Tryd.prog 31 [.int .i64 n] [LibP Tryd.prog] (fun (_ : Unit) => sV (Lib.itoa n)) (fun (_ : Unit) => []) :=
  does_lib (fun _ => inferInstance) fun M w _ hp => (Tryd.strconv_Itoa n h.1 h.2 w (hp _ (.head _)).2.tab).mono fun e w' ⟨he, k, os, hw⟩ => ⟨(), he, hw ▸ below_grown _ _ _, fun F hF => by cases hF⟩
theorem lib_FormatInt (n b : Int) (hb : b = 10) (h : -9223372036854775808 ≤ n ∧ n ≤ 9223372036854775807) : Does Tryd.prog 43 [.int .i64 n, .int .i64 b] [LibP Tryd.prog] (fun (_ : Unit) => sV (Lib.itoa n)) (fun (_ : Unit) => []) := by
  subst hb
  exact does_lib (fun _ => inferInstance) fun M w _ hp => (Tryd.strconv_FormatInt_10 n h.1 h.2 w (hp _ (.head _)).2.tab).mono fun e w' ⟨he, k, os, hw⟩ => ⟨(), he, hw ▸ below_grown _ _ _, fun F hF => by cases hF⟩
theorem lib_Atoi (t : Str) (h : t.length ≤ 281474976710656) : Does Tryd.prog 35 [sV t] [LibP Tryd.prog] (fun (X : Nat) => .tuple #[.int .i64 (atv t), eV (ate t) 97 (.pointer (some ⟨X, 0, none⟩))]) (fun (_ : Nat) => []) :=
  does_lib (fun _ => inferInstance) fun M w _ hp => by
    have hs := size_sV t
    obtain ⟨_, _, ⟨tp, p, h1⟩, ⟨tp', p', h2⟩⟩ := (hp _ (.head _)).2
    cases he : Lib.atoiAll t with
    | ok v =>
      refine (Tryd.strconv_Atoi_ok ⟨t.toArray⟩ (by rw [hs]; omega) v he w).mono fun e w' ⟨h3, h4⟩ => ⟨0, by rw [h3, atv, ate, he]; rfl, ?_, fun F hF => by cases hF⟩
      rcases h4 with rfl | ⟨u, rfl⟩
      · exact Below.refl _ _
      · exact below_bytes _ _ _
    | range =>
      exact (Any.strconv_Atoi_range_var Tryd.laysC172 ⟨t.toArray⟩ (by rw [hs]; omega) he tp' p' w h2).mono fun e w' ⟨N, h3, _, _, h5⟩ => ⟨N, by rw [h3, atv, ate, he]; rfl, h5, fun F hF => by cases hF⟩
    | _ =>
      exact (Any.strconv_Atoi_syntax_var Tryd.laysC172 ⟨t.toArray⟩ (by rw [hs]; omega) he tp p w h1).mono fun e w' ⟨N, h3, _, _, h5⟩ => ⟨N, by rw [h3, atv, ate, he]; rfl, h5, fun F hF => by cases hF⟩
theorem lib_ParseInt (t : Str) (b c : Int) (hb : b = 10 ∧ c = 64) (h : t.length ≤ 281474976710656) : Does Tryd.prog 42 [sV t, .int .i64 b, .int .i64 c] [LibP Tryd.prog] (fun (X : Nat) => .tuple #[.int .i64 (ptv t), eV (ate t) 97 (.pointer (some ⟨X, 0, none⟩))]) (fun (_ : Nat) => []) := by
  obtain ⟨rfl, rfl⟩ := hb
  exact does_lib (fun _ => inferInstance) fun M w _ hp => by
    have hs := size_sV t
    have hpt := Lib.parseIntB_64 t
    obtain ⟨_, _, ⟨tp, p, h1⟩, ⟨tp', p', h2⟩⟩ := (hp _ (.head _)).2
    cases he : Lib.atoiAll t with
    | ok v =>
      refine (Tryd.strconv_ParseInt_10_at64_ok ⟨t.toArray⟩ (by rw [hs]; omega) v (hpt.trans he) w).mono fun e w' ⟨h3, h4⟩ => ⟨0, by rw [h3, ptv, ate, he]; rfl, ?_, fun F hF => by cases hF⟩
      rcases h4 with rfl | ⟨u, rfl⟩
      · exact Below.refl _ _
      · exact below_bytes _ _ _
    | range =>
      exact (Any.strconv_ParseInt_10_at64_range_var Tryd.laysC174 ⟨t.toArray⟩ (by rw [hs]; omega) (hpt.trans he) tp' p' w h2).mono fun e w' ⟨N, h3, _, _, h5⟩ => ⟨N, by rw [h3, ptv, ate, he]; rfl, h5, fun F hF => by cases hF⟩
    | _ =>
      exact (Any.strconv_ParseInt_10_at64_syntax_var Tryd.laysC174 ⟨t.toArray⟩ (by rw [hs]; omega) (hpt.trans he) tp p w h1).mono fun e w' ⟨N, h3, _, _, h5⟩ => ⟨N, by rw [h3, ptv, ate, he]; rfl, h5, fun F hF => by cases hF⟩

theorem lib_len {M : Nat → Prop} {w : World} (h : LibP Tryd.prog M w) : ∃ m, w.cell? ⟨2, 0, none⟩ = some (.int .i64 m) := by
  obtain ⟨g, m, hg, hc⟩ := h.2.len
  obtain rfl := Option.some.inj ((show Tryd.prog.globalNamed "internal/bytealg.MaxLen" = some 2 by kernel_rfl).symm.trans hg)
  exact ⟨m, hc⟩

theorem lib_Split (s sep : Str) (hs : sep = [32]) (h : s.length < 4294967281) : Does Tryd.prog 34 [sV s, sV sep] [LibP Tryd.prog] (fun (X : SlV) => X.val (spl 32 s).length) (fun (X : SlV) => [RdL EStr X (spl 32 s)]) := by
  subst hs
  exact does_lib (fun _ => inferInstance) fun M w hM hp => by
    obtain ⟨m, hm⟩ := lib_len (hp _ (.head _))
    refine (Tryd.strings_Split ⟨s.toArray⟩ ⟨#[32]⟩ m w (by rw [size_sV]; exact h) hm (by decide)).mono fun e w' ⟨h1, h2⟩ => ?_
    have hl := splitB_spl 32 s
    have hlen : Lib.countB ⟨s.toArray⟩ ⟨#[32]⟩ + 1 = (spl 32 s).length := by
      have h3 := congrArg List.length hl
      rw [List.length_map, List.length_map] at h3
      rw [← h3, Lib.splitB_all ⟨#[32]⟩ (by decide) 0 _ _ rfl]
    rw [hl] at h2
    rw [hlen] at h1
    subst h2
    have hb := (spl_len 32 s).2
    refine ⟨⟨some ⟨w.heap.size, 0, none⟩, (spl 32 s).length⟩, h1, below_alloc _ _, fun F hF => ?_⟩
    rw [List.mem_singleton] at hF
    subst hF
    exact rd_newrow hM _ _ (by omega)

theorem lib_Cut {c : UInt8} (s sep : Str) (hs : sep = [c]) (h : s.length < 4294967281) : Does Tryd.prog 41 [sV s, sV sep] [LibP Tryd.prog] (fun (_ : Unit) => .tuple #[sV (cutc c s).1, sV (cutc c s).2.1, .bool (cutc c s).2.2]) (fun (_ : Unit) => []) := by
  subst hs
  exact does_lib (fun _ => inferInstance) fun M w hM hp => by
    obtain ⟨m, hm⟩ := lib_len (hp _ (.head _))
    refine (Tryd.strings_Cut ⟨s.toArray⟩ ⟨#[c]⟩ m w (by rw [size_sV]; exact h) hm).mono fun e w' ⟨h1, n, h2⟩ => ⟨(), ?_, h2 ▸ below_drewN n, fun F hF => by cases hF⟩
    rw [h1, show Lib.cut (ByteArray.mk s.toArray).data.toList (ByteArray.mk #[c]).data.toList = cutc c s from cut_cutc c s]

theorem lib_HasSuffix (s p : Str) (h : s.length ≤ 9223372036854775807) : Does Tryd.prog 65 [sV s, sV p] [] (fun (_ : Unit) => .bool (Lib.hasSuffix s p)) (fun (_ : Unit) => []) :=
  does_lib (fun _ => inferInstance) fun M w hM hp => by
    refine (Tryd.strings_HasSuffix ⟨s.toArray⟩ ⟨p.toArray⟩ w (by rw [size_sV]; exact h)).mono fun e w' ⟨h1, h2⟩ => ⟨(), h1, h2 ▸ Below.refl _ _, fun F hF => by cases hF⟩

theorem lib_Join (X : SlV) (b : Option Nat) (l : List Str) (sep : Str) (h : (Lib.join l sep).length ≤ 140737488355328) : DoesG Tryd.prog 38 [X.val l.length, sV sep] [] ⟨[], [ownL EStr 9 X b l]⟩ (fun (_ : Unit) => sV (Lib.join l sep)) (fun (_ : Unit) => []) (fun (_ : Unit) => ⟨[], [ownL EStr 9 X b l]⟩) where
  st _ := inferInstance
  ok C hB hw := by
    have fin : ∀ {w' : World}, Below C.w0.heap.size C.w0 w' → WOk C ⟨0, [], [], [ownL EStr 9 X b l], []⟩ w' := fun hb => hw.grow hb
    have ho := hw.ow _ (.head _)
    obtain ⟨h1, ⟨h2, h3⟩, h4⟩ := ho
    simp only at h1 h2 h3 h4
    cases hb : b with
    | none =>
      rw [hb] at h4 fin
      obtain ⟨h0, A, hA⟩ := h4
      have hl : l = [] := List.eq_nil_of_length_eq_zero h0
      subst hl
      have hx : X.val ([] : List Str).length = .slice A 0 0 := hA
      rw [hx]
      exact (Tryd.strings_Join_none A 0 ⟨sep.toArray⟩ C.w0).mono fun e w' ⟨h5, h6⟩ => ⟨(), h5, h6 ▸ fin (Below.refl _ _)⟩
    | some g =>
      rw [hb] at h4 fin
      obtain ⟨hg, cap, cur, hv, hh, hnc, hcap, hcs, htake⟩ := h4
      have hx : X.val l.length = .slice (some ⟨g, 0, none⟩) l.length cap := hv
      have hm : ((l.map fun s => (⟨s.toArray⟩ : ByteArray)).map (·.data.toList)) = l := by rw [List.map_map]; exact List.map_id'' (fun s => rfl) l
      have hml : (l.map fun s => (⟨s.toArray⟩ : ByteArray)).length = l.length := List.length_map _
      have := Tryd.strings_Join g 0 cap (l.map fun s => ⟨s.toArray⟩) ⟨sep.toArray⟩ C.w0 (fun j x hj => by
        rw [List.getElem?_map] at hj
        cases hlj : l[j]? with
        | none => rw [hlj] at hj; cases hj
        | some s =>
          rw [hlj] at hj
          simp only [Option.map_some, Option.some.injEq] at hj
          subst hj
          have hlt := (List.getElem?_eq_some_iff.1 hlj).1
          have hfl : l.flatMap EStr.enc = l.map sV := flat_str l
          have hc : cur.toList[j]? = some (sV s) := by
            have h9 : (cur.toList.take (l.length * EStr.esz))[j]? = some (sV s) := by
              rw [htake, hfl, List.getElem?_map, hlj]; rfl
            rw [List.getElem?_take] at h9
            rw [if_pos (by show j < l.length * 1; omega)] at h9
            exact h9
          rw [Nat.zero_add]
          simp only [World.cell?, hh]
          rw [Array.getElem?_toList] at hc
          exact hc) (heap_lt hh) (by rw [hml]; have : l.length * 16 ≤ 140737488355328 := h3; omega) (by rw [hml]; exact hnc) (by rw [hm]; exact h)
      rw [hml] at this
      rw [hx]
      refine this.mono fun e w' ⟨h5, h6⟩ => ⟨(), ?_, fin h6⟩
      rw [h5, hm]
end Go.Proofs.YtaiefncoholnnaaDoor
