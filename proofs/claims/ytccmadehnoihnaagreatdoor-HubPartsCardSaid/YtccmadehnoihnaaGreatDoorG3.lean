/- Part of this claim. No condition. -/
import Derived.Test.YtccmadehnoihnaaGreatDoorG2
import Derived.Test.YtccmadehnoihnaaGreatDoorProg
import Derived.KernelRfl
import Derived.Lib.ConvBytes
import Derived.Lib.Strings
import Derived.Lib.AppendStr
import Derived.Laws.IdiomStrings
set_option linter.unusedVariables false
set_option linter.unusedSimpArgs false
namespace Go.Proofs.YtccmadehnoihnaaGreatDoor.Fw
open Go Go.RowKit

section
variable {P : Program} {T : Tab} {C : Cx} {ops : Array Oper} {o : Oper} {r r' : RS} {s : St} {Q : Post} {N : Nat} {SL : Slots} {BL : List Blk} {OW : List Own} {FA : List Pred} {c : Code}

theorem eq_of_bne_false {α : Type} [BEq α] [LawfulBEq α] {a b : α} (h : (a != b) = false) : a = b := by simpa using h

/-! ### Ways that meet again -/
def joinQ {ι : Type} (C : Cx) (J : ι → St) (inv : ι → Prop) (Q : Post) : Post
  | .normal, s' => ∃ i, inv i ∧ Le C s' (J i)
  | e, s' => Q e s'

theorem cw_joinQ {ι : Type} (J : ι → St) (inv : ι → Prop) {y : Code} (h : CW P T C c s (joinQ C J inv Q)) (hj : ∀ i, inv i → CW P T C y (J i) Q) : CW P T C c s (thenQ P T C y Q) := fun hT a w hr =>
  Code.wp_mono (fun e a w hq => by
    cases e with
    | normal => obtain ⟨s', ⟨i, h1, h2⟩, h3⟩ := hq; exact ⟨s', cw_le h2 (hj i h1), h3⟩
    | exit i => exact hq
    | ret => exact hq
    | goto l => exact hq.elim
    | panic c => exact hq.elim
    | outgrown => exact hq.elim) (h hT a w hr)

/-- Ways that meet again: some slots and blocks stay, the others are told. -/
theorem cw_join {ι : Type} (keep : List Nat) (mask : List Bool) (mS : ι → Slots) (mB : ι → List Blk) (mO : ι → List Own) (mF : ι → List Pred) (inv : ι → Prop) {y : Code} {SL' : Slots} {BL' : List Blk}
    (_hsel : Sel SL keep SL') (_hB : SelB BL mask BL')
    (h : CW P T C c ⟨N, SL, BL, OW, FA⟩ (joinQ C (fun i => ⟨N, mS i ++ SL', mB i ++ BL', mO i, mF i ++ FA⟩) inv Q))
    (hj : ∀ i, inv i → CW P T C y ⟨N, mS i ++ SL', mB i ++ BL', mO i, mF i ++ FA⟩ Q) : CW P T C c ⟨N, SL, BL, OW, FA⟩ (thenQ P T C y Q) :=
  cw_joinQ _ inv h hj

/-! ### Owned slices, as lists -/
abbrev ownL {α : Type} (E : El α) (e : TypeId) (X : SlV) (b : Option Nat) (l : List α) : Own := ⟨X.val l.length, b, e, E.esz, E.by_, l.length, l.flatMap E.enc⟩

theorem le_nilL {α : Type} (E : El α) (e : TypeId) : Le C ⟨N, SL, BL, OW, FA⟩ ⟨N, SL, BL, ownL E e ⟨none, 0⟩ none ([] : List α) :: OW, FA⟩ := le_nil e E.esz E.by_

theorem le_freezeL {α : Type} (E : El α) (e : TypeId) (X : SlV) (b : Option Nat) (l : List α) {ow' : List Own} (hu : UpdO OW (ownL E e X b l) [] ow') : Le C ⟨N, SL, BL, OW, FA⟩ ⟨N, SL, BL, ow', RdL E X l :: FA⟩ :=
  le_freeze E l hu rfl rfl rfl rfl

theorem reads_ownL {α : Type} {E : El α} {e : TypeId} {X : SlV} {b : Option Nat} {l : List α} (hm : ownL E e X b l ∈ OW) : Reads ⟨N, SL, BL, OW, FA⟩ C E.esz (X.val l.length) l.length (l.flatMap E.enc) :=
  reads_own (q := ownL E e X b l) hm fun u hu => by
    obtain ⟨a, _, ha⟩ := List.mem_flatMap.1 hu
    exact E.one a u ha

theorem reads_rdL {α : Type} {E : El α} {X : SlV} {l : List α} (hm : RdL E X l ∈ FA) : Reads ⟨N, SL, BL, OW, FA⟩ C E.esz (X.val l.length) l.length (l.flatMap E.enc) :=
  reads_rd hm rfl rfl

theorem rw_appendL {α : Type} (E : El α) (l m : List α) {e : TypeId} {X : SlV} {b : Option Nat} {d t : Nat} {x y : Operand} {g0 g1 : Bool} {v : Value} {z : List Value} {agg : Bool} {ow' : SlV → Option Nat → List Own} {D : List Nat} (hf : Front ops r o D r') (hbD : ∀ g, b = some g → (∃ l, r = .sq l) ∨ g ∈ D) (hg : Guard ops SL o true) (hd : o.dst = some d) (hn : Nat.blt d N = true)
    (ho : o.op = .call ⟨.builtin .append, ⟨[x, y]⟩, ⟨[t, t]⟩⟩) (hx : ev SL x = some (g0, X.val l.length)) (hg0 : g0 = true) (hy : ev SL y = some (g1, v)) (hg1 : g1 = true)
    (hu : ∀ (X' : SlV) b', UpdO OW (ownL E e X b l) [ownL E e X' b' (l ++ m)] (ow' X' b'))
    (ht : T.slc t = some e) (hz : T.siz e = some (E.esz, agg)) (hzz : T.zer e = some z) (hzl : z.length = E.esz) (hby : T.byt e = some E.by_) (hpos : Nat.blt 0 E.esz = true) (hbp : Nat.blt 0 E.by_ = true)
    (hr : Reads ⟨N, SL, BL, OW, FA⟩ C E.esz v m.length (m.flatMap E.enc)) (hb : (l.length + m.length) * E.by_ ≤ 140737488355328)
    (h : ∀ (X' : SlV) (b' : Option Nat), RW P T C ops r' ⟨N, (d, .v (X'.val (l ++ m).length)) :: SL, BL, ow' X' b', FA⟩ Q) : RW P T C ops r ⟨N, SL, BL, OW, FA⟩ Q := by
  have e1 : (l ++ m).length = l.length + m.length := by simp
  have e2 : (l ++ m).flatMap E.enc = l.flatMap E.enc ++ m.flatMap E.enc := by simp
  have hbp := Nat.le_of_ble_eq_true hbp
  have h63 : l.length + m.length ≤ 9223372036854775807 := by
    have := Nat.le_mul_of_pos_right (l.length + m.length) hbp
    omega
  refine rw_append (q := ownL E e X b l) (ow' := ow') hf hbD hg hd hn ho hx hg0 hy hg1 (fun X' b' => ?_) ht hz hzz hzl hby hpos hr hb h63 (fun X' b' => ?_)
  · have := hu X' b'
    rw [ownL, ownL, e1, e2] at this
    exact this
  · have := h X' b'
    rw [e1] at this
    exact this

theorem rw_bsliceL {α : Type} (E : El α) (l : List α) {D : List Nat} {d t e n : Nat} {b g : Bool} {parts : List (Nat × Operand)} {vs : List (Nat × Value)} {z : List Value} (hf : Front ops r o D r') (hg : Guard ops SL o true) (hd : o.dst = some d) (hn : Nat.blt d N = true) (ho : o.op = .buildSlice t n ⟨parts⟩)
    (ht : T.slc t = some e) (hz : T.siz e = some (E.esz, b)) (hzz : T.zer e = some z) (hzl : z.length = E.esz) (hby : T.byt e = some E.by_) (hnb : Nat.ble (n * E.by_) 140737488355328 = true) (hpos : Nat.blt 0 E.esz = true) (he : evp SL parts = some (g, vs)) (hgt : g = true) (hnl : n = l.length) (hfill : fillL ((List.range n).map fun i => (i * E.esz, E.esz)) (zerosL z (n * E.esz)) vs = some (l.flatMap E.enc)) (hsm : Nat.ble (n * E.esz) 16777216 = true)
    (h : ∀ (X : SlV) (b' : Option Nat), RW P T C ops r' ⟨N, (d, .v (X.val l.length)) :: SL, BL, ownL E e X b' l :: OW, FA⟩ Q) : RW P T C ops r ⟨N, SL, BL, OW, FA⟩ Q := by
  subst hnl
  exact rw_bslice hf hg hd hn ho ht hz hzz hzl hby hnb hpos he hgt hfill (flatMap_len l fun a _ => E.len a) hsm h

/-! ### Cuts of what reads as a list -/
theorem q_take {α : Type} (E : El α) {l : List α} {X : SlV} (h : Nat) {t e esz : Nat} {x y : Operand} {g0 g1 G b : Bool} {k : IntKind} {iv : Int} (ho : o.op = .slice t x none (some y) none) (he : ev SL x = some (g0, X.val l.length)) (hg0 : G = true → g0 = true)
    (hy : ev SL y = some (g1, .int k iv)) (hg1 : G = true → g1 = true) (ht : T.slc t = some e) (hz : T.siz e = some (esz, b)) (hm : RdL E X l ∈ FA) (hi : G = true → iv = (h : Int)) (hle : G = true → h ≤ l.length) : Quiet P T SL BL FA o G (X.val (l.take h).length) :=
  fun hT hG a w hsl hw => by
    obtain ⟨_, hrd⟩ := hw.fa _ hm
    have h1 := hrd.1
    have h2 := hle hG
    have e1 : (l.take h).length = h := by simp; omega
    rw [e1]
    exact q_slhi (P := P) (BL := BL) (FA := FA) ho he hg0 hy hg1 ht hz hi (fun _ => by omega) hT hG a w hsl hw

theorem q_drop {α : Type} (E : El α) {l : List α} {X : SlV} (k0 : Nat) {t e esz : Nat} {x y : Operand} {g0 g1 G b : Bool} {k : IntKind} {iv : Int} (ho : o.op = .slice t x (some y) none none) (he : ev SL x = some (g0, X.val l.length)) (hg0 : G = true → g0 = true)
    (hy : ev SL y = some (g1, .int k iv)) (hg1 : G = true → g1 = true) (ht : T.slc t = some e) (hz : T.siz e = some (esz, b)) (hi : G = true → iv = (k0 : Int)) (hle : G = true → k0 ≤ l.length) : Quiet P T SL BL FA o G ((⟨slA X.a X.c k0 esz, X.c - k0⟩ : SlV).val (l.drop k0).length) :=
  fun hT hG a w hsl hw => by
    have e1 : (l.drop k0).length = l.length - k0 := by simp
    rw [e1]
    exact q_sllo (P := P) (BL := BL) (FA := FA) ho he hg0 hy hg1 ht hz hi hle hT hG a w hsl hw

theorem le_fact (F : Pred) [hF : Stab F] (pre : List Pred) (hpre : SubM FA pre) (hd : ∀ M w, AllF pre M w → F M w) : Le C ⟨N, SL, BL, OW, FA⟩ ⟨N, SL, BL, OW, F :: FA⟩ := fun a w hr =>
  ⟨hr.sz, hr.df, hr.sl, hr.wo.be, hr.wo.bl, hr.wo.ow, hr.wo.nd, fun G hG => by
    cases hG with
    | head => exact ⟨hF, hd _ _ fun F hF => (hr.wo.fa F (hpre.mem F hF)).2⟩
    | tail _ hG => exact hr.wo.fa G hG⟩

theorem q_lfP {t : Nat} {x : Operand} {g0 G : Bool} {g n off : Nat} {cs : List Value} (ho : o.op = .load t x)
    (he : ev SL x = some (g0, .pointer (some ⟨g, off, none⟩))) (hg0 : G = true → g0 = true) (hs : T.siz t = some (n, true)) (hm : VarP g cs ∈ FA) (hl : Nat.ble (off + n) cs.length = true) : Quiet P T SL BL FA o G (.agg ⟨subL cs off n⟩) :=
  q_load_gen ho he hg0 fun hT _ w hw => by
    obtain ⟨_, ⟨t', ht⟩, _⟩ := hw.fa _ hm
    have hle := Nat.le_of_ble_eq_true hl
    refine run_loadVar_agg hT hs (by simp [subL]; omega) fun j v hj => ?_
    rw [add_none, blk_cell ht, ← hj]
    simp only [subL, List.getElem?_take, List.getElem?_drop]
    rw [if_pos]
    obtain ⟨hlt, _⟩ := List.getElem?_eq_some_iff.1 hj
    simp [subL] at hlt
    omega

/-! ### Operations more -/
theorem q_dead {v : Value} {G : Bool} (e : G = false) : Quiet P T SL BL FA o G v := fun _ hG => by rw [e] at hG; cases hG
theorem q_is {v v' : Value} {G : Bool} (h : Quiet P T SL BL FA o G v) (e : v = v') : Quiet P T SL BL FA o G v' := e ▸ h

theorem q_eqE {t t' : TypeId} {ks : List Bool} {x y : Operand} {g0 g1 G b : Bool} {xs ys : List Value} (hE : EqT P t ks) (hb : flatEq xs ys = b) (ho : o.op = .binOp .eql t x y t') (he : ev SL x = some (g0, .agg ⟨xs⟩)) (hg0 : G = true → g0 = true)
    (hy : ev SL y = some (g1, .agg ⟨ys⟩)) (hg1 : G = true → g1 = true) (hkx : kindsOk ks xs = true) (hky : kindsOk ks ys = true) : Quiet P T SL BL FA o G (.bool b) :=
  hb ▸ q_eqs hE ho he hg0 hy hg1 hkx hky
theorem q_neE {t t' : TypeId} {ks : List Bool} {x y : Operand} {g0 g1 G b : Bool} {xs ys : List Value} (hE : EqT P t ks) (hb : flatEq xs ys = b) (ho : o.op = .binOp .neq t x y t') (he : ev SL x = some (g0, .agg ⟨xs⟩)) (hg0 : G = true → g0 = true)
    (hy : ev SL y = some (g1, .agg ⟨ys⟩)) (hg1 : G = true → g1 = true) (hkx : kindsOk ks xs = true) (hky : kindsOk ks ys = true) : Quiet P T SL BL FA o G (.bool (!b)) :=
  hb ▸ q_nes hE ho he hg0 hy hg1 hkx hky

theorem q_rem {t t' : Nat} {x y : Operand} {g0 g1 G : Bool} {a b : Int} (ho : o.op = .binOp .rem t x y t') (he : ev SL x = some (g0, .int .i64 a)) (hg0 : G = true → g0 = true)
    (hy : ev SL y = some (g1, .int .i64 b)) (hg1 : G = true → g1 = true) (hb : G = true → b ≠ 0) : Quiet P T SL BL FA o G (.int .i64 (a.tmod b)) :=
  fun hT hG a' w hsl hw => by
    have h1 := ev_ok hsl he (hg0 hG)
    have h2 := ev_ok hsl hy (hg1 hG)
    simp [execOp, ho, h1, h2, eqGuard, binOp, Op.intDiv, hb hG]

end
end Go.Proofs.YtccmadehnoihnaaGreatDoor.Fw

namespace Go.Proofs.YtccmadehnoihnaaGreatDoor
open Go Go.Proofs.YtccmadehnoihnaaGreatDoor.Fw Go.Proofs
def rows : TRows where
  fld := [(41, [(0, 39), (2, 3), (3, 3), (4, 3), (5, 3), (6, 3)]), (43, [(0, 3), (1, 3), (2, 3), (3, 37), (4, 41)]), (31, [(0, 28), (2, 3), (3, 29)]), (26, [(0, 24)]), (28, [(0, 23), (1, 26)]), (96, [(0, 3), (1, 3), (2, 3)]), (47, [(0, 45), (1, 45)]), (98, [(0, 41), (7, 4), (8, 96)]), (66, [(0, 3), (1, 3), (2, 37)]), (39, [(0, 3), (1, 3)]), (62, [(0, 37), (1, 24), (2, 24)]), (176, [(0, 9), (1, 9), (2, 114)]), (189, [(0, 5), (1, 5)]), (184, [(0, 9)])]
  siz := [(3, (1, false)), (4, (1, false)), (0, (1, false)), (9, (1, false)), (32, (1, false)), (5, (1, false)), (164, (1, false)), (41, (7, true)), (145, (1, false)), (43, (11, true)), (31, (4, true)), (45, (1, false)), (26, (1, true)), (109, (1, false)), (37, (1, false)), (28, (2, true)), (96, (3, true)), (114, (1, false)), (21, (1, false)), (24, (1, false)), (47, (2, true)), (23, (1, false)), (29, (1, false)), (22, (1, false)), (98, (11, true)), (66, (3, true)), (39, (2, true)), (111, (1, false)), (2, (1, false)), (62, (3, true)), (152, (1, false)), (33, (1, false)), (157, (1, false)), (133, (1, false)), (88, (1, false)), (165, (65, true)), (176, (3, true)), (60, (1, false)), (73, (1, false)), (189, (2, true)), (144, (24, true)), (48, (1, false)), (103, (1, false)), (104, (1, false)), (115, (1, false)), (125, (1, false)), (130, (1, false)), (170, (1, false)), (20, (1, false)), (58, (1, false)), (63, (1, false)), (82, (1, false)), (90, (1, false)), (120, (1, false)), (51, (1, false)), (69, (1, false)), (92, (1, false)), (122, (1, false)), (148, (1, false)), (155, (1, false)), (167, (1, false)), (172, (1, false)), (184, (1, true)), (55, (1, false)), (78, (1, false)), (163, (20, true)), (182, (1, false)), (185, (32, true)), (186, (64, true)), (187, (256, true)), (190, (32, true))]
  zer := [(3, [.int .i64 (0)]), (4, [.bool false]), (9, [.string ⟨#[]⟩]), (32, [.int .i64 (0)]), (5, [.int .u8 (0)]), (164, [.int .u32 (0)]), (41, [.int .i64 (0), .int .i64 (0), .int .i64 (0), .int .i64 (0), .int .i64 (0), .int .i64 (0), .int .i64 (0)]), (145, [.int .u64 (0)]), (43, [.int .i64 (0), .int .i64 (0), .int .i64 (0), .slice none 0 0, .int .i64 (0), .int .i64 (0), .int .i64 (0), .int .i64 (0), .int .i64 (0), .int .i64 (0), .int .i64 (0)]), (31, [.slice none 0 0, .slice none 0 0, .int .i64 (0), .slice none 0 0]), (45, [.slice none 0 0]), (26, [.slice none 0 0]), (109, [.slice none 0 0]), (37, [.slice none 0 0]), (28, [.slice none 0 0, .slice none 0 0]), (96, [.int .i64 (0), .int .i64 (0), .int .i64 (0)]), (114, [.nilIface]), (21, [.int .i32 (0)]), (24, [.slice none 0 0]), (47, [.slice none 0 0, .slice none 0 0]), (23, [.slice none 0 0]), (29, [.slice none 0 0]), (22, [.slice none 0 0]), (98, [.int .i64 (0), .int .i64 (0), .int .i64 (0), .int .i64 (0), .int .i64 (0), .int .i64 (0), .int .i64 (0), .bool false, .int .i64 (0), .int .i64 (0), .int .i64 (0)]), (66, [.int .i64 (0), .int .i64 (0), .slice none 0 0]), (39, [.int .i64 (0), .int .i64 (0)]), (111, [.slice none 0 0]), (2, [.int .i64 (0)]), (62, [.slice none 0 0, .slice none 0 0, .slice none 0 0]), (152, [.int .u64 (0)]), (157, [.pointer none]), (133, [.nilFunc]), (88, [.slice none 0 0]), (176, [.string ⟨#[]⟩, .string ⟨#[]⟩, .nilIface]), (60, [.nilFunc]), (189, [.int .u8 (0), .int .u8 (0)]), (144, [.int .u8 (0), .int .u8 (0), .int .u8 (0), .int .u8 (0), .int .u8 (0), .int .u8 (0), .int .u8 (0), .int .u8 (0), .int .u8 (0), .int .u8 (0), .int .u8 (0), .int .u8 (0), .int .u8 (0), .int .u8 (0), .int .u8 (0), .int .u8 (0), .int .u8 (0), .int .u8 (0), .int .u8 (0), .int .u8 (0), .int .u8 (0), .int .u8 (0), .int .u8 (0), .int .u8 (0)]), (103, [.pointer none]), (130, [.nilFunc]), (20, [.nilIface]), (58, [.nilFunc]), (82, [.pointer none]), (120, [.nilFunc]), (184, [.string ⟨#[]⟩]), (55, [.nilFunc]), (78, [.nilFunc]), (163, [.int .u64 (0), .int .u64 (0), .int .u64 (0), .int .u64 (0), .int .u64 (0), .int .u64 (0), .int .u64 (0), .int .u64 (0), .int .u64 (0), .int .u64 (0), .int .u64 (0), .int .u64 (0), .int .u64 (0), .int .u64 (0), .int .u64 (0), .int .u64 (0), .int .u64 (0), .int .u64 (0), .int .u64 (0), .int .u64 (0)]), (182, [.pointer none]), (185, [.int .u8 (0), .int .u8 (0), .int .u8 (0), .int .u8 (0), .int .u8 (0), .int .u8 (0), .int .u8 (0), .int .u8 (0), .int .u8 (0), .int .u8 (0), .int .u8 (0), .int .u8 (0), .int .u8 (0), .int .u8 (0), .int .u8 (0), .int .u8 (0), .int .u8 (0), .int .u8 (0), .int .u8 (0), .int .u8 (0), .int .u8 (0), .int .u8 (0), .int .u8 (0), .int .u8 (0), .int .u8 (0), .int .u8 (0), .int .u8 (0), .int .u8 (0), .int .u8 (0), .int .u8 (0), .int .u8 (0), .int .u8 (0)]), (186, [.int .u8 (0), .int .u8 (0), .int .u8 (0), .int .u8 (0), .int .u8 (0), .int .u8 (0), .int .u8 (0), .int .u8 (0), .int .u8 (0), .int .u8 (0), .int .u8 (0), .int .u8 (0), .int .u8 (0), .int .u8 (0), .int .u8 (0), .int .u8 (0), .int .u8 (0), .int .u8 (0), .int .u8 (0), .int .u8 (0), .int .u8 (0), .int .u8 (0), .int .u8 (0), .int .u8 (0), .int .u8 (0), .int .u8 (0), .int .u8 (0), .int .u8 (0), .int .u8 (0), .int .u8 (0), .int .u8 (0), .int .u8 (0), .int .u8 (0), .int .u8 (0), .int .u8 (0), .int .u8 (0), .int .u8 (0), .int .u8 (0), .int .u8 (0), .int .u8 (0), .int .u8 (0), .int .u8 (0), .int .u8 (0), .int .u8 (0), .int .u8 (0), .int .u8 (0), .int .u8 (0), .int .u8 (0), .int .u8 (0), .int .u8 (0), .int .u8 (0), .int .u8 (0), .int .u8 (0), .int .u8 (0), .int .u8 (0), .int .u8 (0), .int .u8 (0), .int .u8 (0), .int .u8 (0), .int .u8 (0), .int .u8 (0), .int .u8 (0), .int .u8 (0), .int .u8 (0)]), (190, [.int .u8 (0), .int .u8 (0), .int .u8 (0), .int .u8 (0), .int .u8 (0), .int .u8 (0), .int .u8 (0), .int .u8 (0), .int .u8 (0), .int .u8 (0), .int .u8 (0), .int .u8 (0), .int .u8 (0), .int .u8 (0), .int .u8 (0), .int .u8 (0), .int .u8 (0), .int .u8 (0), .int .u8 (0), .int .u8 (0), .int .u8 (0), .int .u8 (0), .int .u8 (0), .int .u8 (0), .int .u8 (0), .int .u8 (0), .int .u8 (0), .int .u8 (0), .int .u8 (0), .int .u8 (0), .int .u8 (0), .int .u8 (0)])]
  str := [(41, [(0, 2), (2, 1), (3, 1), (4, 1), (5, 1), (6, 1)]), (43, [(0, 1), (1, 1), (2, 1), (3, 1), (4, 7)]), (31, [(0, 2), (2, 1), (3, 1)]), (26, [(0, 1)]), (28, [(0, 1), (1, 1)]), (96, [(0, 1), (1, 1), (2, 1)]), (47, [(0, 1), (1, 1)]), (98, [(0, 7), (7, 1), (8, 3)]), (66, [(0, 1), (1, 1), (2, 1)]), (39, [(0, 1), (1, 1)]), (62, [(0, 1), (1, 1), (2, 1)]), (176, [(0, 1), (1, 1), (2, 1)]), (189, [(0, 1), (1, 1)]), (184, [(0, 1)])]
  slc := [(45, 5), (109, 41), (37, 3), (24, 96), (23, 98), (29, 66), (22, 43), (111, 9), (88, 45)]
  arr := [(165, (65, 5)), (144, (24, 5)), (163, (20, 145)), (185, (32, 5)), (186, (64, 5)), (187, (256, 5)), (190, (16, 189))]
  byt := [(3, 8), (4, 1), (0, 0), (9, 16), (32, 8), (5, 1), (164, 4), (41, 56), (145, 8), (43, 104), (31, 80), (45, 24), (26, 24), (109, 24), (37, 24), (28, 48), (96, 24), (114, 16), (21, 4), (24, 24), (47, 48), (23, 24), (29, 24), (22, 24), (98, 88), (66, 40), (39, 16), (111, 24), (2, 8), (62, 72), (152, 8), (33, 0), (157, 8), (133, 8), (88, 24), (165, 65), (176, 48), (60, 8), (73, 0), (189, 2), (144, 24), (48, 0), (103, 8), (104, 0), (115, 0), (125, 0), (130, 8), (170, 0), (20, 16), (58, 8), (63, 0), (82, 8), (90, 0), (120, 8), (51, 0), (69, 0), (92, 0), (122, 0), (148, 0), (155, 0), (167, 0), (172, 0), (184, 16), (55, 8), (78, 8), (163, 160), (182, 8), (185, 32), (186, 64), (187, 256), (190, 32)]
  isS := [9]
  fnb := [2, 3, 4, 5, 6, 7, 8, 9, 10, 11, 12, 13, 14, 15, 16, 17, 18, 19, 20, 21, 22, 23, 24, 25, 26, 27, 28, 29, 30, 31, 32, 33, 34, 35, 36, 37, 38, 39, 40, 41, 42, 43, 44, 45, 46, 47, 48, 49, 50, 51, 52, 53, 54, 55, 56, 57, 58, 59, 60, 61, 62, 63, 64, 65, 66, 67, 68, 69, 70, 71, 72, 73, 74, 75, 76, 77, 78, 79, 80, 81, 82, 83, 84, 85, 86, 87, 89, 90, 91, 92, 93, 94, 95, 96, 97, 98, 99, 100, 101, 102, 103, 104, 105, 107, 108, 109, 111, 112, 113, 114, 115, 116, 117, 118, 119, 120, 149]
def tab : Tab := tabOf rows
theorem rows_ok : ROk rows Tryz.prog where
  mixed := by kernel_rfl
  fld := by kernel_rfl
  siz := by kernel_rfl
  zer := by kernel_rfl
  str := by kernel_rfl
  slc := by kernel_rfl
  arr := by kernel_rfl
  byt := by kernel_rfl
  isS := by kernel_rfl
  fnb := by kernel_rfl
theorem tab_ok : TabOk tab Tryz.prog := tabOf_ok rows_ok
end Go.Proofs.YtccmadehnoihnaaGreatDoor

namespace Go.Proofs.YtccmadehnoihnaaGreatDoor.Fw
open Go Go.RowKit

/-! ### Rows of elements in a block -/
theorem putAt_app_right : ∀ (vs a b : List Value) (k : Nat), putAt (a ++ b) (a.length + k) vs = a ++ putAt b k vs
  | [], _, _, _ => rfl
  | v :: vs, a, b, k => by
    rw [putAt, putAt, List.set_append_right _ _ (by omega), show a.length + k - a.length = k by omega, Nat.add_assoc]
    exact putAt_app_right vs a _ (k + 1)
theorem putAt_app_left : ∀ (vs a b : List Value) (k : Nat), k + vs.length ≤ a.length → putAt (a ++ b) k vs = putAt a k vs ++ b
  | [], _, _, _, _ => rfl
  | v :: vs, a, b, k, h => by
    simp only [List.length_cons] at h
    rw [putAt, putAt, List.set_append_left _ _ (by omega)]
    exact putAt_app_left vs _ b (k + 1) (by simp; omega)
theorem putAt_flat {α : Type} [Inhabited α] (E : El α) (p : α) (off : Nat) (vs : List Value) (hv : off + vs.length ≤ E.esz) : ∀ (tb : List α) (i : Nat), i < tb.length → E.enc p = putAt (E.enc (gt tb i)) off vs →
    putAt (tb.flatMap E.enc) (i * E.esz + off) vs = (tb.set i p).flatMap E.enc
  | [], i, h, _ => absurd h (by simp)
  | a :: l, 0, _, hp => by
    rw [Nat.zero_mul, Nat.zero_add, List.flatMap_cons, putAt_app_left _ _ _ _ (by rw [E.len]; exact hv), List.set_cons_zero, List.flatMap_cons, hp]
    rfl
  | a :: l, i + 1, h, hp => by
    rw [List.flatMap_cons, show (i + 1) * E.esz + off = (E.enc a).length + (i * E.esz + off) by rw [E.len, Nat.add_mul]; omega, putAt_app_right, List.set_cons_succ, List.flatMap_cons,
      putAt_flat E p off vs hv l i (by simpa using h) (by simpa [gt] using hp)]
section
variable {P : Program} {T : Tab} {C : Cx} {ops : Array Oper} {o : Oper} {r r' : RS} {s : St} {Q : Post} {N : Nat} {SL : Slots} {BL : List Blk} {OW : List Own} {FA : List Pred} {c : Code}

theorem rw_stS {t : Nat} {x y : Operand} {g0 g1 : Bool} {g n off : Nat} {b : Bool} {cs vs : List Value} {v : Value} {bl' : List Blk} {D : List Nat} (hf : Front ops r o D r') (hgD : (∃ l, r = .sq l) ∨ g ∈ D) (hg : Guard ops SL o true) (hd : o.dst = none) (ho : o.op = .store t x y)
    (he : ev SL x = some (g0, .pointer (some ⟨g, off, none⟩))) (hg0 : g0 = true) (hev : ev SL y = some (g1, v)) (hg1 : g1 = true) (hs : T.siz t = some (n, b)) (hvc : v.cells = vs.toArray) (hvn : vs.length = n)
    (hone : vs.all (·.oneCell') = true) (hu : UpdB BL g cs (putAt cs off vs) bl') (hle : off + n ≤ cs.length)
    (h : RW P T C ops r' ⟨N, SL, bl', OW, FA⟩ Q) : RW P T C ops r ⟨N, SL, BL, OW, FA⟩ Q :=
  rw_st hf hgD hg hd ho he hg0 hev hg1 hs hvc hvn hone hu (Nat.ble_eq_true_of_le hle) h

/-! ### What is owned, read by a call that changes nothing -/
theorem OwnOk.rd {α : Type} {E : El α} {e : TypeId} {X : SlV} {b : Option Nat} {l : List α} {w : World} {M : Nat → Prop} (ho : OwnOk C w (ownL E e X b l)) (hM : ∀ g, b = some g → ¬ M g) : RdL E X l M w := by
  have hl : ∀ e ∈ l, (E.enc e).length = E.esz := fun e _ => E.len e
  obtain ⟨h1, h2, h3⟩ := ho
  simp only at h1 h2 h3
  cases b with
  | none =>
    obtain ⟨h0, A, hA⟩ := h3
    have hA : X.val l.length = .slice A 0 0 := hA
    simp only [SlV.val, Value.slice.injEq] at hA
    exact ⟨by omega, by omega, h2.2, fun hp => by omega⟩
  | some g =>
    obtain ⟨hg, cap, cur, hv, hh, hnc, hcap, hcs, htake⟩ := h3
    simp only [SlV.val, Value.slice.injEq, true_and] at hv
    obtain ⟨hva, hvc⟩ := hv
    refine ⟨by rw [hvc]; exact hnc, by rw [hvc]; exact hcap, h2.2, fun hp => ⟨⟨g, 0, none⟩, hva, heap_lt hh, hM g rfl, fun i hi' j v hv => ?_⟩⟩
    rw [add_none]
    simp only [World.cell?, hh]
    obtain ⟨hjlt, _⟩ := List.getElem?_eq_some_iff.1 hv
    have hel := hl _ (List.getElem_mem hi')
    have hij : i * E.esz + j < l.length * E.esz := by
      have : (i + 1) * E.esz ≤ l.length * E.esz := Nat.mul_le_mul_right _ hi'
      rw [Nat.add_mul] at this
      omega
    have hflat : (l.flatMap E.enc)[i * E.esz + j]? = some v := flatMap_at l hl i hi' j v hv
    rw [← htake, List.getElem?_take, if_pos hij] at hflat
    simpa using hflat

inductive PreR : List Pred → List Own → List Pred → Prop
  | nil (FA : List Pred) (OW : List Own) : PreR FA OW []
  | fact {FA : List Pred} {OW : List Own} {F : Pred} {r : List Pred} (h : F ∈ FA) (hr : PreR FA OW r) : PreR FA OW (F :: r)
  | own {FA : List Pred} {OW : List Own} {α : Type} {E : El α} {e : TypeId} {X : SlV} {b : Option Nat} {l : List α} {r : List Pred} (h : ownL E e X b l ∈ OW) (hr : PreR FA OW r) : PreR FA OW (RdL E X l :: r)

theorem PreR.ok {pre : List Pred} {w : World} (h : PreR FA OW pre) (hw : WOk C ⟨N, SL, BL, OW, FA⟩ w) : ∀ F ∈ pre, Stab F ∧ F (fun b => C.M0 b ∨ b ∈ BL.map (·.g)) w := by
  induction h with
  | nil => simp
  | fact h _ ih =>
    intro F hF
    cases hF with
    | head =>
      have h1 := hw.fa _ h
      exact ⟨h1.1, h1.1.st _ _ w w h1.2 ⟨Nat.le_refl _, fun _ _ _ => rfl⟩ fun k _ hm => by
        rcases hm with hm | hm
        · exact .inl hm
        · exact .inr (List.mem_append_left _ hm)⟩
    | tail _ hF => exact ih F hF
  | own h _ ih =>
    intro F hF
    cases hF with
    | head =>
      have ho := hw.ow _ h
      refine ⟨inferInstance, ho.rd fun g hg hm => ?_⟩
      have hgi : g ∈ OW.filterMap (·.b) := List.mem_filterMap.2 ⟨_, h, hg⟩
      rcases hm with hm | hm
      · rcases (ids_lt hw (b := g) (List.mem_append_right _ hgi)).2 with h2 | h2
        · have := C.hM g hm; omega
        · exact (C.hB g h2).2 hm
      · exact (List.nodup_append.1 hw.nd).2.2 g hm g hgi rfl
    | tail _ hF => exact ih F hF

theorem callR_wp {a : Act} {w : World} {d : Nat} {f : FuncId} {args : List Value} {pre : List Pred} {X : Type} {val : X → Value}
    (hS : Does P f args pre val (fun _ => [])) (hx : (execOp a.eval o).run P w = .ok (.enter f args.toArray) w) (hd : o.dst = some d) (hrep : Rep C ⟨N, SL, BL, OW, FA⟩ a w) (hpre : PreR FA OW pre) {K : Act → World → Prop}
    (hK : ∀ x w', WOk C ⟨N, SL, BL, OW, FA⟩ w' → Keeps [] w w' → K (a.put (some d) (val x)) w') : o.wp P a w K noG := by
  unfold Oper.wp
  rw [hx, Oper.upon_enter]
  have h1 := hpre.ok hrep.wo
  have := hS.ok ⟨w, fun b => C.M0 b ∨ b ∈ BL.map (·.g), [], fun b hb => by
    rcases hb with hb | hb
    · exact Nat.lt_of_lt_of_le (C.hM b hb) hrep.wo.be.size
    · exact (ids_lt hrep.wo (b := b) (List.mem_append_left _ hb)).1, fun b hb => by cases hb⟩ rfl ⟨Blw.refl _ _ _, by simp, by simp, by simp [ids], fun F hF => ⟨(h1 F hF).1, (h1 F hF).1.st _ _ w w (h1 F hF).2 ⟨Nat.le_refl _, fun _ _ _ => rfl⟩ fun k _ hm => by
      rcases hm with hm | hm
      · exact hm
      · simp [ids] at hm⟩⟩
  refine this.mono ?_
  rintro e w' ⟨x, rfl, hw⟩
  simp only [hd]
  have hb : Below w.heap.size w w' := hw.be.below
  exact hK x w' (hrep.wo.grow hb) (Keeps.of_below hb)

theorem rw_callR {D : List Nat} {d : Nat} {f : FuncId} {xs : Array Operand} {ts : Array TypeId} {g : Bool} {vs : List Value} {pre : List Pred} {X : Type} {val : X → Value}
    (hS : Does P f vs pre val (fun _ => [])) (hfr : Front ops r o D r') (hg : Guard ops SL o true) (hd : o.dst = some d) (hn : Nat.blt d N = true) (ho : o.op = .call ⟨.value (.func f), xs, ts⟩) (hf : T.fnb f = true)
    (he : evs SL xs.toList = some (g, vs)) (hgt : g = true) (hpre : PreR FA OW pre)
    (h : ∀ x, RW P T C ops r' ⟨N, (d, .v (val x)) :: SL, BL, OW, FA⟩ Q) : RW P T C ops r ⟨N, SL, BL, OW, FA⟩ Q :=
  rw_l hfr hg (K := fun s' => ∃ x, s' = ⟨N, (d, .v (val x)) :: SL, BL, OW, FA⟩) (fun hT a w hrep => callR_wp hS (exec_call hT ho hf hrep.sl he hgt w) hd hrep hpre fun x w' hw hk =>
    ⟨_, ⟨x, rfl⟩, hrep.putv (Nat.le_of_ble_eq_true hn) (x := .v (val x)) (u := val x) rfl ⟨hw.be, hw.bl, hw.ow, hw.nd, hw.fa⟩, hk.mono (by simp)⟩) (fun s' ⟨x, e⟩ => by subst e; exact h x)

/-! ### Facts at hand that stand in a list that is not known -/
theorem SubM.skip {F : Pred} {l r : List Pred} (h : SubM l r) : SubM (F :: l) r := by
  induction h with
  | nil => exact .nil _
  | cons h _ ih => exact .cons (.tail _ h) ih
theorem SubM.all : ∀ l : List Pred, SubM l l
  | [] => .nil _
  | _ :: l => .cons (.head _) (SubM.skip (SubM.all l))
theorem PreR.skip {F : Pred} {l r : List Pred} {OW : List Own} (h : PreR l OW r) : PreR (F :: l) OW r := by
  induction h with
  | nil => exact .nil _ _
  | fact h _ ih => exact .fact (.tail _ h) ih
  | own h _ ih => exact .own h ih
end
end Go.Proofs.YtccmadehnoihnaaGreatDoor.Fw

namespace Go.Proofs.YtccmadehnoihnaaGreatDoor.Fw
open Go Go.RowKit Go.ChangeShapes Go.WideShapes Go.Deep

/-! ### Arguments, opened -/
section
variable {P : Program}

/-- Whatever reads as data of this type has these cells, and these facts hold. -/
structure Opens (P : Program) (t : TypeId) {α A : Type} (cells : α → A → List Value) (facts : α → A → List Pred) : Prop where
  op : ∀ {H : Type} (enc : TypeId × Value → H) (w : World) (fuel : Nat) (cs : List Value) (x : DataW H × List MemPlace), DataW.trod enc P w 0 (fun _ => true) true fuel t cs = some x → (x.1.weights P t).all (· ≤ reachBytes) = true →
    ∃ a s, cs = cells a s ∧ ∀ F ∈ facts a s, F (fun _ => False) w

theorem opens_int {t : TypeId} (h : P.underlying t = some (.int .i64)) : Opens P t (fun (n : Int) (_ : Unit) => [.int .i64 n]) (fun _ _ => []) := .mk fun enc w fuel cs x hx _ => by
  obtain ⟨n, rfl, _⟩ := DataW.trod_int h hx
  exact ⟨n, (), rfl, by simp⟩
theorem opens_flat {α : Type} (E : El α) {ks : List Bool} {t : TypeId} (hE : Encs ks E.enc) (he : eqK P 20 t = some ks) (hc : P.cellsOf t = ks.length) : Opens P t (fun (a : α) (_ : Unit) => E.enc a) (fun _ _ => []) := .mk fun enc w fuel cs x hx _ => by
  obtain ⟨a, ha⟩ := hE.to cs (kinds_of_trod 20 t ks he hc fuel cs x hx)
  exact ⟨a, (), ha.symm, by simp⟩
theorem opens_slice {α : Type} (E : El α) {ks : List Bool} {t e : TypeId} (hE : Encs ks E.enc) (ht : P.underlying t = some (.slice e)) (he : eqK P 20 e = some ks) (hc : P.cellsOf e = ks.length) (hpos : Nat.blt 0 ks.length = true) (hby : P.bytesOf e = E.by_) :
    Opens P t (fun (l : List α) (X : SlV) => [X.val l.length]) (fun l X => [RdL E X l]) := .mk fun enc w fuel cs x hx hs => by
  obtain ⟨X, l, h1, h2⟩ := open_rd hE rfl ht he hc (Nat.le_of_ble_eq_true hpos) hby hx hs
  exact ⟨l, X, h1, fun F hF => by rw [List.mem_singleton] at hF; subst hF; exact h2⟩
theorem opens_intslice {t e : TypeId} (E : El Int) (hE : ∀ n, E.enc n = [.int .i64 n]) (hes : E.esz = 1) (ht : P.underlying t = some (.slice e)) (he : P.underlying e = some (.int .i64)) (hc : P.cellsOf e = 1) (hby : P.bytesOf e = E.by_) :
    Opens P t (fun (l : List Int) (X : SlV) => [X.val l.length]) (fun l X => [RdL E X l]) :=
  opens_slice E (ks := [true]) ⟨fun a => by rw [hE]; rfl, fun cs h => by
    match cs, h with
    | [.int .i64 n], _ => exact ⟨n, hE n⟩⟩ ht (by simp [eqK, he]) hc rfl hby

structure OpensF (P : Program) (fs : List Field) (off tot : Nat) {α A : Type} (cells : α → A → List Value) (facts : α → A → List Pred) : Prop where
  op : ∀ {H : Type} (enc : TypeId × Value → H) (w : World) (n : Nat) (cs : List Value) (xs : List (DataW H × List MemPlace)), xs.length = fs.length →
    (∀ (i : Nat) (f : Field), fs[i]? = some f → DataW.trod enc P w 0 (fun _ => true) true n f.type ((cs.drop f.offset).take (P.cellsOf f.type)) = xs[i]?) →
    (DataW.weightsEach P (fs.map (·.type)) (xs.map (·.1))).all (· ≤ reachBytes) = true → cs.length = off + tot → ∃ a s, cs.drop off = cells a s ∧ ∀ F ∈ facts a s, F (fun _ => False) w

theorem opensF_nil {off : Nat} : OpensF P [] off 0 (fun (_ : Unit) (_ : Unit) => []) (fun _ _ => [])  := .mk fun _ _ _ cs _ _ _ _ hl => ⟨(), (), List.drop_eq_nil_of_le (by omega), by simp⟩

theorem opensF_cons {α A β B : Type} {f : Field} {fs : List Field} {off n1 tot : Nat} {c1 : α → A → List Value} {f1 : α → A → List Pred} {c2 : β → B → List Value} {f2 : β → B → List Pred} {t : TypeId} (h : Opens P t c1 f1) (ht : f.type = t) (ho : f.offset = off) (hn : P.cellsOf t = n1)
    (hr : OpensF P fs (off + n1) tot c2 f2) : OpensF P (f :: fs) off (n1 + tot) (fun (a : α × β) (s : A × B) => c1 a.1 s.1 ++ c2 a.2 s.2) (fun a s => f1 a.1 s.1 ++ f2 a.2 s.2) := by
  subst ht
  refine ⟨?_⟩
  intro H enc w n cs xs hxl hf hs hl
  cases xs with
  | nil => simp at hxl
  | cons x xs =>
    simp only [List.map_cons, DataW.weightsEach, List.all_append, Bool.and_eq_true] at hs
    have h0 := hf 0 f rfl
    simp only [List.getElem?_cons_zero] at h0
    obtain ⟨a, s, e1, g1⟩ := h.op enc w n _ x h0 hs.1
    obtain ⟨b, s', e2, g2⟩ := hr.op enc w n cs xs (by simpa using hxl) (fun i g hg => by simpa using hf (i + 1) g (by simpa using hg)) hs.2 (by rw [hl]; omega)
    refine ⟨(a, b), (s, s'), ?_, fun F hF => ?_⟩
    · simp only
      rw [← e1, ← e2, ho, hn]
      have := List.take_append_drop n1 (cs.drop off)
      rw [List.drop_drop] at this
      exact this.symm
    · rcases List.mem_append.1 hF with hF | hF
      · exact g1 F hF
      · exact g2 F hF

theorem opens_struct {α A : Type} {t tot : Nat} {fs : Array Field} {c : α → A → List Value} {f : α → A → List Pred} (hu : P.underlying t = some (.struct fs)) (hc : P.cellsOf t = tot) (hF : OpensF P fs.toList 0 tot c f) : Opens P t c f := .mk fun enc w fuel cs x hx hs => by
  obtain ⟨xs, n, rfl, rfl, hlen, hxl, hf⟩ := DataW.trod_struct hu hx
  simp only [DataW.weights, hu] at hs
  obtain ⟨a, s, h1, h2⟩ := hF.op enc w n cs xs (by rw [hxl]; simp) (fun i g hg => hf i g (by rw [← Array.getElem?_toList]; exact hg)) hs (by rw [hlen, hc]; omega)
  exact ⟨a, s, by simpa using h1, h2⟩

theorem Opens.map {α A β B : Type} {t : TypeId} {c : α → A → List Value} {f : α → A → List Pred} (h : Opens P t c f) (c' : β → B → List Value) (f' : β → B → List Pred) (g : α → β) (k : A → B) (hc : ∀ a s, c a s = c' (g a) (k s)) (hf : ∀ a s, f a s = f' (g a) (k s)) : Opens P t c' f' := .mk fun enc w fuel cs x hx hs => by
  obtain ⟨a, s, h1, h2⟩ := h.op enc w fuel cs x hx hs
  exact ⟨g a, k s, by rw [h1, hc], by rw [← hf]; exact h2⟩

variable {H : Type} {enc : TypeId × Value → H} {w : World} {b0 : Nat} {v : Value} {d : DataW H} {ps : List MemPlace}

theorem Opens.agg {α A : Type} {t : TypeId} {fs : Array Field} {c : α → A → List Value} {f : α → A → List Pred} (h : Opens P t c f) (hu : P.underlying t = some (.struct fs)) (hv : Value.okWide P w .any b0 t v) (hd : DataW.Trod enc P w 0 (fun _ => true) true t v d ps)
    (hs : (d.weights P t).all (· ≤ reachBytes) = true) : ∃ a s, v = .agg ⟨c a s⟩ ∧ ∀ F ∈ f a s, F (fun _ => False) w := by
  obtain ⟨fuel, hx⟩ := hd
  obtain ⟨a, s, h1, h2⟩ := h.op enc w fuel _ _ hx hs
  unfold Value.okWide at hv
  rw [hu] at hv
  obtain ⟨cs, rfl, _⟩ := hv
  refine ⟨a, s, ?_, h2⟩
  simp only [Value.cells] at h1
  congr 1
  exact Array.ext' h1

theorem Opens.one {α A : Type} {t : TypeId} {c : α → A → Value} {f : α → A → List Pred} (h : Opens P t (fun a s => [c a s]) f) (hu : (∃ k, P.underlying t = some (.int k)) ∨ P.underlying t = some .bool ∨ ∃ e, P.underlying t = some (.slice e)) (hv : Value.okWide P w .any b0 t v) (hd : DataW.Trod enc P w 0 (fun _ => true) true t v d ps)
    (hs : (d.weights P t).all (· ≤ reachBytes) = true) : ∃ a s, v = c a s ∧ ∀ F ∈ f a s, F (fun _ => False) w := by
  obtain ⟨fuel, hx⟩ := hd
  obtain ⟨a, s, h1, h2⟩ := h.op enc w fuel _ _ hx hs
  refine ⟨a, s, ?_, h2⟩
  have hcv : v.cells.toList = [v] := by
    rcases hu with ⟨k, hu⟩ | hu | ⟨e, hu⟩
    · obtain ⟨n, rfl⟩ := okWide_int hu hv; rfl
    · have hd' : DataW.Trod enc P w 0 (fun _ => true) true t v d ps := ⟨fuel, hx⟩
      obtain ⟨b, rfl, _⟩ := open_bool hu hv hd'
      rfl
    · obtain ⟨a, l, cp, rfl⟩ := okWide_slice hu hv; rfl
  rw [hcv] at h1
  simpa using h1

end
end Go.Proofs.YtccmadehnoihnaaGreatDoor.Fw

namespace Go.Proofs.YtccmadehnoihnaaGreatDoor.Fw
open Go Go.RowKit

section
variable {P : Program} {T : Tab} {C : Cx} {ops : Array Oper} {o : Oper} {r r' : RS} {s : St} {Q : Post} {N : Nat} {SL : Slots} {BL : List Blk} {OW : List Own} {FA : List Pred} {c : Code}

/-! ### append(nil, make(..)...): a new row of zeros -/
theorem run_append_zeros {t ti ty e : TypeId} {i : TypeInfo} {z : Value} {kd : IntKind} (ht : P.underlying t = some (.slice e)) (hti : P.underlying ti = some (.int kd)) (hi : P.info? e = some i) (hz : i.zero = some z) (w : World) (n : Nat) (hn : 0 < n) (hsz : 0 < i.size)
    (h63 : n ≤ 9223372036854775807) (h48 : n * i.bytes ≤ 140737488355328) (hfit : Builtin.nextslicecap (0 + n) 0 * i.bytes ≤ 281474976710656) :
    (Builtin.append_ #[t, ti] ty #[.slice none 0 0, .int .i64 (n : Int)]).run P w =
      .ok (.slice (some ⟨w.heap.size, 0, none⟩) (0 + n) (grownCap w (0 + n) 0 e))
        (w.drew.alloc (.cells ((Builtin.zeroCells z.cells n) ++ Builtin.zeroCells z.cells (grownCap w (0 + n) 0 e - (0 + n))) e)) := by
  have hn0 : ¬ (n = 0) := by omega
  have h63' : ¬ (9223372036854775807 < (n : Int)) := by omega
  have h48' : ¬ (281474976710656 < Builtin.nextslicecap n 0 * i.bytes) := by rw [Nat.zero_add] at hfit; omega
  have hw : IntKind.i64.wrap (n : Int) = (n : Int) := wrap_in _ ⟨by omega, by omega⟩
  have h48i : ¬ (281474976710656 < (n : Int) * (i.bytes : Int)) := by
    have h1 : ((n * i.bytes : Nat) : Int) ≤ ((140737488355328 : Nat) : Int) := Int.ofNat_le.2 h48
    rw [Int.natCast_mul] at h1
    omega
  have hneg : ¬ ((n : Int) < 0) := by omega
  have hns : ¬ (n * i.size = 0) := by have := Nat.mul_pos hn hsz; omega
  simp [Builtin.append_, run_underlying ht, run_underlying hti, sizeOf, typeInfo, zeroValue, hi, hz, asInt, asIntOf, hw, hneg, h48i, hns, hn0, h63', h48', Question.forced, Builtin.firstCells, newRow, grownCap]

theorem rw_appendZ {d t ti n kz : Nat} {x y : Operand} {g0 g1 : Bool} {e esz by_ : Nat} {z : List Value} {agg : Bool} {kd : IntKind} {ow' : SlV → Option Nat → List Value → List Own} {D : List Nat} (hf : Front ops r o D r') (hg : Guard ops SL o true) (hd : o.dst = some d) (hn : Nat.blt d N = true)
    (ho : o.op = .call ⟨.builtin .append, ⟨[x, y]⟩, ⟨[t, ti]⟩⟩) (hx : ev SL x = some (g0, .slice none 0 kz)) (hkz : kz = 0) (hg0 : g0 = true) (hy : ev SL y = some (g1, .int .i64 (n : Int))) (hg1 : g1 = true)
    (hti : P.underlying ti = some (.int kd)) (hu : ∀ (X : SlV) b' zs, UpdO OW ⟨.slice none 0 0, none, e, esz, by_, 0, []⟩ [⟨X.val n, b', e, esz, by_, n, zs⟩] (ow' X b' zs))
    (ht : T.slc t = some e) (hz : T.siz e = some (esz, agg)) (hzz : T.zer e = some z) (hzl : z.length = esz) (hby : T.byt e = some by_) (hpos : Nat.blt 0 esz = true)
    (hn0 : 0 < n) (hb : n * by_ ≤ 140737488355328) (h63 : n ≤ 9223372036854775807)
    (h : ∀ (X : SlV) (b' : Option Nat) (zs : List Value), RW P T C ops r' ⟨N, (d, .v (X.val n)) :: SL, BL, ow' X b' zs, FA⟩ Q) : RW P T C ops r ⟨N, SL, BL, OW, FA⟩ Q := by
  subst hkz
  have key : ∀ D, Loud P T C ⟨N, SL, BL, OW, FA⟩ o D (fun s' => ∃ (X : SlV) (b' : Option Nat) (zs : List Value), s' = ⟨N, (d, .v (X.val n)) :: SL, BL, ow' X b' zs, FA⟩) := by
    intro D hT a w hrep
    refine Oper.wp_mono ?_ (loud_val (D := D) hd hn (K := fun u bl ow fa => ∃ (X : SlV) (b' : Option Nat) (zs : List Value), u = X.val n ∧ bl = BL ∧ ow = ow' X b' zs ∧ fa = FA) ?_ hT a w hrep)
    · rintro a' w' ⟨s', ⟨u, bl, ow, fa, ⟨X, b', zs, e1, e2, e3, e4⟩, e5⟩, h2, h3⟩
      subst e1; subst e2; subst e3; subst e4
      exact ⟨s', ⟨X, b', zs, e5⟩, h2, h3⟩
    · intro hT a w hrep
      have hu' := hT.slc _ _ ht
      obtain ⟨tt, d', q1, q2, q3, q4⟩ := hT.siz _ _ _ hz
      obtain ⟨ti', hi', hby'⟩ := hT.byt _ _ hby
      obtain ⟨ti'', zv, hi'', hz'', hzc⟩ := hT.zer _ _ hzz
      rw [q1] at hi' hi''
      cases hi'; cases hi''
      have hpos := Nat.le_of_ble_eq_true hpos
      have hzs : zv.cells.size = esz := by rw [← hzl, ← hzc]; simp
      have hr := run_append_zeros (ty := o.type) hu' hti q1 hz'' w n hn0 (by omega) h63 (by rw [hby']; exact hb) (growslice_fits (by omega) (by rw [hby', Nat.zero_add]; exact hb))
      have hge := grownCap_ge w (0 + n) 0 e
      have hcm : grownCap w (0 + n) 0 e ≤ maxLen := grownCap_le_maxLen w (0 + n) 0 e (by simp only [maxLen]; omega)
      have ho' : OwnOk C (w.drew.alloc (.cells ((Builtin.zeroCells zv.cells n) ++ Builtin.zeroCells zv.cells (grownCap w (0 + n) 0 e - (0 + n))) e)) ⟨(⟨some ⟨w.heap.size, 0, none⟩, grownCap w (0 + n) 0 e⟩ : SlV).val n, some w.heap.size, e, esz, by_, n, (Builtin.zeroCells zv.cells n).toList⟩ := by
        refine ⟨by simp only [Array.length_toList, size_zeroCells, hzs], ⟨h63, hb⟩, .inl hrep.wo.be.size, _, _, rfl, heap_alloc_new w.drew _, (by show n ≤ grownCap w (0 + n) 0 e; omega), by simpa [maxLen] using hcm, ?_, ?_⟩
        · simp only [Array.size_append, size_zeroCells, hzs, ← Nat.add_mul]
          congr 1
          omega
        · simp only [Array.toList_append]
          have : n * esz = (Builtin.zeroCells zv.cells n).toList.length := by simp only [Array.length_toList, size_zeroCells, hzs]
          rw [this]
          simp
      refine ⟨_, _, BL, ow' ⟨some ⟨w.heap.size, 0, none⟩, grownCap w (0 + n) 0 e⟩ (some w.heap.size) (Builtin.zeroCells zv.cells n).toList, FA, ?_, hrep.wo.swapO (hu ⟨some ⟨w.heap.size, 0, none⟩, grownCap w (0 + n) 0 e⟩ (some w.heap.size) _) ho' ⟨rfl, rfl, rfl, by simp, fun k hk _ => heap_alloc_old w.drew _ k hk⟩ (.inr (.inr rfl)), ⟨by simp, fun k hk _ => heap_alloc_old w.drew _ k hk⟩, ⟨_, _, _, rfl, rfl, rfl, rfl⟩⟩
      have hr' := hr
      rw [Nat.zero_add] at hr'
      simp only [execOp, ho, resolve, invoke, builtin, Sem.run_bind, Sem.run_pure, Result.andThen_ok, List.map_toArray, List.map_cons, List.map_nil, ev_ok hrep.sl hx hg0, ev_ok hrep.sl hy hg1]
      rw [hr']
      simp only [SlV.val, Nat.zero_add, Result.andThen_ok, Sem.run_pure]
  exact rw_l hf hg (key _) (fun s' ⟨X, b', zs, e⟩ => by subst e; exact h X b' zs)

/-- A cut of what is owned, to its first cells. -/
theorem rw_takeO {d t k : Nat} {x y : Operand} {g0 g1 b : Bool} {kd : IntKind} {iv : Int} {e esz by_ n : Nat} {X : SlV} {ob : Option Nat} {xs : List Value} {ow' : List Own} {D : List Nat} (hf : Front ops r o D r') (hg : Guard ops SL o true) (hd : o.dst = some d) (hn : Nat.blt d N = true)
    (ho : o.op = .slice t x none (some y) none) (hx : ev SL x = some (g0, X.val n)) (hg0 : g0 = true) (hy : ev SL y = some (g1, .int kd iv)) (hg1 : g1 = true) (ht : T.slc t = some e) (hz : T.siz e = some (esz, b))
    (hu : UpdO OW ⟨X.val n, ob, e, esz, by_, n, xs⟩ [⟨X.val k, ob, e, esz, by_, k, xs.take (k * esz)⟩] ow') (hi : iv = (k : Int)) (hk : k ≤ n)
    (h : RW P T C ops r' ⟨N, (d, .v (X.val k)) :: SL, BL, ow', FA⟩ Q) : RW P T C ops r ⟨N, SL, BL, OW, FA⟩ Q := by
  refine rw_val hf hg hd hn (K := fun u bl ow fa => u = X.val k ∧ bl = BL ∧ ow = ow' ∧ fa = FA) ?_ (fun u bl ow fa ⟨e1, e2, e3, e4⟩ => by subst e1; subst e2; subst e3; subst e4; exact h)
  intro hT a w hrep
  have hm : (⟨X.val n, ob, e, esz, by_, n, xs⟩ : Own) ∈ OW := by obtain ⟨l, r, e, _⟩ := hu.spec; rw [e]; simp
  have hq := hrep.wo.ow _ hm
  obtain ⟨h1, h2, h3⟩ := hq
  simp only at h1 h2 h3
  have hkb : k * by_ ≤ n * by_ := Nat.mul_le_mul_right _ hk
  have hke : k * esz ≤ n * esz := Nat.mul_le_mul_right _ hk
  have hcn : k ≤ X.c ∧ OwnOk C w ⟨X.val k, ob, e, esz, by_, k, xs.take (k * esz)⟩ := by
    cases ob with
    | none =>
      obtain ⟨h0, A, hA⟩ := h3
      simp only [SlV.val, Value.slice.injEq] at hA
      have : k = 0 := by omega
      subst this
      exact ⟨Nat.zero_le _, ⟨by simp, by simp, rfl, X.a, by simp only [SlV.val, hA.2.2]⟩⟩
    | some g =>
      obtain ⟨hg, cap, cur, hv, hh, hnc, hcap, hcs, htake⟩ := h3
      simp only [SlV.val, Value.slice.injEq, true_and] at hv
      refine ⟨by omega, ⟨by simp only [List.length_take, h1]; omega, ⟨(by show k ≤ _; omega), (by show k * by_ ≤ _; omega)⟩, hg, cap, cur, by simp only [SlV.val, hv.1, hv.2], hh, (by show k ≤ _; omega), hcap, hcs, ?_⟩⟩
      simp only
      rw [← htake, List.take_take, Nat.min_eq_left hke]
  refine ⟨X.val k, w, BL, ow', FA, ?_, hrep.wo.swapO hu hcn.2 ⟨rfl, rfl, rfl, Nat.le_refl _, fun _ _ _ => rfl⟩ (.inl rfl), Keeps.refl _ _, rfl, rfl, rfl, rfl⟩
  have := q_slhi (P := P) (BL := BL) (FA := FA) (T := T) (SL := SL) (G := true) (h := k) (A := X.a) (n := n) (c := X.c) ho hx (fun _ => hg0) hy (fun _ => hg1) ht hz (fun _ => hi) (fun _ => hcn.1) hT rfl a w hrep.sl hrep.wo.wq
  exact this

/-- capacity of the nil slice -/
theorem q_cap {t e n cc : Nat} {x : Operand} {g0 G : Bool} {A : Option Addr} (ho : o.op = .call ⟨.builtin .cap, ⟨[x]⟩, ⟨[t]⟩⟩) (he : ev SL x = some (g0, .slice A n cc)) (hg0 : G = true → g0 = true) (ht : T.slc t = some e) : Quiet P T SL BL FA o G (.int .i64 (cc : Int)) :=
  fun hT hG a w hsl hw => by
    have h1 := ev_ok hsl he (hg0 hG)
    have hu := hT.slc _ _ ht
    simp [execOp, ho, resolve, invoke, builtin, h1, Builtin.cap_, run_underlying hu, goInt]
end
end Go.Proofs.YtccmadehnoihnaaGreatDoor.Fw

namespace Go.Proofs.YtccmadehnoihnaaGreatDoor.Fw
open Go Go.RowKit

/-! ### Slices of what has slices in it -/
instance : Inhabited SlV := ⟨⟨none, 0⟩⟩
structure En (α : Type) where
  G : Type
  inh : Inhabited G
  E : El (G × α)
  facts : G × α → List Pred
  stab : ∀ h, StabL (facts h)

instance {α : Type} (EN : En α) : Inhabited EN.G := EN.inh

def zipG {G α : Type} (γ : Nat → G) : Nat → List α → List (G × α)
  | _, [] => []
  | k, a :: r => (γ k, a) :: zipG γ (k + 1) r

theorem zipG_len {G α : Type} (γ : Nat → G) : ∀ (k : Nat) (l : List α), (zipG γ k l).length = l.length
  | _, [] => rfl
  | k, a :: r => by simp [zipG, zipG_len γ (k + 1) r]

theorem zipG_get {G α : Type} (γ : Nat → G) : ∀ (k : Nat) (l : List α) (i : Nat) (h : i < (zipG γ k l).length), (zipG γ k l)[i] = (γ (k + i), l[i]'(by rw [← zipG_len γ k l]; exact h))
  | k, a :: r, 0, h => rfl
  | k, a :: r, i + 1, h => by
    have := zipG_get γ (k + 1) r i (by simpa [zipG] using h)
    simp only [zipG, List.getElem_cons_succ]
    rw [this]
    congr 2
    omega

/-- Whatever list of pairs is such a one. -/
theorem zipG_of {G α : Type} [Inhabited G] : ∀ (hs : List (G × α)) (k : Nat), ∃ γ : Nat → G, hs = zipG γ k (hs.map (·.2)) ∧ ∀ i, i < hs.length → γ (k + i) = (hs.map (·.1)).getD i default
  | [], _ => ⟨fun _ => default, rfl, fun i h => absurd h (by simp)⟩
  | (g, a) :: r, k => by
    obtain ⟨γ, h1, h2⟩ := zipG_of r (k + 1)
    refine ⟨fun i => if i = k then g else γ i, ?_, ?_⟩
    · simp only [List.map_cons, zipG, if_pos]
      congr 1
      have key : ∀ (l : List α) (j : Nat), k < j → zipG (fun i => if i = k then g else γ i) j l = zipG γ j l := by
        intro l
        induction l with
        | nil => intro j _; rfl
        | cons b r ih => intro j hj; simp only [zipG]; rw [ih (j + 1) (by omega), if_neg (by omega)]
      rw [key _ _ (Nat.lt_succ_self k)]
      exact h1
    · intro i hi
      cases i with
      | zero => simp
      | succ i =>
        simp only [List.map_cons, List.getD_cons_succ]
        rw [if_neg (by omega), ← h2 i (by simpa using hi)]
        congr 1
        omega

def FactsG {α : Type} [Inhabited α] (EN : En α) (γ : Nat → EN.G) (l : List α) : Pred := fun M w => ∀ i, i < l.length → AllF (EN.facts (γ i, gt l i)) M w
instance {α : Type} [Inhabited α] (EN : En α) (γ : Nat → EN.G) (l : List α) : Stab (FactsG EN γ l) where
  st M M' w w' h hx hM := fun i hi F hF => ((EN.stab _).st F hF).st M M' w w' (h i hi F hF) hx hM

abbrev RdG {α : Type} (EN : En α) (X : SlV) (γ : Nat → EN.G) (l : List α) : Pred := RdL EN.E X (zipG γ 0 l)

/-- It reads as this list, and so does what is in it. -/
def RdN {α : Type} [Inhabited α] (EN : En α) (X : SlV) (l : List α) : Pred := fun M w => ∃ γ : Nat → EN.G, RdG EN X γ l M w ∧ FactsG EN γ l M w
instance {α : Type} [Inhabited α] (EN : En α) (X : SlV) (l : List α) : Stab (RdN EN X l) where
  st M M' w w' h hx hM := by
    obtain ⟨γ, h1, h2⟩ := h
    exact ⟨γ, Stab.st (F := RdG EN X γ l) M M' w w' h1 hx hM, Stab.st (F := FactsG EN γ l) M M' w w' h2 hx hM⟩

theorem RdN.len {α : Type} [Inhabited α] {EN : En α} {x : SlV} {l : List α} {M : Nat → Prop} {w : World} (h : RdN EN x l M w) : l.length * EN.E.by_ ≤ 140737488355328 := by
  obtain ⟨γ, h1, _⟩ := h
  have := h1.len
  rwa [zipG_len] at this

theorem RdN.nil_of {α : Type} [Inhabited α] {EN : En α} {x : SlV} {l : List α} {M : Nat → Prop} {w : World} (h : RdN EN x l M w) (hx : x.a.isNone = true) : l = [] := by
  obtain ⟨γ, h1, _⟩ := h
  have := congrArg List.length (h1.nil_of hx)
  rw [zipG_len] at this
  exact List.eq_nil_of_length_eq_zero this

section
variable {P : Program} {T : Tab} {C : Cx} {ops : Array Oper} {o : Oper} {r r' : RS} {s : St} {Q : Post} {N : Nat} {SL : Slots} {BL : List Blk} {OW : List Own} {FA : List Pred} {c : Code}

theorem rw_exN {α : Type} [Inhabited α] (EN : En α) {X : SlV} {l : List α} (hm : RdN EN X l ∈ FA) (h : ∀ γ : Nat → EN.G, RW P T C ops r ⟨N, SL, BL, OW, FactsG EN γ l :: RdG EN X γ l :: FA⟩ Q) : RW P T C ops r ⟨N, SL, BL, OW, FA⟩ Q := fun hT a w hr => by
  obtain ⟨hs, γ, h1, h2⟩ := hr.wo.fa _ hm
  refine h γ hT a w ⟨hr.sz, hr.df, hr.sl, hr.wo.be, hr.wo.bl, hr.wo.ow, hr.wo.nd, fun G hG => ?_⟩
  cases hG with
  | head => exact ⟨inferInstance, h2⟩
  | tail _ hG =>
    cases hG with
    | head => exact ⟨inferInstance, h1⟩
    | tail _ hG => exact hr.wo.fa G hG

theorem zipG_gt {G α : Type} [Inhabited G] [Inhabited α] (γ : Nat → G) {l : List α} {i : Nat} (h : i < l.length) : gt (zipG γ 0 l) i = (γ i, gt l i) := by
  rw [gt_eq (by rw [zipG_len]; exact h), gt_eq h, zipG_get]
  simp

theorem q_idxN {α : Type} (EN : En α) (γ : Nat → EN.G) {esz c t e n : Nat} {x y : Operand} {g0 g1 G b : Bool} {k : IntKind} {A : Option Addr} {l : List α} {iv : Int} (i : Nat) (ho : o.op = .indexAddr t x y)
    (he : ev SL x = some (g0, .slice A n c)) (hg0 : G = true → g0 = true) (hy : ev SL y = some (g1, .int k iv)) (hg1 : G = true → g1 = true)
    (ht : T.slc t = some e) (hz : T.siz e = some (esz, b)) (hes : EN.E.esz = esz) (hm : RdG EN ⟨A, c⟩ γ l ∈ FA) (hn : n = l.length) (hi : G = true → iv = (i : Int)) (hlt : G = true → i < l.length) :
    Quiet P T SL BL FA o G (.pointer (some (epA A i esz 0))) :=
  q_idx EN.E (l := zipG γ 0 l) i ho he hg0 hy hg1 ht hz hes hm (by rw [zipG_len]; exact hn) hi (fun h => by rw [zipG_len]; exact hlt h)

theorem q_le1N {α : Type} [Inhabited α] (EN : En α) (γ : Nat → EN.G) {esz c t n off : Nat} {x : Operand} {g0 G : Bool} {A : Option Addr} {l : List α} {i : Nat} {v : Value} (ho : o.op = .load t x)
    (he : ev SL x = some (g0, .pointer (some (epA A i esz off)))) (hg0 : G = true → g0 = true) (hs : T.siz t = some (n, false)) (hes : EN.E.esz = esz) (hm : RdG EN ⟨A, c⟩ γ l ∈ FA) (hlt : G = true → i < l.length)
    (hv : (EN.E.enc (γ i, gt l i))[off]? = some v) : Quiet P T SL BL FA o G v :=
  fun hT hG => q_le1 EN.E (l := zipG γ 0 l) (G := true) ho he (fun _ => hg0 hG) hs hes hm (fun _ => by rw [zipG_len]; exact hlt hG) (by rw [zipG_gt γ (hlt hG)]; exact hv) hT rfl

theorem q_leAN {α : Type} [Inhabited α] (EN : En α) (γ : Nat → EN.G) {esz c t : Nat} {x : Operand} {g0 G : Bool} {A : Option Addr} {l : List α} {i : Nat} (ho : o.op = .load t x)
    (he : ev SL x = some (g0, .pointer (some (epA A i esz 0)))) (hg0 : G = true → g0 = true) (hs : T.siz t = some (esz, true)) (hes : EN.E.esz = esz) (hm : RdG EN ⟨A, c⟩ γ l ∈ FA) (hlt : G = true → i < l.length) : Quiet P T SL BL FA o G (.agg ⟨EN.E.enc (γ i, gt l i)⟩) :=
  fun hT hG a w hsl hw => by
    have := q_leA EN.E (l := zipG γ 0 l) (G := true) ho he (fun _ => hg0 hG) hs hes hm (fun _ => by rw [zipG_len]; exact hlt hG) hT rfl a w hsl hw
    rwa [zipG_gt γ (hlt hG)] at this

/-- What pairs read as, with what is in them. -/
theorem RdN.of {α : Type} [Inhabited α] (EN : En α) {X : SlV} {hs : List (EN.G × α)} {l : List α} (hl : hs.map (·.2) = l) {M : Nat → Prop} {w : World} (h : RdL EN.E X hs M w) (hf : ∀ p ∈ hs, AllF (EN.facts p) M w) : RdN EN X l M w := by
  subst hl
  obtain ⟨γ, h1, h2⟩ := zipG_of hs 0
  refine ⟨γ, ?_, fun i hi => ?_⟩
  · unfold RdG; rw [← h1]; exact h
  · have hi' : i < hs.length := by simpa using hi
    have h3 := h2 i hi'
    rw [Nat.zero_add] at h3
    rw [h3, gt_eq hi]
    have : ((hs.map (·.1)).getD i default, (hs.map (·.2))[i]) = hs[i] := by simp [List.getD, List.getElem?_map, List.getElem?_eq_getElem hi']
    rw [this]
    exact hf _ (List.getElem_mem hi')
theorem allP_cons {β : Type} {φ : β → Prop} {a : β} {r : List β} (h : φ a) (hr : ∀ p ∈ r, φ p) : ∀ p ∈ a :: r, φ p := fun p hp => by
  cases hp with
  | head => exact h
  | tail _ hp => exact hr p hp
theorem allF_sub {pre q : List Pred} (hs : SubM pre q) {M : Nat → Prop} {w : World} (h : AllF pre M w) : AllF q M w := fun F hF => h F (hs.mem F hF)
theorem RdN.nil {α : Type} [Inhabited α] (EN : En α) (M : Nat → Prop) (w : World) : RdN EN ⟨none, 0⟩ [] M w :=
  RdN.of EN (hs := []) rfl (RdL.nil _ _ _ (by omega) M w) (fun p hp => by cases hp)

end
end Go.Proofs.YtccmadehnoihnaaGreatDoor.Fw

namespace Go.Proofs.YtccmadehnoihnaaGreatDoor.Fw
open Go Go.RowKit

section
variable {P : Program} {T : Tab} {C : Cx} {ops : Array Oper} {o : Oper} {r r' : RS} {s : St} {Q : Post} {N : Nat} {SL : Slots} {BL : List Blk} {OW : List Own} {FA : List Pred} {c : Code}

/-! ### What is owned, read by a quiet operation -/
theorem OwnOk.keeps {q : Own} {w w' : World} (h : OwnOk C w q) (hk : Keeps [] w w') : OwnOk C w' q := by
  obtain ⟨h1, h2, h3⟩ := h
  refine ⟨h1, h2, ?_⟩
  cases hb : q.b with
  | none => rw [hb] at h3; exact h3
  | some g =>
    rw [hb] at h3
    obtain ⟨hg, cap, cur, hv, hh, hr⟩ := h3
    exact ⟨hg, cap, cur, hv, by rw [hk.2 g (heap_lt hh) (by simp)]; exact hh, hr⟩

theorem wq_own {α : Type} {E : El α} {e : TypeId} {X : SlV} {b : Option Nat} {l : List α} (hm : ownL E e X b l ∈ OW) {w w' : World} (h : WOk C ⟨N, SL, BL, OW, FA⟩ w) (hk : Keeps [] w w') : WQ BL (RdL E X l :: FA) w' := by
  have h1 : WQ BL FA w' := wq_keepsO h (D := some []) ⟨rfl, _, SplitB.all _, by simp⟩ hk
  refine ⟨h1.bl, fun F hF => ?_⟩
  cases hF with
  | head => exact ⟨fun _ => False, OwnOk.rd (C := C) (e := e) (b := b) ((h.ow _ hm).keeps hk) (fun _ _ h => h)⟩
  | tail _ hF => exact h1.fa F hF

theorem rw_qGO {α : Type} (E : El α) {e : TypeId} {X : SlV} {b : Option Nat} {l : List α} (hm : ownL E e X b l ∈ OW) {d : Nat} {G : Bool} {v : Value} {sv : SV} (hf : FrontQ ops r o (some []) r') (hG : Guard ops SL o G) (hd : o.dst = some d) (hn : Nat.blt d N = true) (hq : Quiet P T SL BL (RdL E X l :: FA) o G v)
    (hsv : sv.ok (some (bif G then v else undef)))
    (h : RW P T C ops r' ⟨N, (d, sv) :: SL, BL, OW, FA⟩ Q) : RW P T C ops r ⟨N, SL, BL, OW, FA⟩ Q := by
  intro hT a w hrep
  have hput : ∀ u, u = (bif G then v else undef) → Rep C ⟨N, (d, sv) :: SL, BL, OW, FA⟩ (a.put (some d) u) w := fun u hu => by
    subst hu
    exact hrep.putv (Nat.le_of_ble_eq_true hn) hsv hrep.wo
  rcases hf.first with ⟨l, rfl, rfl⟩ | ⟨fp, fuel, listed, i, rfl, rfl, hfirst⟩
  · show wpList P ops (postOf C Q) (o :: _) a w
    unfold wpList
    rw [hG a hrep.sl]
    cases hGv : G with
    | true =>
      rw [if_pos rfl]
      refine .inl ?_
      unfold Oper.wp
      rw [hq hT hGv a w hrep.sl (wq_own hm hrep.wo (Keeps.refl _ _)), Oper.upon_value, hd]
      exact h hT _ _ (hput _ (by simp [hGv]))
    | false =>
      rw [if_neg (by simp), hd]
      exact h hT _ _ (hput _ (by simp [hGv]))
  · have hy : YieldsF P ops (some []) o (bif G then v else undef) a w := by
      cases hGv : G with
      | true => exact .inl ⟨by rw [hG a hrep.sl, hGv], fun w' hk => by simpa using hq hT hGv a w' hrep.sl (wq_own hm hrep.wo hk)⟩
      | false => exact .inr ⟨by rw [hG a hrep.sl, hGv], rfl⟩
    have hH := h hT _ _ (hput _ rfl)
    exact hfirst hy (by rw [hd]; exact hH)

theorem rw_qO {α : Type} (E : El α) {e : TypeId} {X : SlV} {b : Option Nat} {l : List α} (hm : ownL E e X b l ∈ OW) {d : Nat} {v : Value} (hf : FrontQ ops r o (some []) r') (hg : o.guard = none) (hd : o.dst = some d) (hn : Nat.blt d N = true) (hq : Quiet P T SL BL (RdL E X l :: FA) o true v)
    (h : RW P T C ops r' ⟨N, (d, .v v) :: SL, BL, OW, FA⟩ Q) : RW P T C ops r ⟨N, SL, BL, OW, FA⟩ Q :=
  rw_qGO E hm hf (guard_none hg) hd hn hq (by simp [SV.ok]) h
theorem rw_qgO {α : Type} (E : El α) {e : TypeId} {X : SlV} {b : Option Nat} {l : List α} (hm : ownL E e X b l ∈ OW) {d : Nat} {G : Bool} {v : Value} (hf : FrontQ ops r o (some []) r') (hG : Guard ops SL o G) (hd : o.dst = some d) (hn : Nat.blt d N = true) (hq : Quiet P T SL BL (RdL E X l :: FA) o G v)
    (h : RW P T C ops r' ⟨N, (d, .o G v) :: SL, BL, OW, FA⟩ Q) : RW P T C ops r ⟨N, SL, BL, OW, FA⟩ Q :=
  rw_qGO E hm hf hG hd hn hq (by simp [SV.ok]) h

/-! ### A cell of what is owned is written -/
theorem putAt_appL : ∀ (cs tl : List Value) (off : Nat) (vs : List Value), off + vs.length ≤ cs.length → putAt (cs ++ tl) off vs = putAt cs off vs ++ tl := by
  intro cs tl off vs
  induction vs generalizing cs off with
  | nil => intro _; simp [putAt]
  | cons v vs ih =>
    intro h
    simp only [List.length_cons] at h
    simp only [putAt]
    rw [List.set_append_left _ _ (by omega)]
    exact ih (cs.set off v) (off + 1) (by simp; omega)
theorem rw_stO {α : Type} [Inhabited α] (E : El α) (l : List α) (i o2 : Nat) (p : α) {e : TypeId} {X : SlV} {b : Option Nat} {t n : Nat} {x y : Operand} {g0 g1 bb : Bool} {v : Value} {vs : List Value} {ow' : List Own} {D : List Nat} (hf : Front ops r o D r')
    (hgD : (∃ l, r = .sq l) ∨ ∀ g, b = some g → g ∈ D) (hg : Guard ops SL o true) (hd : o.dst = none) (ho : o.op = .store t x y)
    (he : ev SL x = some (g0, .pointer (some (epA X.a i E.esz o2)))) (hg0 : g0 = true) (hev : ev SL y = some (g1, v)) (hg1 : g1 = true) (hs : T.siz t = some (n, bb)) (hvc : v.cells = vs.toArray) (hvn : vs.length = n)
    (hone : vs.all (·.oneCell') = true) (hle : Nat.ble (o2 + n) E.esz = true) (hlt : i < l.length) (hp : E.enc p = putAt (E.enc (gt l i)) o2 vs) (hu : UpdO OW (ownL E e X b l) [ownL E e X b (l.set i p)] ow')
    (h : RW P T C ops r' ⟨N, SL, BL, ow', FA⟩ Q) : RW P T C ops r ⟨N, SL, BL, OW, FA⟩ Q := by
  intro hT a w hrep
  have hle := Nat.le_of_ble_eq_true hle
  obtain ⟨ll, rr, e1, e2⟩ := hu.spec
  have hq := hrep.wo.ow (ownL E e X b l) (by rw [e1]; simp)
  obtain ⟨h1, h2, h3⟩ := hq
  simp only at h1 h2 h3
  cases b with
  | none => omega
  | some g =>
    obtain ⟨hmine, cap, cur, hv, hh, hnc, hcap, hcs, htake⟩ := h3
    simp only [SlV.val, Value.slice.injEq, true_and] at hv
    have hXa := hv.1
    have hidp : (ids ⟨N, SL, BL, OW, FA⟩).Perm (g :: (BL.map (·.g) ++ (ll ++ rr).filterMap (·.b))) := by
      subst e1
      simp only [ids, List.filterMap_append, List.filterMap_cons]
      rw [← List.append_assoc]
      exact (List.perm_middle).trans (by simp [List.append_assoc])
    have hMp : ∀ k, k ∈ ids ⟨N, SL, BL, OW, FA⟩ ↔ k ∈ g :: (BL.map (·.g) ++ (ll ++ rr).filterMap (·.b)) := fun k => hidp.mem_iff
    have hrep2 : Rep C ⟨N, SL, ⟨g, e, cur.toList⟩ :: BL, ll ++ rr, FA⟩ a w := by
      refine ⟨hrep.sz, hrep.df, hrep.sl, hrep.wo.be, fun k hk => ?_, fun q hq => hrep.wo.ow q (by
        rw [e1]
        rcases List.mem_append.1 hq with h | h
        · exact List.mem_append_left _ h
        · exact List.mem_append_right _ (.tail _ h)), ?_, fun F hF => ?_⟩
      · cases hk with
        | head => exact ⟨by simpa using hh, hmine⟩
        | tail _ hk => exact hrep.wo.bl k hk
      · have := hidp.nodup_iff.1 hrep.wo.nd
        simpa [ids] using this
      · have hF' := hrep.wo.fa F hF
        refine ⟨hF'.1, hF'.1.st _ _ w w hF'.2 ⟨Nat.le_refl _, fun _ _ _ => rfl⟩ fun k _ hm => ?_⟩
        rcases hm with hm | hm
        · exact .inl hm
        · exact .inr ((hMp k).2 (by simpa [ids] using hm))
    have hflat : (l.flatMap E.enc).length = l.length * E.esz := flatMap_len l fun a _ => E.len a
    have hsz : cur.toList.length = cap * E.esz := by rw [Array.length_toList]; exact hcs
    have hii : (i + 1) * E.esz ≤ l.length * E.esz := Nat.mul_le_mul_right _ hlt
    have hcc : l.length * E.esz ≤ cap * E.esz := Nat.mul_le_mul_right _ hnc
    rw [Nat.add_mul] at hii
    have hput : putAt cur.toList (i * E.esz + o2) vs = (l.set i p).flatMap E.enc ++ cur.toList.drop (l.length * E.esz) := by
      have hsplit : cur.toList = l.flatMap E.enc ++ cur.toList.drop (l.length * E.esz) := by rw [← htake, List.take_append_drop]
      conv => lhs; rw [hsplit]
      rw [putAt_appL _ _ _ _ (by omega), putAt_flat E p o2 vs (by omega) l i hlt hp]
    have hback : Le C ⟨N, SL, ⟨g, e, (l.set i p).flatMap E.enc ++ cur.toList.drop (l.length * E.esz)⟩ :: BL, ll ++ rr, FA⟩ ⟨N, SL, BL, ow', FA⟩ := fun a' w' hr => by
      have hb := hr.wo.bl _ (.head _)
      have hfl : ((l.set i p).flatMap E.enc).length = l.length * E.esz := by rw [flatMap_len _ fun a _ => E.len a]; simp
      have hidp2 : (ids ⟨N, SL, BL, ow', FA⟩).Perm (g :: (BL.map (·.g) ++ (ll ++ rr).filterMap (·.b))) := by
        subst e2
        simp only [ids, List.filterMap_append, List.filterMap_cons, List.filterMap_nil, List.nil_append, List.cons_append]
        rw [← List.append_assoc]
        exact (List.perm_middle).trans (by simp [List.append_assoc])
      refine ⟨hr.sz, hr.df, hr.sl, hr.wo.be, fun k hk => hr.wo.bl k (.tail _ hk), fun q hq => ?_, ?_, fun F hF => ?_⟩
      · rw [e2] at hq
        rcases List.mem_append.1 hq with hq | hq
        · exact hr.wo.ow q (List.mem_append_left _ hq)
        · rcases List.mem_append.1 hq with hq | hq
          · rw [List.mem_singleton] at hq
            subst hq
            refine ⟨by simp only [List.length_set]; exact hfl, by simpa using h2, hmine, cap, _, ?_, hb.1, by simpa using hnc, hcap, ?_, ?_⟩
            · simp only [SlV.val, Value.slice.injEq, true_and]; exact hv
            · simp only [List.size_toArray, List.length_append, hfl, List.length_drop, hsz]; omega
            · simp only [List.length_set]
              rw [← hfl]
              simp
          · exact hr.wo.ow q (List.mem_append_right _ hq)
      · refine hidp2.nodup_iff.2 ?_
        have := hr.wo.nd
        simpa [ids] using this
      · have hF' := hr.wo.fa F hF
        refine ⟨hF'.1, hF'.1.st _ _ w' w' hF'.2 ⟨Nat.le_refl _, fun _ _ _ => rfl⟩ fun k _ hm => ?_⟩
        rcases hm with hm | hm
        · exact .inl hm
        · exact .inr (by have := hidp2.mem_iff.1 hm; simpa [ids] using this)
    have hptr : epA X.a i E.esz o2 = ⟨g, i * E.esz + o2, none⟩ := by rw [hXa]; simp [epA, Addr.add_lit]
    rw [hptr] at he
    refine rw_stS (BL := ⟨g, e, cur.toList⟩ :: BL) (OW := ll ++ rr) (vs := vs) (cs := cur.toList) hf ?_ hg hd ho he hg0 hev hg1 hs hvc hvn hone (.here _ _ _ _ _) (by rw [hsz]; omega) ?_ hT a w hrep2
    · rcases hgD with h | h
      · exact .inl h
      · exact .inr (h g rfl)
    · rw [hput]
      exact rw_le hback h
end
end Go.Proofs.YtccmadehnoihnaaGreatDoor.Fw

namespace Go.Proofs.YtccmadehnoihnaaGreatDoor.Fw
open Go Go.RowKit

section
variable {P : Program} {T : Tab} {C : Cx} {ops : Array Oper} {o : Oper} {r r' : RS} {s : St} {Q : Post} {N : Nat} {SL : Slots} {BL : List Blk} {OW : List Own} {FA : List Pred} {c : Code}

theorem cw_lenO {α : Type} (E : El α) {e : TypeId} {X : SlV} {b : Option Nat} {l : List α} (hm : ownL E e X b l ∈ OW) (h : l.length ≤ 9223372036854775807 → l.length * E.by_ ≤ 140737488355328 → CW P T C c ⟨N, SL, BL, OW, FA⟩ Q) : CW P T C c ⟨N, SL, BL, OW, FA⟩ Q := fun hT a w hr =>
  h (hr.wo.ow _ hm).2.1.1 (hr.wo.ow _ hm).2.1.2 hT a w hr
/-- Ways that meet again, at the end of a code. -/
theorem cw_joinB {ι : Type} (keep : List Nat) (mask : List Bool) (mS : ι → Slots) (mB : ι → List Blk) (mO : ι → List Own) (mF : ι → List Pred) (inv : ι → Prop) {SL' : Slots} {BL' : List Blk}
    (_hsel : Sel SL keep SL') (_hB : SelB BL mask BL')
    (h : CW P T C c ⟨N, SL, BL, OW, FA⟩ (joinQ C (fun i => ⟨N, mS i ++ SL', mB i ++ BL', mO i, mF i ++ FA⟩) inv Q))
    (hj : ∀ i, inv i → Q .normal ⟨N, mS i ++ SL', mB i ++ BL', mO i, mF i ++ FA⟩) : CW P T C c ⟨N, SL, BL, OW, FA⟩ Q := fun hT a w hr =>
  Code.wp_mono (fun e a w hq => by
    cases e with
    | normal => obtain ⟨s', ⟨i, h1, h2⟩, h3⟩ := hq; exact ⟨_, hj i h1, h2 a w h3⟩
    | exit i => exact hq
    | ret => exact hq
    | goto l => exact hq
    | panic c => exact hq
    | outgrown => exact hq) (h hT a w hr)
end
end Go.Proofs.YtccmadehnoihnaaGreatDoor.Fw

namespace Go.Proofs.YtccmadehnoihnaaGreatDoor.Fw
open Go Go.RowKit

section
variable {P : Program} {T : Tab} {C : Cx} {ops : Array Oper} {o : Oper} {r r' : RS} {s : St} {Q : Post} {N : Nat} {SL : Slots} {BL : List Blk} {OW : List Own} {FA : List Pred} {c : Code}

theorem cw_mono {Q Q' : Post} (h : ∀ e s, Q e s → Q' e s) (hc : CW P T C c s Q) : CW P T C c s Q' := fun hT a w hr => Code.wp_mono (fun e a w => postOf_mono h e a w) (hc hT a w hr)

/-! ### A loop that goes round no second time -/
def onceQ (Q : Post) : Post
  | .normal, _ => False
  | e, s => Q e s

theorem cw_once {b : Code} (h : CW P T C b s (onceQ Q)) : CW P T C (.loop b) s Q :=
  cw_loop (ι := Unit) (fun _ => s) (fun _ => True) (fun _ => 0) () trivial Le.refl fun _ _ => cw_mono (fun e s' hq => by
    cases e with
    | normal => exact hq.elim
    | exit i => exact hq
    | ret => exact hq
    | goto l => exact hq
    | panic c => exact hq
    | outgrown => exact hq) h

theorem PreR.sub {pre : List Pred} (h : SubM FA pre) : PreR FA OW pre := by
  induction h with
  | nil => exact .nil _ _
  | cons h _ ih => exact .fact h ih

/-! ### Words without a sign: the middle of two numbers -/
theorem wrap_u (n : Int) (h : 0 ≤ n ∧ n ≤ 9223372036854775807) : IntKind.u64.wrap n = n := by
  simp only [IntKind.wrap, IntKind.bits]; simp; omega
theorem q_convU {t t' : Nat} {x : Operand} {g0 G : Bool} {a : Int} (hd : P.underlying t = some (.int .i64)) (hd' : P.underlying t' = some (.int .u64)) (ho : o.op = .convert t t' x) (he : ev SL x = some (g0, .int .i64 a)) (hg0 : G = true → g0 = true)
    (hb : G = true → 0 ≤ a ∧ a ≤ 9223372036854775807) : Quiet P T SL BL FA o G (.int .u64 a) :=
  fun hT hG a' w hsl hw => by
    have h1 := ev_ok hsl he (hg0 hG)
    have h3 := wrap_u a (hb hG)
    simp only [execOp, ho, h1, Sem.run_bind, convert, run_underlying hd, run_underlying hd', Result.andThen_ok, Conv.intToInt, h3, Sem.run_pure]
theorem q_convI {t t' : Nat} {x : Operand} {g0 G : Bool} {a : Int} (hd : P.underlying t = some (.int .u64)) (hd' : P.underlying t' = some (.int .i64)) (ho : o.op = .convert t t' x) (he : ev SL x = some (g0, .int .u64 a)) (hg0 : G = true → g0 = true)
    (hb : G = true → -9223372036854775808 ≤ a ∧ a ≤ 9223372036854775807) : Quiet P T SL BL FA o G (.int .i64 a) :=
  fun hT hG a' w hsl hw => by
    have h1 := ev_ok hsl he (hg0 hG)
    have h3 := wrap_in a (hb hG)
    simp only [execOp, ho, h1, Sem.run_bind, convert, run_underlying hd, run_underlying hd', Result.andThen_ok, Conv.intToInt, h3, Sem.run_pure]
theorem q_shr1 {t t' : Nat} {x : Operand} {g0 G : Bool} {a : Int} (ho : o.op = .binOp .shr t x (.const (.int .u64 1)) t') (he : ev SL x = some (g0, .int .u64 a)) (hg0 : G = true → g0 = true) : Quiet P T SL BL FA o G (.int .u64 (a / 2)) :=
  fun hT hG a' w hsl hw => by
    have h1 := ev_ok hsl he (hg0 hG)
    have h3 : (Op.shift .shr .u64 a .u64 1).run P w = .ok (.int .u64 (a / 2)) w := by
      simp [Op.shift, IntKind.bits, Int.fdiv_eq_ediv_of_nonneg]
    simp [execOp, ho, h1, eval_const, eqGuard, binOp, h3]

/-- An element of a cut s[k:] of what is owned, as one of s. -/
theorem q_idxK {α : Type} (E : El α) {l : List α} {X : SlV} {k esz t e : Nat} {x y : Operand} {g0 g1 G b : Bool} {kd : IntKind} {iv : Int} (i : Nat) (ho : o.op = .indexAddr t x y)
    (he : ev SL x = some (g0, (⟨slA X.a X.c k E.esz, X.c - k⟩ : SlV).val (l.drop k).length)) (hg0 : G = true → g0 = true) (hy : ev SL y = some (g1, .int kd iv)) (hg1 : G = true → g1 = true)
    (ht : T.slc t = some e) (hz : T.siz e = some (esz, b)) (hes : E.esz = esz) (hm : RdL E X l ∈ FA) (hi : G = true → iv = (i : Int)) (hlt : G = true → k + i < l.length) :
    Quiet P T SL BL FA o G (.pointer (some (epA X.a (k + i) esz 0))) :=
  fun hT hG a w hsl hw => by
    obtain ⟨ti, d, q1, q2, q3, q4⟩ := hT.siz _ _ _ hz
    have h1 := ev_ok hsl he (hg0 hG)
    have h2 := ev_ok hsl hy (hg1 hG)
    have hlt := hlt hG
    have hi := hi hG
    obtain ⟨_, r1, _, _, h4⟩ := hw.fa _ hm
    obtain ⟨ad, ha, _⟩ := h4 (by omega)
    subst hi; subst hes
    have hu := hT.slc _ _ ht
    have hs : slA X.a X.c k E.esz = some (ad.add (k * E.esz)) := by
      unfold slA
      rw [if_neg (by omega), ha]; rfl
    have hdl : (l.drop k).length = l.length - k := List.length_drop
    rw [SlV.val, hs, hdl] at h1
    simp only [execOp, ho, h1, h2, Instr.indexAt, asIntOf, Sem.run_bind, Sem.run_pure, Result.andThen_ok, run_underlying hu]
    rw [if_pos (by omega)]
    simp [run_sizeOf' q1, q2, epA, ha, addr_add_add, Nat.add_mul]

/-- A cut s[:k] of what is owned. -/
theorem rw_takeOL {α : Type} (E : El α) (l : List α) (k : Nat) {d t : Nat} {x y : Operand} {g0 g1 b : Bool} {kd : IntKind} {iv : Int} {e : TypeId} {X : SlV} {ob : Option Nat} {ow' : List Own} {D : List Nat} (hf : Front ops r o D r') (hg : Guard ops SL o true) (hd : o.dst = some d) (hn : Nat.blt d N = true)
    (ho : o.op = .slice t x none (some y) none) (hx : ev SL x = some (g0, X.val l.length)) (hg0 : g0 = true) (hy : ev SL y = some (g1, .int kd iv)) (hg1 : g1 = true) (ht : T.slc t = some e) (hz : T.siz e = some (E.esz, b))
    (hu : UpdO OW (ownL E e X ob l) [ownL E e X ob (l.take k)] ow') (hi : iv = (k : Int)) (hk : k ≤ l.length)
    (h : RW P T C ops r' ⟨N, (d, .v (X.val (l.take k).length)) :: SL, BL, ow', FA⟩ Q) : RW P T C ops r ⟨N, SL, BL, OW, FA⟩ Q := by
  have e1 : (l.take k).length = k := by simp; omega
  have e2 : (l.take k).flatMap E.enc = (l.flatMap E.enc).take (k * E.esz) := by
    have hs : l.flatMap E.enc = (l.take k).flatMap E.enc ++ (l.drop k).flatMap E.enc := by rw [← List.flatMap_append, List.take_append_drop]
    have hlk : ((l.take k).flatMap E.enc).length = k * E.esz := by rw [flatMap_len _ fun a _ => E.len a, e1]
    rw [hs, ← hlk, List.take_left]
  refine rw_takeO (ob := ob) (k := k) (n := l.length) (xs := l.flatMap E.enc) (by_ := E.by_) (ow' := ow') hf hg hd hn ho hx hg0 hy hg1 ht hz ?_ hi hk ?_
  · have := hu
    unfold ownL at this
    rw [e1, e2] at this
    exact this
  · have := h
    rw [e1] at this
    exact this
end
end Go.Proofs.YtccmadehnoihnaaGreatDoor.Fw

namespace Go.Proofs.YtccmadehnoihnaaGreatDoor.Fw
open Go Go.RowKit

/-! ### Short words for what is tried again and again -/
theorem Bt {p : Prop} (h : p := by intro h; first | exact h | (simp only [h, Bool.and_true, Bool.true_and, Bool.and_self]; done) | (simp only [Bool.and_eq_true] at h; simp only [h, Bool.and_true, Bool.and_self]; done) | (clear h; simp only [Bool.true_and, Bool.and_true, Bool.or_not_self, Bool.not_or_self, Bool.not_not, Bool.or_true, Bool.true_or]; done) | (simp only [*, Bool.true_and, Bool.and_true, Bool.or_not_self, Bool.not_or_self, Bool.or_true, Bool.true_or, Bool.not_true, Bool.not_false, Bool.or_false, Bool.false_or, Bool.and_self]; done) | (simp_all; done)) : p := h
theorem Sf {p : Prop} (h : p := by repeat (first | exact .nil _ | exact SubM.all _ | refine .cons (by repeat (first | exact .head _ | apply List.Mem.tail)) ?_ | apply SubM.skip)) : p := h
theorem Sm {p : Prop} (h : p := by repeat (first | exact .nil _ | refine .cons (by repeat (first | exact .head _ | apply List.Mem.tail)) ?_)) : p := h
theorem Sp {p : Prop} (h : p := by repeat (first | exact .nil _ | refine .cons (by repeat (first | exact .here _ _ | apply Pick.there)) ?_)) : p := h
theorem Mm {p : Prop} (h : p := by repeat (first | exact .head _ | apply List.Mem.tail)) : p := h
theorem Ub {p : Prop} (h : p := by repeat (first | exact .here _ _ _ _ _ | apply UpdB.there)) : p := h
theorem Uo {p : Prop} (h : p := by repeat (first | exact .here _ _ _ | apply UpdO.there)) : p := h
theorem Pk {p : Prop} (h : p := by repeat (first | exact .here _ _ | apply Pick.there)) : p := h
theorem Kr {p : Prop} (h : p := by kernel_rfl) : p := h
section
variable {P : Program} {T : Tab} {C : Cx} {ops : Array Oper} {o : Oper} {r r' : RS} {s : St} {Q : Post} {N : Nat} {SL : Slots} {BL : List Blk} {OW : List Own} {FA : List Pred} {c : Code}
theorem Rp {d : Nat} {v : Value} {l : List Oper} (hg : o.guard = none) (hd : o.dst = some d) (hn : Nat.blt d N = true) (he : pev T SL o.op = some (true, v))
    (h : RW P T C ops (.sq l) ⟨N, (d, .v v) :: SL, BL, OW, FA⟩ Q) : RW P T C ops (.sq (o :: l)) ⟨N, SL, BL, OW, FA⟩ Q := rw_q hg hd hn (q_pev he (fun _ => rfl)) h
theorem Le4 {s' : St} {C : Cx} (hn : s.n = s'.n := by rfl) (hs : SubS s.sl s'.sl := by repeat (first | exact .nil _ | refine .cons rfl ?_)) (hb : SubP s.bl s'.bl := by repeat (first | exact .nil _ | refine .cons (by repeat (first | exact .here _ _ | apply Pick.there)) ?_)) (ho : SubP s.ow s'.ow := by repeat (first | exact .nil _ | refine .cons (by repeat (first | exact .here _ _ | apply Pick.there)) ?_)) (hf : SubM s.fa s'.fa := by repeat (first | exact .nil _ | refine .cons (by repeat (first | exact .head _ | apply List.Mem.tail)) ?_)) : Le C s s' := Le.of hn hs hb ho hf
theorem Le5 {s' : St} {C : Cx} (hn : s.n = s'.n := by rfl) (hs : SubS s.sl s'.sl := by repeat (first | exact .nil _ | refine .cons rfl ?_)) (hb : SubP s.bl s'.bl := by repeat (first | exact .nil _ | refine .cons (by repeat (first | exact .here _ _ | apply Pick.there)) ?_)) (ho : SubP s.ow s'.ow := by repeat (first | exact .nil _ | refine .cons (by repeat (first | exact .here _ _ | apply Pick.there)) ?_)) (hf : SubM s.fa s'.fa := by repeat (first | exact .nil _ | exact SubM.all _ | refine .cons (by repeat (first | exact .head _ | apply List.Mem.tail)) ?_ | apply SubM.skip)) : Le C s s' := Le.of hn hs hb ho hf
end
end Go.Proofs.YtccmadehnoihnaaGreatDoor.Fw

namespace Go.Proofs.YtccmadehnoihnaaGreatDoor.Fw
open Go
variable {P : Program} {T : Tab} {C : Cx} {ops : Array Oper} {Q : Post} {N : Nat} {SL : List (Nat × SV)} {BL : List Blk} {OW : List Own} {FA : List Pred} {o : Oper}
/-- A quiet one that is the one taken next. -/
theorem ra_now {fp : Nat → Option (List Nat)} {fuel : Nat} {listed : Array Bool} {i d : Nat} {v : Value} (hi : ops[i]? = some o) (hg : o.guard = none) (hd : o.dst = some d) (hn : Nat.blt d N = true) (hq : Quiet P T SL BL FA o true v)
    (h : RW P T C ops (.an fp fuel (listed.setIfInBounds i true)) ⟨N, (d, .v v) :: SL, BL, OW, FA⟩ Q) : RW P T C ops (.at_ fp fuel listed i) ⟨N, SL, BL, OW, FA⟩ Q := by
  intro hT a w hrep
  have hs : ReadsQ BL OW FA (some []) BL FA := ⟨rfl, _, SplitB.all _, by simp⟩
  have hk := wq_keepsO hrep.wo hs (KeepsO.refl _ _)
  have hG := (guard_none (ops := ops) (SL := SL) hg) a hrep.sl
  unfold wpR wpOp
  simp only [hi]
  rw [if_pos hG]
  refine .inl ?_
  unfold Oper.wp
  rw [hq hT rfl a w hrep.sl hk, Oper.upon_value, hd]
  exact ⟨KeepsO.refl _ _, h hT _ _ (hrep.putv (Nat.le_of_ble_eq_true hn) (by simp [SV.ok]) hrep.wo)⟩
end Go.Proofs.YtccmadehnoihnaaGreatDoor.Fw

namespace Go.Proofs.YtccmadehnoihnaaGreatDoor.Fw
open Go Go.RowKit

/-! ### What is owned and has slices in its elements -/
section
variable {G α : Type}
def updG (γ : Nat → G) (i : Nat) (g : G) : Nat → G := fun j => if j = i then g else γ j
def appG (γ : Nat → G) (n : Nat) (δ : Nat → G) : Nat → G := fun j => if j < n then γ j else δ (j - n)
def dropG (γ : Nat → G) (k : Nat) : Nat → G := fun j => γ (k + j)
theorem zipG_ext {γ δ : Nat → G} : ∀ {l : List α} {k m : Nat}, (∀ i, i < l.length → γ (k + i) = δ (m + i)) → zipG γ k l = zipG δ m l
  | [], _, _, _ => rfl
  | a :: r, k, m, h => by
    rw [zipG, zipG]
    have h0 := h 0 (by simp)
    simp only [Nat.add_zero] at h0
    rw [h0, zipG_ext (k := k + 1) (m := m + 1) fun i hi => ?_]
    have := h (i + 1) (by simp; omega)
    rwa [show k + 1 + i = k + (i + 1) by omega, show m + 1 + i = m + (i + 1) by omega]
theorem zipG_app (γ : Nat → G) : ∀ (l m : List α) (k : Nat), zipG γ k (l ++ m) = zipG γ k l ++ zipG γ (k + l.length) m
  | [], m, k => by simp [zipG]
  | a :: r, m, k => by
    simp only [List.cons_append, zipG, List.length_cons]
    rw [zipG_app γ r m (k + 1), show k + 1 + r.length = k + (r.length + 1) by omega]
theorem zipG_append (γ δ : Nat → G) (l m : List α) : zipG γ 0 l ++ zipG δ 0 m = zipG (appG γ l.length δ) 0 (l ++ m) := by
  rw [zipG_app]
  congr 1
  · exact zipG_ext fun i hi => by simp [appG, hi]
  · refine zipG_ext fun i _ => ?_
    simp only [appG, Nat.zero_add]
    rw [if_neg (by omega)]; congr 1; omega
theorem zipG_take (γ : Nat → G) : ∀ (l : List α) (n k : Nat), (zipG γ k l).take n = zipG γ k (l.take n)
  | [], n, k => by simp [zipG]
  | a :: r, 0, k => by simp [zipG]
  | a :: r, n + 1, k => by simp [zipG, zipG_take γ r n (k + 1)]
theorem zipG_drop0 (γ : Nat → G) : ∀ (l : List α) (n k : Nat), (zipG γ k l).drop n = zipG γ (k + n) (l.drop n)
  | [], n, k => by simp [zipG]
  | a :: r, 0, k => by simp [zipG]
  | a :: r, n + 1, k => by
    simp only [zipG, List.drop_succ_cons]
    rw [zipG_drop0 γ r n (k + 1), show k + 1 + n = k + (n + 1) by omega]
theorem zipG_drop (γ : Nat → G) (l : List α) (n : Nat) : (zipG γ 0 l).drop n = zipG (dropG γ n) 0 (l.drop n) := by
  rw [zipG_drop0]
  exact zipG_ext fun i _ => by simp [dropG]
theorem zipG_set (γ : Nat → G) (g : G) (a : α) : ∀ (l : List α) (i k : Nat), (zipG γ k l).set i (g, a) = zipG (updG γ (k + i) g) k (l.set i a)
  | [], i, k => by simp [zipG]
  | b :: r, 0, k => by
    simp only [zipG, List.set_cons_zero, Nat.add_zero, updG, if_pos]
    congr 1
    exact zipG_ext fun i _ => by simp only [updG]; rw [if_neg (by omega)]
  | b :: r, i + 1, k => by
    simp only [zipG, List.set_cons_succ]
    rw [zipG_set γ g a r i (k + 1), show k + 1 + i = k + (i + 1) by omega]
    congr 1
    simp only [updG]; rw [if_neg (by omega)]
end

section
variable {α : Type} [Inhabited α] (EN : En α)
/-- Owned; what is in its elements is read only. -/
abbrev ownN (e : TypeId) (X : SlV) (b : Option Nat) (γ : Nat → EN.G) (l : List α) : Own := ownL EN.E e X b (zipG γ 0 l)
theorem FactsG.upd {γ : Nat → EN.G} {l : List α} {i : Nat} {g : EN.G} {a : α} {M : Nat → Prop} {w : World} (h : FactsG EN γ l M w) (hn : AllF (EN.facts (g, a)) M w) : FactsG EN (updG γ i g) (l.set i a) M w := fun j hj => by
  rw [List.length_set] at hj
  by_cases hji : j = i
  · subst hji
    have h2 : gt (l.set j a) j = a := by simp [gt, List.getD_eq_getElem?_getD, hj]
    rw [h2]
    simp only [updG, if_pos]; exact hn
  · have h1 : updG γ i g j = γ j := by simp [updG, hji]
    have h2 : gt (l.set i a) j = gt l j := by simp [gt, List.getD_eq_getElem?_getD, List.getElem?_set_ne (fun h : i = j => hji h.symm)]
    rw [h1, h2]; exact h j hj
theorem FactsG.app {γ δ : Nat → EN.G} {l m : List α} {M : Nat → Prop} {w : World} (h : FactsG EN γ l M w) (h' : FactsG EN δ m M w) : FactsG EN (appG γ l.length δ) (l ++ m) M w := fun j hj => by
  rw [List.length_append] at hj
  by_cases hjl : j < l.length
  · have h1 : appG γ l.length δ j = γ j := by simp [appG, hjl]
    have h2 : gt (l ++ m) j = gt l j := by simp [gt, List.getD_eq_getElem?_getD, List.getElem?_append_left hjl]
    rw [h1, h2]; exact h j hjl
  · have h1 : appG γ l.length δ j = δ (j - l.length) := by simp [appG, hjl]
    have h2 : gt (l ++ m) j = gt m (j - l.length) := by simp [gt, List.getD_eq_getElem?_getD, List.getElem?_append_right (Nat.le_of_not_lt hjl)]
    rw [h1, h2]; exact h' _ (by omega)
theorem FactsG.take {γ : Nat → EN.G} {l : List α} {M : Nat → Prop} {w : World} (n : Nat) (h : FactsG EN γ l M w) : FactsG EN γ (l.take n) M w := fun j hj => by
  rw [List.length_take] at hj
  have h2 : gt (l.take n) j = gt l j := by simp [gt, List.getD_eq_getElem?_getD, List.getElem?_take, show j < n by omega]
  rw [h2]; exact h j (by omega)
theorem FactsG.drop {γ : Nat → EN.G} {l : List α} {M : Nat → Prop} {w : World} (n : Nat) (h : FactsG EN γ l M w) : FactsG EN (dropG γ n) (l.drop n) M w := fun j hj => by
  rw [List.length_drop] at hj
  have h2 : gt (l.drop n) j = gt l (n + j) := by simp [gt, List.getD_eq_getElem?_getD]
  rw [h2]; exact h _ (by omega)
theorem stabFG (γ : Nat → EN.G) (l : List α) : Stab (FactsG EN γ l) := inferInstance
theorem FactsG.nil (γ : Nat → EN.G) (M : Nat → Prop) (w : World) : FactsG EN γ [] M w := fun j hj => absurd hj (by simp)
theorem FactsG.one {g : EN.G} {a : α} {M : Nat → Prop} {w : World} (h : AllF (EN.facts (g, a)) M w) : FactsG EN (fun _ => g) [a] M w := fun j hj => by
  have : j = 0 := by simp at hj; omega
  subst this
  exact h
theorem FactsG.const {g : EN.G} {l : List α} {M : Nat → Prop} {w : World} (h : ∀ a ∈ l, AllF (EN.facts (g, a)) M w) : FactsG EN (fun _ => g) l M w := fun j hj => h _ (gt_mem hj)
theorem RdN.ofG {X : SlV} {γ : Nat → EN.G} {l : List α} {M : Nat → Prop} {w : World} (h : RdG EN X γ l M w) (hf : FactsG EN γ l M w) : RdN EN X l M w := ⟨γ, h, hf⟩
end
section
variable {P : Program} {T : Tab} {C : Cx} {ops : Array Oper} {o : Oper} {r r' : RS} {Q : Post} {N : Nat} {SL : Slots} {BL : List Blk} {OW : List Own} {FA : List Pred}
/-- Cells of an element of what is owned, and has slices in it, are written. -/
theorem rw_stON {α : Type} [Inhabited α] (EN : En α) (γ : Nat → EN.G) (l : List α) (i o2 : Nat) (g : EN.G) (p : α) {e : TypeId} {X : SlV} {b : Option Nat} {t n : Nat} {x y : Operand} {g0 g1 bb : Bool} {v : Value} {vs : List Value} {ow' : List Own} {D : List Nat} (hf : Front ops r o D r')
    (hgD : (∃ l, r = .sq l) ∨ ∀ g, b = some g → g ∈ D) (hg : Guard ops SL o true) (hd : o.dst = none) (ho : o.op = .store t x y)
    (he : ev SL x = some (g0, .pointer (some (epA X.a i EN.E.esz o2)))) (hg0 : g0 = true) (hev : ev SL y = some (g1, v)) (hg1 : g1 = true) (hs : T.siz t = some (n, bb)) (hvc : v.cells = vs.toArray) (hvn : vs.length = n)
    (hone : vs.all (·.oneCell') = true) (hle : Nat.ble (o2 + n) EN.E.esz = true) (hlt : i < l.length) (hp : EN.E.enc (g, p) = putAt (EN.E.enc (γ i, gt l i)) o2 vs) (hu : UpdO OW (ownN EN e X b γ l) [ownN EN e X b (updG γ i g) (l.set i p)] ow')
    (h : RW P T C ops r' ⟨N, SL, BL, ow', FA⟩ Q) : RW P T C ops r ⟨N, SL, BL, OW, FA⟩ Q := by
  have hu' : UpdO OW (ownL EN.E e X b (zipG γ 0 l)) [ownL EN.E e X b ((zipG γ 0 l).set i (g, p))] ow' := by
    rw [zipG_set, Nat.zero_add]; exact hu
  exact rw_stO EN.E (zipG γ 0 l) i o2 (g, p) hf hgD hg hd ho he hg0 hev hg1 hs hvc hvn hone hle (by rw [zipG_len]; exact hlt) (by rw [zipG_gt γ hlt]; exact hp) hu' h
theorem rw_appendN {α : Type} [Inhabited α] (EN : En α) (γ δ : Nat → EN.G) (l m : List α) {e : TypeId} {X : SlV} {b : Option Nat} {d t : Nat} {x y : Operand} {g0 g1 : Bool} {v : Value} {z : List Value} {agg : Bool} {ow' : SlV → Option Nat → List Own} {D : List Nat} (hf : Front ops r o D r') (hbD : ∀ g, b = some g → (∃ l, r = .sq l) ∨ g ∈ D) (hg : Guard ops SL o true) (hd : o.dst = some d) (hn : Nat.blt d N = true)
    (ho : o.op = .call ⟨.builtin .append, ⟨[x, y]⟩, ⟨[t, t]⟩⟩) (hx : ev SL x = some (g0, X.val l.length)) (hg0 : g0 = true) (hy : ev SL y = some (g1, v)) (hg1 : g1 = true)
    (hu : ∀ (X' : SlV) b', UpdO OW (ownN EN e X b γ l) [ownN EN e X' b' (appG γ l.length δ) (l ++ m)] (ow' X' b'))
    (ht : T.slc t = some e) (hz : T.siz e = some (EN.E.esz, agg)) (hzz : T.zer e = some z) (hzl : z.length = EN.E.esz) (hby : T.byt e = some EN.E.by_) (hpos : Nat.blt 0 EN.E.esz = true) (hbp : Nat.blt 0 EN.E.by_ = true)
    (hr : Reads ⟨N, SL, BL, OW, FA⟩ C EN.E.esz v m.length ((zipG δ 0 m).flatMap EN.E.enc)) (hb : (l.length + m.length) * EN.E.by_ ≤ 140737488355328)
    (h : ∀ (X' : SlV) (b' : Option Nat), RW P T C ops r' ⟨N, (d, .v (X'.val (l ++ m).length)) :: SL, BL, ow' X' b', FA⟩ Q) : RW P T C ops r ⟨N, SL, BL, OW, FA⟩ Q := by
  have e1 := zipG_append γ δ l m
  refine rw_appendL EN.E (zipG γ 0 l) (zipG δ 0 m) (ow' := ow') hf hbD hg hd hn ho (by rw [zipG_len]; exact hx) hg0 hy hg1 (fun X' b' => by rw [e1]; exact hu X' b') ht hz hzz hzl hby hpos hbp (by rw [zipG_len]; exact hr) (by rw [zipG_len, zipG_len]; exact hb) fun X' b' => ?_
  rw [e1, zipG_len]
  exact h X' b'
theorem reads_ownN {α : Type} [Inhabited α] {EN : En α} {e : TypeId} {X : SlV} {b : Option Nat} {γ : Nat → EN.G} {l : List α} (hm : ownN EN e X b γ l ∈ OW) : Reads ⟨N, SL, BL, OW, FA⟩ C EN.E.esz (X.val l.length) l.length ((zipG γ 0 l).flatMap EN.E.enc) := by
  have := reads_ownL (N := N) (SL := SL) (BL := BL) (FA := FA) (C := C) hm
  rwa [zipG_len] at this
theorem reads_rdN {α : Type} [Inhabited α] {EN : En α} {X : SlV} {γ : Nat → EN.G} {l : List α} (hm : RdG EN X γ l ∈ FA) : Reads ⟨N, SL, BL, OW, FA⟩ C EN.E.esz (X.val l.length) l.length ((zipG γ 0 l).flatMap EN.E.enc) := by
  have := reads_rdL (N := N) (SL := SL) (BL := BL) (OW := OW) (C := C) hm
  rwa [zipG_len] at this
end
end Go.Proofs.YtccmadehnoihnaaGreatDoor.Fw

namespace Go.Proofs.YtccmadehnoihnaaGreatDoor.Fw
open Go Go.RowKit

section
variable {P : Program} {T : Tab} {C : Cx} {ops : Array Oper} {o : Oper} {r r' : RS} {s : St} {Q : Post} {N : Nat} {SL : Slots} {BL : List Blk} {OW : List Own} {FA : List Pred}
/-- A slice of so many, all zero. -/
theorem rw_mkslice {D : List Nat} {d t e esz by_ n : Nat} {b g0 g1 : Bool} {x y : Operand} {z cs : List Value} (hf : Front ops r o D r') (hg : Guard ops SL o true) (hd : o.dst = some d) (hn : Nat.blt d N = true) (ho : o.op = .makeSlice t x y)
    (hx : ev SL x = some (g0, .int .i64 (n : Int))) (hg0 : g0 = true) (hy : ev SL y = some (g1, .int .i64 (n : Int))) (hg1 : g1 = true)
    (ht : T.slc t = some e) (hz : T.siz e = some (esz, b)) (hzz : T.zer e = some z) (hzl : z.length = esz) (hby : T.byt e = some by_) (hnb : Nat.ble (n * by_) 140737488355328 = true) (hpos : Nat.blt 0 esz = true) (hcs : zerosL z (n * esz) = cs) (hsm : Nat.ble (n * esz) 16777216 = true)
    (h : ∀ (X : SlV) (b' : Option Nat), RW P T C ops r' ⟨N, (d, .v (X.val n)) :: SL, BL, ⟨X.val n, b', e, esz, by_, n, cs⟩ :: OW, FA⟩ Q) : RW P T C ops r ⟨N, SL, BL, OW, FA⟩ Q :=
  rw_val hf hg hd hn (K := fun u bl ow fa => ∃ (X : SlV) (b' : Option Nat), u = X.val n ∧ bl = BL ∧ ow = ⟨X.val n, b', e, esz, by_, n, cs⟩ :: OW ∧ fa = FA)
    (fun hT a w hrep => by
      obtain ⟨ti, dd, q1, q2, q3, q4⟩ := hT.siz _ _ _ hz
      obtain ⟨ti', zv, p1, p2, p3⟩ := hT.zer _ _ hzz
      obtain ⟨ti2, r1, r2⟩ := hT.byt _ _ hby
      have hsm := Nat.le_of_ble_eq_true hsm
      have hnb := Nat.le_of_ble_eq_true hnb
      have hpos : 0 < esz := Nat.le_of_ble_eq_true hpos
      have hns : n ≤ n * esz := Nat.le_mul_of_pos_right _ hpos
      have hcl : cs.length = n * esz := by rw [← hcs]; simp [zerosL]
      refine ⟨.slice (some ⟨w.heap.size, 0, none⟩) n n, _, BL, _, FA, ?_, hrep.wo.allocO e esz by_ n cs hcl (by omega) hnb, keeps_push _ _ _, ⟨some ⟨w.heap.size, 0, none⟩, n⟩, some w.heap.size, rfl, rfl, rfl, rfl⟩
      have h1 := ev_ok hrep.sl hx hg0
      have h2 := ev_ok hrep.sl hy hg1
      have hw := wrap_in (n : Int) (by omega)
      have e1 : ti.bytes = by_ := by rw [q1] at r1; cases r1; exact r2
      have e2 : ¬ ((by_ : Int) * (n : Int) > 2 ^ 48) := by
        have : ((n * by_ : Nat) : Int) ≤ 140737488355328 := by omega
        rw [Int.natCast_mul, Int.mul_comm] at this; omega
      have e3 : ¬ n * by_ > roomBytes := by
        show ¬ n * by_ > 2 ^ 47
        omega
      simp only [execOp, ho, Instr.makeSlice, h1, h2, Sem.run_bind, run_underlying (hT.slc _ _ ht), Result.andThen_ok, asInt, asIntOf, Sem.run_pure, run_typeInfo' q1, hw, e1]
      rw [if_neg (by
        simp only [Bool.or_eq_true, decide_eq_true_eq, not_or]
        exact ⟨⟨⟨by omega, e2⟩, by omega⟩, by omega⟩)]
      simp only [Int.toNat_natCast, askRoom, if_neg e3, Sem.run_bind, Sem.run_pure, Result.andThen_ok, run_sizeOf' q1, q2]
      have hz2 : (Array.range (n * esz)).map (fun x => zv.cells[x % zv.cells.size]!) = cs.toArray := by
        apply Array.ext'
        rw [← hcs]
        simp only [Array.toList_map, Array.toList_range, zerosL]
        refine List.map_congr_left fun i hi => ?_
        have hzs : zv.cells.size = z.length := by rw [← p3]; simp
        have hlt : i % z.length < z.length := Nat.mod_lt _ (by omega)
        rw [hzs, getElem!_pos zv.cells (i % z.length) (by omega)]
        have hlt' : i % z.length < zv.cells.size := by omega
        have hg : zv.cells.toList[i % z.length]? = some (zv.cells[i % z.length]'hlt') := by
          rw [Array.getElem?_toList]
          exact Array.getElem?_eq_getElem hlt'
        rw [p3] at hg
        rw [hg]
        rfl
      by_cases h0 : n * esz = 0
      · rw [if_pos h0]
        have hc0 : cs = [] := List.length_eq_zero_iff.1 (by omega)
        subst hc0
        simp [h0, newRow]
        rw [show (Array.range 0) = #[] from rfl, Array.map_empty]
      · rw [if_neg h0]
        simp only [Sem.run_bind, run_zero' p1 p2, Result.andThen_ok, Sem.run_pure, hz2]
        simp [newRow])
    (fun u bl ow fa ⟨X, b', e1, e2, e3, e4⟩ => by subst e1; subst e2; subst e3; subst e4; exact h X b')
theorem rw_mksliceL {α : Type} (E : El α) (l : List α) {D : List Nat} {d t e n : Nat} {b g0 g1 : Bool} {x y : Operand} {z : List Value} (hf : Front ops r o D r') (hg : Guard ops SL o true) (hd : o.dst = some d) (hn : Nat.blt d N = true) (ho : o.op = .makeSlice t x y)
    (hx : ev SL x = some (g0, .int .i64 (n : Int))) (hg0 : g0 = true) (hy : ev SL y = some (g1, .int .i64 (n : Int))) (hg1 : g1 = true) (hnl : n = l.length)
    (ht : T.slc t = some e) (hz : T.siz e = some (E.esz, b)) (hzz : T.zer e = some z) (hzl : z.length = E.esz) (hby : T.byt e = some E.by_) (hnb : Nat.ble (n * E.by_) 140737488355328 = true) (hpos : Nat.blt 0 E.esz = true) (hcs : zerosL z (n * E.esz) = l.flatMap E.enc) (hsm : Nat.ble (n * E.esz) 16777216 = true)
    (h : ∀ (X : SlV) (b' : Option Nat), RW P T C ops r' ⟨N, (d, .v (X.val l.length)) :: SL, BL, ownL E e X b' l :: OW, FA⟩ Q) : RW P T C ops r ⟨N, SL, BL, OW, FA⟩ Q := by
  subst hnl
  exact rw_mkslice hf hg hd hn ho hx hg0 hy hg1 ht hz hzz hzl hby hnb hpos hcs hsm h
end
theorem putAt_whole : ∀ (l cs : List Value) (n : Nat), cs.length = n + l.length → putAt cs n l = cs.take n ++ l
  | [], cs, n, h => by simp only [putAt, List.append_nil]; rw [List.take_of_length_le (by simp at h; omega)]
  | v :: l, cs, n, h => by
    rw [putAt, putAt_whole l _ (n + 1) (by simp at h ⊢; omega)]
    have hn : n < cs.length := by simp at h; omega
    rw [List.take_set, List.take_succ_eq_append_getElem hn, List.set_append_right _ _ (by simp; omega)]
    simp [Nat.min_eq_left (Nat.le_of_lt hn)]
theorem fillL_one {k : Nat} {z : List Value} {v : Value} {l : List Value} (hv : v.cells.toList = l) (hl : l.length = k) : fillL ((List.range 1).map fun i => (i * k, k)) (zerosL z (1 * k)) [(0, v)] = some l := by
  subst hl
  have h0 : (zerosL z (1 * l.length)).length = 0 + l.length := by simp [zerosL]
  simp only [fillL, List.range_one, List.map_cons, List.map_nil, List.getElem?_cons_zero, hv, Nat.beq_refl]
  have h1 : Nat.ble (0 * l.length + l.length) (zerosL z (1 * l.length)).length = true := by rw [h0]; simp
  rw [h1]
  simp only
  rw [show 0 * l.length = 0 by simp, putAt_whole _ _ _ h0]; simp
def mkparts : Nat → List Value → List (Nat × Value)
  | _, [] => []
  | i, v :: r => (i, v) :: mkparts (i + 1) r
theorem putAt_len : ∀ (vs cs : List Value) (n : Nat), (putAt cs n vs).length = cs.length
  | [], _, _ => rfl
  | v :: vs, cs, n => by rw [putAt, putAt_len vs]; simp
theorem putAt_mid : ∀ (vs cs : List Value) (n : Nat), n + vs.length ≤ cs.length → (putAt cs n vs).take (n + vs.length) = cs.take n ++ vs
  | [], cs, n, _ => by simp [putAt]
  | v :: vs, cs, n, h => by
    simp only [List.length_cons] at h
    have h1 := putAt_mid vs (cs.set n v) (n + 1) (by simp; omega)
    rw [putAt, List.length_cons, show n + (vs.length + 1) = n + 1 + vs.length by omega, h1]
    have hn : n < cs.length := by omega
    rw [List.take_set, List.take_succ_eq_append_getElem hn, List.set_append_right _ _ (by simp; omega)]
    simp [Nat.min_eq_left (Nat.le_of_lt hn)]
theorem fillL_seq {k n : Nat} : ∀ (vs : List Value) (i : Nat) (cs : List Value), cs.length = n * k → i + vs.length = n → (∀ v ∈ vs, v.cells.toList.length = k) → fillL ((List.range n).map fun i => (i * k, k)) cs (mkparts i vs) = some (cs.take (i * k) ++ vs.flatMap (fun v => v.cells.toList))
  | [], i, cs, hc, hi, _ => by
    have : cs.length ≤ i * k := by rw [hc, ← hi]; simp
    simp [mkparts, fillL, List.take_of_length_le this]
  | v :: vs, i, cs, hc, hi, hv => by
    simp only [List.length_cons] at hi
    have hvk := hv v (.head _)
    have hle : i * k + k ≤ cs.length := by rw [hc, ← Nat.succ_mul]; exact Nat.mul_le_mul_right k (by omega)
    have hg : ((List.range n).map fun i => (i * k, k))[i]? = some (i * k, k) := by simp [show i < n by omega]
    rw [mkparts, fillL, hg]
    simp only [hvk, Nat.beq_refl]
    have hb : Nat.ble (i * k + k) cs.length = true := Nat.ble_eq_true_of_le hle
    rw [hb]
    simp only
    rw [fillL_seq vs (i + 1) _ (by rw [putAt_len]; exact hc) (by omega) fun w hw => hv w (.tail _ hw)]
    have h2 := putAt_mid v.cells.toList cs (i * k) (by omega)
    rw [hvk] at h2
    rw [Nat.succ_mul, h2, List.flatMap_cons, List.append_assoc]
theorem fillL_many {k n : Nat} {z l : List Value} {ps : List (Nat × Value)} (vs : List Value) (hp : ps = mkparts 0 vs) (hv : ∀ v ∈ vs, v.cells.toList.length = k) (hn : vs.length = n) (hl : vs.flatMap (fun v => v.cells.toList) = l) : fillL ((List.range n).map fun i => (i * k, k)) (zerosL z (n * k)) ps = some l := by
  subst hp hl
  rw [fillL_seq vs 0 _ (by simp [zerosL]) (by omega) hv]; simp
end Go.Proofs.YtccmadehnoihnaaGreatDoor.Fw

namespace Go.Proofs.YtccmadehnoihnaaGreatDoor.Fw
open Go Go.RowKit

section
variable {P : Program} {T : Tab} {C : Cx} {ops : Array Oper} {o : Oper} {r r' : RS} {s : St} {Q : Post} {N : Nat} {SL : Slots} {BL : List Blk} {OW : List Own} {FA : List Pred} {c : Code}

end
end Go.Proofs.YtccmadehnoihnaaGreatDoor.Fw
namespace Go.Proofs.YtccmadehnoihnaaGreatDoor.Fw
open Go Go.RowKit
section
variable {P : Program} {T : Tab} {C : Cx} {ops : Array Oper} {o : Oper} {r r' : RS} {s : St} {Q : Post} {N : Nat} {SL : Slots} {BL : List Blk} {OW : List Own} {FA : List Pred} {c : Code}
theorem RdN.take {α : Type} [Inhabited α] {EN : En α} {X : SlV} {l : List α} {M : Nat → Prop} {w : World} (h : RdN EN X l M w) (n : Nat) : RdN EN X (l.take n) M w := by
  obtain ⟨γ, h1, h2⟩ := h
  refine ⟨γ, ?_, FactsG.take EN n h2⟩
  have := RdL.take h1 n
  rwa [zipG_take] at this
theorem RdN.drop {α : Type} [Inhabited α] {EN : En α} {X : SlV} {l : List α} {M : Nat → Prop} {w : World} (h : RdN EN X l M w) (k : Nat) (hk : k ≤ l.length) : RdN EN ⟨slA X.a X.c k EN.E.esz, X.c - k⟩ (l.drop k) M w := by
  obtain ⟨γ, h1, h2⟩ := h
  refine ⟨dropG γ k, ?_, FactsG.drop EN k h2⟩
  have := RdL.drop h1 k (by rw [zipG_len]; exact hk)
  rwa [zipG_drop] at this
theorem q_takeN {α : Type} [Inhabited α] (EN : En α) {l : List α} {X : SlV} (h : Nat) {t e esz : Nat} {x y : Operand} {g0 g1 G b : Bool} {k : IntKind} {iv : Int} (ho : o.op = .slice t x none (some y) none) (he : ev SL x = some (g0, X.val l.length)) (hg0 : G = true → g0 = true)
    (hy : ev SL y = some (g1, .int k iv)) (hg1 : G = true → g1 = true) (ht : T.slc t = some e) (hz : T.siz e = some (esz, b)) (hm : RdN EN X l ∈ FA) (hi : G = true → iv = (h : Int)) (hle : G = true → h ≤ l.length) : Quiet P T SL BL FA o G (X.val (l.take h).length) :=
  fun hT hG a w hsl hw => by
    obtain ⟨_, γ, hrd, _⟩ := hw.fa _ hm
    have h1 := hrd.1
    rw [zipG_len] at h1
    have h2 := hle hG
    have e1 : (l.take h).length = h := by simp; omega
    rw [e1]
    exact q_slhi (P := P) (BL := BL) (FA := FA) ho he hg0 hy hg1 ht hz hi (fun _ => by omega) hT hG a w hsl hw
theorem q_dropN {α : Type} (EN : En α) {l : List α} {X : SlV} (k0 : Nat) {t e esz : Nat} {x y : Operand} {g0 g1 G b : Bool} {k : IntKind} {iv : Int} (ho : o.op = .slice t x (some y) none none) (he : ev SL x = some (g0, X.val l.length)) (hg0 : G = true → g0 = true)
    (hy : ev SL y = some (g1, .int k iv)) (hg1 : G = true → g1 = true) (ht : T.slc t = some e) (hz : T.siz e = some (esz, b)) (hi : G = true → iv = (k0 : Int)) (hle : G = true → k0 ≤ l.length) : Quiet P T SL BL FA o G ((⟨slA X.a X.c k0 esz, X.c - k0⟩ : SlV).val (l.drop k0).length) :=
  fun hT hG a w hsl hw => by
    have e1 : (l.drop k0).length = l.length - k0 := by simp
    rw [e1]
    exact q_sllo (P := P) (BL := BL) (FA := FA) ho he hg0 hy hg1 ht hz hi hle hT hG a w hsl hw
end
end Go.Proofs.YtccmadehnoihnaaGreatDoor.Fw

namespace Go.Proofs.YtccmadehnoihnaaGreatDoor.Fw
open Go Go.RowKit

/-! ### Texts: a string as the list of its bytes -/
abbrev Str := List UInt8
abbrev sV (l : Str) : Value := .string ⟨l.toArray⟩
abbrev yV (b : UInt8) : Value := .int .u8 (b.toNat : Int)

/-- An error: there is one, or none. -/
abbrev eV (b : Bool) (tp : TypeId) (p : Value) : Value := bif b then .iface tp p else .nilIface

def EByte : El UInt8 := ⟨fun b => [yV b], 1, 1, fun _ => rfl, fun _ u hu => by simp only [List.mem_singleton] at hu; subst hu; rfl⟩
def EStr : El Str := ⟨fun l => [sV l], 1, 16, fun _ => rfl, fun _ u hu => by simp only [List.mem_singleton] at hu; subst hu; rfl⟩

theorem toList_sV (l : Str) : (ByteArray.mk l.toArray).toList = l := by rw [ByteArray.toList_eq]
theorem size_sV (l : Str) : (ByteArray.mk l.toArray).size = l.length := by rw [Lib.size_eq]
theorem app_sV (a b : Str) : (ByteArray.mk a.toArray) ++ (ByteArray.mk b.toArray) = ByteArray.mk (a ++ b).toArray := by
  apply ByteArray.ext
  simp

section
variable {P : Program} {T : Tab} {C : Cx} {ops : Array Oper} {o : Oper} {r r' : RS} {s : St} {Q : Post} {N : Nat} {SL : Slots} {BL : List Blk} {OW : List Own} {FA : List Pred} {c : Code}

theorem q_eqS {t t' : Nat} {x y : Operand} {g0 g1 G : Bool} {a b : Str} (ho : o.op = .binOp .eql t x y t') (he : ev SL x = some (g0, sV a)) (hg0 : G = true → g0 = true)
    (hy : ev SL y = some (g1, sV b)) (hg1 : G = true → g1 = true) : Quiet P T SL BL FA o G (.bool (a == b)) :=
  fun _ hG a' w hsl _ => by
    have h1 := ev_ok hsl he (hg0 hG)
    have h2 := ev_ok hsl hy (hg1 hG)
    simp only [execOp, ho, h1, h2, eqGuard, binOp, Op.stringOp, toList_sV]
    simp

theorem q_neS {t t' : Nat} {x y : Operand} {g0 g1 G : Bool} {a b : Str} (ho : o.op = .binOp .neq t x y t') (he : ev SL x = some (g0, sV a)) (hg0 : G = true → g0 = true)
    (hy : ev SL y = some (g1, sV b)) (hg1 : G = true → g1 = true) : Quiet P T SL BL FA o G (.bool (a != b)) :=
  fun _ hG a' w hsl _ => by
    have h1 := ev_ok hsl he (hg0 hG)
    have h2 := ev_ok hsl hy (hg1 hG)
    simp only [execOp, ho, h1, h2, eqGuard, binOp, Op.stringOp, toList_sV]
    simp [bne]

theorem q_addS {t t' : Nat} {x y : Operand} {g0 g1 G : Bool} {a b : Str} (ho : o.op = .binOp .add t x y t') (he : ev SL x = some (g0, sV a)) (hg0 : G = true → g0 = true)
    (hy : ev SL y = some (g1, sV b)) (hg1 : G = true → g1 = true) (hb : G = true → a.length + b.length ≤ 9223372036854775807) : Quiet P T SL BL FA o G (sV (a ++ b)) :=
  fun _ hG a' w hsl _ => by
    have h1 := ev_ok hsl he (hg0 hG)
    have h2 := ev_ok hsl hy (hg1 hG)
    have hb := hb hG
    have hm : ¬ (((a.length + b.length : Nat) : Int) > IntKind.i64.max) := by simp only [IntKind.max, IntKind.signed, IntKind.bits]; simp; omega
    simp only [execOp, ho, h1, h2, eqGuard, binOp, Op.stringOp, size_sV, app_sV, if_neg hm]
    simp

theorem q_lenS {t : Nat} {x : Operand} {g0 G : Bool} {a : Str} (ho : o.op = .call ⟨.builtin .len, ⟨[x]⟩, ⟨[t]⟩⟩) (he : ev SL x = some (g0, sV a)) (hg0 : G = true → g0 = true) (ht : P.underlying t = some .string) : Quiet P T SL BL FA o G (.int .i64 (a.length : Int)) :=
  fun _ hG a' w hsl _ => by
    have h1 := ev_ok hsl he (hg0 hG)
    have h2 := size_sV a
    simp only [execOp, ho, resolve, invoke, builtin, List.map_toArray, List.map_cons, List.map_nil, h1]
    simp [Builtin.len_, run_underlying ht, goInt, h2]

/-! ### Bytes and texts -/
theorem q_bstr {t t' e : Nat} {x : Operand} {g0 G : Bool} {X : SlV} {l : Str} (ht : P.underlying t = some (.slice e)) (he' : P.underlying e = some (.int .u8)) (ht' : P.underlying t' = some .string) (ho : o.op = .convert t t' x) (he : ev SL x = some (g0, X.val l.length)) (hg0 : G = true → g0 = true)
    (hm : RdL EByte X l ∈ FA) : Quiet P T SL BL FA o G (sV l) :=
  fun hT hG a' w hsl hw => by
    have h1 := ev_ok hsl he (hg0 hG)
    obtain ⟨_, _, _, _, h4⟩ := hw.fa _ hm
    simp only [execOp, ho, h1, SlV.val]
    cases hA : X.a with
    | none =>
      have h0 : l = [] := by
        cases l with
        | nil => rfl
        | cons b r => obtain ⟨ad, ha, _⟩ := h4 (by simp); rw [hA] at ha; cases ha
      subst h0
      have : (convert t t' (.slice none ([] : Str).length X.c)).run P w = .ok (.string .empty) w := by
        simp [convert, run_underlying ht, run_underlying ht', run_underlying he', Conv.bytesToString]
      rw [Sem.run_bind, this]
      rfl
    | some ad =>
      have := run_convert_bytes_back (P := P) w t t' e ad X.c l ht he' ht' (fun j hj => by
        obtain ⟨ad', ha, _, _, hc⟩ := h4 (by omega)
        rw [hA] at ha
        cases ha
        have := hc j hj 0 (yV l[j]) rfl
        simpa [EByte] using this)
      rw [Sem.run_bind, this]
      rfl

/-! ### Is there an error? -/
theorem run_eqN {t : Nat} {ms : Array (String × TypeId)} (hu : P.underlying t = some (.interface ms)) (d : Nat) (tp : TypeId) (p : Value) (w : World) : (Op.equalIn (d + 1) t (.iface tp p) .nilIface).run P w = .ok false w := by
  simp [Op.equalIn, run_underlying hu]
theorem run_eqNN {t : Nat} {ms : Array (String × TypeId)} (hu : P.underlying t = some (.interface ms)) (d : Nat) (w : World) : (Op.equalIn (d + 1) t .nilIface .nilIface).run P w = .ok true w := by
  simp [Op.equalIn, run_underlying hu]
theorem q_neNil {t t' : Nat} {x : Operand} {g0 G b : Bool} {tp : TypeId} {p : Value} {ms : Array (String × TypeId)} (ho : o.op = .binOp .neq t x (.const .nilIface) t') (he : ev SL x = some (g0, eV b tp p)) (hg0 : G = true → g0 = true) (hu : P.underlying t = some (.interface ms)) : Quiet P T SL BL FA o G (.bool b) :=
  fun _ hG a' w hsl _ => by
    have h1 := ev_ok hsl he (hg0 hG)
    have h2 : a'.eval (.const .nilIface) = .nilIface := rfl
    cases b with
    | true =>
      have h3 : (Op.equal t (.iface tp p) .nilIface).run P w = .ok false w := run_eqN hu 9999 tp p w
      have h1 : a'.eval x = .iface tp p := h1
      simp [execOp, ho, h1, h2, eqGuard, binOp, h3]
    | false =>
      have h3 : (Op.equal t .nilIface .nilIface).run P w = .ok true w := run_eqNN hu 9999 w
      have h1 : a'.eval x = .nilIface := h1
      simp [execOp, ho, h1, h2, eqGuard, binOp, h3]

end
end Go.Proofs.YtccmadehnoihnaaGreatDoor.Fw

namespace Go.Proofs.YtccmadehnoihnaaGreatDoor
open Go Go.Proofs.YtccmadehnoihnaaGreatDoor.Fw Go.Proofs

/-! ### Plain data, and how it lies in cells -/
structure Place where
  node : Int
  parent : Int
  name : Int
  deriving DecidableEq
instance : Inhabited Place := ⟨⟨0, 0, 0⟩⟩
structure Stamp where
  time : Int
  who : Int
  deriving DecidableEq
instance : Inhabited Stamp := ⟨⟨0, 0⟩⟩
structure Op where
  time : Int
  who : Int
  node : Int
  parent : Int
  name : Int
  life : Int
  seq : Int
  deriving DecidableEq
instance : Inhabited Op := ⟨⟨0, 0, 0, 0, 0, 0, 0⟩⟩
structure Step where
  o : Op
  did : Bool
  was : Place
  deriving DecidableEq
instance : Inhabited Step := ⟨⟨default, false, default⟩⟩
structure History where
  l : List Step
  t : List Place
  deriving DecidableEq
instance : Inhabited History := ⟨⟨[], []⟩⟩
structure View where
  roots : List Int
  known : List Place
  way : List Place
  deriving DecidableEq
instance : Inhabited View := ⟨⟨[], [], []⟩⟩
structure Rec where
  kind : Int
  who : Int
  life : Int
  roots : List Int
  o : Op
  deriving DecidableEq
instance : Inhabited Rec := ⟨⟨0, 0, 0, [], default⟩⟩
structure Peer where
  life : Int
  seq : Int
  roots : List Int
  deriving DecidableEq
instance : Inhabited Peer := ⟨⟨0, 0, []⟩⟩
structure Hub where
  h : History
  version : Int
  peers : List Peer
  deriving DecidableEq
instance : Inhabited Hub := ⟨⟨default, 0, []⟩⟩
structure Disk where
  safe : List UInt8
  wait : List UInt8
  deriving DecidableEq
instance : Inhabited Disk := ⟨⟨[], []⟩⟩
def EInt : El Int := ⟨fun n => [.int .i64 n], 1, 8, fun _ => rfl, fun a u hu => kinds_one (ks := [true]) (l := [.int .i64 a]) rfl u hu⟩
def EPlace : El Place := ⟨fun p => [.int .i64 p.node, .int .i64 p.parent, .int .i64 p.name], 3, 24, fun _ => rfl, fun p u hu => kinds_one (ks := [true, true, true]) (l := [.int .i64 p.node, .int .i64 p.parent, .int .i64 p.name]) rfl u hu⟩
theorem flatEq_Place (a b : Place) : flatEq (EPlace.enc a) (EPlace.enc b) = decide (a = b) := by
  obtain ⟨_, _, _⟩ := a; obtain ⟨_, _, _⟩ := b
  rw [Bool.eq_iff_iff]; simp [flatEq, EPlace, and_assoc]
theorem eqT_Place : EqT Tryz.prog 96 [true, true, true] := ⟨by kernel_rfl, by kernel_rfl⟩
def EStamp : El Stamp := ⟨fun p => [.int .i64 p.time, .int .i64 p.who], 2, 16, fun _ => rfl, fun p u hu => kinds_one (ks := [true, true]) (l := [.int .i64 p.time, .int .i64 p.who]) rfl u hu⟩
theorem flatEq_Stamp (a b : Stamp) : flatEq (EStamp.enc a) (EStamp.enc b) = decide (a = b) := by
  obtain ⟨_, _⟩ := a; obtain ⟨_, _⟩ := b
  rw [Bool.eq_iff_iff]; simp [flatEq, EStamp, and_assoc]
theorem eqT_Stamp : EqT Tryz.prog 39 [true, true] := ⟨by kernel_rfl, by kernel_rfl⟩
def EOp : El Op := ⟨fun p => [.int .i64 p.time, .int .i64 p.who, .int .i64 p.node, .int .i64 p.parent, .int .i64 p.name, .int .i64 p.life, .int .i64 p.seq], 7, 56, fun _ => rfl, fun p u hu => kinds_one (ks := [true, true, true, true, true, true, true]) (l := [.int .i64 p.time, .int .i64 p.who, .int .i64 p.node, .int .i64 p.parent, .int .i64 p.name, .int .i64 p.life, .int .i64 p.seq]) rfl u hu⟩
theorem enc_Op : Encs [true, true, true, true, true, true, true] EOp.enc := ⟨fun _ => rfl, fun cs h => by
  match cs, h with
  | [.int .i64 a0, .int .i64 a1, .int .i64 a2, .int .i64 a3, .int .i64 a4, .int .i64 a5, .int .i64 a6], _ => exact ⟨⟨a0, a1, a2, a3, a4, a5, a6⟩, rfl⟩⟩
theorem flatEq_Op (a b : Op) : flatEq (EOp.enc a) (EOp.enc b) = decide (a = b) := by
  obtain ⟨_, _, _, _, _, _, _⟩ := a; obtain ⟨_, _, _, _, _, _, _⟩ := b
  rw [Bool.eq_iff_iff]; simp [flatEq, EOp, and_assoc]
theorem eqT_Op : EqT Tryz.prog 41 [true, true, true, true, true, true, true] := ⟨by kernel_rfl, by kernel_rfl⟩
def EStep : El Step := ⟨fun p => [.int .i64 p.o.time, .int .i64 p.o.who, .int .i64 p.o.node, .int .i64 p.o.parent, .int .i64 p.o.name, .int .i64 p.o.life, .int .i64 p.o.seq, .bool p.did, .int .i64 p.was.node, .int .i64 p.was.parent, .int .i64 p.was.name], 11, 88, fun _ => rfl, fun p u hu => kinds_one (ks := [true, true, true, true, true, true, true, false, true, true, true]) (l := [.int .i64 p.o.time, .int .i64 p.o.who, .int .i64 p.o.node, .int .i64 p.o.parent, .int .i64 p.o.name, .int .i64 p.o.life, .int .i64 p.o.seq, .bool p.did, .int .i64 p.was.node, .int .i64 p.was.parent, .int .i64 p.was.name]) rfl u hu⟩
theorem flatEq_Step (a b : Step) : flatEq (EStep.enc a) (EStep.enc b) = decide (a = b) := by
  obtain ⟨⟨_, _, _, _, _, _, _⟩, _, ⟨_, _, _⟩⟩ := a; obtain ⟨⟨_, _, _, _, _, _, _⟩, _, ⟨_, _, _⟩⟩ := b
  rw [Bool.eq_iff_iff]; simp [flatEq, EStep, and_assoc]
theorem eqT_Step : EqT Tryz.prog 98 [true, true, true, true, true, true, true, false, true, true, true] := ⟨by kernel_rfl, by kernel_rfl⟩
def NBytes : En (List UInt8) := ⟨SlV, inferInstance, ⟨fun h => [h.1.val h.2.length], 1, 24, fun _ => rfl, fun h => (allP_cons rfl (fun _ h => by cases h))⟩, fun h => [RdL EByte h.1 h.2], fun _ => inferInstance⟩
def NPeer : En (Peer) := ⟨SlV, inferInstance, ⟨fun h => [.int .i64 h.2.life, .int .i64 h.2.seq, h.1.val h.2.roots.length], 3, 40, fun _ => rfl, fun h => (allP_cons rfl (allP_cons rfl (allP_cons rfl (fun _ h => by cases h))))⟩, fun h => [RdL EInt h.1 h.2.roots], fun _ => inferInstance⟩
def NRec : En (Rec) := ⟨SlV, inferInstance, ⟨fun h => [.int .i64 h.2.kind, .int .i64 h.2.who, .int .i64 h.2.life, h.1.val h.2.roots.length, .int .i64 h.2.o.time, .int .i64 h.2.o.who, .int .i64 h.2.o.node, .int .i64 h.2.o.parent, .int .i64 h.2.o.name, .int .i64 h.2.o.life, .int .i64 h.2.o.seq], 11, 104, fun _ => rfl, fun h => (allP_cons rfl (allP_cons rfl (allP_cons rfl (allP_cons rfl (allP_cons rfl (allP_cons rfl (allP_cons rfl (allP_cons rfl (allP_cons rfl (allP_cons rfl (allP_cons rfl (fun _ h => by cases h))))))))))))⟩, fun h => [RdL EInt h.1 h.2.roots], fun _ => inferInstance⟩
theorem und_3 : Tryz.prog.underlying 3 = some (.int .i64) := by kernel_rfl
theorem und_152 : Tryz.prog.underlying 152 = some (.int .u64) := by kernel_rfl
theorem und_5 : Tryz.prog.underlying 5 = some (.int .u8) := by kernel_rfl
theorem und_9 : Tryz.prog.underlying 9 = some .string := by kernel_rfl
theorem und_45 : Tryz.prog.underlying 45 = some (.slice 5) := by kernel_rfl
theorem und_114 : Tryz.prog.underlying 114 = some (.interface #[("Error", 191)]) := by kernel_rfl
instance (γ : Nat → SlV) (l : List (List UInt8)) : Stab (FactsG NBytes γ l) := stabFG NBytes γ l
instance (γ : Nat → SlV) (l : List Peer) : Stab (FactsG NPeer γ l) := stabFG NPeer γ l
instance (γ : Nat → SlV) (l : List Rec) : Stab (FactsG NRec γ l) := stabFG NRec γ l
end Go.Proofs.YtccmadehnoihnaaGreatDoor
