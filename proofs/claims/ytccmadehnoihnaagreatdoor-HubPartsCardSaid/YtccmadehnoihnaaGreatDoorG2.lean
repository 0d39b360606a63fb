/- Part of this claim. No condition. -/
import Derived.Test.YtccmadehnoihnaaGreatDoorG1
import Derived.Maps.AppendAt
import Derived.ProofKit
import Derived.OpenShut
import Derived.SizedLaws
import Derived.Carry
import Derived.Deep.Slices
set_option linter.unusedVariables false
set_option linter.unusedSimpArgs false
namespace Go.Proofs.YtccmadehnoihnaaGreatDoor.Fw
open Go Go.RowKit

/-! ### Slices that read as lists -/
structure SlV where
  a : Option Addr
  c : Nat

def SlV.val (x : SlV) (n : Nat) : Value := .slice x.a n x.c

/-- A kind of elements: how they lie in cells. -/
structure El (α : Type) where
  enc : α → List Value
  esz : Nat
  by_ : Nat
  len : ∀ a, (enc a).length = esz
  one : ∀ a, ∀ u ∈ enc a, u.oneCell' = true

/-- The slice reads as this list: nobody writes there. -/
def RdL {α : Type} (E : El α) (x : SlV) (l : List α) : Pred := fun M w =>
  l.length ≤ x.c ∧ x.c ≤ 9223372036854775807 ∧ l.length * E.by_ ≤ 140737488355328 ∧
  (0 < l.length → ∃ ad, x.a = some ad ∧ ad.block < w.heap.size ∧ ¬ M ad.block ∧
    ∀ (i : Nat) (h : i < l.length) (j : Nat) (v : Value), (E.enc l[i])[j]? = some v → w.cell? (ad.add (i * E.esz + j)) = some v)

instance {α : Type} (E : El α) (x : SlV) (l : List α) : Stab (RdL E x l) where
  st M M' w w' h hx hM := by
    obtain ⟨h1, h2, h3, h4⟩ := h
    refine ⟨h1, h2, h3, fun hl => ?_⟩
    obtain ⟨ad, ha, hb, hm, hc⟩ := h4 hl
    refine ⟨ad, ha, Nat.lt_of_lt_of_le hb hx.1, fun h => hm (hM _ hb h), fun i hi j v hv => ?_⟩
    rw [← hc i hi j v hv]
    exact World.cell?_of_block (by rw [addr_block]; exact hx.2 _ hb hm)

theorem RdL.len {α : Type} {E : El α} {x : SlV} {l : List α} {M : Nat → Prop} {w : World} (h : RdL E x l M w) : l.length * E.by_ ≤ 140737488355328 := h.2.2.1

/-- The element of a list, wherever. -/
def gt {α : Type} [Inhabited α] (l : List α) (i : Nat) : α := l.getD i default

theorem gt_eq {α : Type} [Inhabited α] {l : List α} {i : Nat} (h : i < l.length) : gt l i = l[i] := by simp [gt, List.getD, List.getElem?_eq_getElem h]

theorem drop_gt {α : Type} [Inhabited α] {l : List α} {i : Nat} (h : i < l.length) : l.drop i = gt l i :: l.drop (i + 1) := by rw [gt_eq h]; exact List.drop_eq_getElem_cons h

theorem gt_mem {α : Type} [Inhabited α] {l : List α} {i : Nat} (h : i < l.length) : gt l i ∈ l := by rw [gt_eq h]; exact List.getElem_mem h

/-- The address of a cell of a slice's element. -/
def epA (A : Option Addr) (i esz off : Nat) : Addr := (A.getD ⟨0, 0, none⟩).add (i * esz + off)

section
variable {P : Program} {T : Tab} {C : Cx} {s : St} {o : Oper} {N : Nat} {SL : Slots} {BL : List Blk} {OW : List Own} {FA : List Pred}

theorem q_fae {t f g0n o' ft : Nat} {x : Operand} {g0 G : Bool} {A : Option Addr} {i esz off : Nat} {b : Bool} (ho : o.op = .fieldAddr t x f) (he : ev SL x = some (g0, .pointer (some (epA A i esz off)))) (hg0 : G = true → g0 = true)
    (hf : T.fld t f = some (o', ft)) (hz : T.siz ft = some (g0n + 1, b)) : Quiet P T SL BL FA o G (.pointer (some (epA A i esz (off + o')))) :=
  fun hT hG a w hsl _ => by
    obtain ⟨fs, f', hu, hfi, ho', hft⟩ := hT.fld _ _ _ _ hf
    subst ho'; subst hft
    obtain ⟨ti, d, q1, q2, q3, q4⟩ := hT.siz _ _ _ hz
    have hx := ev_ok hsl he (hg0 hG)
    simp only [execOp, ho, hx, Instr.fieldAt, Sem.run_bind, run_underlying hu, Result.andThen_ok, hfi, Instr.sureAddr, Sem.run_pure, fieldPlace, run_sizeOf' q1, q2]
    simp [epA, addr_add_add, Nat.add_assoc]

theorem q_idx {α : Type} (E : El α) {esz c t e n : Nat} {x y : Operand} {g0 g1 G b : Bool} {k : IntKind} {A : Option Addr} {l : List α} {iv : Int} (i : Nat) (ho : o.op = .indexAddr t x y)
    (he : ev SL x = some (g0, .slice A n c)) (hg0 : G = true → g0 = true) (hy : ev SL y = some (g1, .int k iv)) (hg1 : G = true → g1 = true)
    (ht : T.slc t = some e) (hz : T.siz e = some (esz, b)) (hes : E.esz = esz) (hm : RdL E ⟨A, c⟩ l ∈ FA) (hn : n = l.length) (hi : G = true → iv = (i : Int)) (hlt : G = true → i < l.length) :
    Quiet P T SL BL FA o G (.pointer (some (epA A i esz 0))) :=
  fun hT hG a w hsl hw => by
    obtain ⟨ti, d, q1, q2, q3, q4⟩ := hT.siz _ _ _ hz
    have h1 := ev_ok hsl he (hg0 hG)
    have h2 := ev_ok hsl hy (hg1 hG)
    have hlt := hlt hG
    have hi := hi hG
    obtain ⟨_, _, _, _, h4⟩ := hw.fa _ hm
    obtain ⟨ad, ha, _⟩ := h4 (by omega)
    simp only at ha
    subst hn; subst ha; subst hi
    have hu := hT.slc _ _ ht
    simp only [execOp, ho, h1, h2, Instr.indexAt, asIntOf, Sem.run_bind, Sem.run_pure, Result.andThen_ok, run_underlying hu]
    rw [if_pos (by omega)]
    simp [run_sizeOf' q1, q2, epA]

theorem rd_cell {α : Type} [Inhabited α] {E : El α} {c : Nat} {A : Option Addr} {l : List α} (hm : RdL E ⟨A, c⟩ l ∈ FA) {w : World} (hw : WQ BL FA w) {i : Nat} (hlt : i < l.length) {off : Nat} {v : Value}
    (hv : (E.enc (gt l i))[off]? = some v) : w.cell? (epA A i E.esz off) = some v := by
  obtain ⟨_, _, _, _, h4⟩ := hw.fa _ hm
  obtain ⟨ad, ha, _, _, hc⟩ := h4 (by omega)
  simp only at ha
  subst ha
  rw [gt_eq hlt] at hv
  exact hc i hlt off v hv

theorem q_le1 {α : Type} [Inhabited α] (E : El α) {esz c t n off : Nat} {x : Operand} {g0 G : Bool} {A : Option Addr} {l : List α} {i : Nat} {v : Value} (ho : o.op = .load t x)
    (he : ev SL x = some (g0, .pointer (some (epA A i esz off)))) (hg0 : G = true → g0 = true) (hs : T.siz t = some (n, false)) (hes : E.esz = esz) (hm : RdL E ⟨A, c⟩ l ∈ FA) (hlt : G = true → i < l.length)
    (hv : (E.enc (gt l i))[off]? = some v) : Quiet P T SL BL FA o G v :=
  q_load_gen ho he hg0 fun hT hG w hw => run_loadVar_one hT hs (by subst hes; exact rd_cell hm hw (hlt hG) hv)

theorem q_leP {α : Type} [Inhabited α] (E : El α) {esz c t n off : Nat} {x : Operand} {g0 G : Bool} {A : Option Addr} {l : List α} {i : Nat} (ho : o.op = .load t x)
    (he : ev SL x = some (g0, .pointer (some (epA A i esz off)))) (hg0 : G = true → g0 = true) (hs : T.siz t = some (n, true)) (hes : E.esz = esz) (hm : RdL E ⟨A, c⟩ l ∈ FA) (hlt : G = true → i < l.length)
    (hl : Nat.ble (off + n) esz = true) : Quiet P T SL BL FA o G (.agg ⟨subL (E.enc (gt l i)) off n⟩) :=
  q_load_gen ho he hg0 fun hT hG w hw => by
    subst hes
    have hl := Nat.le_of_ble_eq_true hl
    have hlt := hlt hG
    have hlen : (E.enc (gt l i)).length = E.esz := E.len _
    refine run_loadVar_agg hT hs (by simp [subL]; omega) fun j v hj => ?_
    have hj' : (E.enc (gt l i))[off + j]? = some v := by
      rw [← hj]
      simp only [subL, List.getElem?_take, List.getElem?_drop]
      rw [if_pos]
      obtain ⟨hlt', _⟩ := List.getElem?_eq_some_iff.1 hj
      simp [subL] at hlt'
      omega
    have := rd_cell hm hw hlt hj'
    rw [← this]
    congr 1
    simp [epA, addr_add_add, Nat.add_assoc]

theorem q_leA {α : Type} [Inhabited α] (E : El α) {esz c t : Nat} {x : Operand} {g0 G : Bool} {A : Option Addr} {l : List α} {i : Nat} (ho : o.op = .load t x)
    (he : ev SL x = some (g0, .pointer (some (epA A i esz 0)))) (hg0 : G = true → g0 = true) (hs : T.siz t = some (esz, true)) (hes : E.esz = esz) (hm : RdL E ⟨A, c⟩ l ∈ FA) (hlt : G = true → i < l.length) : Quiet P T SL BL FA o G (.agg ⟨E.enc (gt l i)⟩) :=
  fun hT hG a w hsl hw => by
    have hlen : (E.enc (gt l i)).length = esz := by rw [E.len, hes]
    have := q_leP (P := P) (BL := BL) E (off := 0) ho he hg0 hs hes hm hlt (by simp) hT hG a w hsl hw
    rw [this]
    simp [subL, ← hlen]

end

/-! ### Contracts -/
def AllF (l : List Pred) (M : Nat → Prop) (w : World) : Prop := ∀ F ∈ l, F M w

/-- What is lent to a call, or handed back: blocks, and owned slices. -/
structure Lent where
  bl : List Blk
  ow : List Own

def Lent.ids (L : Lent) : List Nat := L.bl.map (·.g) ++ L.ow.filterMap (·.b)

structure DoesG (P : Program) (f : FuncId) (args : List Value) (pre : List Pred) (L : Lent) {X : Type} (val : X → Value) (post : X → List Pred) (L' : X → Lent) : Prop where
  st : ∀ x, StabL (post x)
  ok : ∀ C : Cx, C.B0 = L.ids → WOk C ⟨0, [], L.bl, L.ow, pre⟩ C.w0 →
    Calls P f args.toArray C.w0 (fun e w' => ∃ x, e = .returned (val x) ∧ WOk C ⟨0, [], (L' x).bl, (L' x).ow, post x⟩ w')

abbrev Does (P : Program) (f : FuncId) (args : List Value) (pre : List Pred) {X : Type} (val : X → Value) (post : X → List Pred) : Prop :=
  DoesG P f args pre ⟨[], []⟩ val post (fun _ => ⟨[], []⟩)

/-- Some taken out of a list, the others left. -/
inductive Take {α : Type} : List α → List α → List α → Prop
  | nil (l : List α) : Take l [] l
  | cons {a : α} {l l' r x : List α} (h : Pick a l l') (hr : Take l' r x) : Take l (a :: r) x

theorem Take.perm {α : Type} {l r x : List α} (h : Take l r x) : l.Perm (r ++ x) := by
  induction h with
  | nil l => exact .refl _
  | cons h _ ih => exact h.perm.trans (ih.cons _)

theorem ids_perm {n : Nat} {sl : Slots} {BL : List Blk} {OW : List Own} {FA : List Pred} {L : Lent} {RB : List Blk} {RO : List Own} (hb : BL.Perm (L.bl ++ RB)) (ho : OW.Perm (L.ow ++ RO)) :
    (ids ⟨n, sl, BL, OW, FA⟩).Perm (L.ids ++ (RB.map (·.g) ++ RO.filterMap (·.b))) := by
  have h1 := hb.map (·.g)
  have h2 := ho.filterMap (·.b)
  rw [List.map_append] at h1
  rw [List.filterMap_append] at h2
  refine (h1.append h2).trans ?_
  unfold Lent.ids
  simp only [List.append_assoc]
  refine List.Perm.append_left _ ?_
  rw [← List.append_assoc, ← List.append_assoc]
  exact List.Perm.append_right _ List.perm_append_comm

section
variable {C : Cx} {N : Nat} {SL : Slots} {BL RB : List Blk} {OW RO : List Own} {FA pre : List Pred} {w w' : World} {L L' : Lent}

theorem WOk.lend (h : WOk C ⟨N, SL, BL, OW, FA⟩ w) (hb : BL.Perm (L.bl ++ RB)) (ho : OW.Perm (L.ow ++ RO)) (hp : ∀ F ∈ pre, F ∈ FA) :
    ∃ C' : Cx, C'.w0 = w ∧ C'.B0 = L.ids ∧ (∀ b, C'.M0 b ↔ (Mset C ⟨N, SL, BL, OW, FA⟩ b ∧ b ∉ L.ids)) ∧ WOk C' ⟨0, [], L.bl, L.ow, pre⟩ C'.w0 := by
  have hi : (ids ⟨N, SL, BL, OW, FA⟩).Perm (L.ids ++ (RB.map (·.g) ++ RO.filterMap (·.b))) := ids_perm hb ho
  have hsub : ∀ k, k ∈ L.ids → k ∈ ids ⟨N, SL, BL, OW, FA⟩ := fun k hk => hi.symm.subset (List.mem_append_left _ hk)
  refine ⟨⟨w, fun b => Mset C ⟨N, SL, BL, OW, FA⟩ b ∧ b ∉ L.ids, L.ids, fun b hm => Mset_lt h hm.1, fun b hm => ⟨(ids_lt h (hsub b hm)).1, fun hx => hx.2 hm⟩⟩, rfl, rfl, fun _ => Iff.rfl, ?_⟩
  refine ⟨Blw.refl _ _ _, fun k hk => ⟨(h.bl k (hb.symm.subset (List.mem_append_left _ hk))).1, .inr (List.mem_append_left _ (List.mem_map.2 ⟨k, hk, rfl⟩))⟩, fun q hq => ?_, (List.nodup_append.1 (hi.nodup_iff.1 h.nd)).1, fun F hF => ?_⟩
  · have h1 := h.ow q (ho.symm.subset (List.mem_append_left _ hq))
    unfold OwnOk at h1 ⊢
    refine ⟨h1.1, h1.2.1, ?_⟩
    have h2 := h1.2.2
    cases hqb : q.b with
    | none => rw [hqb] at h2; exact h2
    | some g => rw [hqb] at h2; exact ⟨.inr (List.mem_append_right _ (List.mem_filterMap.2 ⟨q, hq, hqb⟩)), h2.2⟩
  · have h1 := h.fa F (hp F hF)
    refine ⟨h1.1, h1.1.st _ _ w w h1.2 ⟨Nat.le_refl _, fun _ _ _ => rfl⟩ fun k _ hm => ?_⟩
    rcases hm with hm | hm
    · exact hm.1
    · exact .inr (hsub k hm)

theorem WOk.back (h : WOk C ⟨N, SL, BL, OW, FA⟩ w) (hb : BL.Perm (L.bl ++ RB)) (ho : OW.Perm (L.ow ++ RO)) {C' : Cx} (e1 : C'.w0 = w) (e2 : C'.B0 = L.ids)
    (e3 : ∀ b, C'.M0 b ↔ (Mset C ⟨N, SL, BL, OW, FA⟩ b ∧ b ∉ L.ids)) {post : List Pred} (h' : WOk C' ⟨0, [], L'.bl, L'.ow, post⟩ w') :
    WOk C ⟨N, SL, L'.bl ++ RB, L'.ow ++ RO, post ++ FA⟩ w' := by
  have hi : (ids ⟨N, SL, BL, OW, FA⟩).Perm (L.ids ++ (RB.map (·.g) ++ RO.filterMap (·.b))) := ids_perm hb ho
  have hnd := hi.nodup_iff.1 h.nd
  have hsub : ∀ k, k ∈ L.ids → k ∈ ids ⟨N, SL, BL, OW, FA⟩ := fun k hk => hi.symm.subset (List.mem_append_left _ hk)
  have hsubR : ∀ k, k ∈ RB.map (·.g) ++ RO.filterMap (·.b) → k ∈ ids ⟨N, SL, BL, OW, FA⟩ := fun k hk => hi.symm.subset (List.mem_append_right _ hk)
  have hRL : ∀ k, k ∈ RB.map (·.g) ++ RO.filterMap (·.b) → k ∉ L.ids := fun k hk hl => (List.nodup_append.1 hnd).2.2 k hl k hk rfl
  have hbe := h'.be
  rw [e1, e2] at hbe
  have hL' : ∀ k, k ∈ L'.ids → k ∈ L.ids ∨ w.heap.size ≤ k := fun k hk => by
    have h1 := (ids_lt h' (b := k) hk).2
    rcases h1 with h1 | h1
    · rw [e1] at h1; exact .inr h1
    · rw [e2] at h1; exact .inl h1
  have hmine : ∀ k, k ∈ L'.ids → C.mine k := fun k hk => by
    rcases hL' k hk with h1 | h1
    · exact (ids_lt h (hsub k h1)).2
    · exact .inl (Nat.le_trans h.be.size h1)
  have hperm' : (ids ⟨N, SL, L'.bl ++ RB, L'.ow ++ RO, post ++ FA⟩).Perm (L'.ids ++ (RB.map (·.g) ++ RO.filterMap (·.b))) := ids_perm (.refl _) (.refl _)
  have hids' : ∀ k, k ∈ ids ⟨N, SL, L'.bl ++ RB, L'.ow ++ RO, post ++ FA⟩ → k ∈ L'.ids ∨ k ∈ RB.map (·.g) ++ RO.filterMap (·.b) := fun k hk => List.mem_append.1 (hperm'.subset hk)
  have hblk : ∀ k, k < w.heap.size → k ∉ L.ids → w'.heap[k]? = w.heap[k]? := fun k hk hl => hbe.block k hk hl
  refine ⟨h.be.trans ⟨hbe.os, hbe.tape, hbe.output, hbe.size, fun k hk hB => hblk k (Nat.lt_of_lt_of_le hk h.be.size) fun hl => ?_⟩, fun k hk => ?_, fun q hq => ?_, ?_, fun F hF => ?_⟩
  · rcases (ids_lt h (hsub k hl)).2 with h1 | h1
    · omega
    · exact hB h1
  · rcases List.mem_append.1 hk with hk | hk
    · exact ⟨(h'.bl k hk).1, hmine _ (List.mem_append_left _ (List.mem_map.2 ⟨k, hk, rfl⟩))⟩
    · have hm : k.g ∈ RB.map (·.g) ++ RO.filterMap (·.b) := List.mem_append_left _ (List.mem_map.2 ⟨k, hk, rfl⟩)
      exact (h.bl k (hb.symm.subset (List.mem_append_right _ hk))).of_eq (hblk _ (ids_lt h (hsubR _ hm)).1 (hRL _ hm))
  · rcases List.mem_append.1 hq with hq | hq
    · have h1 := h'.ow q hq
      unfold OwnOk at h1 ⊢
      refine ⟨h1.1, h1.2.1, ?_⟩
      have h2 := h1.2.2
      cases hqb : q.b with
      | none => rw [hqb] at h2; exact h2
      | some g => rw [hqb] at h2; exact ⟨hmine g (List.mem_append_right _ (List.mem_filterMap.2 ⟨q, hq, hqb⟩)), h2.2⟩
    · refine (h.ow q (ho.symm.subset (List.mem_append_right _ hq))).of_eq fun g hg => ?_
      have hm : g ∈ RB.map (·.g) ++ RO.filterMap (·.b) := List.mem_append_right _ (List.mem_filterMap.2 ⟨q, hq, hg⟩)
      exact hblk g (ids_lt h (hsubR _ hm)).1 (hRL _ hm)
  · refine hperm'.nodup_iff.2 (List.nodup_append.2 ⟨h'.nd, (List.nodup_append.1 hnd).2.1, fun a ha b hb e => ?_⟩)
    subst e
    rcases hL' a ha with h1 | h1
    · exact hRL a hb h1
    · have := (ids_lt h (hsubR a hb)).1
      omega
  · rcases List.mem_append.1 hF with hF | hF
    · have h1 := h'.fa F hF
      refine ⟨h1.1, h1.1.st _ _ w' w' h1.2 ⟨Nat.le_refl _, fun _ _ _ => rfl⟩ fun k _ hm => ?_⟩
      rcases hm with hm | hm
      · refine .inl ((e3 k).2 ⟨.inl hm, fun hl => ?_⟩)
        rcases (ids_lt h (hsub k hl)).2 with h2 | h2
        · have := C.hM k hm; omega
        · exact (C.hB k h2).2 hm
      · rcases hids' k hm with hm | hm
        · exact .inr hm
        · exact .inl ((e3 k).2 ⟨.inr (hsubR k hm), hRL k hm⟩)
    · have h1 := h.fa F hF
      refine ⟨h1.1, h1.1.st _ _ w w' h1.2 ⟨hbe.size, fun k hk hm => hblk k hk fun hl => hm (.inr (hsub k hl))⟩ fun k hk hm => ?_⟩
      rcases hm with hm | hm
      · exact .inl hm
      · rcases hids' k hm with hm | hm
        · rcases hL' k hm with h2 | h2
          · exact .inr (hsub k h2)
          · omega
        · exact .inr (hsubR k hm)
end

inductive ResV (T : Tab) (s : St) : ResultVar → Value → Prop
  | tmp {t : Nat} {v : Value} (h : getS s.sl t = some (.v v)) : ResV T s (.tmp t) v
  | agg {t g n ty ty' : Nat} {cs : List Value} (h : getS s.sl t = some (.v (.pointer (some ⟨g, 0, none⟩)))) (hs : T.siz ty = some (n, true)) (hm : ⟨g, ty', cs⟩ ∈ s.bl) (hl : cs.length = n) : ResV T s (.cell t ty) (.agg ⟨cs⟩)
  | one {t g n ty ty' : Nat} {c : Value} (h : getS s.sl t = some (.v (.pointer (some ⟨g, 0, none⟩)))) (hs : T.siz ty = some (n, false)) (hm : ⟨g, ty', [c]⟩ ∈ s.bl) : ResV T s (.cell t ty) c

inductive ResVs (T : Tab) (s : St) : List ResultVar → List Value → Prop
  | nil : ResVs T s [] []
  | cons {r : ResultVar} {v : Value} {rs : List ResultVar} {vs : List Value} (h : ResV T s r v) (hr : ResVs T s rs vs) : ResVs T s (r :: rs) (v :: vs)

def resVal : List Value → Value
  | [v] => v
  | vs => .tuple ⟨vs⟩

def argS : Nat → List Value → Slots
  | _, [] => []
  | n, v :: vs => (n, .v v) :: argS (n + 1) vs

def finQ {X : Type} (T : Tab) (rs : List ResultVar) (val : X → Value) (post : X → List Pred) (L' : X → Lent) : Post
  | .ret, s | .normal, s => ∃ x vs, ResVs T s rs vs ∧ val x = resVal vs ∧ SubM s.fa (post x) ∧ SubP s.bl (L' x).bl ∧ SubP s.ow (L' x).ow
  | _, _ => False

section
variable {P : Program} {T : Tab}

def resOne (a : Act) : ResultVar → Sem Value
  | .tmp t => pure (a.tmps.getD t undef)
  | .cell x t => do loadVar t (← asAddr (a.tmps.getD x undef))

theorem ResV.ok (hT : TabOk T P) {C : Cx} {s : St} {a : Act} {w : World} (hr : Rep C s a w) {r : ResultVar} {v : Value} (h : ResV T s r v) :
    (resOne a r).run P w = .ok v w := by
  unfold resOne
  cases h with
  | tmp h => have := hr.sl _ _ h; simp [SV.ok] at this; simp [this]
  | agg h hs hm hl =>
    have := hr.sl _ _ h
    simp only [SV.ok] at this
    have h2 := blk_load_agg (P := P) (FA := s.fa) hs hm (off := 0) (by simp [hl]) hT (WOk.wq (N := s.n) (SL := s.sl) (OW := s.ow) hr.wo)
    simp only [Array.getD_eq_getD_getElem?, this, Option.getD_some, asAddr, Sem.run_bind, Sem.run_pure, Result.andThen_ok, h2]
    simp [subL, ← hl]
  | one h hs hm =>
    have := hr.sl _ _ h
    simp only [SV.ok] at this
    have h2 := run_loadVar_one (P := P) hT hs (w := w) (a := ⟨_, 0, none⟩) (by rw [blk_cell (hr.wo.bl _ hm).1]; rfl)
    simp only [Array.getD_eq_getD_getElem?, this, Option.getD_some, asAddr, Sem.run_bind, Sem.run_pure, Result.andThen_ok, h2]

theorem ResVs.ok (hT : TabOk T P) {C : Cx} {s : St} {a : Act} {w : World} (hr : Rep C s a w) {fn : Func} {vs : List Value} (h : ResVs T s fn.results.toList vs) :
    (results fn a.tmps).run P w = .ok (resVal vs) w := by
  have key : ∀ (rs : List ResultVar) (vs : List Value), ResVs T s rs vs → (rs.mapM (resOne a)).run P w = .ok vs w := by
    intro rs vs h
    induction h with
    | nil => simp
    | cons h _ ih => simp only [List.mapM_cons, Sem.run_bind, h.ok hT hr, Result.andThen_ok, ih, Sem.run_pure]
  have he : results fn a.tmps = (do let vs ← fn.results.mapM (resOne a); pure (if h : vs.size = 1 then vs[0] else .tuple vs)) := rfl
  rw [he, Sem.run_bind]
  have hm := key _ _ h
  rw [← Array.toArray_toList (xs := fn.results), List.mapM_toArray]
  simp only [Sem.run_map]
  rw [hm]
  simp only [Result.andThen_ok, Sem.run_pure]
  match vs with
  | [] => rfl
  | [v] => rfl
  | v :: u :: vs => rfl

theorem argS_get : ∀ (vs : List Value) (k n : Nat) (x : SV), getS (argS k vs) n = some x → ∃ j v, n = k + j ∧ vs[j]? = some v ∧ x = .v v
  | [], k, n, x, h => by simp [argS, getS] at h
  | v :: vs, k, n, x, h => by
    rw [argS, getS_cons] at h
    split at h
    · rename_i e
      cases h
      exact ⟨0, v, by omega, rfl, rfl⟩
    · obtain ⟨j, u, h1, h2, h3⟩ := argS_get vs (k + 1) n x h
      exact ⟨j + 1, u, by omega, by simpa using h2, h3⟩

/-- A contract, from a walk of the body. -/
theorem does_ofG {f : FuncId} {fn : Func} {c : Code} {N : Nat} {args : List Value} {pre : List Pred} {L : Lent} {X : Type} {val : X → Value} {post : X → List Pred} {L' : X → Lent} {rs : List ResultVar} (hT : TabOk T P)
    (hf : P.funcs[f]? = some fn) (hb : fn.body = some c) (hN : fn.ntmps = N) (hrs : fn.results = ⟨rs⟩) (hle : Nat.ble args.length N = true) (_hpre : StabL pre) (hpost : ∀ x, StabL (post x))
    (h : ∀ C : Cx, CW P T C c ⟨N, argS 0 args, L.bl, L.ow, pre⟩ (finQ T rs val post L')) : DoesG P f args pre L val post L' where
  st := hpost
  ok C hCB hw := by
    have hle := Nat.le_of_ble_eq_true hle
    refine calls_of_wp hf hb ?_
    refine Code.wp_mono (fun e a w' hq => ?_) (h C hT _ C.w0 ?_)
    · have fin : ∀ s', finQ T rs val post L' .ret s' → Rep C s' a w' → a.defers = [] ∧ ∃ v, (results fn a.tmps).run P w' = .ok v w' ∧ ∃ x, Ending.returned v = .returned (val x) ∧ WOk C ⟨0, [], (L' x).bl, (L' x).ow, post x⟩ w' := by
        intro s' h1 h2
        obtain ⟨x, vs, hres, hval, hsub, hbl, how⟩ := h1
        have h3 : Rep C ⟨s'.n, [], (L' x).bl, (L' x).ow, post x⟩ a w' := (Le.of (s := s') (s' := ⟨s'.n, [], (L' x).bl, (L' x).ow, post x⟩) rfl (.nil _) hbl how hsub) a w' h2
        exact ⟨h2.df, _, ResVs.ok hT h2 (by rw [hrs]; exact hres), x, by rw [hval], ⟨h3.wo.be, h3.wo.bl, h3.wo.ow, h3.wo.nd, h3.wo.fa⟩⟩
      cases e with
      | normal => obtain ⟨s', h1, h2⟩ := hq; exact fin s' h1 h2
      | ret => obtain ⟨s', h1, h2⟩ := hq; exact fin s' h1 h2
      | exit i => obtain ⟨s', h1, _⟩ := hq; exact h1.elim
      | goto l => exact hq.elim
      | panic c => exact hq.elim
      | outgrown => exact hq.elim
    · refine ⟨by simp [hN]; omega, rfl, fun n x hx => ?_, ⟨hw.be, hw.bl, hw.ow, hw.nd, hw.fa⟩⟩
      obtain ⟨j, v, h1, h2, rfl⟩ := argS_get args 0 n x hx
      have hn : n = j := by omega
      subst hn
      obtain ⟨hlt, _⟩ := List.getElem?_eq_some_iff.1 h2
      simp only [SV.ok]
      rw [Array.getElem?_append_left (by simpa using hlt)]
      simpa using h2

theorem does_of {f : FuncId} {fn : Func} {c : Code} {N : Nat} {args : List Value} {pre : List Pred} {X : Type} {val : X → Value} {post : X → List Pred} {rs : List ResultVar} (hT : TabOk T P)
    (hf : P.funcs[f]? = some fn) (hb : fn.body = some c) (hN : fn.ntmps = N) (hrs : fn.results = ⟨rs⟩) (hle : Nat.ble args.length N = true) (hpre : StabL pre) (hpost : ∀ x, StabL (post x))
    (h : ∀ C : Cx, CW P T C c ⟨N, argS 0 args, [], [], pre⟩ (finQ T rs val post (fun _ => ⟨[], []⟩))) : Does P f args pre val post :=
  does_ofG hT hf hb hN hrs hle hpre hpost h

/-- A contract's law, for whoever stands outside. -/
theorem DoesG.calls {f : FuncId} {args : List Value} {pre : List Pred} {X : Type} {val : X → Value} {post : X → List Pred} (h : Does P f args pre val post) (w : World) (hp : ∀ F ∈ pre, Stab F ∧ F (fun _ => False) w) :
    Calls P f args.toArray w (fun e w' => ∃ x, e = .returned (val x) ∧ Below w.heap.size w w' ∧ AllF (post x) (fun _ => False) w') :=
  (h.ok ⟨w, fun _ => False, [], fun _ h => h.elim, fun _ h => by cases h⟩ rfl ⟨Blw.refl _ _ _, by simp, by simp, by simp [ids], fun F hF => ⟨(hp F hF).1, (hp F hF).1.st _ _ w w (hp F hF).2 ⟨Nat.le_refl _, fun _ _ _ => rfl⟩ fun k _ hm => by
    rcases hm with hm | hm
    · exact hm
    · simp [ids] at hm⟩⟩).mono fun e w' ⟨x, he, hw⟩ => ⟨x, he, hw.be.below, fun F hF => (hw.fa F hF).1.st _ _ w' w' (hw.fa F hF).2 ⟨Nat.le_refl _, fun _ _ _ => rfl⟩ fun _ _ hm => hm.elim⟩

variable {C : Cx} {ops : Array Oper} {o : Oper} {r r' : RS} {s : St} {Q : Post} {N : Nat} {SL : Slots} {BL : List Blk} {OW : List Own} {FA : List Pred}

theorem run_call (hT : TabOk T P) {f : FuncId} (hf : T.fnb f = true) (args : Array Value) (w : World) : (callFunc f args).run P w = .ok (.enter f args) w := by
  obtain ⟨fn, h1, h2, h3⟩ := hT.fnb f hf
  simp only [callFunc, Sem.run_bind, run_program, Result.andThen_ok, h1, h2, h3]
  simp

theorem exec_call (hT : TabOk T P) {f : FuncId} {xs : Array Operand} {ts : Array TypeId} (ho : o.op = .call ⟨.value (.func f), xs, ts⟩) (hf : T.fnb f = true) {a : Act} {g : Bool} {vs : List Value} (hsl : SlotsOk s.sl a)
    (he : evs s.sl xs.toList = some (g, vs)) (hg : g = true) (w : World) : (execOp a.eval o).run P w = .ok (.enter f vs.toArray) w := by
  have hv := evs_ok hsl he hg
  have : xs.map a.eval = vs.toArray := by apply Array.ext'; simp [hv]
  simp [execOp, ho, resolve, Deferred.ofValue, invoke, this, Act.eval, run_call hT hf]

theorem call_wp {a : Act} {w : World} {d : Nat} {f : FuncId} {args : List Value} {pre : List Pred} {L : Lent} {X : Type} {val : X → Value} {post : X → List Pred} {L' : X → Lent} {RB : List Blk} {RO : List Own}
    (hS : DoesG P f args pre L val post L') (hx : (execOp a.eval o).run P w = .ok (.enter f args.toArray) w) (hd : o.dst = some d) (hrep : Rep C ⟨N, SL, BL, OW, FA⟩ a w) (hpre : ∀ F ∈ pre, F ∈ FA)
    (hb : BL.Perm (L.bl ++ RB)) (ho : OW.Perm (L.ow ++ RO)) {K : Act → World → Prop}
    (hK : ∀ x w', WOk C ⟨N, SL, (L' x).bl ++ RB, (L' x).ow ++ RO, post x ++ FA⟩ w' → Keeps L.ids w w' → K (a.put (some d) (val x)) w') : o.wp P a w K noG := by
  unfold Oper.wp
  rw [hx, Oper.upon_enter]
  obtain ⟨C', e1, e2, e3, hl⟩ := hrep.wo.lend (pre := pre) hb ho hpre
  have := hS.ok C' e2 hl
  rw [e1] at this
  refine this.mono ?_
  rintro e w' ⟨x, rfl, hw⟩
  simp only [hd]
  refine hK x w' (hrep.wo.back hb ho e1 e2 e3 hw) ?_
  have hbe := hw.be
  rw [e1, e2] at hbe
  exact ⟨hbe.size, fun k hk hD => hbe.block k hk hD⟩

theorem loud_callG {d : Nat} {f : FuncId} {xs : Array Operand} {ts : Array TypeId} {g : Bool} {vs : List Value} {pre : List Pred} {L : Lent} {X : Type} {val : X → Value} {post : X → List Pred} {L' : X → Lent} {RB : List Blk} {RO : List Own}
    (hS : DoesG P f vs pre L val post L') (hd : o.dst = some d) (hn : Nat.blt d N = true) (ho : o.op = .call ⟨.value (.func f), xs, ts⟩) (hf : T.fnb f = true)
    (he : evs SL xs.toList = some (g, vs)) (hgt : g = true) (hpre : SubM FA pre) (hb : Take BL L.bl RB) (hw : Take OW L.ow RO) :
    Loud P T C ⟨N, SL, BL, OW, FA⟩ o L.ids (fun s' => ∃ x, s' = ⟨N, (d, .v (val x)) :: SL, (L' x).bl ++ RB, (L' x).ow ++ RO, post x ++ FA⟩) := by
  intro hT a w hrep
  refine call_wp hS (exec_call hT ho hf hrep.sl he hgt w) hd hrep hpre.mem hb.perm hw.perm fun x w' hw hk => ?_
  exact ⟨_, ⟨x, rfl⟩, hrep.putv (Nat.le_of_ble_eq_true hn) (x := .v (val x)) (u := val x) rfl ⟨hw.be, hw.bl, hw.ow, hw.nd, hw.fa⟩, hk⟩

theorem Loud.wide {D D' : List Nat} {s : St} {K : St → Prop} (h : Loud P T C s o D K) (hD : ∀ g ∈ D, g ∈ D') : Loud P T C s o D' K := fun hT a w hrep =>
  Oper.wp_mono (fun _ _ ⟨s', h1, h2, h3⟩ => ⟨s', h1, h2, h3.mono hD⟩) (h hT a w hrep)

/-- A call that blocks or owned slices are lent to. -/
theorem rw_callG {D : List Nat} {d : Nat} {f : FuncId} {xs : Array Operand} {ts : Array TypeId} {g : Bool} {vs : List Value} {pre : List Pred} {L : Lent} {X : Type} {val : X → Value} {post : X → List Pred} {L' : X → Lent} {RB : List Blk} {RO : List Own}
    (hS : DoesG P f vs pre L val post L') (hfr : Front ops r o D r') (hD : (∃ l, r = .sq l) ∨ ∀ g ∈ L.ids, g ∈ D) (hg : Guard ops SL o true) (hd : o.dst = some d) (hn : Nat.blt d N = true) (ho : o.op = .call ⟨.value (.func f), xs, ts⟩) (hf : T.fnb f = true)
    (he : evs SL xs.toList = some (g, vs)) (hgt : g = true) (hpre : SubM FA pre) (hb : Take BL L.bl RB) (hw : Take OW L.ow RO)
    (h : ∀ x, RW P T C ops r' ⟨N, (d, .v (val x)) :: SL, (L' x).bl ++ RB, (L' x).ow ++ RO, post x ++ FA⟩ Q) : RW P T C ops r ⟨N, SL, BL, OW, FA⟩ Q := by
  have key := loud_callG (C := C) hS hd hn ho hf he hgt hpre hb hw
  cases hfr with
  | sq => exact rw_lsq hg key (fun s' ⟨x, e⟩ => by subst e; exact h x)
  | lo _ hi hDD => exact rw_l (.lo L.ids hi hDD) hg key (fun s' ⟨x, e⟩ => by subst e; exact h x)
  | an hi hDD =>
    refine rw_l (.an hi hDD) hg (key.wide fun g hg => ?_) (fun s' ⟨x, e⟩ => by subst e; exact h x)
    rcases hD with ⟨_, e⟩ | e
    · cases e
    · exact e g hg

theorem loud_call {D : List Nat} {d : Nat} {f : FuncId} {xs : Array Operand} {ts : Array TypeId} {g : Bool} {vs : List Value} {pre : List Pred} {X : Type} {val : X → Value} {post : X → List Pred}
    (hS : Does P f vs pre val post) (hd : o.dst = some d) (hn : Nat.blt d N = true) (ho : o.op = .call ⟨.value (.func f), xs, ts⟩) (hf : T.fnb f = true)
    (he : evs SL xs.toList = some (g, vs)) (hgt : g = true) (hpre : SubM FA pre) :
    Loud P T C ⟨N, SL, BL, OW, FA⟩ o D (fun s' => ∃ x, s' = ⟨N, (d, .v (val x)) :: SL, BL, OW, post x ++ FA⟩) :=
  (loud_callG (C := C) hS hd hn ho hf he hgt hpre (.nil _) (.nil _)).wide (by simp [Lent.ids])

theorem rw_call {D : List Nat} {d : Nat} {f : FuncId} {xs : Array Operand} {ts : Array TypeId} {g : Bool} {vs : List Value} {pre : List Pred} {X : Type} {val : X → Value} {post : X → List Pred}
    (hS : Does P f vs pre val post) (hfr : Front ops r o D r') (hg : Guard ops SL o true) (hd : o.dst = some d) (hn : Nat.blt d N = true) (ho : o.op = .call ⟨.value (.func f), xs, ts⟩) (hf : T.fnb f = true)
    (he : evs SL xs.toList = some (g, vs)) (hgt : g = true) (hpre : SubM FA pre)
    (h : ∀ x, RW P T C ops r' ⟨N, (d, .v (val x)) :: SL, BL, OW, post x ++ FA⟩ Q) : RW P T C ops r ⟨N, SL, BL, OW, FA⟩ Q :=
  rw_l hfr hg (loud_call hS hd hn ho hf he hgt hpre) (fun s' ⟨x, e⟩ => by subst e; exact h x)

/-- A guarded call whose answer is known. -/
theorem rw_callg {D : List Nat} {d : Nat} {f : FuncId} {xs : Array Operand} {ts : Array TypeId} {g G : Bool} {vs : List Value} {pre : List Pred} {X : Type} {val : X → Value} {post : X → List Pred} {v : Value}
    (hS : G = true → Does P f vs pre val post) (hval : ∀ x, val x = v) (hfr : Front ops r o D r') (hG : Guard ops SL o G) (hd : o.dst = some d) (hn : Nat.blt d N = true) (ho : o.op = .call ⟨.value (.func f), xs, ts⟩) (hf : T.fnb f = true)
    (he : evs SL xs.toList = some (g, vs)) (hgt : G = true → g = true) (hpre : SubM FA pre)
    (h : RW P T C ops r' ⟨N, (d, .o G v) :: SL, BL, OW, FA⟩ Q) : RW P T C ops r ⟨N, SL, BL, OW, FA⟩ Q := by
  intro hT a w hrep
  have hno : G = false → Rep C ⟨N, (d, .o G v) :: SL, BL, OW, FA⟩ (a.put (some d) undef) w := fun hGv =>
    hrep.putv (Nat.le_of_ble_eq_true hn) (x := .o G v) (u := undef) (by simp [SV.ok, hGv]) hrep.wo
  have hyes : G = true → o.wp P a w (fun a' w' => Rep C ⟨N, (d, .o G v) :: SL, BL, OW, FA⟩ a' w' ∧ Keeps D w w') noG := fun hGv => by
    refine call_wp (hS hGv) (exec_call hT ho hf hrep.sl he (hgt hGv) w) hd hrep hpre.mem (RB := BL) (RO := OW) (.refl _) (.refl _) fun x w' hw hk => ?_
    rw [hval]
    exact ⟨hrep.putv (Nat.le_of_ble_eq_true hn) (x := .o G v) (u := v) (by simp [SV.ok, hGv]) (bl := BL) (ow := OW) (fa := FA) ⟨hw.be, hw.bl, hw.ow, hw.nd, fun F hF => hw.fa F (List.mem_append_right _ hF)⟩, hk.mono (by simp [Lent.ids])⟩
  cases hfr with
  | sq =>
    show wpList P ops (postOf C Q) (o :: _) a w
    unfold wpList
    rw [hG a hrep.sl]
    cases hGv : G with
    | true =>
      rw [if_pos rfl]
      have := hyes hGv
      rw [hGv] at h this
      exact .inl (Oper.wp_mono (fun a' w' ⟨h1, _⟩ => h hT a' w' h1) (Oper.wp_no this))
    | false =>
      rw [if_neg (by simp), hd]
      exact h hT _ _ (hno hGv)
  | an hi hDD =>
    unfold wpR wpOp
    simp only [hi]
    rw [hG a hrep.sl]
    cases hGv : G with
    | true =>
      rw [if_pos rfl]
      have := hyes hGv
      rw [hGv] at h this
      exact .inl (Oper.wp_mono (fun a' w' ⟨h1, h2⟩ => ⟨by rw [hDD]; exact h2, h hT a' w' h1⟩) this)
    | false =>
      rw [if_neg (by simp), hd]
      exact ⟨KeepsO.refl _ _, h hT _ _ (hno hGv)⟩
  | lo _ hi hDD =>
    unfold wpR wpOp
    simp only [hi]
    rw [hG a hrep.sl]
    cases hGv : G with
    | true =>
      rw [if_pos rfl]
      have := hyes hGv
      rw [hGv] at h this
      exact .inl (Oper.wp_mono (fun a' w' ⟨h1, h2⟩ => ⟨by rw [hDD]; exact trivial, h hT a' w' h1⟩) this)
    | false =>
      rw [if_neg (by simp), hd]
      exact ⟨KeepsO.refl _ _, h hT _ _ (hno hGv)⟩

/-- A fact more, out of the facts at hand. -/
theorem rw_fact {F : Pred} [hF : Stab F] (pre : List Pred) (hpre : SubM FA pre) (hd : ∀ M w, AllF pre M w → F M w) (h : RW P T C ops r ⟨N, SL, BL, OW, F :: FA⟩ Q) : RW P T C ops r ⟨N, SL, BL, OW, FA⟩ Q :=
  rw_le (s' := { n := N, sl := SL, bl := BL, ow := OW, fa := F :: FA }) (fun a w hr => ⟨hr.sz, hr.df, hr.sl, hr.wo.be, hr.wo.bl, hr.wo.ow, hr.wo.nd, fun G hG => by
    cases hG with
    | head => exact ⟨hF, hd _ _ fun F hF => (hr.wo.fa F (hpre.mem F hF)).2⟩
    | tail _ hG => exact hr.wo.fa G hG⟩) h

theorem cw_fact {c : Code} {F : Pred} [hF : Stab F] (pre : List Pred) (hpre : SubM FA pre) (hd : ∀ M w, AllF pre M w → F M w) (h : CW P T C c ⟨N, SL, BL, OW, F :: FA⟩ Q) : CW P T C c ⟨N, SL, BL, OW, FA⟩ Q :=
  cw_le (s' := { n := N, sl := SL, bl := BL, ow := OW, fa := F :: FA }) (fun a w hr => ⟨hr.sz, hr.df, hr.sl, hr.wo.be, hr.wo.bl, hr.wo.ow, hr.wo.nd, fun G hG => by
    cases hG with
    | head => exact ⟨hF, hd _ _ fun F hF => (hr.wo.fa F (hpre.mem F hF)).2⟩
    | tail _ hG => exact hr.wo.fa G hG⟩) h
end
end Go.Proofs.YtccmadehnoihnaaGreatDoor.Fw

namespace Go.Proofs.YtccmadehnoihnaaGreatDoor.Fw
open Go Go.RowKit

def lk {α : Type} : List (Nat × α) → Nat → Option α
  | [], _ => none
  | (k, x) :: r, n => match Nat.beq k n with | true => some x | false => lk r n

theorem lk_mem {α : Type} : ∀ {l : List (Nat × α)} {n : Nat} {x : α}, lk l n = some x → (n, x) ∈ l
  | [], n, x, h => by simp [lk] at h
  | (k, y) :: r, n, x, h => by
    simp only [lk] at h
    split at h
    · rename_i hb
      have := Nat.eq_of_beq_eq_true hb
      subst this
      cases h
      exact .head _
    · exact .tail _ (lk_mem h)

/-- The rows of a table. -/
structure TRows where
  fld : List (Nat × List (Nat × Nat))
  siz : List (Nat × (Nat × Bool))
  zer : List (Nat × List Value)
  str : List (Nat × List (Nat × Nat))
  slc : List (Nat × Nat)
  arr : List (Nat × (Nat × Nat))
  byt : List (Nat × Nat)
  isS : List Nat
  fnb : List Nat

def tabOf (R : TRows) : Tab where
  fld t i := match lk R.fld t with | some l => l[i]? | none => none
  siz := lk R.siz
  zer := lk R.zer
  str := lk R.str
  slc := lk R.slc
  arr := lk R.arr
  byt := lk R.byt
  eqs _ := false
  isS t := R.isS.any (Nat.beq t)
  fnb f := R.fnb.any (Nat.beq f)

def vEq : Value → Value → Bool
  | .int k a, .int k' b => decide (k = k') && decide (a = b)
  | .bool a, .bool b => a == b
  | .string a, .string b => decide (a.data.toList = b.data.toList)
  | .slice none a b, .slice none c d => Nat.beq a c && Nat.beq b d
  | .pointer none, .pointer none => true
  | .nilFunc, .nilFunc => true
  | .nilIface, .nilIface => true
  | _, _ => false

theorem vEq_ok {a b : Value} (h : vEq a b = true) : a = b := by
  unfold vEq at h
  split at h
  · simp at h; rw [h.1, h.2]
  · simp at h; rw [h]
  · rename_i a b
    have h : a.data.toList = b.data.toList := by simpa using h
    obtain ⟨⟨a⟩⟩ := a
    obtain ⟨⟨b⟩⟩ := b
    simp at h; rw [h]
  · simp at h
    rw [h.1, h.2]
  · rfl
  · rfl
  · rfl
  · cases h

def vsEq : List Value → List Value → Bool
  | [], [] => true
  | a :: l, b :: r => vEq a b && vsEq l r
  | _, _ => false

theorem vsEq_ok : ∀ {a b : List Value}, vsEq a b = true → a = b
  | [], [], _ => rfl
  | a :: l, b :: r, h => by simp [vsEq] at h; rw [vEq_ok h.1, vsEq_ok h.2]
  | [], _ :: _, h => by simp [vsEq] at h
  | _ :: _, [], h => by simp [vsEq] at h

def fldsEq : List Field → List (Nat × Nat) → Bool
  | [], [] => true
  | f :: fs, (o, t) :: r => Nat.beq f.offset o && Nat.beq f.type t && fldsEq fs r
  | _, _ => false

theorem fldsEq_ok : ∀ {fs : List Field} {l : List (Nat × Nat)} {i o t : Nat}, fldsEq fs l = true → l[i]? = some (o, t) → ∃ f, fs[i]? = some f ∧ f.offset = o ∧ f.type = t
  | [], [], i, o, t, _, h => by simp at h
  | f :: fs, (o', t') :: r, i, o, t, h, hl => by
    simp [fldsEq] at h
    cases i with
    | zero =>
      simp at hl
      refine ⟨f, rfl, ?_, ?_⟩
      · rw [← hl.1]; exact h.1.1
      · rw [← hl.2]; exact h.1.2
    | succ i => simpa using fldsEq_ok h.2 (by simpa using hl)
  | [], _ :: _, _, _, _, h, _ => by simp [fldsEq] at h
  | _ :: _, [], _, _, _, h, _ => by simp [fldsEq] at h

def strEq (P : Program) : List Field → List (Nat × Nat) → Bool
  | [], [] => true
  | f :: fs, (o, n) :: r => Nat.beq f.offset o && (match P.info? f.type with | some ti => Nat.beq ti.size n | none => false) && strEq P fs r
  | _, _ => false

theorem strEq_ok {P : Program} : ∀ {fs : List Field} {l : List (Nat × Nat)}, strEq P fs l = true → ∃ tis : List TypeInfo, fs.map (fun f => P.info? f.type) = tis.map some ∧ (fs.zip tis).map (fun p => (p.1.offset, p.2.size)) = l
  | [], [], _ => ⟨[], rfl, rfl⟩
  | f :: fs, (o, n) :: r, h => by
    simp only [strEq, Bool.and_eq_true] at h
    obtain ⟨⟨h1, h2⟩, h3⟩ := h
    obtain ⟨tis, q1, q2⟩ := strEq_ok h3
    cases hi : P.info? f.type with
    | none => simp [hi] at h2
    | some ti =>
      simp only [hi] at h2
      exact ⟨ti :: tis, by simp [hi, q1], by simp [q2, Nat.eq_of_beq_eq_true h1, Nat.eq_of_beq_eq_true h2]⟩
  | [], _ :: _, h => by simp [strEq] at h
  | _ :: _, [], h => by simp [strEq] at h

def chkFld (P : Program) (p : Nat × List (Nat × Nat)) : Bool := match P.underlying p.1 with | some (.struct fs) => fldsEq fs.toList p.2 | _ => false
def chkStr (P : Program) (p : Nat × List (Nat × Nat)) : Bool := match P.underlying p.1 with | some (.struct fs) => strEq P fs.toList p.2 | _ => false
def chkSiz (P : Program) (p : Nat × (Nat × Bool)) : Bool := match P.info? p.1, P.underlying p.1 with | some ti, some d => Nat.beq ti.size p.2.1 && (aggD d == p.2.2) | _, _ => false
def chkZer (P : Program) (p : Nat × List Value) : Bool := match P.info? p.1 with | some ti => (match ti.zero with | some z => vsEq z.cells.toList p.2 | none => false) | _ => false
def chkSlc (P : Program) (p : Nat × Nat) : Bool := match P.underlying p.1 with | some (.slice e) => Nat.beq e p.2 | _ => false
def chkArr (P : Program) (p : Nat × (Nat × Nat)) : Bool := match P.underlying p.1 with | some (.array n e) => Nat.beq n p.2.1 && Nat.beq e p.2.2 | _ => false
def chkByt (P : Program) (p : Nat × Nat) : Bool := match P.info? p.1 with | some ti => Nat.beq ti.bytes p.2 | _ => false
def chkIsS (P : Program) (t : Nat) : Bool := match P.underlying t with | some .string => true | _ => false
def chkFnb (P : Program) (f : Nat) : Bool := match P.funcs[f]? with | some fn => !(fn.name == "runtime.NumGoroutine") && !fn.body.isNone | none => false

structure ROk (R : TRows) (P : Program) : Prop where
  mixed : P.follows .mixedOrders = true
  fld : R.fld.all (chkFld P) = true
  siz : R.siz.all (chkSiz P) = true
  zer : R.zer.all (chkZer P) = true
  str : R.str.all (chkStr P) = true
  slc : R.slc.all (chkSlc P) = true
  arr : R.arr.all (chkArr P) = true
  byt : R.byt.all (chkByt P) = true
  isS : R.isS.all (chkIsS P) = true
  fnb : R.fnb.all (chkFnb P) = true

theorem tabOf_ok {R : TRows} {P : Program} (h : ROk R P) : TabOk (tabOf R) P where
  mixed := h.mixed
  fld t i o ft ht := by
    simp only [tabOf] at ht
    split at ht
    · rename_i l hl
      have := List.all_eq_true.1 h.fld _ (lk_mem hl)
      unfold chkFld at this
      simp only at this
      split at this
      · rename_i fs hu
        obtain ⟨f, h1, h2, h3⟩ := fldsEq_ok this ht
        exact ⟨fs, f, hu, by simpa using h1, h2, h3⟩
      · cases this
    · cases ht
  siz t n b ht := by
    have := List.all_eq_true.1 h.siz _ (lk_mem ht)
    unfold chkSiz at this
    simp only at this
    split at this
    · rename_i ti d h1 h2
      simp at this
      exact ⟨ti, d, h1, this.1, h2, this.2⟩
    · cases this
  zer t l ht := by
    have := List.all_eq_true.1 h.zer _ (lk_mem ht)
    unfold chkZer at this
    simp only at this
    split at this
    · rename_i ti h1
      split at this
      · rename_i z hz
        exact ⟨ti, z, h1, hz, vsEq_ok this⟩
      · cases this
    · cases this
  str t l ht := by
    have := List.all_eq_true.1 h.str _ (lk_mem ht)
    unfold chkStr at this
    simp only at this
    split at this
    · rename_i fs hu
      exact ⟨fs, hu, strEq_ok this⟩
    · cases this
  slc t e ht := by
    have := List.all_eq_true.1 h.slc _ (lk_mem ht)
    unfold chkSlc at this
    simp only at this
    split at this
    · rename_i e' hu
      rw [hu, Nat.eq_of_beq_eq_true this]
    · cases this
  arr t n e ht := by
    have := List.all_eq_true.1 h.arr _ (lk_mem ht)
    unfold chkArr at this
    simp only at this
    split at this
    · rename_i n' e' hu
      simp at this
      rw [hu, this.1, this.2]
    · cases this
  byt t n ht := by
    have := List.all_eq_true.1 h.byt _ (lk_mem ht)
    unfold chkByt at this
    simp only at this
    split at this
    · rename_i ti h1
      exact ⟨ti, h1, Nat.eq_of_beq_eq_true this⟩
    · cases this
  isS t ht := by
    simp only [tabOf] at ht
    obtain ⟨t', h1, h2⟩ := List.any_eq_true.1 ht
    have := List.all_eq_true.1 h.isS _ h1
    have e := Nat.eq_of_beq_eq_true h2
    subst e
    unfold chkIsS at this
    split at this
    · assumption
    · cases this
  fnb t ht := by
    simp only [tabOf] at ht
    obtain ⟨t', h1, h2⟩ := List.any_eq_true.1 ht
    have := List.all_eq_true.1 h.fnb _ h1
    have e := Nat.eq_of_beq_eq_true h2
    subst e
    unfold chkFnb at this
    split at this
    · rename_i fn hf
      simp only [Bool.and_eq_true, Bool.not_eq_true'] at this
      exact ⟨fn, hf, this.1, this.2⟩
    · cases this
end Go.Proofs.YtccmadehnoihnaaGreatDoor.Fw

namespace Go.Proofs.YtccmadehnoihnaaGreatDoor.Fw
open Go Go.RowKit

/-! ### Slices of the call's own -/
inductive UpdO : List Own → Own → List Own → List Own → Prop
  | here (o : Own) (n : List Own) (r : List Own) : UpdO (o :: r) o n (n ++ r)
  | there (k : Own) {o : Own} {n : List Own} {r r' : List Own} (h : UpdO r o n r') : UpdO (k :: r) o n (k :: r')

theorem UpdO.spec {l l' : List Own} {o : Own} {n : List Own} (h : UpdO l o n l') : ∃ a b, l = a ++ o :: b ∧ l' = a ++ (n ++ b) := by
  induction h with
  | here o n r => exact ⟨[], r, rfl, rfl⟩
  | there k _ ih => obtain ⟨a, b, h1, h2⟩ := ih; exact ⟨k :: a, b, by rw [h1]; rfl, by rw [h2]; rfl⟩

section
variable {P : Program} {T : Tab} {C : Cx} {ops : Array Oper} {o : Oper} {r r' : RS} {s : St} {Q : Post} {N : Nat} {SL : Slots} {BL : List Blk} {OW : List Own} {FA : List Pred}

/-- An own row gives way to another one: its block is the old one, or new. -/
theorem WOk.swapO {w w' : World} {o o' : Own} {ow' : List Own} (h : WOk C ⟨N, SL, BL, OW, FA⟩ w) (hu : UpdO OW o [o'] ow') (ho' : OwnOk C w' o')
    (hg : w.grownBy w' o.b) (hb : o'.b = o.b ∨ o'.b = none ∨ o'.b = some w.heap.size) : WOk C ⟨N, SL, BL, ow', FA⟩ w' := by
  obtain ⟨x, y, rfl, rfl⟩ := hu.spec
  have hnd := h.nd
  have hid : ids ⟨N, SL, BL, x ++ o :: y, FA⟩ = BL.map (·.g) ++ (x ++ o :: y).filterMap (·.b) := rfl
  have hid' : ids ⟨N, SL, BL, x ++ ([o'] ++ y), FA⟩ = BL.map (·.g) ++ (x ++ o' :: y).filterMap (·.b) := rfl
  have hbf : ∀ k, k < w.heap.size → o.b ≠ some k → w'.heap[k]? = w.heap[k]? := by
    exact fun k hk hne => hg.block k hk fun e => hne e.symm
  have hsub : ∀ k, k < w.heap.size → k ∈ ids ⟨N, SL, BL, x ++ ([o'] ++ y), FA⟩ → k ∈ ids ⟨N, SL, BL, x ++ o :: y, FA⟩ := by
    intro k hk hm
    rw [hid'] at hm
    rw [hid]
    rcases List.mem_append.1 hm with hm | hm
    · exact List.mem_append_left _ hm
    · refine List.mem_append_right _ ?_
      rw [List.filterMap_append, List.mem_append] at hm ⊢
      rcases hm with hm | hm
      · exact .inl hm
      · refine .inr ?_
        rw [List.filterMap_cons] at hm ⊢
        rcases hb with e | e | e
        · rw [e] at hm; exact hm
        · rw [e] at hm
          simp only at hm
          cases o.b with
          | none => exact hm
          | some g => exact .tail _ hm
        · rw [e] at hm
          simp only at hm
          rcases List.mem_cons.1 hm with hm | hm
          · omega
          · cases o.b with
            | none => exact hm
            | some g => exact .tail _ hm
  have hlt := fun {b} hb => (ids_lt h (b := b) hb).1
  refine ⟨?_, ?_, ?_, ?_, ?_⟩
  · refine h.be.trans ⟨hg.os, hg.tape, hg.output, hg.size, fun k hk hB => hbf k (Nat.lt_of_lt_of_le hk h.be.size) fun e => ?_⟩
    rcases (ids_lt h (b := k) (by rw [hid]; exact List.mem_append_right _ (List.mem_filterMap.2 ⟨o, by simp, e⟩))).2 with h1 | h1
    · omega
    · exact hB h1
  · intro k hk
    refine (h.bl k hk).of_eq (hbf _ (heap_lt (h.bl k hk).1) fun e => ?_)
    have h1 := (List.nodup_append.1 hnd).2.2
    exact h1 k.g (List.mem_map.2 ⟨k, hk, rfl⟩) k.g (List.mem_filterMap.2 ⟨o, by simp, e⟩) rfl
  · intro q hq
    have hq : q ∈ x ++ o' :: y := hq
    rcases List.mem_append.1 hq with hq | hq
    · refine (h.ow q (List.mem_append_left _ hq)).of_eq fun g hgb => hbf g (hlt (by rw [hid]; exact List.mem_append_right _ (List.mem_filterMap.2 ⟨q, List.mem_append_left _ hq, hgb⟩))) fun e => ?_
      have h1 := (List.nodup_append.1 hnd).2.1
      rw [List.filterMap_append] at h1
      exact (List.nodup_append.1 h1).2.2 g (List.mem_filterMap.2 ⟨q, hq, hgb⟩) g (List.mem_filterMap.2 ⟨o, by simp, e⟩) rfl
    · rcases List.mem_cons.1 hq with rfl | hq
      · exact ho'
      · refine (h.ow q (List.mem_append_right _ (.tail _ hq))).of_eq fun g hgb => hbf g (hlt (by rw [hid]; exact List.mem_append_right _ (List.mem_filterMap.2 ⟨q, List.mem_append_right _ (.tail _ hq), hgb⟩))) fun e => ?_
        have h1 := (List.nodup_append.1 hnd).2.1
        rw [List.filterMap_append, List.filterMap_cons, e] at h1
        have h2 := (List.nodup_append.1 h1).2.1
        simp only at h2
        exact (List.nodup_cons.1 h2).1 (List.mem_filterMap.2 ⟨q, hq, hgb⟩)
  · rw [hid']
    rw [hid] at hnd
    rw [List.filterMap_append, List.filterMap_cons] at hnd ⊢
    have hfresh : w.heap.size ∉ BL.map (·.g) ++ (x.filterMap (·.b) ++ y.filterMap (·.b)) := by
      intro hm
      have : w.heap.size ∈ ids ⟨N, SL, BL, x ++ o :: y, FA⟩ := by
        rw [hid, List.filterMap_append, List.filterMap_cons]
        rcases List.mem_append.1 hm with hm | hm
        · exact List.mem_append_left _ hm
        · refine List.mem_append_right _ ?_
          rcases List.mem_append.1 hm with hm | hm
          · exact List.mem_append_left _ hm
          · refine List.mem_append_right _ ?_
            cases o.b with
            | none => exact hm
            | some g => exact .tail _ hm
      exact Nat.lt_irrefl _ (hlt this)
    have hbase : (BL.map (·.g) ++ (x.filterMap (·.b) ++ y.filterMap (·.b))).Nodup := by
      refine List.Nodup.sublist ?_ hnd
      refine List.Sublist.append (List.Sublist.refl _) (List.Sublist.append (List.Sublist.refl _) ?_)
      cases o.b with
      | none => exact List.Sublist.refl _
      | some g => exact List.sublist_cons_self _ _
    rcases hb with e | e | e
    · rw [e]; exact hnd
    · rw [e]; exact hbase
    · rw [e]
      simp only
      have hp : (BL.map (·.g) ++ (x.filterMap (·.b) ++ w.heap.size :: y.filterMap (·.b))).Perm (w.heap.size :: (BL.map (·.g) ++ (x.filterMap (·.b) ++ y.filterMap (·.b)))) := by
        rw [← List.append_assoc, ← List.append_assoc]
        exact List.perm_middle
      exact hp.nodup_iff.2 (List.nodup_cons.2 ⟨hfresh, hbase⟩)
  · intro F hF
    refine ⟨(h.fa F hF).1, (h.fa F hF).1.st _ _ w w' (h.fa F hF).2 ⟨hg.size, fun k hk hm => hbf k hk fun e => hm (.inr ?_)⟩ fun k hk hm => ?_⟩
    · rw [hid]; exact List.mem_append_right _ (List.mem_filterMap.2 ⟨o, by simp, e⟩)
    · rcases hm with hm | hm
      · exact .inl hm
      · exact .inr (hsub k hk hm)

/-- What a slice value reads as, here. -/
def Reads (s : St) (C : Cx) (esz : Nat) (v : Value) (m : Nat) (news : List Value) : Prop := ∀ w, WOk C s w →
  ∃ A c, v = .slice A m c ∧ news.length = m * esz ∧ (∀ u ∈ news, u.oneCell' = true) ∧ (0 < m → ∃ ad, A = some ad ∧ ∀ j u, news[j]? = some u → w.cell? (ad.add j) = some u)

theorem flatMap_get {α : Type} {enc : α → List Value} {esz : Nat} : ∀ (l : List α), (∀ e ∈ l, (enc e).length = esz) → ∀ (j : Nat) (u : Value), (l.flatMap enc)[j]? = some u →
    ∃ (i k : Nat) (h : i < l.length), j = i * esz + k ∧ (enc l[i])[k]? = some u
  | [], _, j, u, h => by simp at h
  | a :: l, hl, j, u, h => by
    have ha := hl a (.head _)
    rw [List.flatMap_cons] at h
    by_cases hj : j < esz
    · rw [List.getElem?_append_left (by omega)] at h
      exact ⟨0, j, by simp, by omega, h⟩
    · rw [List.getElem?_append_right (by omega), ha] at h
      obtain ⟨i, k, hi, h1, h2⟩ := flatMap_get l (fun e he => hl e (.tail _ he)) (j - esz) u h
      exact ⟨i + 1, k, by simp; omega, by rw [Nat.add_mul]; omega, by simpa using h2⟩

theorem flatMap_len {α : Type} {enc : α → List Value} {esz : Nat} : ∀ (l : List α), (∀ e ∈ l, (enc e).length = esz) → (l.flatMap enc).length = l.length * esz
  | [], _ => by simp
  | a :: l, hl => by
    rw [List.flatMap_cons, List.length_append, hl a (.head _), flatMap_len l (fun e he => hl e (.tail _ he)), List.length_cons, Nat.add_mul]
    omega

theorem flatMap_at {α : Type} {enc : α → List Value} {esz : Nat} : ∀ (l : List α), (∀ e ∈ l, (enc e).length = esz) → ∀ (i : Nat) (h : i < l.length) (k : Nat) (u : Value), (enc l[i])[k]? = some u → (l.flatMap enc)[i * esz + k]? = some u
  | [], _, i, h, _, _, _ => absurd h (by simp)
  | a :: l, hl, i, h, k, u, hu => by
    have ha := hl a (.head _)
    rw [List.flatMap_cons]
    cases i with
    | zero =>
      have : k < esz := by
        obtain ⟨hlt, _⟩ := List.getElem?_eq_some_iff.1 hu
        simp at hlt
        omega
      rw [List.getElem?_append_left (by omega)]
      simpa using hu
    | succ i =>
      have ih := flatMap_at l (fun e he => hl e (.tail _ he)) i (by simpa using h) k u (by simpa using hu)
      rw [List.getElem?_append_right (by rw [ha, Nat.add_mul]; omega), ha]
      rw [← ih]
      congr 1
      rw [Nat.add_mul]
      omega

theorem reads_rd {α : Type} {E : El α} {esz m c : Nat} {A : Option Addr} {l : List α} (hm : RdL E ⟨A, c⟩ l ∈ FA) (hes : E.esz = esz) (hn : m = l.length) : Reads ⟨N, SL, BL, OW, FA⟩ C esz (.slice A m c) m (l.flatMap E.enc) := by
  intro w hw
  subst hn
  subst hes
  have h1 := E.one
  have h3 : ∀ e ∈ l, (E.enc e).length = E.esz := fun e _ => E.len e
  obtain ⟨_, _, _, h4⟩ := (hw.fa _ hm).2
  refine ⟨A, c, rfl, flatMap_len l h3, fun u hu => ?_, fun hl => ?_⟩
  · obtain ⟨e, he, hu⟩ := List.mem_flatMap.1 hu
    exact h1 e u hu
  · obtain ⟨ad, ha, _, _, hc⟩ := h4 hl
    refine ⟨ad, ha, fun j u hj => ?_⟩
    obtain ⟨i, k, hi, rfl, h2⟩ := flatMap_get l h3 j u hj
    exact hc i hi k u h2

theorem reads_own {q : Own} (hm : q ∈ OW) (h1 : ∀ u ∈ q.xs, u.oneCell' = true) : Reads ⟨N, SL, BL, OW, FA⟩ C q.esz q.v q.n q.xs := by
  intro w hw
  have h := hw.ow q hm
  obtain ⟨hl, hn, hb⟩ := h
  cases hbb : q.b with
  | none =>
    rw [hbb] at hb
    obtain ⟨h0, A, hA⟩ := hb
    exact ⟨A, 0, by rw [hA, h0], hl, h1, fun h => by omega⟩
  | some g =>
    rw [hbb] at hb
    obtain ⟨_, cap, cur, hv, hh, hnc, hcap, hcs, htake⟩ := hb
    refine ⟨_, cap, hv, hl, h1, fun _ => ⟨_, rfl, fun j u hj => ?_⟩⟩
    rw [add_none]
    simp only [World.cell?, hh]
    rw [← htake, List.getElem?_take] at hj
    split at hj
    · simpa using hj
    · cases hj

theorem own_row {w : World} {q : Own} (h : OwnOk C w q) (hv : q.b = none → q.v = .slice none 0 0) : w.ownsRow 0 q.e q.esz q.v q.n q.xs := by
  obtain ⟨hl, hn, hb⟩ := h
  refine ⟨hl, ?_⟩
  cases hbb : q.b with
  | none => rw [hbb] at hb; exact .inl ⟨hv hbb, hb.1⟩
  | some g =>
    rw [hbb] at hb
    obtain ⟨hg, cap, cur, hv, hh, hnc, hcap, hcs, htake⟩ := hb
    exact .inr ⟨g, cap, cur, hv, Nat.zero_le _, hh, hnc, hcap, hcs, htake⟩

theorem row_own {w : World} {e esz by_ n : Nat} {v : Value} {xs : List Value} (h : w.ownsRow 0 e esz v n xs) (hn : n ≤ 9223372036854775807) (hnb : n * by_ ≤ 140737488355328) (hmine : ∀ g, v.ownBlock = some g → C.mine g) : OwnOk C w ⟨v, v.ownBlock, e, esz, by_, n, xs⟩ := by
  refine ⟨h.1, ⟨hn, hnb⟩, ?_⟩
  rcases h.2 with ⟨rfl, h0⟩ | ⟨g, cap, cur, rfl, hg, hh, h1, h2, h3, h4⟩
  · exact ⟨h0, none, rfl⟩
  · exact ⟨hmine g rfl, cap, cur, rfl, hh, h1, h2, h3, h4⟩

theorem run_append_m0 {t ty e : Nat} {i : TypeInfo} (ht : P.underlying t = some (.slice e)) (hi : P.info? e = some i) (w : World) {B A : Option Addr} {n cap c : Nat} (hn : n ≤ cap) :
    (Builtin.append_ #[t, t] ty #[.slice B n cap, .slice A 0 c]).run P w = .ok (.slice B n cap) w := by
  cases A <;> cases B <;> simp [Builtin.append_, run_underlying ht, sizeOf, typeInfo, hi, Builtin.lenOf, Builtin.firstCells, loadCells, loadCellsFrom, hn, storeCells]

theorem run_app {t ty : Nat} {q : Own} {z : List Value} (hT : TabOk T P) (ht : T.slc t = some q.e) {agg : Bool} (hz : T.siz q.e = some (q.esz, agg)) (hzz : T.zer q.e = some z) (hzl : z.length = q.esz) (hby : T.byt q.e = some q.by_) (hpos : 0 < q.esz)
    {w : World} (hw : WOk C ⟨N, SL, BL, OW, FA⟩ w) (hq : OwnOk C w q) {x : Value} {m : Nat} {news : List Value} (hx : Reads ⟨N, SL, BL, OW, FA⟩ C q.esz x m news)
    (hb : (q.n + m) * q.by_ ≤ 140737488355328) (h63 : q.n + m ≤ 9223372036854775807) :
    ∃ A' c' b' w', (Builtin.append_ #[t, t] ty #[q.v, x]).run P w = .ok (.slice A' (q.n + m) c') w' ∧ OwnOk C w' ⟨.slice A' (q.n + m) c', b', q.e, q.esz, q.by_, q.n + m, q.xs ++ news⟩ ∧ w.grownBy w' q.b ∧ (b' = q.b ∨ b' = none ∨ b' = some w.heap.size) := by
  obtain ⟨A, c, rfl, hl, h1, hrd⟩ := hx w hw
  have hu := hT.slc _ _ ht
  obtain ⟨ti, d, q1, q2, q3, q4⟩ := hT.siz _ _ _ hz
  obtain ⟨ti', hi', hby'⟩ := hT.byt _ _ hby
  obtain ⟨ti'', zv, hi'', hz'', hzc⟩ := hT.zer _ _ hzz
  rw [q1] at hi' hi''
  cases hi'; cases hi''
  have hzs : zv.cells.size = q.esz := by rw [← hzl, ← hzc]; simp
  by_cases hm : m = 0
  · subst hm
    have hnews : news = [] := List.eq_nil_of_length_eq_zero (by simpa using hl)
    subst hnews
    simp only [List.append_nil]
    obtain ⟨hl', hn', hbb⟩ := hq
    cases hqb : q.b with
    | none =>
      rw [hqb] at hbb
      obtain ⟨h0, A', hv⟩ := hbb
      refine ⟨A', 0, none, w, ?_, ⟨hl', hn', h0, A', by simp [h0]⟩, ⟨rfl, rfl, rfl, Nat.le_refl _, fun _ _ _ => rfl⟩, .inl rfl⟩
      rw [hv, h0]
      exact run_append_m0 hu q1 w (Nat.le_refl _)
    | some g =>
      rw [hqb] at hbb
      obtain ⟨hg, cap, cur, hv, hh, hnc, hcap, hcs, htake⟩ := hbb
      refine ⟨some ⟨g, 0, none⟩, cap, some g, w, ?_, ⟨hl', hn', hg, cap, cur, rfl, hh, hnc, hcap, hcs, htake⟩, ⟨rfl, rfl, rfl, Nat.le_refl _, fun _ _ _ => rfl⟩, .inl rfl⟩
      rw [hv]
      exact run_append_m0 hu q1 w hnc
  · obtain ⟨ad, rfl, hcell⟩ := hrd (by omega)
    by_cases hfor : q.b = none ∧ q.v ≠ .slice none 0 0
    · obtain ⟨hqb, hne⟩ := hfor
      obtain ⟨hl', hn', hbb⟩ := hq
      rw [hqb] at hbb
      obtain ⟨h0, A', hv⟩ := hbb
      have hxs : q.xs = [] := List.eq_nil_of_length_eq_zero (by rw [hl', h0]; simp)
      cases A' with
      | none => exact absurd hv hne
      | some a' =>
        rw [h0] at hb h63
        have hr := run_append_grow (P := P) w t ty q.e ti zv hu q1 hz'' a' 0 0 [] (by simp) (by simp) ad m c news (by rw [q2]; exact hl) hcell (by omega) (by omega)
          (growslice_fits (by omega) (by rw [hby']; exact hb))
        have hge := grownCap_ge w (0 + m) 0 q.e
        have hcm : grownCap w (0 + m) 0 q.e ≤ maxLen := grownCap_le_maxLen w (0 + m) 0 q.e (by simp only [maxLen]; omega)
        rw [hv, hxs, h0, hqb]
        refine ⟨_, _, some w.heap.size, _, hr, ⟨by simpa using hl, ⟨h63, by simpa using hb⟩, .inl hw.be.size, _, _, rfl, heap_alloc_new w.drew _, hge, by simpa [maxLen] using hcm, ?_, ?_⟩, ⟨rfl, rfl, rfl, by simp, fun k hk _ => heap_alloc_old w.drew _ k hk⟩, .inr (.inr rfl)⟩
        · simp only [Array.size_append, List.size_toArray, List.length_nil, size_zeroCells, hzs, hl, Nat.zero_add, ← Nat.add_mul]
          congr 1
          simp only [Nat.zero_add] at hge
          omega
        · simp only [Array.toList_append, List.nil_append, Nat.zero_add]
          rw [← hl]
          simp
    · have hrow := own_row hq (fun hqb => Classical.byContradiction fun hne => hfor ⟨hqb, hne⟩)
      obtain ⟨v', w', hr, h2, h3, h4, h5⟩ := run_append_own_at (P := P) w 0 t ty q.e ti zv q.esz q.by_ hu q1 hz'' q2 hby' hzs hpos q.v q.n q.xs hrow ad m c news hl hcell h1 (by simp only [maxLen]; omega) hb (Nat.zero_le _)
      have hvb : q.v.ownBlock = q.b := by
        obtain ⟨hl', hn', hbb⟩ := hq
        cases hqb : q.b with
        | none =>
          have : q.v = .slice none 0 0 := Classical.byContradiction fun hne => hfor ⟨hqb, hne⟩
          rw [this]; rfl
        | some g => rw [hqb] at hbb; obtain ⟨_, cap, cur, hv, _⟩ := hbb; rw [hv]; rfl
      rw [hvb] at h3 h5
      have ho := row_own (C := C) (by_ := q.by_) h2 h63 hb (fun g hgb => by
        rcases h5 with e | e
        · rw [e] at hgb
          have h9 := hq.2.2
          rw [hgb] at h9
          exact h9.1
        · rw [e] at hgb
          cases hgb
          exact .inl hw.be.size)
      have hform : ∃ A' c', v' = .slice A' (q.n + m) c' := by
        rcases h2.2 with ⟨_, h0⟩ | ⟨g, cap, cur, hv, _⟩
        · omega
        · exact ⟨_, _, hv⟩
      obtain ⟨A', c', rfl⟩ := hform
      exact ⟨A', c', _, w', hr, ho, h3, by rcases h5 with e | e <;> simp [e]⟩

theorem rw_append {d t m : Nat} {x y : Operand} {g0 g1 : Bool} {q : Own} {v : Value} {z : List Value} {agg : Bool} {news : List Value} {ow' : SlV → Option Nat → List Own} {D : List Nat} (hf : Front ops r o D r') (hbD : ∀ g, q.b = some g → (∃ l, r = .sq l) ∨ g ∈ D) (hg : Guard ops SL o true) (hd : o.dst = some d) (hn : Nat.blt d N = true)
    (ho : o.op = .call ⟨.builtin .append, ⟨[x, y]⟩, ⟨[t, t]⟩⟩) (hx : ev SL x = some (g0, q.v)) (hg0 : g0 = true) (hy : ev SL y = some (g1, v)) (hg1 : g1 = true)
    (hu : ∀ (X : SlV) b', UpdO OW q [⟨X.val (q.n + m), b', q.e, q.esz, q.by_, q.n + m, q.xs ++ news⟩] (ow' X b'))
    (ht : T.slc t = some q.e) (hz : T.siz q.e = some (q.esz, agg)) (hzz : T.zer q.e = some z) (hzl : z.length = q.esz) (hby : T.byt q.e = some q.by_) (hpos : Nat.blt 0 q.esz = true)
    (hr : Reads ⟨N, SL, BL, OW, FA⟩ C q.esz v m news) (hb : (q.n + m) * q.by_ ≤ 140737488355328) (h63 : q.n + m ≤ 9223372036854775807)
    (h : ∀ (X : SlV) (b' : Option Nat), RW P T C ops r' ⟨N, (d, .v (X.val (q.n + m))) :: SL, BL, ow' X b', FA⟩ Q) : RW P T C ops r ⟨N, SL, BL, OW, FA⟩ Q := by
  have key : Loud P T C ⟨N, SL, BL, OW, FA⟩ o q.b.toList (fun s' => ∃ (X : SlV) (b' : Option Nat), s' = ⟨N, (d, .v (X.val (q.n + m))) :: SL, BL, ow' X b', FA⟩) := by
    intro hT a w hrep
    refine Oper.wp_mono ?_ (loud_val (D := q.b.toList) hd hn (K := fun u bl ow fa => ∃ (X : SlV) (b' : Option Nat), u = X.val (q.n + m) ∧ bl = BL ∧ ow = ow' X b' ∧ fa = FA) ?_ hT a w hrep)
    · rintro a' w' ⟨s', ⟨u, bl, ow, fa, ⟨X, b', e1, e2, e3, e4⟩, e5⟩, h2, h3⟩
      subst e1; subst e2; subst e3; subst e4
      exact ⟨s', ⟨X, b', e5⟩, h2, h3⟩
    · intro hT a w hrep
      have hm : q ∈ OW := by obtain ⟨l, r, e, _⟩ := (hu ⟨none, 0⟩ none).spec; rw [e]; simp
      have hq := hrep.wo.ow q hm
      obtain ⟨A', c', b', w', hrun, ho', hgr, hbb⟩ := run_app (ty := o.type) hT ht hz hzz hzl hby (Nat.le_of_ble_eq_true hpos) hrep.wo hq hr hb h63
      refine ⟨.slice A' (q.n + m) c', w', BL, ow' ⟨A', c'⟩ b', FA, ?_, hrep.wo.swapO (hu ⟨A', c'⟩ _) ho' hgr hbb, ⟨hgr.size, fun k hk hn => hgr.block k hk fun e => hn (by rw [← e]; simp)⟩, ⟨A', c'⟩, b', rfl, rfl, rfl, rfl⟩
      simp only [execOp, ho, resolve, invoke, builtin, Sem.run_bind, Sem.run_pure, Result.andThen_ok, List.map_toArray, List.map_cons, List.map_nil, ev_ok hrep.sl hx hg0, ev_ok hrep.sl hy hg1, hrun]
  cases hf with
  | sq => exact rw_lsq hg key (fun s' ⟨X, b', e⟩ => by subst e; exact h X b')
  | lo _ hi hDD => exact rw_l (.lo q.b.toList hi hDD) hg key (fun s' ⟨X, b', e⟩ => by subst e; exact h X b')
  | an hi hDD =>
    refine rw_l (.an hi hDD) hg (fun hT a w hrep => Oper.wp_mono (fun a' w' ⟨s', h1, h2, h3⟩ => ⟨s', h1, h2, h3.mono fun k hk => ?_⟩) (key hT a w hrep)) (fun s' ⟨X, b', e⟩ => by subst e; exact h X b')
    rcases hbD k (by simpa using hk) with ⟨_, e⟩ | e
    · cases e
    · exact e

/-- An empty slice is owned by whoever holds it. -/
theorem le_nil {A : Option Addr} (e esz by_ : Nat) : Le C ⟨N, SL, BL, OW, FA⟩ ⟨N, SL, BL, ⟨.slice A 0 0, none, e, esz, by_, 0, []⟩ :: OW, FA⟩ := fun a w hr =>
  ⟨hr.sz, hr.df, hr.sl, hr.wo.be, hr.wo.bl, fun q hq => (by
    cases hq with
    | head => exact ⟨by simp, by simp, rfl, A, rfl⟩
    | tail _ hq => exact hr.wo.ow q hq), hr.wo.nd, hr.wo.fa⟩

/-- What is owned is held fast: from now on it is only read. -/
theorem le_freeze {α : Type} (E : El α) (l : List α) {X : SlV} {n : Nat} {b : Option Nat} {e esz by_ : Nat} {xs : List Value} {ow' : List Own} (hu : UpdO OW ⟨X.val n, b, e, esz, by_, n, xs⟩ [] ow')
    (hn : n = l.length) (hx : xs = l.flatMap E.enc) (hes : esz = E.esz) (hby : by_ = E.by_) : Le C ⟨N, SL, BL, OW, FA⟩ ⟨N, SL, BL, ow', RdL E X l :: FA⟩ := by
  intro a w hr
  subst hn; subst hx; subst hes; subst hby
  have hl : ∀ e ∈ l, (E.enc e).length = E.esz := fun e _ => E.len e
  obtain ⟨p, r, rfl, rfl⟩ := hu.spec
  have hsub : (p ++ ([] ++ r)).Sublist (p ++ (⟨X.val l.length, b, e, E.esz, E.by_, l.length, l.flatMap E.enc⟩ : Own) :: r) := List.Sublist.append (List.Sublist.refl _) (List.sublist_cons_self _ _)
  have hi : (ids ⟨N, SL, BL, p ++ ([] ++ r), FA⟩).Sublist (ids ⟨N, SL, BL, p ++ (⟨X.val l.length, b, e, E.esz, E.by_, l.length, l.flatMap E.enc⟩ : Own) :: r, FA⟩) :=
    List.Sublist.append (List.Sublist.refl _) (hsub.filterMap _)
  refine ⟨hr.sz, hr.df, hr.sl, hr.wo.be, hr.wo.bl, fun q hq => hr.wo.ow q (hsub.subset hq), hi.nodup hr.wo.nd, fun F hF => ?_⟩
  have hM : ∀ k, Mset C ⟨N, SL, BL, p ++ ([] ++ r), RdL E X l :: FA⟩ k → Mset C ⟨N, SL, BL, p ++ (⟨X.val l.length, b, e, E.esz, E.by_, l.length, l.flatMap E.enc⟩ : Own) :: r, FA⟩ k := fun k hm => by
    rcases hm with hm | hm
    · exact .inl hm
    · exact .inr (hi.subset hm)
  cases hF with
  | tail _ hF =>
    have h1 := hr.wo.fa F hF
    exact ⟨h1.1, h1.1.st _ _ w w h1.2 ⟨Nat.le_refl _, fun _ _ _ => rfl⟩ fun k _ hm => hM k hm⟩
  | head =>
    refine ⟨inferInstance, ?_⟩
    have ho := hr.wo.ow ⟨X.val l.length, b, e, E.esz, E.by_, l.length, l.flatMap E.enc⟩ (by simp)
    obtain ⟨h1, h2, h3⟩ := ho
    simp only at h1 h2 h3
    cases b with
    | none =>
      obtain ⟨h0, A, hA⟩ := h3
      have hA : X.val l.length = .slice A 0 0 := hA
      simp only [SlV.val, Value.slice.injEq] at hA
      exact ⟨by omega, by omega, h2.2, fun hp => by omega⟩
    | some g =>
      obtain ⟨hg, cap, cur, hv, hh, hnc, hcap, hcs, htake⟩ := h3
      simp only [SlV.val, Value.slice.injEq, true_and] at hv
      obtain ⟨hva, hvc⟩ := hv
      refine ⟨by rw [hvc]; exact hnc, by rw [hvc]; exact hcap, h2.2, fun hp => ⟨⟨g, 0, none⟩, hva, heap_lt hh, fun hm => ?_, fun i hi' j v hv => ?_⟩⟩
      · rcases hm with hm | hm
        · rcases hg with hg | hg
          · have := C.hM g hm
            omega
          · exact (C.hB g hg).2 hm
        · have hnd := hr.wo.nd
          unfold ids at hnd hm
          simp only [List.nil_append] at hm
          rw [List.filterMap_append, List.filterMap_cons] at hnd
          simp only at hnd
          have hp2 : (BL.map (·.g) ++ (p.filterMap (·.b) ++ g :: r.filterMap (·.b))).Perm (g :: (BL.map (·.g) ++ (p.filterMap (·.b) ++ r.filterMap (·.b)))) := by
            rw [← List.append_assoc, ← List.append_assoc]
            exact List.perm_middle
          have := (List.nodup_cons.1 (hp2.nodup_iff.1 hnd)).1
          rw [List.filterMap_append] at hm
          exact this hm
      · rw [add_none]
        simp only [World.cell?, hh]
        have hfm := flatMap_len l hl
        obtain ⟨hjlt, _⟩ := List.getElem?_eq_some_iff.1 hv
        have hel := hl _ (List.getElem_mem hi')
        have hij : i * E.esz + j < l.length * E.esz := by
          have : (i + 1) * E.esz ≤ l.length * E.esz := Nat.mul_le_mul_right _ hi'
          rw [Nat.add_mul] at this
          omega
        have hflat : (l.flatMap E.enc)[i * E.esz + j]? = some v := flatMap_at l hl i hi' j v hv
        rw [← htake, List.getElem?_take, if_pos hij] at hflat
        simpa using hflat
end
end Go.Proofs.YtccmadehnoihnaaGreatDoor.Fw

namespace Go.Proofs.YtccmadehnoihnaaGreatDoor.Fw
open Go Go.RowKit

section
variable {P : Program} {T : Tab} {C : Cx} {ops : Array Oper} {o : Oper} {r r' : RS} {s : St} {Q : Post} {N : Nat} {SL : Slots} {BL : List Blk} {OW : List Own} {FA : List Pred} {c : Code}

/-! ### Plain consequences of facts -/
theorem cw_pure {φ : Prop} (pre : List Pred) (hpre : SubM FA pre) (hd : ∀ M w, AllF pre M w → φ) (h : φ → CW P T C c ⟨N, SL, BL, OW, FA⟩ Q) : CW P T C c ⟨N, SL, BL, OW, FA⟩ Q := fun hT a w hr =>
  h (hd (Mset C ⟨N, SL, BL, OW, FA⟩) w fun F hF => (hr.wo.fa F (hpre.mem F hF)).2) hT a w hr

theorem rw_pure {φ : Prop} (pre : List Pred) (hpre : SubM FA pre) (hd : ∀ M w, AllF pre M w → φ) (h : φ → RW P T C ops r ⟨N, SL, BL, OW, FA⟩ Q) : RW P T C ops r ⟨N, SL, BL, OW, FA⟩ Q := fun hT a w hr =>
  h (hd (Mset C ⟨N, SL, BL, OW, FA⟩) w fun F hF => (hr.wo.fa F (hpre.mem F hF)).2) hT a w hr

theorem allF1 {F : Pred} {M : Nat → Prop} {w : World} (h : AllF [F] M w) : F M w := h F (.head _)
theorem RdL.nil_of {α : Type} {E : El α} {x : SlV} {l : List α} {M : Nat → Prop} {w : World} (h : RdL E x l M w) (hx : x.a.isNone = true) : l = [] := by
  obtain ⟨_, _, _, h4⟩ := h
  cases l with
  | nil => rfl
  | cons a l =>
    obtain ⟨ad, ha, _⟩ := h4 (by simp)
    rw [ha] at hx
    cases hx

theorem RdL.take {α : Type} {E : El α} {x : SlV} {l : List α} {M : Nat → Prop} {w : World} (h : RdL E x l M w) (k : Nat) : RdL E x (l.take k) M w := by
  obtain ⟨h1, h2, h3, h4⟩ := h
  refine ⟨by simp; omega, h2, Nat.le_trans (Nat.mul_le_mul_right _ (by simp; omega)) h3, fun hp => ?_⟩
  obtain ⟨ad, ha, hb, hm, hc⟩ := h4 (by simp at hp; omega)
  refine ⟨ad, ha, hb, hm, fun i hi j v hv => hc i (by simp at hi; omega) j v ?_⟩
  simpa using hv

/-- The address of a slice cut from the left. -/
def slA (A : Option Addr) (c k esz : Nat) : Option Addr := if c = k then A else A.map (·.add (k * esz))

theorem RdL.drop {α : Type} {E : El α} {x : SlV} {l : List α} {M : Nat → Prop} {w : World} (h : RdL E x l M w) (k : Nat) (hk : k ≤ l.length) : RdL E ⟨slA x.a x.c k E.esz, x.c - k⟩ (l.drop k) M w := by
  obtain ⟨h1, h2, h3, h4⟩ := h
  refine ⟨by simp; omega, by simp only []; omega, Nat.le_trans (Nat.mul_le_mul_right _ (by simp)) h3, fun hp => ?_⟩
  simp at hp
  obtain ⟨ad, ha, hb, hm, hc⟩ := h4 (by omega)
  refine ⟨ad.add (k * E.esz), by simp only [slA]; rw [if_neg (by omega), ha]; rfl, by rw [addr_block]; exact hb, by rw [addr_block]; exact hm, fun i hi j v hv => ?_⟩
  rw [addr_add_add, ← Nat.add_assoc, ← Nat.add_mul]
  simp at hi
  exact hc (k + i) (by omega) j v (by simpa using hv)

theorem RdL.nil {α : Type} (E : El α) (A : Option Addr) (c : Nat) (hc : c ≤ 9223372036854775807) (M : Nat → Prop) (w : World) : RdL E ⟨A, c⟩ [] M w := ⟨by simp, hc, by simp, by simp⟩

/-! ### A slice held against nil -/
theorem run_eqnil {t e : Nat} (hu : P.underlying t = some (.slice e)) (d : Nat) (A : Option Addr) (n c : Nat) (w : World) : (Op.equalIn (d + 1) t (.slice A n c) (.slice none 0 0)).run P w = .ok A.isNone w := by
  cases A <;> simp [Op.equalIn, run_underlying hu]

theorem q_eqnil {t t' e n c : Nat} {x : Operand} {g0 G : Bool} {A : Option Addr} (ho : o.op = .binOp .eql t x (.const (.slice none 0 0)) t') (he : ev SL x = some (g0, .slice A n c)) (hg0 : G = true → g0 = true) (ht : T.slc t = some e) : Quiet P T SL BL FA o G (.bool A.isNone) :=
  fun hT hG a w hsl _ => by
    have hx := ev_ok hsl he (hg0 hG)
    have hu := hT.slc _ _ ht
    have h1 : (Op.equal t (.slice A n c) (.slice none 0 0)).run P w = .ok A.isNone w := run_eqnil hu 9999 A n c w
    simp [execOp, ho, hx, eval_const, eqGuard, binOp, h1]

/-! ### Cuts -/
theorem addr_add0 (a : Addr) : a.add 0 = a := by simp [Addr.add]

theorem q_slhi {t e n c h esz : Nat} {x y : Operand} {g0 g1 G b : Bool} {A : Option Addr} {k : IntKind} {iv : Int} (ho : o.op = .slice t x none (some y) none) (he : ev SL x = some (g0, .slice A n c)) (hg0 : G = true → g0 = true)
    (hy : ev SL y = some (g1, .int k iv)) (hg1 : G = true → g1 = true) (ht : T.slc t = some e) (hz : T.siz e = some (esz, b)) (hi : G = true → iv = (h : Int)) (hle : G = true → h ≤ c) : Quiet P T SL BL FA o G (.slice A h c) :=
  fun hT hG a w hsl _ => by
    have hx := ev_ok hsl he (hg0 hG)
    have hy := ev_ok hsl hy (hg1 hG)
    have hu := hT.slc _ _ ht
    obtain ⟨ti, d, q1, q2, q3, q4⟩ := hT.siz _ _ _ hz
    have hi := hi hG
    have hle := hle hG
    subst hi
    simp only [execOp, ho, hx, Option.map_none, Option.map_some, hy, Instr.sliceAt, Sem.run_bind, run_underlying hu, Result.andThen_ok, Instr.slice, Instr.sliceBounds, Instr.sliceBound, asIntOf, Sem.run_pure]
    rw [if_pos (by omega)]
    simp only [Sem.run_pure, Result.andThen_ok, run_sizeOf' q1, Int.toNat_natCast, Nat.sub_zero, Nat.zero_mul]
    split
    · rfl
    · cases A <;> simp [addr_add0]

theorem q_sllo {t e n c k0 esz : Nat} {x y : Operand} {g0 g1 G b : Bool} {A : Option Addr} {k : IntKind} {iv : Int} (ho : o.op = .slice t x (some y) none none) (he : ev SL x = some (g0, .slice A n c)) (hg0 : G = true → g0 = true)
    (hy : ev SL y = some (g1, .int k iv)) (hg1 : G = true → g1 = true) (ht : T.slc t = some e) (hz : T.siz e = some (esz, b)) (hi : G = true → iv = (k0 : Int)) (hle : G = true → k0 ≤ n) : Quiet P T SL BL FA o G (.slice (slA A c k0 esz) (n - k0) (c - k0)) :=
  fun hT hG a w hsl _ => by
    have hx := ev_ok hsl he (hg0 hG)
    have hy := ev_ok hsl hy (hg1 hG)
    have hu := hT.slc _ _ ht
    obtain ⟨ti, d, q1, q2, q3, q4⟩ := hT.siz _ _ _ hz
    have hi := hi hG
    have hle := hle hG
    subst hi
    simp only [execOp, ho, hx, Option.map_none, Option.map_some, hy, Instr.sliceAt, Sem.run_bind, run_underlying hu, Result.andThen_ok, Instr.slice, Instr.sliceBounds, Instr.sliceBound, asIntOf, Sem.run_pure]
    rw [if_pos (by omega)]
    simp only [Sem.run_pure, Result.andThen_ok, run_sizeOf' q1, q2, Int.toNat_natCast, slA]

/-! ### Structs held against each other -/
def flatEq : List Value → List Value → Bool
  | .int _ a :: l, .int _ b :: r => (a == b) && flatEq l r
  | .bool a :: l, .bool b :: r => (a == b) && flatEq l r
  | _, _ => true

/-- Each cell an int64 (true) or a bool (false). -/
def kindsOk : List Bool → List Value → Bool
  | [], [] => true
  | true :: ks, .int .i64 _ :: l => kindsOk ks l
  | false :: ks, .bool _ :: l => kindsOk ks l
  | _, _ => false

def eqKs (P : Program) (f : TypeId → Option (List Bool)) : List Field → Nat → Option (List Bool)
  | [], _ => some []
  | fd :: fs, off => match fd.name == "_", Nat.beq fd.offset off, f fd.type, P.info? fd.type with
    | false, true, some ks, some ti => match Nat.beq ks.length ti.size, eqKs P f fs (off + ks.length) with
      | true, some r => some (ks ++ r)
      | _, _ => none
    | _, _, _, _ => none

/-- The cells' kinds of a type of ints and bools. -/
def eqK (P : Program) : Nat → TypeId → Option (List Bool)
  | 0, _ => none
  | d + 1, t => match P.underlying t with
    | some (.int .i64) => some [true]
    | some .bool => some [false]
    | some (.struct fs) => match P.stoodInHeld t, P.eqGuardType P.depth t with
      | false, false => eqKs P (eqK P d) fs.toList 0
      | _, _ => none
    | _ => none

theorem kindsOk_length : ∀ {ks : List Bool} {l : List Value}, kindsOk ks l = true → l.length = ks.length
  | [], [], _ => rfl
  | true :: ks, .int .i64 n :: l, h => by simp only [kindsOk] at h; simp [kindsOk_length h]
  | false :: ks, .bool n :: l, h => by simp only [kindsOk] at h; simp [kindsOk_length h]

theorem kindsOk_append : ∀ {ks ks' : List Bool} {l : List Value}, kindsOk (ks ++ ks') l = true → kindsOk ks (l.take ks.length) = true ∧ kindsOk ks' (l.drop ks.length) = true
  | [], _, l, h => by simpa [kindsOk] using h
  | true :: ks, ks', .int .i64 n :: l, h => by simp only [List.cons_append, kindsOk] at h; simpa [kindsOk] using kindsOk_append h
  | false :: ks, ks', .bool n :: l, h => by simp only [List.cons_append, kindsOk] at h; simpa [kindsOk] using kindsOk_append h

theorem flatEq_append : ∀ {ks : List Bool} {a b a' b' : List Value}, kindsOk ks a = true → kindsOk ks b = true → flatEq (a ++ a') (b ++ b') = (flatEq a b && flatEq a' b')
  | [], [], [], _, _, _, _ => by simp [flatEq]
  | true :: ks, .int .i64 n :: l, .int .i64 m :: r, _, _, h, h' => by
    simp only [kindsOk] at h h'
    simp [flatEq, flatEq_append h h', Bool.and_assoc]
  | false :: ks, .bool n :: l, .bool m :: r, _, _, h, h' => by
    simp only [kindsOk] at h h'
    simp [flatEq, flatEq_append h h', Bool.and_assoc]

theorem kinds_int : ∀ {x : Value}, kindsOk [true] [x] = true → ∃ n, x = .int .i64 n
  | .int .i64 n, _ => ⟨n, rfl⟩
theorem kinds_bool : ∀ {x : Value}, kindsOk [false] [x] = true → ∃ n, x = .bool n
  | .bool n, _ => ⟨n, rfl⟩

theorem run_part_one {t n : Nat} {d : TypeDesc} (hu : P.underlying t = some d) (hd : aggD d = false) {cs : Array Value} {off : Nat} {v : Value} (h : cs[off]? = some v) (w : World) : (part t cs off).run P w = .ok v w := by
  simp [part, Sem.run_bind, run_isAgg' hu, hd, h]

theorem eqK_ok (w : World) : ∀ (d : Nat) (t : TypeId) (ks : List Bool), eqK P d t = some ks → ∀ (k : Nat) (xs ys : List Value), kindsOk ks xs = true → kindsOk ks ys = true →
    (∀ fs, P.underlying t = some (.struct fs) → (Op.equalIn (k + d) t (.agg ⟨xs⟩) (.agg ⟨ys⟩)).run P w = .ok (flatEq xs ys) w) ∧
    ((∀ fs, P.underlying t ≠ some (.struct fs)) → ∃ dd x y, P.underlying t = some dd ∧ aggD dd = false ∧ xs = [x] ∧ ys = [y] ∧ (Op.equalIn (k + d) t x y).run P w = .ok (flatEq xs ys) w) := by
  intro d
  induction d with
  | zero => intro t ks h; simp [eqK] at h
  | succ d ih =>
    intro t ks h k xs ys hx hy
    simp only [eqK] at h
    cases hu : P.underlying t with
    | none => simp [hu] at h
    | some dd =>
      refine ⟨fun fs hfs => ?_, fun hns => ?_⟩
      · cases hfs
        simp only [hu] at h
        split at h
        · rename_i hs hg
          have hrun : (Op.equalIn (k + (d + 1)) t (.agg ⟨xs⟩) (.agg ⟨ys⟩)).run P w = (Op.eqFields (k + d) ⟨xs⟩ ⟨ys⟩ fs.toList).run P w := by
            have := run_equalIn_struct (P := P) w (k + d) t ⟨xs⟩ ⟨ys⟩ (by simp [Program.fieldsOf, hu]) hs
            simpa [Program.fieldsOf, hu, Nat.add_assoc] using this
          rw [hrun]
          -- the fields, one after the other
          have key : ∀ (fs : List Field) (off : Nat) (ks : List Bool), eqKs P (eqK P d) fs off = some ks → kindsOk ks (xs.drop off) = true → kindsOk ks (ys.drop off) = true →
              (Op.eqFields (k + d) ⟨xs⟩ ⟨ys⟩ fs).run P w = .ok (flatEq (xs.drop off) (ys.drop off)) w := by
            intro fs
            induction fs with
            | nil =>
              intro off ks h1 h2 h3
              simp only [eqKs, Option.some.injEq] at h1
              subst h1
              have e1 := List.eq_nil_of_length_eq_zero (kindsOk_length h2)
              have e2 := List.eq_nil_of_length_eq_zero (kindsOk_length h3)
              simp [Op.eqFields, e1, e2, flatEq]
            | cons f fs ihf =>
              intro off ks h1 h2 h3
              simp only [eqKs] at h1
              split at h1
              · rename_i ks1 ti hn ho hk hi
                split at h1
                · rename_i rks hl hr
                  simp only [Option.some.injEq] at h1
                  subst h1
                  have ho := Nat.eq_of_beq_eq_true ho
                  have hl := Nat.eq_of_beq_eq_true hl
                  obtain ⟨a1, a2⟩ := kindsOk_append h2
                  obtain ⟨b1, b2⟩ := kindsOk_append h3
                  rw [List.drop_drop] at a2 b2
                  have ih2 := ihf (off + ks1.length) rks hr a2 b2
                  have hname : f.name ≠ "_" := by simpa using hn
                  have hfl : flatEq (xs.drop off) (ys.drop off) = (flatEq ((xs.drop off).take ks1.length) ((ys.drop off).take ks1.length) && flatEq (xs.drop (off + ks1.length)) (ys.drop (off + ks1.length))) := by
                    have e1 := List.take_append_drop ks1.length (xs.drop off)
                    have e2 := List.take_append_drop ks1.length (ys.drop off)
                    rw [List.drop_drop] at e1 e2
                    rw [← flatEq_append a1 b1, e1, e2]
                  obtain ⟨c1, c2⟩ := ih f.type ks1 hk k _ _ a1 b1
                  have hpe : ∃ x y, (part f.type ⟨xs⟩ f.offset).run P w = .ok x w ∧ (part f.type ⟨ys⟩ f.offset).run P w = .ok y w ∧
                      (Op.equalIn (k + d) f.type x y).run P w = .ok (flatEq ((xs.drop off).take ks1.length) ((ys.drop off).take ks1.length)) w := by
                    by_cases hst : ∃ fs', P.underlying f.type = some (.struct fs')
                    · obtain ⟨fs', hfs'⟩ := hst
                      refine ⟨_, _, ?_, ?_, c1 fs' hfs'⟩
                      · simp only [part, Sem.run_bind, run_isAgg' hfs', Result.andThen_ok, aggD, if_true, run_sizeOf' hi, Sem.run_pure, ho, ← hl]
                        congr 2
                        apply Array.ext'
                        simp [List.extract]
                      · simp only [part, Sem.run_bind, run_isAgg' hfs', Result.andThen_ok, aggD, if_true, run_sizeOf' hi, Sem.run_pure, ho, ← hl]
                        congr 2
                        apply Array.ext'
                        simp [List.extract]
                    · obtain ⟨dd, x, y, q1, q2, q3, q4, q5⟩ := c2 fun fs' h => hst ⟨fs', h⟩
                      have hlen1 : ks1.length = 1 := by have := kindsOk_length a1; rw [q3] at this; simpa using this.symm
                      refine ⟨x, y, run_part_one (n := 0) q1 q2 ?_ w, run_part_one (n := 0) q1 q2 ?_ w, q5⟩
                      · have : ((xs.drop off).take ks1.length)[0]? = some x := by rw [q3]; rfl
                        rw [hlen1] at this
                        simpa [ho] using this
                      · have : ((ys.drop off).take ks1.length)[0]? = some y := by rw [q4]; rfl
                        rw [hlen1] at this
                        simpa [ho] using this
                  obtain ⟨x, y, p1, p2, p3⟩ := hpe
                  simp only [Op.eqFields, hname, ne_eq, not_false_eq_true, if_true, Sem.run_bind, p1, p2, p3, Result.andThen_ok, Sem.run_ite, Sem.run_pure]
                  rw [hfl]
                  cases hv : flatEq ((xs.drop off).take ks1.length) ((ys.drop off).take ks1.length) with
                  | false => simp
                  | true => simp [ih2]
                · cases h1
              · cases h1
          simpa using key fs.toList 0 ks h (by simpa using hx) (by simpa using hy)
        · cases h
      · have hone : ∀ b : Bool, ks = [b] → ∃ x y, xs = [x] ∧ ys = [y] := by
          intro b hb
          subst hb
          have h1 := kindsOk_length hx
          have h2 := kindsOk_length hy
          match xs, ys, h1, h2 with
          | [x], [y], _, _ => exact ⟨x, y, rfl, rfl⟩
        cases dd with
        | int kd =>
          cases kd <;> simp [hu] at h
          subst h
          obtain ⟨x, y, rfl, rfl⟩ := hone _ rfl
          obtain ⟨n1, rfl⟩ := kinds_int hx
          obtain ⟨n2, rfl⟩ := kinds_int hy
          exact ⟨_, _, _, rfl, rfl, rfl, rfl, by rw [show k + (d + 1) = (k + d) + 1 by omega]; simp [Op.equalIn, run_underlying hu, flatEq]⟩
        | bool =>
          simp [hu] at h
          subst h
          obtain ⟨x, y, rfl, rfl⟩ := hone _ rfl
          obtain ⟨n1, rfl⟩ := kinds_bool hx
          obtain ⟨n2, rfl⟩ := kinds_bool hy
          exact ⟨_, _, _, rfl, rfl, rfl, rfl, by rw [show k + (d + 1) = (k + d) + 1 by omega]; simp [Op.equalIn, run_underlying hu, flatEq]⟩
        | struct fs => exact absurd rfl (hns fs)
        | _ => simp [hu] at h
end
end Go.Proofs.YtccmadehnoihnaaGreatDoor.Fw

namespace Go.Proofs.YtccmadehnoihnaaGreatDoor.Fw
open Go Go.RowKit

section
variable {P : Program} {T : Tab} {C : Cx} {ops : Array Oper} {o : Oper} {r r' : RS} {s : St} {Q : Post} {N : Nat} {SL : Slots} {BL : List Blk} {OW : List Own} {FA : List Pred} {c : Code}

def isStr : Option TypeDesc → Bool | some (.struct _) => true | _ => false

/-- A struct type of ints and bools: the cells' kinds. -/
def EqT (P : Program) (t : TypeId) (ks : List Bool) : Prop := eqK P 20 t = some ks ∧ isStr (P.underlying t) = true

theorem run_eqT {t : TypeId} {ks : List Bool} (h : EqT P t ks) {xs ys : List Value} (hx : kindsOk ks xs = true) (hy : kindsOk ks ys = true) (w : World) :
    (Op.equal t (.agg ⟨xs⟩) (.agg ⟨ys⟩)).run P w = .ok (flatEq xs ys) w ∧ P.eqGuardType P.depth t = false := by
  obtain ⟨h1, h2⟩ := h
  cases hu : P.underlying t with
  | none => simp [hu, isStr] at h2
  | some dd =>
    cases dd <;> simp [hu, isStr] at h2
    rename_i fs
    refine ⟨((eqK_ok (P := P) w 20 t ks h1 9980 xs ys hx hy).1 fs hu), ?_⟩
    have h3 := h1
    rw [eqK] at h3
    simp only [hu] at h3
    split at h3
    · assumption
    · cases h3

theorem q_eqs {t t' : TypeId} {ks : List Bool} {x y : Operand} {g0 g1 G : Bool} {xs ys : List Value} (hE : EqT P t ks) (ho : o.op = .binOp .eql t x y t') (he : ev SL x = some (g0, .agg ⟨xs⟩)) (hg0 : G = true → g0 = true)
    (hy : ev SL y = some (g1, .agg ⟨ys⟩)) (hg1 : G = true → g1 = true) (hkx : kindsOk ks xs = true) (hky : kindsOk ks ys = true) : Quiet P T SL BL FA o G (.bool (flatEq xs ys)) :=
  fun _ hG a w hsl _ => by
    have h1 := ev_ok hsl he (hg0 hG)
    have h2 := ev_ok hsl hy (hg1 hG)
    obtain ⟨h3, h4⟩ := run_eqT (P := P) hE hkx hky w
    have h5 := run_eqGuard_agg (P := P) w .eql t x y ⟨xs⟩ ⟨ys⟩ h4
    simp only [execOp, ho, h1, h2, Sem.run_bind, h5, Result.andThen_ok, binOp, h3, Sem.run_pure]

theorem q_nes {t t' : TypeId} {ks : List Bool} {x y : Operand} {g0 g1 G : Bool} {xs ys : List Value} (hE : EqT P t ks) (ho : o.op = .binOp .neq t x y t') (he : ev SL x = some (g0, .agg ⟨xs⟩)) (hg0 : G = true → g0 = true)
    (hy : ev SL y = some (g1, .agg ⟨ys⟩)) (hg1 : G = true → g1 = true) (hkx : kindsOk ks xs = true) (hky : kindsOk ks ys = true) : Quiet P T SL BL FA o G (.bool (!flatEq xs ys)) :=
  fun _ hG a w hsl _ => by
    have h1 := ev_ok hsl he (hg0 hG)
    have h2 := ev_ok hsl hy (hg1 hG)
    obtain ⟨h3, h4⟩ := run_eqT (P := P) hE hkx hky w
    have h5 := run_eqGuard_agg (P := P) w .neq t x y ⟨xs⟩ ⟨ys⟩ h4
    simp only [execOp, ho, h1, h2, Sem.run_bind, h5, Result.andThen_ok, binOp, h3, Sem.run_pure]

/-! ### A call through a function value -/
theorem exec_callv (hT : TabOk T P) {f : FuncId} {x : Operand} {xs : Array Operand} {ts : Array TypeId} {caps : List Value} (ho : o.op = .call ⟨.value x, xs, ts⟩) (hf : T.fnb f = true) {a : Act} {g0 g : Bool} {vs : List Value} (hsl : SlotsOk SL a)
    (hx : ev SL x = some (g0, .func (.func f) #[] ⟨caps⟩)) (hg0 : g0 = true) (he : evs SL xs.toList = some (g, vs)) (hg : g = true) (w : World) : (execOp a.eval o).run P w = .ok (.enter f (vs ++ caps).toArray) w := by
  have hv := evs_ok hsl he hg
  have hc := ev_ok hsl hx hg0
  have : xs.map a.eval = vs.toArray := by apply Array.ext'; simp [hv]
  have h2 : vs.toArray ++ (⟨caps⟩ : Array Value) = (vs ++ caps).toArray := by apply Array.ext'; simp
  simp [execOp, ho, resolve, hc, Deferred.ofValue, invoke, this, run_call hT hf, h2]

theorem rw_callv {D : List Nat} {d : Nat} {f : FuncId} {x : Operand} {xs : Array Operand} {ts : Array TypeId} {g0 g : Bool} {vs caps args : List Value} {pre : List Pred} {X : Type} {val : X → Value} {post : X → List Pred}
    (hS : Does P f args pre val post) (hfr : Front ops r o D r') (hg : Guard ops SL o true) (hd : o.dst = some d) (hn : Nat.blt d N = true) (ho : o.op = .call ⟨.value x, xs, ts⟩) (hx : ev SL x = some (g0, .func (.func f) #[] ⟨caps⟩)) (hg0 : g0 = true) (hf : T.fnb f = true)
    (he : evs SL xs.toList = some (g, vs)) (hgt : g = true) (ha : args = vs ++ caps) (hpre : SubM FA pre)
    (h : ∀ x, RW P T C ops r' ⟨N, (d, .v (val x)) :: SL, BL, OW, post x ++ FA⟩ Q) : RW P T C ops r ⟨N, SL, BL, OW, FA⟩ Q := by
  refine rw_l hfr hg (K := fun s' => ∃ x, s' = ⟨N, (d, .v (val x)) :: SL, BL, OW, post x ++ FA⟩) ?_ (fun s' ⟨x, e⟩ => by subst e; exact h x)
  intro hT a w hrep
  subst ha
  refine call_wp hS (exec_callv hT ho hf hrep.sl hx hg0 he hgt w) hd hrep hpre.mem (RB := BL) (RO := OW) (.refl _) (.refl _) fun x w' hw hk => ?_
  exact ⟨_, ⟨x, rfl⟩, hrep.putv (Nat.le_of_ble_eq_true hn) (x := .v (val x)) (u := val x) rfl ⟨hw.be, hw.bl, hw.ow, hw.nd, hw.fa⟩, hk.mono (by simp [Lent.ids])⟩

/-! ### A variable that nobody writes any more -/
def VarP (g : Nat) (cs : List Value) : Pred := fun M w => (∃ t, w.heap[g]? = some (.cells cs.toArray t (0, 0))) ∧ ¬ M g

instance (g : Nat) (cs : List Value) : Stab (VarP g cs) where
  st M M' w w' h hx hM := by
    obtain ⟨⟨t, ht⟩, hm⟩ := h
    have := heap_lt ht
    exact ⟨⟨t, (hx.2 g this hm).trans ht⟩, fun h => hm (hM g this h)⟩

theorem le_var {g : Nat} {t : TypeId} {cs : List Value} {bl' : List Blk} (hp : Pick ⟨g, t, cs⟩ BL bl') : Le C ⟨N, SL, BL, OW, FA⟩ ⟨N, SL, bl', OW, VarP g cs :: FA⟩ := by
  intro a w hr
  have hperm := hp.perm
  have hi : (ids ⟨N, SL, BL, OW, FA⟩).Perm (g :: ids ⟨N, SL, bl', OW, VarP g cs :: FA⟩) := (hperm.map (·.g)).append_right _
  have hnd := (List.nodup_cons.1 (hi.nodup_iff.1 hr.wo.nd))
  have hM : ∀ k, Mset C ⟨N, SL, bl', OW, VarP g cs :: FA⟩ k → Mset C ⟨N, SL, BL, OW, FA⟩ k := fun k hm => by
    rcases hm with hm | hm
    · exact .inl hm
    · exact .inr (hi.symm.subset (.tail _ hm))
  have hB := hr.wo.bl ⟨g, t, cs⟩ (hperm.symm.subset (.head _))
  refine ⟨hr.sz, hr.df, hr.sl, hr.wo.be, fun k hk => hr.wo.bl k (hperm.symm.subset (.tail _ hk)), hr.wo.ow, hnd.2, fun F hF => ?_⟩
  cases hF with
  | head =>
    refine ⟨inferInstance, ⟨t, hB.1⟩, fun hm => ?_⟩
    rcases hm with hm | hm
    · have h1 := C.hM g hm
      have h2 := hB.2
      rcases h2 with h2 | h2
      · simp only at h2
        omega
      · exact (C.hB g h2).2 hm
    · exact hnd.1 hm
  | tail _ hF =>
    have h1 := hr.wo.fa F hF
    exact ⟨h1.1, h1.1.st _ _ w w h1.2 ⟨Nat.le_refl _, fun _ _ _ => rfl⟩ fun k _ hm => hM k hm⟩

theorem q_lf1 {t : Nat} {x : Operand} {g0 G : Bool} {g n off : Nat} {cs : List Value} {v : Value} (ho : o.op = .load t x)
    (he : ev SL x = some (g0, .pointer (some ⟨g, off, none⟩))) (hg0 : G = true → g0 = true) (hs : T.siz t = some (n, false)) (hm : VarP g cs ∈ FA) (hv : cs[off]? = some v) : Quiet P T SL BL FA o G v :=
  q_load_gen ho he hg0 fun hT _ w hw => run_loadVar_one hT hs (by
    obtain ⟨_, ⟨t, ht⟩, _⟩ := hw.fa _ hm
    rw [blk_cell ht]; exact hv)

theorem q_lfA {t : Nat} {x : Operand} {g0 G : Bool} {g n : Nat} {cs : List Value} (ho : o.op = .load t x)
    (he : ev SL x = some (g0, .pointer (some ⟨g, 0, none⟩))) (hg0 : G = true → g0 = true) (hs : T.siz t = some (n, true)) (hm : VarP g cs ∈ FA) (hl : cs.length = n) : Quiet P T SL BL FA o G (.agg ⟨cs⟩) :=
  q_load_gen ho he hg0 fun hT _ w hw => by
    obtain ⟨_, ⟨t', ht⟩, _⟩ := hw.fa _ hm
    refine run_loadVar_agg hT hs hl fun j v hj => ?_
    rw [add_none, Nat.zero_add, blk_cell ht]
    exact hj

/-! ### A slice written out -/
theorem WOk.allocO {w : World} (h : WOk C ⟨N, SL, BL, OW, FA⟩ w) (e esz by_ n : Nat) (cs : List Value) (hl : cs.length = n * esz) (hn : n ≤ 9223372036854775807) (hnb : n * by_ ≤ 140737488355328) :
    WOk C ⟨N, SL, BL, ⟨.slice (some ⟨w.heap.size, 0, none⟩) n n, some w.heap.size, e, esz, by_, n, cs⟩ :: OW, FA⟩ { w with heap := w.heap.push (.cells cs.toArray e) } := by
  have hb : Below w.heap.size w { w with heap := w.heap.push (.cells cs.toArray e) } :=
    ⟨rfl, rfl, rfl, by simp, fun k hk => by simp only; rw [Array.getElem?_push, if_neg (by omega)]⟩
  have hg := h.grow hb
  refine ⟨hg.be, hg.bl, ?_, ?_, ?_⟩
  · intro q hq
    cases hq with
    | head => exact ⟨hl, ⟨hn, hnb⟩, .inl h.be.size, n, cs.toArray, rfl, by simp, Nat.le_refl _, hn, by simpa using hl, by simp [← hl]⟩
    | tail _ hq => exact hg.ow q hq
  · have hp : (BL.map (·.g) ++ w.heap.size :: OW.filterMap (·.b)).Perm (w.heap.size :: (BL.map (·.g) ++ OW.filterMap (·.b))) := List.perm_middle
    exact hp.nodup_iff.2 (List.nodup_cons.2 ⟨fun hm => Nat.lt_irrefl _ (ids_lt h hm).1, h.nd⟩)
  · intro F hF
    refine ⟨(h.fa F hF).1, (h.fa F hF).1.st _ _ w _ (h.fa F hF).2 ⟨hb.size, fun k hk _ => hb.block k hk⟩ fun k hk hm => ?_⟩
    rcases hm with hm | hm
    · exact .inl hm
    · have hp : (BL.map (·.g) ++ w.heap.size :: OW.filterMap (·.b)).Perm (w.heap.size :: (BL.map (·.g) ++ OW.filterMap (·.b))) := List.perm_middle
      rcases List.mem_cons.1 (hp.subset hm) with e | e
      · omega
      · exact .inr e

def zerosL (z : List Value) (n : Nat) : List Value := (List.range n).map fun i => (z[i % z.length]?).getD undef

theorem rw_bslice {D : List Nat} {d t e esz by_ n : Nat} {b g : Bool} {parts : List (Nat × Operand)} {vs : List (Nat × Value)} {z cs : List Value} (hf : Front ops r o D r') (hg : Guard ops SL o true) (hd : o.dst = some d) (hn : Nat.blt d N = true) (ho : o.op = .buildSlice t n ⟨parts⟩)
    (ht : T.slc t = some e) (hz : T.siz e = some (esz, b)) (hzz : T.zer e = some z) (hzl : z.length = esz) (hby : T.byt e = some by_) (hnb : Nat.ble (n * by_) 140737488355328 = true) (hpos : Nat.blt 0 esz = true) (he : evp SL parts = some (g, vs)) (hgt : g = true) (hfill : fillL ((List.range n).map fun i => (i * esz, esz)) (zerosL z (n * esz)) vs = some cs) (hcl : cs.length = n * esz) (hsm : Nat.ble (n * esz) 16777216 = true)
    (h : ∀ (X : SlV) (b' : Option Nat), RW P T C ops r' ⟨N, (d, .v (X.val n)) :: SL, BL, ⟨X.val n, b', e, esz, by_, n, cs⟩ :: OW, FA⟩ Q) : RW P T C ops r ⟨N, SL, BL, OW, FA⟩ Q :=
  rw_val hf hg hd hn (K := fun u bl ow fa => ∃ (X : SlV) (b' : Option Nat), u = X.val n ∧ bl = BL ∧ ow = ⟨X.val n, b', e, esz, by_, n, cs⟩ :: OW ∧ fa = FA)
    (fun hT a w hrep => by
      obtain ⟨ti, dd, q1, q2, q3, q4⟩ := hT.siz _ _ _ hz
      obtain ⟨ti', zv, p1, p2, p3⟩ := hT.zer _ _ hzz
      have hsm := Nat.le_of_ble_eq_true hsm
      have hpos : 0 < esz := Nat.le_of_ble_eq_true hpos
      have hns : n ≤ n * esz := Nat.le_mul_of_pos_right _ hpos
      refine ⟨.slice (some ⟨w.heap.size, 0, none⟩) n n, _, BL, _, FA, ?_, hrep.wo.allocO e esz by_ n cs hcl (by omega) (Nat.le_of_ble_eq_true hnb), keeps_push _ _ _, ⟨some ⟨w.heap.size, 0, none⟩, n⟩, some w.heap.size, rfl, rfl, rfl, rfl⟩
      have hv := evp_ok hrep.sl he hgt
      have hvs : ((⟨parts⟩ : Array (Nat × Operand)).map fun (i, x) => (i, a.eval x)).toList = vs := by rw [← hv]; simp
      simp only [execOp, ho, Instr.buildSlice, Sem.run_bind, run_underlying (hT.slc _ _ ht), Result.andThen_ok, run_sizeOf' q1, q2]
      rw [if_neg (by omega)]
      have hfl : ∀ zs : Array Value, zs.toList = zerosL z (n * esz) → Instr.fill (fun i => some (i * esz, esz)) zs vs = some cs.toArray := by
        intro zs hzs
        have key : ∀ (vs : List (Nat × Value)) (cs0 r : List Value), fillL ((List.range n).map fun i => (i * esz, esz)) cs0 vs = some r → Instr.fill (fun i => some (i * esz, esz)) cs0.toArray vs = some r.toArray := by
          intro vs
          induction vs with
          | nil => intro cs0 r h; simp [fillL] at h; simp [Instr.fill, h]
          | cons p vs ih =>
            intro cs0 r h
            obtain ⟨i, v⟩ := p
            simp only [fillL] at h
            split at h
            · cases h
            · rename_i off sz hi
              have hoff : off = i * esz ∧ sz = esz := by
                simp only [List.getElem?_map] at hi
                cases hri : (List.range n)[i]? with
                | none => simp [hri] at hi
                | some k =>
                  simp [hri] at hi
                  have := List.getElem?_eq_some_iff.1 hri
                  obtain ⟨h1, h2⟩ := this
                  simp at h2
                  exact ⟨by rw [← hi.1, ← h2], hi.2.symm⟩
              obtain ⟨rfl, rfl⟩ := hoff
              split at h
              · rename_i h1 h2
                have h1 := Nat.eq_of_beq_eq_true h1
                have h2 := Nat.le_of_ble_eq_true h2
                simp only [Instr.fill]
                have h1' : v.cells.size = sz := by simpa using h1
                rw [if_neg (by simp [h1']; omega)]
                have := ih _ _ h
                rw [← this]
                congr 1
                apply Array.ext'
                rw [← Array.foldl_toList, Array.toList_zipIdx]
                exact fold_putAt v.cells.toList cs0.toArray 0 (i * sz)
              · cases h
        have hz2 : zs = (zerosL z (n * esz)).toArray := by apply Array.ext'; simp [hzs]
        rw [hz2]
        exact key vs _ _ hfill
      by_cases h0 : n * esz = 0
      · rw [if_pos h0]
        simp only [Sem.run_bind, Sem.run_pure, Result.andThen_ok, hvs]
        have hz0 : ∀ z : Array Value, (Array.range (n * esz)).map (fun x => z[x % z.size]!) = #[] := fun z => by rw [h0]; simp
        rw [hz0, hfl #[] (by simp [h0, zerosL])]
        simp [newRow]
      · rw [if_neg h0]
        simp only [Sem.run_bind, run_zero' p1 p2, Result.andThen_ok, Sem.run_pure, hvs]
        rw [hfl _ (by
          simp only [Array.toList_map, Array.toList_range, zerosL]
          refine List.map_congr_left fun i hi => ?_
          have hzs : zv.cells.size = z.length := by rw [← p3]; simp
          have hlt : i % z.length < z.length := Nat.mod_lt _ (by omega)
          rw [hzs, getElem!_pos zv.cells (i % z.length) (by omega)]
          have hlt' : i % z.length < zv.cells.size := by omega
          have hg : zv.cells.toList[i % z.length]? = some (zv.cells[i % z.length]'hlt') := by
            rw [Array.getElem?_toList]
            exact Array.getElem?_eq_getElem hlt'
          rw [p3] at hg
          rw [hg]
          rfl)]
        simp [newRow])
    (fun u bl ow fa ⟨X, b', e1, e2, e3, e4⟩ => by subst e1; subst e2; subst e3; subst e4; exact h X b')
end
end Go.Proofs.YtccmadehnoihnaaGreatDoor.Fw

namespace Go.Proofs.YtccmadehnoihnaaGreatDoor.Fw
open Go Go.RowKit Go.ChangeShapes Go.WideShapes Go.Deep

section
variable {H : Type} {enc : TypeId × Value → H} {P : Program} {w : World} {base : Nat} {spare : Nat → Bool} {held : Bool}

/-! ### What comes in, opened -/
theorem kindsOk_app : ∀ {a b : List Bool} {x y : List Value}, kindsOk a x = true → kindsOk b y = true → kindsOk (a ++ b) (x ++ y) = true
  | [], _, [], _, _, h => by simpa using h
  | true :: a, b, .int .i64 n :: x, y, h, h' => by simp only [kindsOk] at h; simpa [kindsOk] using kindsOk_app h h'
  | false :: a, b, .bool n :: x, y, h, h' => by simp only [kindsOk] at h; simpa [kindsOk] using kindsOk_app h h'

theorem eqKs_len {f : TypeId → Option (List Bool)} : ∀ {fs : List Field} {off : Nat} {ks : List Bool}, eqKs P f fs off = some ks → ∀ (cs : List Value), cs.length = off + ks.length →
    (∀ (fd : Field), fd ∈ fs → ∀ ks', f fd.type = some ks' → P.cellsOf fd.type = ks'.length → kindsOk ks' ((cs.drop fd.offset).take (P.cellsOf fd.type)) = true) → kindsOk ks (cs.drop off) = true
  | [], off, ks, h, cs, hl, _ => by
    simp only [eqKs, Option.some.injEq] at h
    subst h
    have : cs.drop off = [] := List.drop_eq_nil_of_le (by simpa using Nat.le_of_eq hl)
    rw [this]; rfl
  | fd :: fs, off, ks, h, cs, hl, hf => by
    simp only [eqKs] at h
    split at h
    · rename_i ks1 ti hn ho hk hi
      split at h
      · rename_i rks hb hr
        simp only [Option.some.injEq] at h
        subst h
        have ho := Nat.eq_of_beq_eq_true ho
        have hb := Nat.eq_of_beq_eq_true hb
        have hc : P.cellsOf fd.type = ks1.length := by simp [Program.cellsOf, hi, hb]
        have h1 := hf fd (.head _) ks1 hk hc
        rw [ho, hc] at h1
        have ih := eqKs_len hr cs (by rw [hl]; simp [Nat.add_assoc]) (fun fd' hm => hf fd' (.tail _ hm))
        have e : cs.drop off = (cs.drop off).take ks1.length ++ cs.drop (off + ks1.length) := by
          have := List.take_append_drop ks1.length (cs.drop off)
          rw [List.drop_drop] at this
          exact this.symm
        rw [e]
        exact kindsOk_app h1 ih
      · cases h
    · cases h

theorem kinds_of_trod : ∀ (d : Nat) (t : TypeId) (ks : List Bool), eqK P d t = some ks → P.cellsOf t = ks.length → ∀ (fuel : Nat) (cs : List Value) (x : DataW H × List MemPlace),
    DataW.trod enc P w base spare held fuel t cs = some x → kindsOk ks cs = true := by
  intro d
  induction d with
  | zero => intro t ks h; simp [eqK] at h
  | succ d ih =>
    intro t ks h hc fuel cs x hx
    simp only [eqK] at h
    cases hu : P.underlying t with
    | none => simp [hu] at h
    | some dd =>
      cases dd with
      | int kd =>
        cases kd <;> simp [hu] at h
        subst h
        obtain ⟨n, rfl, _⟩ := DataW.trod_int hu hx
        rfl
      | bool =>
        simp [hu] at h
        subst h
        obtain ⟨b, rfl, _⟩ := DataW.trod_bool hu hx
        rfl
      | struct fs =>
        simp only [hu] at h
        split at h
        · obtain ⟨xs, n, rfl, _, hlen, hxl, hf⟩ := DataW.trod_struct hu hx
          have := eqKs_len (P := P) h cs (by rw [hlen, hc]; simp) (fun fd hfd ks' hk' hc' => by
            obtain ⟨i, hi, hfi⟩ := List.getElem_of_mem hfd
            have hfi' : fs[i]? = some fd := by rw [← Array.getElem?_toList, List.getElem?_eq_getElem hi, hfi]
            have h1 := hf i fd hfi'
            have hilt : i < xs.length := by rw [hxl]; simpa using hi
            rw [List.getElem?_eq_getElem hilt] at h1
            exact ih fd.type ks' hk' hc' n _ _ h1)
          simpa using this
        · cases h
      | _ => simp [hu] at h

/-- Rows of cells that read as elements. -/
structure Encs {α : Type} (ks : List Bool) (encα : α → List Value) : Prop where
  on : ∀ a, kindsOk ks (encα a) = true
  to : ∀ cs, kindsOk ks cs = true → ∃ a, encα a = cs

theorem kinds_one : ∀ {ks : List Bool} {l : List Value}, kindsOk ks l = true → ∀ u ∈ l, u.oneCell' = true
  | [], [], _, u, hu => by cases hu
  | true :: ks, .int .i64 n :: l, h, u, hu => by
    simp only [kindsOk] at h
    rcases List.mem_cons.1 hu with rfl | hu
    · rfl
    · exact kinds_one h u hu
  | false :: ks, .bool n :: l, h, u, hu => by
    simp only [kindsOk] at h
    rcases List.mem_cons.1 hu with rfl | hu
    · rfl
    · exact kinds_one h u hu

theorem choose_list {α : Type} {n : Nat} {p : Nat → α → Prop} (h : ∀ i, i < n → ∃ a, p i a) : ∃ l : List α, l.length = n ∧ ∀ (i : Nat) (hi : i < l.length), p i l[i] := by
  induction n with
  | zero => exact ⟨[], rfl, fun i hi => absurd hi (by simp)⟩
  | succ n ih =>
    obtain ⟨l, hl, hp⟩ := ih fun i hi => h i (by omega)
    obtain ⟨a, ha⟩ := h n (by omega)
    refine ⟨l ++ [a], by simp [hl], fun i hi => ?_⟩
    by_cases hlt : i < l.length
    · rw [List.getElem_append_left hlt]; exact hp i hlt
    · have : i = n := by simp [hl] at hi; omega
      subst this
      rw [List.getElem_append_right (by omega)]
      simp [hl]
      exact ha

/-- A slice of flat elements, opened. -/
theorem open_rd {α : Type} {E : El α} {ks : List Bool} {t e by_ : TypeId} {fuel : Nat} {cs : List Value} {x : DataW H × List MemPlace} (hE : Encs ks E.enc) (hby' : E.by_ = by_) (ht : P.underlying t = some (.slice e)) (he : eqK P 20 e = some ks) (hc : P.cellsOf e = ks.length)
    (hpos : 0 < ks.length) (hby : P.bytesOf e = by_) (h : DataW.trod enc P w 0 (fun _ => true) true fuel t cs = some x) (hsz : (x.1.weights P t).all (· ≤ reachBytes) = true) :
    ∃ (X : SlV) (l : List α), cs = [X.val l.length] ∧ RdL E X l (fun _ => False) w := by
  subst hby'
  rcases open_slice ht h with ⟨rfl, _⟩ | ⟨a, len, cap, m, n, D, Pl, rfl, _, hlc, hcm, hm, hx, hi⟩
  · exact ⟨⟨none, 0⟩, [], rfl, RdL.nil E none 0 (by omega) _ _⟩
  · simp only [if_true] at hm
    have hrow : ∀ i, i < len → ∃ a0 : α, ∀ (j : Nat) (v : Value), (E.enc a0)[j]? = some v → w.cell? (a.add (i * ks.length + j)) = some v := by
      intro i hil
      obtain ⟨cs', hcs, htr⟩ := hi i (by omega)
      have hk := kinds_of_trod 20 e ks he hc _ _ _ htr
      obtain ⟨a0, rfl⟩ := hE.to cs' hk
      obtain ⟨_, hl, hat⟩ := World.cells?_some hcs
      refine ⟨a0, fun j v hv => ?_⟩
      obtain ⟨hlt, _⟩ := List.getElem?_eq_some_iff.1 hv
      have := hat j (by omega)
      rw [hc, addr_add_add] at this
      rw [this, hv]
    obtain ⟨l, hl, hp⟩ := choose_list hrow
    have hbound : l.length * E.by_ ≤ 140737488355328 := by
      subst hx
      rw [List.all_eq_true] at hsz
      have := hsz ((len + (m - len)) * E.by_) (by simp [DataW.weights, ht, hby])
      have h2 : l.length * E.by_ ≤ (len + (m - len)) * E.by_ := Nat.mul_le_mul_right _ (by omega)
      have h3 : reachBytes ≤ 140737488355328 := by decide
      simp at this
      omega
    refine ⟨⟨some a, cap⟩, l, by rw [hl]; rfl, ⟨by rw [hl]; exact hlc, by simpa [maxLen] using hcm, hbound, fun hpl => ⟨a, rfl, ?_, fun h => h, fun i hi j v hv => by rw [show E.esz = ks.length by rw [← E.len l[i], kindsOk_length (hE.on l[i])]]; exact hp i hi j v hv⟩⟩⟩
    · have h0 := hp 0 hpl
      have hle := kindsOk_length (hE.on l[0])
      have := h0 0 _ (List.getElem?_eq_getElem (by omega))
      have hcell := this
      unfold World.cell? at hcell
      rw [addr_block] at hcell
      cases hh : w.heap[a.block]? with
      | none => simp [hh] at hcell
      | some ob => exact heap_lt hh
end

/-! ### The row's step of a law -/
section
variable {H : Type} {enc : TypeId × Value → H} {P : Program}

theorem trodAll_below (hl : laidOutB P = true) {W W' : World} (hb : Below W.heap.size W W') : ∀ {ts : List TypeId} {vs : List Value} {ds : List (DataW H)} {ps : List MemPlace},
    (∀ t ∈ ts, P.readableRec t = true ∧ t < P.types.size) → DataW.TrodAll enc P W 0 (fun _ => true) true ts vs ds ps → (∀ x ∈ ps, x.block < W.heap.size) → DataW.TrodAll enc P W' 0 (fun b => decide (b < W.heap.size)) true ts vs ds ps
  | [], [], [], _, _, h, _ => h
  | t :: ts, v :: vs, d :: ds, ps, hr, h, hlt => by
    obtain ⟨p, q, h1, h2, rfl⟩ := h
    exact ⟨p, q, Below.trod hl (hr t (.head _)).1 (hr t (.head _)).2 h1 hb (fun x hx => hlt x (List.mem_append_left _ hx)), trodAll_below hl hb (fun t' ht' => hr t' (.tail _ ht')) h2 (fun x hx => hlt x (List.mem_append_right _ hx)), rfl⟩
  | [], _ :: _, _, _, _, h, _ => by simp [DataW.TrodAll] at h
  | [], [], _ :: _, _, _, h, _ => by simp [DataW.TrodAll] at h
  | _ :: _, [], _, _, _, h, _ => by simp [DataW.TrodAll] at h
  | _ :: _, _ :: _, [], _, _, h, _ => by simp [DataW.TrodAll] at h

theorem law_step {f : FuncId} {fn : Func} {s : ChangeSpec} {bt : TypeId} (hl : laidOutB P = true) (hvars : s.vars = []) (hb : P.underlying bt = some .bool) (hres : fn.resultTypes = #[bt]) (hpar : fn.params.toList.all (fun t => P.readableRec t && decide (t < P.types.size)) = true)
    {W : World} {args : Array Value} {ds gs : List (DataW H)} {before : List MemPlace} (hW : DataW.Whole enc P fn.params.toList s.vars false W args.toList ds gs before) (hs : s.fn H (ds ++ gs) = { results := [.lit (.bool true)], args := ds })
    (hcall : Calls P f args W fun e W' => e = .returned (.bool true) ∧ Below W.heap.size W W') :
    Calls P f args W fun e W' => ∃ v, e = .returned v ∧ s.post enc P fn false true false false W args v W' := by
  refine hcall.mono fun e W' ⟨he, hbw⟩ => ⟨_, he, ?_⟩
  have hW' := hW
  obtain ⟨p, q, hA, hV, rfl, hfz, _⟩ := hW'
  rw [hvars] at hV
  obtain ⟨rfl, rfl⟩ := trodVars_none hV
  have hlt : ∀ x ∈ p, x.block < W.heap.size := fun x hx => hW.lt x (List.mem_append_left _ hx)
  have hpar' : ∀ t ∈ fn.params.toList, P.readableRec t = true ∧ t < P.types.size := fun t ht => by
    have := List.all_eq_true.1 hpar t ht
    simpa using this
  refine ⟨ds, [], p ++ [], [], p, [], hW, ?_, ?_, ?_, hbw.frame _, fun h => by cases h⟩
  · rw [hs, hres]
    exact ⟨[], [], ⟨1, by simp [DataW.trod, hb, Value.cells, Value.resultList]⟩, rfl, rfl⟩
  · rw [hs]
    exact trodAll_below hl hbw hpar' hA hlt
  · rw [hs, hvars]
    exact rfl
end
end Go.Proofs.YtccmadehnoihnaaGreatDoor.Fw
