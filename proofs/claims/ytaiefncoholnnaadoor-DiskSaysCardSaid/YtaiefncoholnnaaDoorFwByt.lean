/- Part of this claim. No condition. -/
import Derived.Test.YtaiefncoholnnaaDoorFx
set_option linter.unusedVariables false
set_option linter.unusedSimpArgs false
namespace Go.Proofs.YtaiefncoholnnaaDoor.Fw
open Go Go.RowKit

section
variable {P : Program} {T : Tab} {C : Cx} {ops : Array Oper} {o : Oper} {r r' : RS} {s : St} {Q : Post} {N : Nat} {SL : Slots} {BL : List Blk} {OW : List Own} {FA : List Pred} {c : Code}

theorem strCells_enc (l : Str) : Lib.strCells ⟨l.toArray⟩ = l.flatMap EByte.enc := by
  show (l.map fun b => Value.int .u8 b.toNat) = l.flatMap fun b => [yV b]
  induction l with
  | nil => rfl
  | cons a r ih => rw [List.map_cons, List.flatMap_cons, ih]; rfl

theorem run_appS0 {t u ty e : TypeId} {i : TypeInfo} (ht : P.underlying t = some (.slice e)) (hu : P.underlying u = some .string) (hi : P.info? e = some i) (w : World) {A : Option Addr} {n cap : Nat} (hn : n ≤ cap) {b : ByteArray} (hb : b.size = 0) :
    (Builtin.append_ #[t, u] ty #[.slice A n cap, .string b]).run P w = .ok (.slice A n cap) w := by
  have hx : b.data = #[] := Array.eq_empty_of_size_eq_zero hb
  cases A <;> simp [Builtin.append_, run_underlying ht, run_underlying hu, sizeOf, typeInfo, hi, Builtin.lenOf, Builtin.firstCells, hb, hn, storeCells, hx]

/-- A text's bytes appended to bytes that are owned. -/
theorem run_appS {t u ty : Nat} {q : Own} {z : List Value} (hT : TabOk T P) (ht : T.slc t = some q.e) (hu : P.underlying u = some .string) {agg : Bool} (hz : T.siz q.e = some (q.esz, agg)) (hzz : T.zer q.e = some z) (hzl : z.length = 1) (hby : T.byt q.e = some q.by_) (hes : q.esz = 1) (hb1 : q.by_ = 1)
    {w : World} (hw : WOk C ⟨N, SL, BL, OW, FA⟩ w) (hq : OwnOk C w q) (l : Str) (hb : q.n + l.length ≤ 140737488355328) :
    ∃ A' c' b' w', (Builtin.append_ #[t, u] ty #[q.v, sV l]).run P w = .ok (.slice A' (q.n + l.length) c') w' ∧ OwnOk C w' ⟨.slice A' (q.n + l.length) c', b', q.e, q.esz, q.by_, q.n + l.length, q.xs ++ l.flatMap EByte.enc⟩ ∧ w.grownBy w' q.b ∧ (b' = q.b ∨ b' = none ∨ b' = some w.heap.size) := by
  obtain ⟨qv, qb, qe, qs, qby, qn, qx⟩ := q
  simp only at ht hz hzz hby hes hb1 hb hq ⊢
  subst hes; subst hb1
  have hut := hT.slc _ _ ht
  obtain ⟨ti, d, q1, q2, q3, q4⟩ := hT.siz _ _ _ hz
  obtain ⟨ti', hi', hby'⟩ := hT.byt _ _ hby
  obtain ⟨ti'', zv, hi'', hz'', hzc⟩ := hT.zer _ _ hzz
  rw [q1] at hi' hi''
  cases hi'; cases hi''
  have hzs : zv.cells.size = 1 := by rw [← hzl, ← hzc]; simp
  have hsz := size_sV l
  have hsc := strCells_enc l
  have hfl : (l.flatMap EByte.enc).length = l.length := by rw [← hsc, Lib.strCells_length, hsz]
  obtain ⟨hl', hn', hbb⟩ := hq
  simp only at hl' hn' hbb
  rw [Nat.mul_one] at hl'
  have e1 : (Array.map (fun b => Value.int .u8 b.toNat) (ByteArray.mk l.toArray).data) = (Lib.strCells ⟨l.toArray⟩).toArray := by
    apply Array.ext'
    simp [Lib.strCells]
  -- a new row
  have grown : ∀ (old : Nat), OwnOk C (w.drew.alloc (.cells (qx.toArray ++ (l.flatMap EByte.enc).toArray ++ Builtin.zeroCells zv.cells (grownCap w (qn + l.length) old qe - (qn + l.length))) qe)) ⟨.slice (some ⟨w.heap.size, 0, none⟩) (qn + l.length) (grownCap w (qn + l.length) old qe), some w.heap.size, qe, 1, 1, qn + l.length, qx ++ l.flatMap EByte.enc⟩ := by
    intro old
    have hge := grownCap_ge w (qn + l.length) old qe
    have hcm : grownCap w (qn + l.length) old qe ≤ maxLen := grownCap_le_maxLen w (qn + l.length) old qe (by simp only [maxLen]; omega)
    refine ⟨by simp only [List.length_append, hl', hfl, Nat.mul_one], ⟨(by show qn + l.length ≤ _; omega), (by show (qn + l.length) * 1 ≤ _; omega)⟩, .inl hw.be.size, _, _, rfl, heap_alloc_new w.drew _, hge, by simpa [maxLen] using hcm, ?_, ?_⟩
    · simp only [Array.size_append, List.size_toArray, size_zeroCells, hzs, hl', hfl]
      omega
    · simp only [Array.toList_append, List.append_assoc, Nat.mul_one]
      rw [← List.append_assoc, show qn + l.length = (qx ++ l.flatMap EByte.enc).length by rw [List.length_append, hl', hfl]]
      exact List.take_left
  have hgr : ∀ (o : Obj) (row : Option Nat), w.grownBy (w.drew.alloc o) row := fun o row => ⟨rfl, rfl, rfl, by simp, fun k hk _ => heap_alloc_old w.drew _ k hk⟩
  have hnil : l.length = 0 → l = [] := fun h => List.eq_nil_of_length_eq_zero h
  cases qb with
  | none =>
    simp only at hbb
    obtain ⟨h0, A, rfl⟩ := hbb
    subst h0
    have hxs : qx = [] := List.eq_nil_of_length_eq_zero hl'
    subst hxs
    by_cases hm : l.length = 0
    · have := hnil hm
      subst this
      exact ⟨A, 0, none, w, run_appS0 hut hu q1 w (Nat.le_refl _) hsz, ⟨rfl, ⟨Nat.zero_le _, Nat.zero_le _⟩, rfl, A, rfl⟩, ⟨rfl, rfl, rfl, Nat.le_refl _, fun _ _ _ => rfl⟩, .inl rfl⟩
    · have hg := grown 0
      cases A with
      | none =>
        have hr := run_append_nil_string (P := P) w t u ty qe ti zv hut hu q1 hz'' ⟨l.toArray⟩ (by rw [hsz]; omega) (by rw [hsz]; omega) (by rw [hby', hsz]; omega)
        rw [e1, hsc, hsz] at hr
        simp only [Nat.zero_add, List.nil_append, Array.empty_append] at hg ⊢
        exact ⟨_, _, some w.heap.size, _, hr, hg, hgr _ _, .inr (.inr rfl)⟩
      | some a =>
        have hr := Lib.run_append_grow_string (P := P) w t u ty qe ti zv hut hu q1 hz'' a 0 0 [] (by simp) (by simp) ⟨l.toArray⟩ (by rw [hsz]; omega) (by rw [hsz]; omega) (by rw [hby', hsz]; exact growslice_fits (by omega) (by omega))
        rw [hsc, hsz] at hr
        exact ⟨_, _, some w.heap.size, _, hr, hg, hgr _ _, .inr (.inr rfl)⟩
  | some g =>
    simp only at hbb
    obtain ⟨hg, cap, cur, rfl, hh, hnc, hcap, hcs, htake⟩ := hbb
    rw [Nat.mul_one] at hcs htake
    by_cases hroom : qn + l.length ≤ cap
    · have hr := Lib.run_append_room_string (P := P) w t u ty qe ti hut hu q1 q2 g qn cap cur hh ⟨l.toArray⟩ (by rw [hsz]; exact hroom) (by rw [hsz]; omega)
      rw [hsc, hsz] at hr
      refine ⟨_, _, some g, _, hr, ⟨by simp only [List.length_append, hl', hfl, Nat.mul_one], ⟨(by show qn + l.length ≤ _; omega), (by show (qn + l.length) * 1 ≤ _; omega)⟩, hg, cap, _, rfl, setRow_heap w g cur _ qe _ hh, hroom, hcap, ?_, ?_⟩, ⟨rfl, rfl, rfl, by simp, fun k _ hk => setRow_other w g k _ (fun e => hk (by simp [e]))⟩, .inl rfl⟩
      · simp only [List.size_toArray, List.length_append, List.length_take, List.length_drop, Array.length_toList, hfl]
        omega
      · simp only [Nat.mul_one]
        rw [htake, show qn + l.length = (qx ++ l.flatMap EByte.enc).length by rw [List.length_append, hl', hfl]]
        exact List.take_left
    · have holds : ∀ j u, qx[j]? = some u → w.cell? ((⟨g, 0, none⟩ : Addr).add j) = some u := fun j u hj => by
        rw [add_none, Nat.zero_add]
        simp only [World.cell?, hh]
        have hjl := (List.getElem?_eq_some_iff.1 hj).1
        rw [← htake, List.getElem?_take, if_pos (by omega), Array.getElem?_toList] at hj
        exact hj
      have hr := Lib.run_append_grow_string (P := P) w t u ty qe ti zv hut hu q1 hz'' ⟨g, 0, none⟩ qn cap qx (by rw [q2]; omega) holds ⟨l.toArray⟩ (by rw [hsz]; omega) (by rw [hsz]; omega) (by rw [hby', hsz]; exact growslice_fits (by omega) (by omega))
      rw [hsc, hsz] at hr
      exact ⟨_, _, some w.heap.size, _, hr, grown cap, hgr _ _, .inr (.inr rfl)⟩

theorem rw_appendS (l m : Str) {e : TypeId} {X : SlV} {b : Option Nat} {d t u : Nat} {x y : Operand} {g0 g1 : Bool} {z : List Value} {agg : Bool} {ow' : SlV → Option Nat → List Own} {D : List Nat} (hf : Front ops r o D r') (hbD : ∀ g, b = some g → (∃ l, r = .sq l) ∨ g ∈ D) (hg : Guard ops SL o true) (hd : o.dst = some d) (hn : Nat.blt d N = true)
    (ho : o.op = .call ⟨.builtin .append, ⟨[x, y]⟩, ⟨[t, u]⟩⟩) (hx : ev SL x = some (g0, X.val l.length)) (hg0 : g0 = true) (hy : ev SL y = some (g1, sV m)) (hg1 : g1 = true)
    (hut : P.underlying u = some .string) (hu : ∀ (X' : SlV) b', UpdO OW (ownL EByte e X b l) [ownL EByte e X' b' (l ++ m)] (ow' X' b'))
    (ht : T.slc t = some e) (hz : T.siz e = some (1, agg)) (hzz : T.zer e = some z) (hzl : z.length = 1) (hby : T.byt e = some 1)
    (hb : l.length + m.length ≤ 140737488355328)
    (h : ∀ (X' : SlV) (b' : Option Nat), RW P T C ops r' ⟨N, (d, .v (X'.val (l ++ m).length)) :: SL, BL, ow' X' b', FA⟩ Q) : RW P T C ops r ⟨N, SL, BL, OW, FA⟩ Q := by
  have key : Loud P T C ⟨N, SL, BL, OW, FA⟩ o b.toList (fun s' => ∃ (X : SlV) (b' : Option Nat), s' = ⟨N, (d, .v (X.val (l ++ m).length)) :: SL, BL, ow' X b', FA⟩) := by
    intro hT a w hrep
    refine Oper.wp_mono ?_ (loud_val (D := b.toList) hd hn (K := fun u bl ow fa => ∃ (X : SlV) (b' : Option Nat), u = X.val (l ++ m).length ∧ bl = BL ∧ ow = ow' X b' ∧ fa = FA) ?_ hT a w hrep)
    · rintro a' w' ⟨s', ⟨u, bl, ow, fa, ⟨X, b', e1, e2, e3, e4⟩, e5⟩, h2, h3⟩
      subst e1; subst e2; subst e3; subst e4
      exact ⟨s', ⟨X, b', e5⟩, h2, h3⟩
    · intro hT a w hrep
      have hm : ownL EByte e X b l ∈ OW := by obtain ⟨l', r, e, _⟩ := (hu ⟨none, 0⟩ none).spec; rw [e]; simp
      have hq := hrep.wo.ow _ hm
      obtain ⟨A', c', b', w', hrun, ho', hgr, hbb⟩ := run_appS (ty := o.type) hT (q := ownL EByte e X b l) ht hut hz hzz hzl hby rfl rfl hrep.wo hq m hb
      simp only at hrun ho' hgr hbb
      have e1 : (l ++ m).length = l.length + m.length := List.length_append
      have e2 : (l ++ m).flatMap EByte.enc = l.flatMap EByte.enc ++ m.flatMap EByte.enc := List.flatMap_append
      have hu' := hu ⟨A', c'⟩ b'
      rw [ownL, ownL, e1, e2] at hu'
      refine ⟨.slice A' (l.length + m.length) c', w', BL, ow' ⟨A', c'⟩ b', FA, ?_, hrep.wo.swapO hu' ho' hgr hbb, ⟨hgr.size, fun k hk hn => hgr.block k hk fun e => hn (by rw [← e]; simp)⟩, ⟨A', c'⟩, b', by rw [e1]; rfl, rfl, rfl, rfl⟩
      simp only [execOp, ho, resolve, invoke, builtin, Sem.run_bind, Sem.run_pure, Result.andThen_ok, List.map_toArray, List.map_cons, List.map_nil, ev_ok hrep.sl hx hg0, ev_ok hrep.sl hy hg1, hrun]
  cases hf with
  | sq => exact rw_lsq hg key (fun s' ⟨X, b', e⟩ => by subst e; exact h X b')
  | lo _ hi hDD => exact rw_l (.lo b.toList hi hDD) hg key (fun s' ⟨X, b', e⟩ => by subst e; exact h X b')
  | an hi hDD =>
    refine rw_l (.an hi hDD) hg (fun hT a w hrep => Oper.wp_mono (fun a' w' ⟨s', h1, h2, h3⟩ => ⟨s', h1, h2, h3.mono fun k hk => ?_⟩) (key hT a w hrep)) (fun s' ⟨X, b', e⟩ => by subst e; exact h X b')
    rcases hbD k (by simpa using hk) with ⟨_, e⟩ | e
    · cases e
    · exact e
end
end Go.Proofs.YtaiefncoholnnaaDoor.Fw
