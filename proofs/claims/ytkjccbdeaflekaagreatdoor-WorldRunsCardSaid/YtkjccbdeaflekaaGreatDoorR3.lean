/- Part of this claim. No condition. -/
import Derived.Test.YtkjccbdeaflekaaGreatDoorR2
import Derived.KernelRfl
import Derived.Lib.ConvBytes
import Derived.Lib.Strings
import Derived.Lib.AppendStr
import Derived.Laws.IdiomStrings
set_option linter.unusedVariables false
set_option linter.unusedSimpArgs false
namespace Go.Proofs.YtkjccbdeaflekaaGreatDoor.Fw
open Go Go.RowKit
section
variable {P : Program} {T : Tab} {C : Cx} {ops : Array Oper} {o : Oper} {r r' : RS} {s : St} {Q : Post} {N : Nat} {SL : Slots} {BL : List Blk} {OW : List Own} {FA : List Pred} {c : Code}
variable {g : Nat} {ll rr : List Own} {q : Own}
theorem AJ {SL : Slots} (hb : q.b = some g) : (ids ⟨N, SL, BL, ll ++ q :: rr, FA⟩).Perm (g :: (BL.map (·.g) ++ (ll ++ rr).filterMap (·.b))) := by
 simp only [ids, List.filterMap_append, List.filterMap_cons, hb];rw [← List.append_assoc];exact List.perm_middle.trans (by simp [List.append_assoc])
theorem rm {cur : Array Value} {a : Act} {w : World} (hb : q.b = some g) (hrep : Rep C ⟨N, SL, BL, ll ++ q :: rr, FA⟩ a w) (hmine : C.mine g) (hh : w.heap[g]? = some (.cells cur q.e (0, 0))) :
  Rep C ⟨N, SL, ⟨g, q.e, cur.toList⟩ :: BL, ll ++ rr, FA⟩ a w := by
 have hidp := AJ (N := N) (SL := SL) (BL := BL) (FA := FA) (ll := ll) (rr := rr) hb;refine ⟨hrep.sz, hrep.df, hrep.sl, hrep.wo.be, fun k hk => ?_, fun q' hq => hrep.wo.ow q' (by
   rcases List.mem_append.1 hq with h | h
   ·exact List.mem_append_left _ h
   ·exact List.mem_append_right _ (.tail _ h)), ?_, fun F hF => ?_⟩
 ·cases hk with
  | head => exact ⟨by simpa using hh, hmine⟩
  | tail _ hk => exact hrep.wo.bl k hk
 ·have := hidp.nodup_iff.1 hrep.wo.nd;simpa [ids] using this
 ·have hF' := hrep.wo.fa F hF;refine ⟨hF'.1, hF'.1.st _ _ w w hF'.2 ⟨Nr, fun _ _ _ => rfl⟩ fun k _ hm => ?_⟩;rcases hm with hm | hm
  ·exact .inl hm
  ·exact .inr (hidp.mem_iff.2 (by simpa [ids] using hm))
theorem qK {cs : List Value} (hb : q.b = some g) (hok : ∀ w : World, w.heap[g]? = some (.cells cs.toArray q.e (0, 0)) → C.mine g → OwnOk C w q) :
  Le C ⟨N, SL, ⟨g, q.e, cs⟩ :: BL, ll ++ rr, FA⟩ ⟨N, SL, BL, ll ++ q :: rr, FA⟩ := fun a w hr => by
 have hbk := hr.wo.bl _ (.head _);have hidp := AJ (N := N) (SL := SL) (BL := BL) (FA := FA) (ll := ll) (rr := rr) hb;refine ⟨hr.sz, hr.df, hr.sl, hr.wo.be, fun k hk => hr.wo.bl k (.tail _ hk), fun q' hq => ?_, ?_, fun F hF => ?_⟩
 ·rcases List.mem_append.1 hq with hq | hq
  ·exact hr.wo.ow q' (List.mem_append_left _ hq)
  ·cases hq with
   | head => exact hok w hbk.1 hbk.2
   | tail _ hq => exact hr.wo.ow q' (List.mem_append_right _ hq)
 ·refine hidp.nodup_iff.2 ?_;have := hr.wo.nd;simpa [ids] using this
 ·have hF' := hr.wo.fa F hF;refine ⟨hF'.1, hF'.1.st _ _ w w hF'.2 ⟨Nr, fun _ _ _ => rfl⟩ fun k _ hm => ?_⟩;rcases hm with hm | hm
  ·exact .inl hm
  ·exact .inr (by have := hidp.mem_iff.1 hm; simpa [ids] using this)
theorem qh {z : Array Value} (hz : z.toList.all (·.oneCell') = true) (h0 : 0 < z.size) (n : Nat) : (Builtin.zeroCells z n).toList.all (·.oneCell') = true := by
 rw [List.all_eq_true] at hz ⊢;intro u hu;simp only [Builtin.zeroCells, Array.toList_map, List.mem_map] at hu;obtain ⟨i, _, rfl⟩ := hu;have hlt : i % z.size < z.size := Nat.mod_lt _ h0;rw [getElem!_pos z _ hlt];exact hz _ (by simp)
theorem uv : ∀ (vs cs : List Value) (off : Nat), (putAt cs off vs).take off = cs.take off := by
 intro vs;induction vs with
 | nil => intro cs off; simp [putAt]
 | cons v vs ih =>
  intro cs off;simp only [putAt];have h1 := ih (cs.set off v) (off + 1);have h2 : (putAt (cs.set off v) (off + 1) vs).take off = ((putAt (cs.set off v) (off + 1) vs).take (off + 1)).take off := by rw [List.take_take]; congr 1; omega
  rw [h2, h1, List.take_take, show min off (off + 1) = off by omega, List.take_set_of_le (by omega)]
variable {X : SlV} {b : Option Nat} {e : TypeId} {g0 : Bool} {α : Type} {t : Nat} {x : Operand}
theorem zU (E : El α) (l : List α) (k : Nat) {agg : Bool} {z : List Value} {ow' : List Own} {D : List Nat} (hf : Front ops r o D r')
  (hgD : (∃ l, r = .sq l) ∨ ∀ g, b = some g → g ∈ D) (hg : Guard ops SL o true) (hd : o.dst = none) (ho : o.op = .call ⟨.builtin .clear, ⟨[x]⟩, ⟨[t]⟩⟩)
  (he : ev SL x = some (g0, (⟨slA X.a X.c k E.esz, X.c - k⟩ : SlV).val (l.drop k).length)) (hg0 : g0 = true) (ht : T.slc t = some e) (hz : T.siz e = some (E.esz, agg)) (hzz : T.zer e = some z) (hzl : z.length = E.esz) (hz1 : z.all (·.oneCell') = true) (hpos : Nat.blt 0 E.esz = true)
  (hk : k ≤ l.length) (hu : UpdO OW (ownL E e X b l) [ownL E e X b (l.take k)] ow')
  (h : RW P T C ops r' ⟨N, SL, BL, ow', FA⟩ Q) : RW P T C ops r ⟨N, SL, BL, OW, FA⟩ Q := by
 have key : Loud P T C ⟨N, SL, BL, OW, FA⟩ o b.toList (fun s' => s' = ⟨N, SL, BL, ow', FA⟩) := by
  intro hT a w hrep;have hpos := Nat.le_of_ble_eq_true hpos;obtain ⟨ll, rr, e1, e2⟩ := hu.spec;have e2 : ow' = ll ++ (ownL E e X b (l.take k) :: rr) := by rw [e2]; rfl
  have hq := hrep.wo.ow (ownL E e X b l) (by rw [e1]; simp);obtain ⟨h1, h2, h3⟩ := hq;simp only at h1 h2 h3;have hu' := hT.slc _ _ ht;obtain ⟨tt, d', q1, q2, q3, q4⟩ := hT.siz _ _ _ hz;obtain ⟨ti'', zv, hi'', hz'', hzc⟩ := hT.zer _ _ hzz;rw [q1] at hi'';cases hi'';have hlt : (l.take k).length = k := by simp; omega
  have hkb : k * E.by_ ≤ l.length * E.by_ := Nat.mul_le_mul_right _ hk;have hke : k * E.esz ≤ l.length * E.esz := Nat.mul_le_mul_right _ hk;have hflat : (l.flatMap E.enc).length = l.length * E.esz := eN l fun a _ => E.len a;have hs : l.flatMap E.enc = (l.take k).flatMap E.enc ++ (l.drop k).flatMap E.enc := by rw [← List.flatMap_append, List.take_append_drop]
  have hlk' : ((l.take k).flatMap E.enc).length = k * E.esz := by rw [eN _ fun a _ => E.len a, hlt]
  have hflk : ((l.take k).flatMap E.enc) = (l.flatMap E.enc).take (k * E.esz) := by
   rw [hs, ← hlk', List.take_left]
  by_cases hz0 : l.length = k
  ·
   have hrun : (execOp a.eval o).run P w = .ok (.value (.tuple #[])) w := by
    have hm : (l.drop k).length = 0 := by simp; omega
    simp only [execOp, ho, resolve, invoke, builtin, Sem.run_bind, Sem.run_pure, Result.andThen_ok, List.map_toArray, List.map_cons, List.map_nil, ev_ok hrep.sl he hg0, SlV.val, hm];simp only [Builtin.clear_, List.getElem?_toArray, List.getElem?_cons_zero, run_underlying hu', Sem.run_bind, Result.andThen_ok];cases slA X.a X.c k E.esz <;> simp
   unfold Oper.wp;rw [hrun, Oper.upon_value, hd];have hlk : l.take k = l := List.take_of_length_le (by omega);refine ⟨_, rfl, ?_, Keeps.refl _ _⟩;rw [e2, hlk, ← e1];exact ⟨hrep.sz, hrep.df, hrep.sl, hrep.wo⟩
  ·cases b with
   | none => omega
   | some g =>
    obtain ⟨hmine, cap, cur, hv, hh, hnc, hcap, hcs, htake⟩ := h3;simp only [SlV.val, Value.slice.injEq, true_and] at hv;have hsz : cur.toList.length = cap * E.esz := by rw [Array.length_toList]; exact hcs
    have hcc : l.length * E.esz ≤ cap * E.esz := Nat.mul_le_mul_right _ hnc;have hm : (l.drop k).length = l.length - k := by simp
    have hzs : zv.cells.size = E.esz := by rw [← hzl, ← hzc]; simp
    have hzz1 : (Builtin.zeroCells zv.cells (l.length - k)).toList.all (·.oneCell') = true := qh (by rw [← hzc] at hz1; exact hz1) (by omega) _;have hzlen : (Builtin.zeroCells zv.cells (l.length - k)).toList.length = (l.length - k) * E.esz := by rw [Array.length_toList, size_zeroCells, hzs]
    have hadd : k * E.esz + (l.length - k) * E.esz = l.length * E.esz := by rw [← Nat.add_mul]; congr 1; omega
    have hrep2 := rm (q := ownL E e X (some g) l) (g := g) (cur := cur) rfl (by rw [e1] at hrep; exact hrep) hmine hh;obtain ⟨w', hr, hS⟩ := jz (P := P) (Builtin.zeroCells zv.cells (l.length - k)).toList w cur.toList 0 (k * E.esz) (hrep2.wo.bl _ (.head _)).1 (by rw [hzlen, hsz]; omega) (fun v hv => List.all_eq_true.1 hzz1 v hv);have hsl : slA X.a X.c k E.esz = some ⟨g, k * E.esz, none⟩ := by
     rw [hv.1, hv.2];unfold slA;have : ¬ cap = k := by omega
     simp [this, Addr.add_lit];try omega
    have hrun : (execOp a.eval o).run P w = .ok (.value (.tuple #[])) w' := by
     simp only [execOp, ho, resolve, invoke, builtin, Sem.run_bind, Sem.run_pure, Result.andThen_ok, List.map_toArray, List.map_cons, List.map_nil, ev_ok hrep.sl he hg0, SlV.val, hm, hsl];have hne : l.length - k ≠ 0 := by omega
     obtain ⟨m, hm'⟩ : ∃ m, l.length - k = m + 1 := ⟨l.length - k - 1, by omega⟩;rw [hm'] at hr ⊢;simp only [Builtin.clear_, List.getElem?_toArray, List.getElem?_cons_zero, run_underlying hu', Sem.run_bind, Result.andThen_ok, lz q1 hz'', hr, Sem.run_pure]
    unfold Oper.wp;rw [hrun, Oper.upon_value, hd];have huniq : ∀ t'', (⟨g, t'', cur.toList⟩ : Blk) ∈ (⟨g, e, cur.toList⟩ :: BL : List Blk) → t'' = e := by
     intro t'' hm'';have h1 := (hrep2.wo.bl _ hm'').1;have h2 := (hrep2.wo.bl _ (.head _)).1;simp only at h1 h2;rw [h1] at h2;simp at h2;exact h2
    have hwo := hrep2.wo.store (t := e) (UpdB.here _ _ _ _ _) huniq hS;refine ⟨_, rfl, ?_, by rw [hS.size]; exact Nr, fun k' _ hk' => hS.far k' fun e' => hk' (by simp [e'])⟩;rw [e2];refine qK (q := ownL E e X (some g) (l.take k)) (g := g) rfl (fun w'' hh'' hmine'' => ?_) _ _ ⟨hrep.sz, hrep.df, hrep.sl, hwo⟩;refine ⟨(by show ((l.take k).flatMap E.enc).length = (l.take k).length * E.esz; rw [hlk', hlt]), ⟨(by show (l.take k).length ≤ _; rw [hlt]; omega), (by show (l.take k).length * E.by_ ≤ _; rw [hlt]; omega)⟩, hmine'', cap, _, ?_, hh'', (by show (l.take k).length ≤ cap; rw [hlt]; omega), hcap, ?_, ?_⟩
    ·simp only [SlV.val, Value.slice.injEq, true_and]; exact hv
    ·simp only [List.size_toArray]; rw [lY]; exact hsz
    ·show List.take ((l.take k).length * E.esz) _ = (l.take k).flatMap E.enc;rw [hlt, hflk, ← htake, List.take_take, Nat.min_eq_left hke];exact uv _ _ _
 have h' : ∀ s', s' = (⟨N, SL, BL, ow', FA⟩ : St) → RW P T C ops r' s' Q := fun s' e => by subst e; exact h
 cases hf with
 | sq => exact rO hg key h'
 | lo _ hi hDD => exact rw_l (.lo b.toList hi hDD) hg key h'
 | an hi hDD =>
  refine rw_l (.an hi hDD) hg (fun hT a w hrep => Oper.wp_mono (fun a' w' ⟨s', h1, h2, h3⟩ => ⟨s', h1, h2, h3.mono fun k hk => ?_⟩) (key hT a w hrep)) h';rcases hgD with ⟨_, e⟩ | e
  ·cases e
  ·exact e k (by simpa using hk)
variable {l : List α}
theorem Dn (E : El α) {h n e esz : Nat} {y : Operand} {g1 G b : Bool} {k : IntKind} {iv : Int} (ho : o.op = .slice t x none (some y) none) (he : ev SL x = some (g0, X.val n)) (hg0 : G = true → g0 = true)
  (hy : ev SL y = some (g1, .int k iv)) (hg1 : G = true → g1 = true) (ht : T.slc t = some e) (hz : T.siz e = some (esz, b)) (hm : RdL E X l ∈ FA) (hi : G = true → iv = (h : Int)) (hle : G = true → h = l.length) : Quiet P T SL BL FA o G (X.val l.length) :=
 fun hT hG a w hsl hw => by
  obtain ⟨_, hrd⟩ := hw.fa _ hm;have h1 := hrd.1;have h2 := hle hG;subst h2;exact rR (P := P) (BL := BL) (FA := FA) ho he hg0 hy hg1 ht hz hi (fun _ => h1) hT hG a w hsl hw
theorem lK (E : El α) (hm : ownL E e X b l ∈ OW) (h : l.length ≤ 9223372036854775807 → l.length * E.by_ ≤ 140737488355328 → CW P T C c ⟨N, SL, BL, OW, FA⟩ Q) : CW P T C c ⟨N, SL, BL, OW, FA⟩ Q := fun hT a w hr =>
 h (hr.wo.ow _ hm).2.1.1 (hr.wo.ow _ hm).2.1.2 hT a w hr
theorem mb {ι : Type} (keep : List Nat) (mask : List Bool) (mS : ι → Slots) (mB : ι → List Blk) (mO : ι → List Own) (mF : ι → List Pred) (inv : ι → Prop) {SL' : Slots} {BL' : List Blk}
  (_hsel : Sel SL keep SL') (_hB : SelB BL mask BL')
  (h : CW P T C c ⟨N, SL, BL, OW, FA⟩ (joinQ C (fun i => ⟨N, mS i ++ SL', mB i ++ BL', mO i, mF i ++ FA⟩) inv Q))
  (hj : ∀ i, inv i → Q .normal ⟨N, mS i ++ SL', mB i ++ BL', mO i, mF i ++ FA⟩) : CW P T C c ⟨N, SL, BL, OW, FA⟩ Q := fun hT a w hr =>
 Code.wp_mono (fun e a w hq => by
  cases e with
  | normal => obtain ⟨s', ⟨i, h1, h2⟩, h3⟩ := hq; exact ⟨_, hj i h1, h2 a w h3⟩
  | exit i => exact hq
  | ret => exact hq
  | goto l => exact hq
  | panic c => exact hq
  | outgrown => exact hq) (h hT a w hr)
end
section
variable {P : Program} {T : Tab} {C : Cx} {ops : Array Oper} {o : Oper} {r r' : RS} {s : St} {Q : Post} {N : Nat} {SL : Slots} {BL : List Blk} {OW : List Own} {FA : List Pred} {c : Code}
theorem xE {Q Q' : Post} (h : ∀ e s, Q e s → Q' e s) (hc : CW P T C c s Q) : CW P T C c s Q' := fun hT a w hr => Code.wp_mono (fun e a w => xn h e a w) (hc hT a w hr)
def onceQ (Q : Post) : Post
 | .normal, _ => False
 | e, s => Q e s
theorem DJ {b : Code} (h : CW P T C b s (onceQ Q)) : CW P T C (.loop b) s Q :=
 AV (ι := Unit) (fun _ => s) (fun _ => True) (fun _ => 0) () trivial Le.refl fun _ _ => xE (fun e s' hq => by
  cases e with
  | normal => exact hq.elim
  | exit i => exact hq
  | ret => exact hq
  | goto l => exact hq
  | panic c => exact hq
  | outgrown => exact hq) h
theorem PreR.sub {pre : List Pred} (h : SubM FA pre) : PreR FA OW pre := by
 induction h with
 | nil => exact .nil _ _
 | cons h _ ih => exact .fact h ih
theorem wrap_u (n : Int) (h : 0 ≤ n ∧ n ≤ 9223372036854775807) : IntKind.u64.wrap n = n := by
 simp only [IntKind.wrap, IntKind.bits]; simp; omega
variable {G g0 : Bool} {a : Int} {t t' : Nat} {x : Operand}
theorem vj (hd : P.underlying t = some (.int .i64)) (hd' : P.underlying t' = some (.int .u64)) (ho : o.op = .convert t t' x) (he : ev SL x = some (g0, .int .i64 a)) (hg0 : G = true → g0 = true)
  (hb : G = true → 0 ≤ a ∧ a ≤ 9223372036854775807) : Quiet P T SL BL FA o G (.int .u64 a) :=
 fun hT hG a' w hsl hw => by
  have h1 := ev_ok hsl he (hg0 hG);have h3 := wrap_u a (hb hG);simp only [execOp, ho, h1, Sem.run_bind, convert, run_underlying hd, run_underlying hd', Result.andThen_ok, Conv.intToInt, h3, Sem.run_pure]
theorem vk (hd : P.underlying t = some (.int .u64)) (hd' : P.underlying t' = some (.int .i64)) (ho : o.op = .convert t t' x) (he : ev SL x = some (g0, .int .u64 a)) (hg0 : G = true → g0 = true)
  (hb : G = true → -9223372036854775808 ≤ a ∧ a ≤ 9223372036854775807) : Quiet P T SL BL FA o G (.int .i64 a) :=
 fun hT hG a' w hsl hw => by
  have h1 := ev_ok hsl he (hg0 hG);have h3 := uZ a (hb hG);simp only [execOp, ho, h1, Sem.run_bind, convert, run_underlying hd, run_underlying hd', Result.andThen_ok, Conv.intToInt, h3, Sem.run_pure]
theorem yn (ho : o.op = .binOp .shr t x (.const (.int .u64 1)) t') (he : ev SL x = some (g0, .int .u64 a)) (hg0 : G = true → g0 = true) : Quiet P T SL BL FA o G (.int .u64 (a / 2)) :=
 fun hT hG a' w hsl hw => by
  have h1 := ev_ok hsl he (hg0 hG);have h3 : (Op.shift .shr .u64 a .u64 1).run P w = .ok (.int .u64 (a / 2)) w := by
   simp [Op.shift, IntKind.bits, Int.fdiv_eq_ediv_of_nonneg]
  simp [execOp, ho, h1, pz, eqGuard, binOp, h3]
variable {X : SlV} {b g1 : Bool} {iv : Int} {kd : IntKind} {y : Operand} {α : Type}
theorem yo (E : El α) {l : List α} {k esz e : Nat} (i : Nat) (ho : o.op = .indexAddr t x y)
  (he : ev SL x = some (g0, (⟨slA X.a X.c k E.esz, X.c - k⟩ : SlV).val (l.drop k).length)) (hg0 : G = true → g0 = true) (hy : ev SL y = some (g1, .int kd iv)) (hg1 : G = true → g1 = true)
  (ht : T.slc t = some e) (hz : T.siz e = some (esz, b)) (hes : E.esz = esz) (hm : RdL E X l ∈ FA) (hi : G = true → iv = (i : Int)) (hlt : G = true → k + i < l.length) :
  Quiet P T SL BL FA o G (.pointer (some (epA X.a (k + i) esz 0))) :=
 fun hT hG a w hsl hw => by
  obtain ⟨ti, d, q1, q2, q3, q4⟩ := hT.siz _ _ _ hz;have h1 := ev_ok hsl he (hg0 hG);have h2 := ev_ok hsl hy (hg1 hG);have hlt := hlt hG;have hi := hi hG;obtain ⟨_, r1, _, _, h4⟩ := hw.fa _ hm;obtain ⟨ad, ha, _⟩ := h4 (by omega);subst hi; subst hes;have hu := hT.slc _ _ ht;have hs : slA X.a X.c k E.esz = some (ad.add (k * E.esz)) := by
   unfold slA;rw [if_neg (by omega), ha]; rfl
  have hdl : (l.drop k).length = l.length - k := List.length_drop;rw [SlV.val, hs, hdl] at h1;simp only [execOp, ho, h1, h2, Instr.indexAt, asIntOf, Sem.run_bind, Sem.run_pure, Result.andThen_ok, run_underlying hu];rw [if_pos (by omega)];simp [dR q1, q2, epA, ha, jd, Nat.add_mul]
theorem vZ (E : El α) (l : List α) (k : Nat) {d : Nat} {e : TypeId} {ob : Option Nat} {ow' : List Own} {D : List Nat} (hf : Front ops r o D r') (hg : Guard ops SL o true) (hd : o.dst = some d) (hn : Nat.blt d N = true)
  (ho : o.op = .slice t x none (some y) none) (hx : ev SL x = some (g0, X.val l.length)) (hg0 : g0 = true) (hy : ev SL y = some (g1, .int kd iv)) (hg1 : g1 = true) (ht : T.slc t = some e) (hz : T.siz e = some (E.esz, b))
  (hu : UpdO OW (ownL E e X ob l) [ownL E e X ob (l.take k)] ow') (hi : iv = (k : Int)) (hk : k ≤ l.length)
  (h : RW P T C ops r' ⟨N, (d, .v (X.val (l.take k).length)) :: SL, BL, ow', FA⟩ Q) : RW P T C ops r ⟨N, SL, BL, OW, FA⟩ Q := by
 have e1 : (l.take k).length = k := by simp; omega
 have e2 : (l.take k).flatMap E.enc = (l.flatMap E.enc).take (k * E.esz) := by
  have hs : l.flatMap E.enc = (l.take k).flatMap E.enc ++ (l.drop k).flatMap E.enc := by rw [← List.flatMap_append, List.take_append_drop]
  have hlk : ((l.take k).flatMap E.enc).length = k * E.esz := by rw [eN _ fun a _ => E.len a, e1]
  rw [hs, ← hlk, List.take_left]
 refine qy (ob := ob) (k := k) (n := l.length) (xs := l.flatMap E.enc) (by_ := E.by_) (ow' := ow') hf hg hd hn ho hx hg0 hy hg1 ht hz ?_ hi hk ?_
 ·have := hu;unfold ownL at this;rw [e1, e2] at this;exact this
 ·have := h;rw [e1] at this;exact this
end
variable {p : Prop}
theorem Bt (h : p := by intro h; first | exact h | (simp only [h, Bool.and_true, Bool.true_and, Bool.and_self]; done) | (simp only [Bool.and_eq_true] at h; simp only [h, Bool.and_true, Bool.and_self]; done) | (clear h; simp only [Bool.true_and, Bool.and_true, Bool.or_not_self, Bool.not_or_self, Bool.not_not, Bool.or_true, Bool.true_or]; done) | (simp only [*, Bool.true_and, Bool.and_true, Bool.or_not_self, Bool.not_or_self, Bool.or_true, Bool.true_or, Bool.not_true, Bool.not_false, Bool.or_false, Bool.false_or, Bool.and_self]; done) | (simp_all; done)) : p := h
theorem Sf (h : p := by (repeat (first | exact .nil _ | exact SubM.all _ | refine .cons (by repeat (first | exact .head _ | apply List.Mem.tail)) ?_ | apply SubM.skip)); done) : p := h
theorem Sm (h : p := by (repeat (first | exact .nil _ | refine .cons (by repeat (first | exact .head _ | apply List.Mem.tail)) ?_)); done) : p := h
theorem Sp (h : p := by (repeat (first | exact .nil _ | refine .cons (by repeat (first | exact .here _ _ | apply Pick.there)) ?_)); done) : p := h
theorem Mm (h : p := by (repeat (first | exact .head _ | apply List.Mem.tail)); done) : p := h
theorem Ub (h : p := by (repeat (first | exact .here _ _ _ _ _ | apply UpdB.there)); done) : p := h
theorem Uo (h : p := by (repeat (first | exact .here _ _ _ | apply UpdO.there)); done) : p := h
theorem Pk (h : p := by (repeat (first | exact .here _ _ | apply Pick.there)); done) : p := h
theorem Kr (h : p := by kernel_rfl) : p := h
theorem Om (h : p := by omega) : p := h
section
variable {P : Program} {T : Tab} {C : Cx} {ops : Array Oper} {o : Oper} {r r' : RS} {s : St} {Q : Post} {N : Nat} {SL : Slots} {BL : List Blk} {OW : List Own} {FA : List Pred} {c : Code}
theorem Rp {d : Nat} {v : Value} {l : List Oper} (hg : o.guard = none) (hd : o.dst = some d) (hn : Nat.blt d N = true) (he : pev T SL o.op = some (true, v))
  (h : RW P T C ops (.sq l) ⟨N, (d, .v v) :: SL, BL, OW, FA⟩ Q) : RW P T C ops (.sq (o :: l)) ⟨N, SL, BL, OW, FA⟩ Q := rw_q hg hd hn (q_pev he (fun _ => rfl)) h
variable {s' : St}
theorem Le4 {C : Cx} (hn : s.n = s'.n := by rfl) (hs : SubS s.sl s'.sl := by repeat (first | exact .nil _ | refine .cons rfl ?_)) (hb : SubP s.bl s'.bl := by repeat (first | exact .nil _ | refine .cons (by repeat (first | exact .here _ _ | apply Pick.there)) ?_)) (ho : SubP s.ow s'.ow := by repeat (first | exact .nil _ | refine .cons (by repeat (first | exact .here _ _ | apply Pick.there)) ?_)) (hf : SubM s.fa s'.fa := by repeat (first | exact .nil _ | refine .cons (by repeat (first | exact .head _ | apply List.Mem.tail)) ?_)) : Le C s s' := Le.of hn hs hb ho hf
theorem Le5 {C : Cx} (hn : s.n = s'.n := by rfl) (hs : SubS s.sl s'.sl := by repeat (first | exact .nil _ | refine .cons rfl ?_)) (hb : SubP s.bl s'.bl := by repeat (first | exact .nil _ | refine .cons (by repeat (first | exact .here _ _ | apply Pick.there)) ?_)) (ho : SubP s.ow s'.ow := by repeat (first | exact .nil _ | refine .cons (by repeat (first | exact .here _ _ | apply Pick.there)) ?_)) (hf : SubM s.fa s'.fa := by repeat (first | exact .nil _ | exact SubM.all _ | refine .cons (by repeat (first | exact .head _ | apply List.Mem.tail)) ?_ | apply SubM.skip)) : Le C s s' := Le.of hn hs hb ho hf
end
section
variable {P : Program} {T : Tab} {C : Cx} {ops : Array Oper} {Q : Post} {N : Nat} {SL : List (Nat × SV)} {BL : List Blk} {OW : List Own} {FA : List Pred} {o : Oper}
theorem pO {fp : Nat → Option (List Nat)} {fuel : Nat} {listed : Array Bool} {i d : Nat} {v : Value} (hi : ops[i]? = some o) (hg : o.guard = none) (hd : o.dst = some d) (hn : Nat.blt d N = true) (hq : Quiet P T SL BL FA o true v)
  (h : RW P T C ops (.an fp fuel (listed.setIfInBounds i true)) ⟨N, (d, .v v) :: SL, BL, OW, FA⟩ Q) : RW P T C ops (.at_ fp fuel listed i) ⟨N, SL, BL, OW, FA⟩ Q := by
 intro hT a w hrep;have hs : Bi BL OW FA (some []) BL FA := ⟨rfl, _, iL.all _, by simp⟩;have hk := qj hrep.wo hs (hY.refl _ _);have hG := (au (ops := ops) (SL := SL) hg) a hrep.sl;unfold wpR wpOp;simp only [hi];rw [if_pos hG];refine .inl ?_;unfold Oper.wp;rw [hq hT rfl a w hrep.sl hk, Oper.upon_value, hd];exact ⟨hY.refl _ _, h hT _ _ (hrep.putv (Nat.le_of_ble_eq_true hn) (by simp [SV.ok]) hrep.wo)⟩
end
section
variable {G α : Type}
def updG (γ : Nat → G) (i : Nat) (g : G) : Nat → G := fun j => if j = i then g else γ j
def appG (γ : Nat → G) (n : Nat) (δ : Nat → G) : Nat → G := fun j => if j < n then γ j else δ (j - n)
def dropG (γ : Nat → G) (k : Nat) : Nat → G := fun j => γ (k + j)
theorem qg {γ δ : Nat → G} : ∀ {l : List α} {k m : Nat}, (∀ i, i < l.length → γ (k + i) = δ (m + i)) → zipG γ k l = zipG δ m l
 | [], _, _, _ => rfl
 | a :: r, k, m, h => by
  rw [zipG, zipG];have h0 := h 0 (by simp);simp only [Nat.add_zero] at h0;rw [h0, qg (k := k + 1) (m := m + 1) fun i hi => ?_];have := h (i + 1) (by simp; omega)
  rwa [show k + 1 + i = k + (i + 1) by omega, show m + 1 + i = m + (i + 1) by omega]
theorem xU (γ : Nat → G) : ∀ (l m : List α) (k : Nat), zipG γ k (l ++ m) = zipG γ k l ++ zipG γ (k + l.length) m
 | [], m, k => by simp [zipG]
 | a :: r, m, k => by
  simp only [List.cons_append, zipG, List.length_cons];rw [xU γ r m (k + 1), show k + 1 + r.length = k + (r.length + 1) by omega]
theorem sJ (γ δ : Nat → G) (l m : List α) : zipG γ 0 l ++ zipG δ 0 m = zipG (appG γ l.length δ) 0 (l ++ m) := by
 rw [xU];congr 1
 ·exact qg fun i hi => by simp [appG, hi]
 ·refine qg fun i _ => ?_;simp only [appG, Nat.zero_add];rw [if_neg (by omega)]; congr 1; omega
theorem qf (γ : Nat → G) : ∀ (l : List α) (n k : Nat), (zipG γ k l).take n = zipG γ k (l.take n)
 | [], n, k => by simp [zipG]
 | a :: r, 0, k => by simp [zipG]
 | a :: r, n + 1, k => by simp [zipG, qf γ r n (k + 1)]
theorem uj (γ : Nat → G) : ∀ (l : List α) (n k : Nat), (zipG γ k l).drop n = zipG γ (k + n) (l.drop n)
 | [], n, k => by simp [zipG]
 | a :: r, 0, k => by simp [zipG]
 | a :: r, n + 1, k => by
  simp only [zipG, List.drop_succ_cons];rw [uj γ r n (k + 1), show k + 1 + n = k + (n + 1) by omega]
theorem sI (γ : Nat → G) (l : List α) (n : Nat) : (zipG γ 0 l).drop n = zipG (dropG γ n) 0 (l.drop n) := by
 rw [uj];exact qg fun i _ => by simp [dropG]
theorem xS (γ : Nat → G) (g : G) (a : α) : ∀ (l : List α) (i k : Nat), (zipG γ k l).set i (g, a) = zipG (updG γ (k + i) g) k (l.set i a)
 | [], i, k => by simp [zipG]
 | b :: r, 0, k => by
  simp only [zipG, List.set_cons_zero, Nat.add_zero, updG, if_pos];congr 1;exact qg fun i _ => by simp only [updG]; rw [if_neg (by omega)]
 | b :: r, i + 1, k => by
  simp only [zipG, List.set_cons_succ];rw [xS γ g a r i (k + 1), show k + 1 + i = k + (i + 1) by omega];congr 1;simp only [updG]; rw [if_neg (by omega)]
end
section
variable {α : Type} [Inhabited α] (EN : En α)
abbrev ownN (e : TypeId) (X : SlV) (b : Option Nat) (γ : Nat → EN.G) (l : List α) : Own := ownL EN.E e X b (zipG γ 0 l)
variable {M : Nat → Prop} {a : α} {g : EN.G} {l : List α} {w : World} {γ : Nat → EN.G}
theorem FactsG.upd {i : Nat} (h : FactsG EN γ l M w) (hn : AllF (EN.facts (g, a)) M w) : FactsG EN (updG γ i g) (l.set i a) M w := fun j hj => by
 rw [List.length_set] at hj;by_cases hji : j = i
 ·subst hji;have h2 : gt (l.set j a) j = a := by simp [gt, List.getD_eq_getElem?_getD, hj]
  rw [h2];simp only [updG, if_pos]; exact hn
 ·have h1 : updG γ i g j = γ j := by simp [updG, hji]
  have h2 : gt (l.set i a) j = gt l j := by simp [gt, List.getD_eq_getElem?_getD, List.getElem?_set_ne (fun h : i = j => hji h.symm)]
  rw [h1, h2]; exact h j hj
theorem FactsG.app {δ : Nat → EN.G} {m : List α} (h : FactsG EN γ l M w) (h' : FactsG EN δ m M w) : FactsG EN (appG γ l.length δ) (l ++ m) M w := fun j hj => by
 rw [List.length_append] at hj;by_cases hjl : j < l.length
 ·have h1 : appG γ l.length δ j = γ j := by simp [appG, hjl]
  have h2 : gt (l ++ m) j = gt l j := by simp [gt, List.getD_eq_getElem?_getD, List.getElem?_append_left hjl]
  rw [h1, h2]; exact h j hjl
 ·have h1 : appG γ l.length δ j = δ (j - l.length) := by simp [appG, hjl]
  have h2 : gt (l ++ m) j = gt m (j - l.length) := by simp [gt, List.getD_eq_getElem?_getD, List.getElem?_append_right (Nat.le_of_not_lt hjl)]
  rw [h1, h2]; exact h' _ (by omega)
theorem FactsG.take (n : Nat) (h : FactsG EN γ l M w) : FactsG EN γ (l.take n) M w := fun j hj => by
 rw [List.length_take] at hj;have h2 : gt (l.take n) j = gt l j := by simp [gt, List.getD_eq_getElem?_getD, List.getElem?_take, show j < n by omega]
 rw [h2]; exact h j (by omega)
theorem FactsG.drop (n : Nat) (h : FactsG EN γ l M w) : FactsG EN (dropG γ n) (l.drop n) M w := fun j hj => by
 rw [List.length_drop] at hj;have h2 : gt (l.drop n) j = gt l (n + j) := by simp [gt, List.getD_eq_getElem?_getD]
 rw [h2]; exact h _ (by omega)
theorem qu (γ : Nat → EN.G) (l : List α) : Stab (FactsG EN γ l) := inferInstance
theorem FactsG.nil (γ : Nat → EN.G) (M : Nat → Prop) (w : World) : FactsG EN γ [] M w := fun j hj => absurd hj (by simp)
theorem FactsG.one (h : AllF (EN.facts (g, a)) M w) : FactsG EN (fun _ => g) [a] M w := fun j hj => by
 have : j = 0 := by simp at hj; omega
 subst this;exact h
theorem FactsG.const (h : ∀ a ∈ l, AllF (EN.facts (g, a)) M w) : FactsG EN (fun _ => g) l M w := fun j hj => h _ (gJ hj)
theorem RdN.ofG {X : SlV} (h : RdG EN X γ l M w) (hf : FactsG EN γ l M w) : RdN EN X l M w := ⟨γ, h, hf⟩
end
section
variable {P : Program} {T : Tab} {C : Cx} {ops : Array Oper} {o : Oper} {r r' : RS} {Q : Post} {N : Nat} {SL : Slots} {BL : List Blk} {OW : List Own} {FA : List Pred}
variable {D : List Nat} {α : Type} {X : SlV} {b : Option Nat} {bb g0 g1 : Bool} {e : TypeId} {n t : Nat} {ow' : List Own} {v : Value} {vs : List Value} {x y : Operand}
theorem zQ [Inhabited α] (EN : En α) (γ : Nat → EN.G) (l : List α) (i o2 : Nat) (g : EN.G) (p : α) (hf : Front ops r o D r')
  (hgD : (∃ l, r = .sq l) ∨ ∀ g, b = some g → g ∈ D) (hg : Guard ops SL o true) (hd : o.dst = none) (ho : o.op = .store t x y)
  (he : ev SL x = some (g0, .pointer (some (epA X.a i EN.E.esz o2)))) (hg0 : g0 = true) (hev : ev SL y = some (g1, v)) (hg1 : g1 = true) (hs : T.siz t = some (n, bb)) (hvc : v.cells = vs.toArray) (hvn : vs.length = n)
  (hone : vs.all (·.oneCell') = true) (hle : Nat.ble (o2 + n) EN.E.esz = true) (hlt : i < l.length) (hp : EN.E.enc (g, p) = putAt (EN.E.enc (γ i, gt l i)) o2 vs) (hu : UpdO OW (ownN EN e X b γ l) [ownN EN e X b (updG γ i g) (l.set i p)] ow')
  (h : RW P T C ops r' ⟨N, SL, BL, ow', FA⟩ Q) : RW P T C ops r ⟨N, SL, BL, OW, FA⟩ Q := by
 have hu' : UpdO OW (ownL EN.E e X b (zipG γ 0 l)) [ownL EN.E e X b ((zipG γ 0 l).set i (g, p))] ow' := by
  rw [xS, Nat.zero_add]; exact hu
 exact CD EN.E (zipG γ 0 l) i o2 (g, p) hf hgD hg hd ho he hg0 hev hg1 hs hvc hvn hone hle (by rw [dL]; exact hlt) (by rw [w8 γ hlt]; exact hp) hu' h
theorem yc [Inhabited α] (EN : En α) (γ : Nat → EN.G) (l : List α) (i o2 : Nat) (g0' : EN.G) (p0 : α) (g : EN.G) (p : α) (hf : Front ops r o D r')
  (hgD : (∃ l, r = .sq l) ∨ ∀ g, b = some g → g ∈ D) (hg : Guard ops SL o true) (hd : o.dst = none) (ho : o.op = .store t x y)
  (he : ev SL x = some (g0, .pointer (some (epA X.a i EN.E.esz o2)))) (hg0 : g0 = true) (hev : ev SL y = some (g1, v)) (hg1 : g1 = true) (hs : T.siz t = some (n, bb)) (hvc : v.cells = vs.toArray) (hvn : vs.length = n)
  (hone : vs.all (·.oneCell') = true) (hle : Nat.ble (o2 + n) EN.E.esz = true) (hlt : i < l.length) (hp : EN.E.enc (g, p) = putAt (EN.E.enc (g0', p0)) o2 vs) (hu : UpdO OW (ownN EN e X b (updG γ i g0') (l.set i p0)) [ownN EN e X b (updG γ i g) (l.set i p)] ow')
  (h : RW P T C ops r' ⟨N, SL, BL, ow', FA⟩ Q) : RW P T C ops r ⟨N, SL, BL, OW, FA⟩ Q := by
 have e1 : gt (l.set i p0) i = p0 := by simp [gt, List.getD_eq_getElem?_getD, hlt]
 have e2 : updG γ i g0' i = g0' := by simp [updG]
 have e3 : updG (updG γ i g0') i g = updG γ i g := by funext j; simp only [updG]; split <;> rfl
 have e4 : (l.set i p0).set i p = l.set i p := List.set_set ..;refine zQ EN (updG γ i g0') (l.set i p0) i o2 g p hf hgD hg hd ho he hg0 hev hg1 hs hvc hvn hone hle (by rw [List.length_set]; exact hlt) (by rw [e1, e2]; exact hp) (by rw [e3, e4]; exact hu) h
theorem jS [Inhabited α] (EN : En α) (γ δ : Nat → EN.G) (l m : List α) {d : Nat} {z : List Value} {agg : Bool} {ow' : SlV → Option Nat → List Own} (hf : Front ops r o D r') (hbD : ∀ g, b = some g → (∃ l, r = .sq l) ∨ g ∈ D) (hg : Guard ops SL o true) (hd : o.dst = some d) (hn : Nat.blt d N = true)
  (ho : o.op = .call ⟨.builtin .append, ⟨[x, y]⟩, ⟨[t, t]⟩⟩) (hx : ev SL x = some (g0, X.val l.length)) (hg0 : g0 = true) (hy : ev SL y = some (g1, v)) (hg1 : g1 = true)
  (hu : ∀ (X' : SlV) b', UpdO OW (ownN EN e X b γ l) [ownN EN e X' b' (appG γ l.length δ) (l ++ m)] (ow' X' b'))
  (ht : T.slc t = some e) (hz : T.siz e = some (EN.E.esz, agg)) (hzz : T.zer e = some z) (hzl : z.length = EN.E.esz) (hby : T.byt e = some EN.E.by_) (hpos : Nat.blt 0 EN.E.esz = true) (hbp : Nat.blt 0 EN.E.by_ = true)
  (hr : Reads ⟨N, SL, BL, OW, FA⟩ C EN.E.esz v m.length ((zipG δ 0 m).flatMap EN.E.enc)) (hb : (l.length + m.length) * EN.E.by_ ≤ 140737488355328)
  (h : ∀ (X' : SlV) (b' : Option Nat), RW P T C ops r' ⟨N, (d, .v (X'.val (l ++ m).length)) :: SL, BL, ow' X' b', FA⟩ Q) : RW P T C ops r ⟨N, SL, BL, OW, FA⟩ Q := by
 have e1 := sJ γ δ l m;refine kq EN.E (zipG γ 0 l) (zipG δ 0 m) (ow' := ow') hf hbD hg hd hn ho (by rw [dL]; exact hx) hg0 hy hg1 (fun X' b' => by rw [e1]; exact hu X' b') ht hz hzz hzl hby hpos hbp (by rw [dL]; exact hr) (by rw [dL, dL]; exact hb) fun X' b' => ?_;rw [e1, dL];exact h X' b'
variable {EN : En α} {l : List α} {γ : Nat → EN.G}
theorem uq [Inhabited α] (hm : ownN EN e X b γ l ∈ OW) : Reads ⟨N, SL, BL, OW, FA⟩ C EN.E.esz (X.val l.length) l.length ((zipG γ 0 l).flatMap EN.E.enc) := by
 have := ur (N := N) (SL := SL) (BL := BL) (FA := FA) (C := C) hm
 rwa [dL] at this
theorem lB [Inhabited α] (hm : RdG EN X γ l ∈ FA) : Reads ⟨N, SL, BL, OW, FA⟩ C EN.E.esz (X.val l.length) l.length ((zipG γ 0 l).flatMap EN.E.enc) := by
 have := oH (N := N) (SL := SL) (BL := BL) (OW := OW) (C := C) hm
 rwa [dL] at this
end
section
variable {P : Program} {T : Tab} {C : Cx} {ops : Array Oper} {o : Oper} {r r' : RS} {s : St} {Q : Post} {N : Nat} {SL : Slots} {BL : List Blk} {OW : List Own} {FA : List Pred}
variable {D : List Nat} {b g0 g1 : Bool} {d e n t : Nat} {x y : Operand} {z : List Value}
theorem yZ {esz by_ : Nat} {cs : List Value} (hf : Front ops r o D r') (hg : Guard ops SL o true) (hd : o.dst = some d) (hn : Nat.blt d N = true) (ho : o.op = .makeSlice t x y)
  (hx : ev SL x = some (g0, .int .i64 (n : Int))) (hg0 : g0 = true) (hy : ev SL y = some (g1, .int .i64 (n : Int))) (hg1 : g1 = true)
  (ht : T.slc t = some e) (hz : T.siz e = some (esz, b)) (hzz : T.zer e = some z) (hzl : z.length = esz) (hby : T.byt e = some by_) (hnb : Nat.ble (n * by_) 140737488355328 = true) (hpos : Nat.blt 0 esz = true) (hcs : kC z (n * esz) = cs) (hsm : Nat.ble (n * esz) 16777216 = true)
  (h : ∀ (X : SlV) (b' : Option Nat), RW P T C ops r' ⟨N, (d, .v (X.val n)) :: SL, BL, ⟨X.val n, b', e, esz, by_, n, cs⟩ :: OW, FA⟩ Q) : RW P T C ops r ⟨N, SL, BL, OW, FA⟩ Q :=
 uo hf hg hd hn (K := fun u bl ow fa => ∃ (X : SlV) (b' : Option Nat), u = X.val n ∧ bl = BL ∧ ow = ⟨X.val n, b', e, esz, by_, n, cs⟩ :: OW ∧ fa = FA)
  (fun hT a w hrep => by
   obtain ⟨ti, dd, q1, q2, q3, q4⟩ := hT.siz _ _ _ hz;obtain ⟨ti', zv, p1, p2, p3⟩ := hT.zer _ _ hzz;obtain ⟨ti2, r1, r2⟩ := hT.byt _ _ hby;have hsm := Nat.le_of_ble_eq_true hsm;have hnb := Nat.le_of_ble_eq_true hnb;have hpos : 0 < esz := Nat.le_of_ble_eq_true hpos;have hns : n ≤ n * esz := Nat.le_mul_of_pos_right _ hpos;have hcl : cs.length = n * esz := by rw [← hcs]; simp [kC]
   refine ⟨.slice (some ⟨w.heap.size, 0, none⟩) n n, _, BL, _, FA, ?_, hrep.wo.allocO e esz by_ n cs hcl (by omega) hnb, pu _ _ _, ⟨some ⟨w.heap.size, 0, none⟩, n⟩, some w.heap.size, rfl, rfl, rfl, rfl⟩;have h1 := ev_ok hrep.sl hx hg0;have h2 := ev_ok hrep.sl hy hg1;have hw := uZ (n : Int) (by omega);have e1 : ti.bytes = by_ := by rw [q1] at r1; cases r1; exact r2
   have e2 : ¬ ((by_ : Int) * (n : Int) > 2 ^ 48) := by
    have : ((n * by_ : Nat) : Int) ≤ 140737488355328 := by omega
    rw [Int.natCast_mul, Int.mul_comm] at this; omega
   have e3 : ¬ n * by_ > roomBytes := by
    show ¬ n * by_ > 2 ^ 47;omega
   simp only [execOp, ho, Instr.makeSlice, h1, h2, Sem.run_bind, run_underlying (hT.slc _ _ ht), Result.andThen_ok, asInt, asIntOf, Sem.run_pure, nk q1, hw, e1];rw [if_neg (by
    simp only [Bq, not_or];exact ⟨⟨⟨by omega, e2⟩, by omega⟩, by omega⟩)]
   simp only [Int.toNat_natCast, askRoom, if_neg e3, Sem.run_bind, Sem.run_pure, Result.andThen_ok, dR q1, q2];have hz2 : (Array.range (n * esz)).map (fun x => zv.cells[x % zv.cells.size]!) = cs.toArray := by
    apply Array.ext';rw [← hcs];simp only [Array.toList_map, Array.toList_range, kC];refine List.map_congr_left fun i hi => ?_;have hzs : zv.cells.size = z.length := by rw [← p3]; simp
    have hlt : i % z.length < z.length := Nat.mod_lt _ (by omega);rw [hzs, getElem!_pos zv.cells (i % z.length) (by omega)];have hlt' : i % z.length < zv.cells.size := by omega
    have hg : zv.cells.toList[i % z.length]? = some (zv.cells[i % z.length]'hlt') := by
     rw [Array.getElem?_toList];exact Array.getElem?_eq_getElem hlt'
    rw [p3] at hg;rw [hg];rfl
   by_cases h0 : n * esz = 0
   ·rw [if_pos h0];have hc0 : cs = [] := List.length_eq_zero_iff.1 (by omega);subst hc0;simp [h0, newRow];rw [show (Array.range 0) = #[] from rfl, Array.map_empty]
   ·rw [if_neg h0];simp only [Sem.run_bind, lz p1 p2, Result.andThen_ok, Sem.run_pure, hz2];simp [newRow])
  (fun u bl ow fa ⟨X, b', e1, e2, e3, e4⟩ => by subst e1; subst e2; subst e3; subst e4; exact h X b')
theorem ni {α : Type} (E : El α) (l : List α) (hf : Front ops r o D r') (hg : Guard ops SL o true) (hd : o.dst = some d) (hn : Nat.blt d N = true) (ho : o.op = .makeSlice t x y)
  (hx : ev SL x = some (g0, .int .i64 (n : Int))) (hg0 : g0 = true) (hy : ev SL y = some (g1, .int .i64 (n : Int))) (hg1 : g1 = true) (hnl : n = l.length)
  (ht : T.slc t = some e) (hz : T.siz e = some (E.esz, b)) (hzz : T.zer e = some z) (hzl : z.length = E.esz) (hby : T.byt e = some E.by_) (hnb : Nat.ble (n * E.by_) 140737488355328 = true) (hpos : Nat.blt 0 E.esz = true) (hcs : kC z (n * E.esz) = l.flatMap E.enc) (hsm : Nat.ble (n * E.esz) 16777216 = true)
  (h : ∀ (X : SlV) (b' : Option Nat), RW P T C ops r' ⟨N, (d, .v (X.val l.length)) :: SL, BL, ownL E e X b' l :: OW, FA⟩ Q) : RW P T C ops r ⟨N, SL, BL, OW, FA⟩ Q := by
 subst hnl;exact yZ hf hg hd hn ho hx hg0 hy hg1 ht hz hzz hzl hby hnb hpos hcs hsm h
end
theorem sY : ∀ (l cs : List Value) (n : Nat), cs.length = n + l.length → putAt cs n l = cs.take n ++ l
 | [], cs, n, h => by simp only [putAt, List.append_nil]; rw [List.take_of_length_le (by simp at h; omega)]
 | v :: l, cs, n, h => by
  rw [putAt, sY l _ (n + 1) (by simp at h ⊢; omega)];have hn : n < cs.length := by simp at h; omega
  rw [List.take_set, List.take_succ_eq_append_getElem hn, List.set_append_right _ _ (by simp; omega)];simp [Nat.min_eq_left (Nat.le_of_lt hn)]
variable {k : Nat} {l z : List Value}
theorem kO {v : Value} (hv : v.cells.toList = l) (hl : l.length = k) : fillL ((List.range 1).map fun i => (i * k, k)) (kC z (1 * k)) [(0, v)] = some l := by
 subst hl;have h0 : (kC z (1 * l.length)).length = 0 + l.length := by simp [kC]
 simp only [fillL, List.range_one, List.map_cons, List.map_nil, List.getElem?_cons_zero, hv, Nat.beq_refl];have h1 : Nat.ble (0 * l.length + l.length) (kC z (1 * l.length)).length = true := by rw [h0]; simp
 rw [h1];simp only;rw [show 0 * l.length = 0 by simp, sY _ _ _ h0]; simp
def mkparts : Nat → List Value → List (Nat × Value)
 | _, [] => []
 | i, v :: r => (i, v) :: mkparts (i + 1) r
theorem v8 : ∀ (vs cs : List Value) (n : Nat), (putAt cs n vs).length = cs.length
 | [], _, _ => rfl
 | v :: vs, cs, n => by rw [putAt, v8 vs]; simp
theorem sZ : ∀ (vs cs : List Value) (n : Nat), n + vs.length ≤ cs.length → (putAt cs n vs).take (n + vs.length) = cs.take n ++ vs
 | [], cs, n, _ => by simp [putAt]
 | v :: vs, cs, n, h => by
  simp only [List.length_cons] at h;have h1 := sZ vs (cs.set n v) (n + 1) (by simp; omega);rw [putAt, List.length_cons, show n + (vs.length + 1) = n + 1 + vs.length by omega, h1];have hn : n < cs.length := by omega
  rw [List.take_set, List.take_succ_eq_append_getElem hn, List.set_append_right _ _ (by simp; omega)];simp [Nat.min_eq_left (Nat.le_of_lt hn)]
theorem wD {k n : Nat} : ∀ (vs : List Value) (i : Nat) (cs : List Value), cs.length = n * k → i + vs.length = n → (∀ v ∈ vs, v.cells.toList.length = k) → fillL ((List.range n).map fun i => (i * k, k)) cs (mkparts i vs) = some (cs.take (i * k) ++ vs.flatMap (fun v => v.cells.toList))
 | [], i, cs, hc, hi, _ => by
  have : cs.length ≤ i * k := by rw [hc, ← hi]; simp
  simp [mkparts, fillL, List.take_of_length_le this]
 | v :: vs, i, cs, hc, hi, hv => by
  simp only [List.length_cons] at hi;have hvk := hv v (.head _);have hle : i * k + k ≤ cs.length := by rw [hc, ← Nat.succ_mul]; exact Nat.mul_le_mul_right k (by omega)
  have hg : ((List.range n).map fun i => (i * k, k))[i]? = some (i * k, k) := by simp [show i < n by omega]
  rw [mkparts, fillL, hg];simp only [hvk, Nat.beq_refl];have hb : Nat.ble (i * k + k) cs.length = true := Nat.ble_eq_true_of_le hle;rw [hb];simp only;rw [wD vs (i + 1) _ (by rw [v8]; exact hc) (by omega) fun w hw => hv w (.tail _ hw)];have h2 := sZ v.cells.toList cs (i * k) (by omega);rw [hvk] at h2;rw [Nat.succ_mul, h2, List.flatMap_cons, List.append_assoc]
theorem zq {n : Nat} {ps : List (Nat × Value)} (vs : List Value) (hp : ps = mkparts 0 vs) (hv : ∀ v ∈ vs, v.cells.toList.length = k) (hn : vs.length = n) (hl : vs.flatMap (fun v => v.cells.toList) = l) : fillL ((List.range n).map fun i => (i * k, k)) (kC z (n * k)) ps = some l := by
 subst hp hl;rw [wD vs 0 _ (by simp [kC]) (by omega) hv]; simp
end Go.Proofs.YtkjccbdeaflekaaGreatDoor.Fw
namespace Go.Proofs.YtkjccbdeaflekaaGreatDoor.Fw
open Go Go.RowKit
section
variable {P : Program} {T : Tab} {C : Cx} {ops : Array Oper} {o : Oper} {r r' : RS} {s : St} {Q : Post} {N : Nat} {SL : Slots} {BL : List Blk} {OW : List Own} {FA : List Pred} {c : Code}
variable {X : SlV} {b : Option Nat} {e : TypeId} {α : Type} {l : List α}
theorem vp {E : El α} {w : World} (h : OwnOk C w (ownL E e X b l)) : l.length ≤ X.c ∧ X.c ≤ 9223372036854775807 := by
 obtain ⟨h1, h2, h3⟩ := h;cases b with
 | none =>
  obtain ⟨h0, A, hA⟩ := h3;simp only [SlV.val, Value.slice.injEq] at hA;simp only at h0;omega
 | some g =>
  obtain ⟨_, cap, cur, hv, _, hnc, hcap, _⟩ := h3;simp only [SlV.val, Value.slice.injEq, true_and] at hv;simp only at hnc;omega
theorem DK (E : El α) (hm : ownL E e X b l ∈ OW) (h : l.length ≤ X.c ∧ X.c ≤ 9223372036854775807 → CW P T C c ⟨N, SL, BL, OW, FA⟩ Q) : CW P T C c ⟨N, SL, BL, OW, FA⟩ Q := fun hT a w hr =>
 h (vp (hr.wo.ow _ hm)) hT a w hr
variable {D : List Nat} {agg g0 : Bool} {t : Nat} {x : Operand}
theorem v5 (E : El α) (l : List α) (i j : Nat) {d : Nat} {y : Operand} {g1 : Bool} {ow' : List Own} (hf : Front ops r o D r')
  (hgD : (∃ l, r = .sq l) ∨ ∀ g, b = some g → g ∈ D) (hg : Guard ops SL o true) (hd : o.dst = some d) (hn : Nat.blt d N = true)
  (ho : o.op = .call ⟨.builtin .append, ⟨[x, y]⟩, ⟨[t, t]⟩⟩) (hx : ev SL x = some (g0, X.val (l.take i).length)) (hg0 : g0 = true) (hy : ev SL y = some (g1, (⟨slA X.a X.c j E.esz, X.c - j⟩ : SlV).val (l.drop j).length)) (hg1 : g1 = true)
  (ht : T.slc t = some e) (hz : T.siz e = some (E.esz, agg)) (hij : i ≤ j) (hj : j ≤ l.length)
  (hu : UpdO OW (ownL E e X b l) [ownL E e X b (l.take i ++ l.drop j)] ow')
  (h : RW P T C ops r' ⟨N, (d, .v (X.val (l.take i ++ l.drop j).length)) :: SL, BL, ow', FA⟩ Q) : RW P T C ops r ⟨N, SL, BL, OW, FA⟩ Q := by
 have key : Loud P T C ⟨N, SL, BL, OW, FA⟩ o b.toList (fun s' => s' = ⟨N, (d, .v (X.val (l.take i ++ l.drop j).length)) :: SL, BL, ow', FA⟩) := by
  intro hT a w hrep;refine Oper.wp_mono ?_ (qH (D := b.toList) hd hn (K := fun u bl ow fa => u = X.val (l.take i ++ l.drop j).length ∧ bl = BL ∧ ow = ow' ∧ fa = FA) ?_ hT a w hrep)
  ·rintro a' w' ⟨s', ⟨u, bl, ow, fa, ⟨e1, e2, e3, e4⟩, e5⟩, h2, h3⟩;subst e1; subst e2; subst e3; subst e4;exact ⟨s', e5, h2, h3⟩
  ·intro hT a w hrep;obtain ⟨ll, rr, e1, e2⟩ := hu.spec;have e2 : ow' = ll ++ (ownL E e X b (l.take i ++ l.drop j) :: rr) := by rw [e2]; rfl
   have hq := hrep.wo.ow (ownL E e X b l) (by rw [e1]; simp);have hcap0 := vp hq;obtain ⟨h1, h2, h3⟩ := hq;simp only at h1 h2 h3;have hu' := hT.slc _ _ ht;obtain ⟨ti, d', q1, q2, q3, q4⟩ := hT.siz _ _ _ hz;have hti : (l.take i).length = i := by simp; omega
   have hdj : (l.drop j).length = l.length - j := by simp
   have hlen : (l.take i ++ l.drop j).length = i + (l.length - j) := by rw [List.length_append, hti, hdj]
   have hfl : ((l.take i).flatMap E.enc).length = i * E.esz := by rw [eN _ fun a _ => E.len a, hti]
   have hfd : ((l.drop j).flatMap E.enc).length = (l.length - j) * E.esz := by rw [eN _ fun a _ => E.len a, hdj]
   have hft : (l.take i).flatMap E.enc = (l.flatMap E.enc).take (i * E.esz) := by
    have hs : l.flatMap E.enc = (l.take i).flatMap E.enc ++ (l.drop i).flatMap E.enc := by rw [← List.flatMap_append, List.take_append_drop]
    rw [hs, ← hfl, List.take_left]
   have hfdr : (l.drop j).flatMap E.enc = (l.flatMap E.enc).drop (j * E.esz) := by
    have hs : l.flatMap E.enc = (l.take j).flatMap E.enc ++ (l.drop j).flatMap E.enc := by rw [← List.flatMap_append, List.take_append_drop]
    have hl2 : ((l.take j).flatMap E.enc).length = j * E.esz := by rw [eN _ fun a _ => E.len a]; simp [Nat.min_eq_left hj]
    rw [hs, ← hl2, List.drop_left]
   have hnb : (i + (l.length - j)) * E.by_ ≤ l.length * E.by_ := Nat.mul_le_mul_right _ (by omega);have hrun0 : ∀ {u w'}, (Builtin.append_ #[t, t] o.type #[X.val (l.take i).length, (⟨slA X.a X.c j E.esz, X.c - j⟩ : SlV).val (l.drop j).length]).run P w = .ok u w' → (execOp a.eval o).run P w = .ok (.value u) w' := fun hr => by
    simp only [execOp, ho, resolve, invoke, builtin, Sem.run_bind, Sem.run_pure, Result.andThen_ok, List.map_toArray, List.map_cons, List.map_nil, ev_ok hrep.sl hx hg0, ev_ok hrep.sl hy hg1, hr]
   cases b with
   | none =>
    obtain ⟨h0, A, hA⟩ := h3;have hl0 : l = [] := List.length_eq_zero_iff.1 h0;subst hl0;have hi0 : i = 0 := by simp at hj; omega
    have hj0 : j = 0 := by simpa using hj
    subst hi0; subst hj0;refine ⟨X.val 0, w, BL, ow', FA, hrun0 ?_, ?_, Keeps.refl _ _, rfl, rfl, rfl, rfl⟩
    ·simp only [SlV.val];exact lb hu' q1 w N0
    ·have e3 : ow' = OW := by rw [e2, e1]; rfl
     rw [e3]; exact hrep.wo
   | some g =>
    obtain ⟨hmine, cap, cur, hv, hh, hnc, hcap, hcs, htake⟩ := h3;simp only [SlV.val, Value.slice.injEq, true_and] at hv;have hsz : cur.toList.length = cap * E.esz := by rw [Array.length_toList]; exact hcs
    have hcc : l.length * E.esz ≤ cap * E.esz := Nat.mul_le_mul_right _ hnc;have hie : i * E.esz ≤ l.length * E.esz := Nat.mul_le_mul_right _ (by omega);have hje : j * E.esz ≤ l.length * E.esz := Nat.mul_le_mul_right _ hj;have hadd : i * E.esz + (l.length - j) * E.esz = (i + (l.length - j)) * E.esz := (Nat.add_mul _ _ _).symm;have hadd2 : j * E.esz + (l.length - j) * E.esz = l.length * E.esz := by rw [← Nat.add_mul]; congr 1; omega
    have hadd3 : (i + (l.length - j)) * E.esz ≤ l.length * E.esz := Nat.mul_le_mul_right _ (by omega);have hrep2 := rm (q := ownL E e X (some g) l) (g := g) (cur := cur) rfl (by rw [e1] at hrep; exact hrep) hmine hh;have hct : cur.toList.take (i * E.esz) = (l.take i).flatMap E.enc := by
     rw [hft, ← htake, List.take_take, Nat.min_eq_left hie]
    have hok : ∀ cs : List Value, cs.length = cap * E.esz → cs.take ((i + (l.length - j)) * E.esz) = (l.take i ++ l.drop j).flatMap E.enc → ∀ w' : World, w'.heap[g]? = some (.cells cs.toArray e (0, 0)) → C.mine g → OwnOk C w' (ownL E e X (some g) (l.take i ++ l.drop j)) := fun cs hc1 hc2 w' hh' hm' => by
     refine ⟨(by show ((l.take i ++ l.drop j).flatMap E.enc).length = (l.take i ++ l.drop j).length * E.esz; rw [eN _ fun a _ => E.len a]), ⟨(by show (l.take i ++ l.drop j).length ≤ _; rw [hlen]; omega), (by show (l.take i ++ l.drop j).length * E.by_ ≤ _; rw [hlen]; omega)⟩, hm', cap, _, ?_, hh', (by show (l.take i ++ l.drop j).length ≤ cap; rw [hlen]; omega), hcap, ?_, ?_⟩
     ·simp only [SlV.val, Value.slice.injEq, true_and]; exact hv
     ·simpa using hc1
     ·show List.take ((l.take i ++ l.drop j).length * E.esz) _ = _;rw [hlen]; exact hc2
    by_cases hm0 : l.length = j
    ·refine ⟨X.val (l.take i ++ l.drop j).length, w, BL, ow', FA, hrun0 ?_, ?_, Keeps.refl _ _, rfl, rfl, rfl, rfl⟩
     ·have : (l.drop j).length = 0 := by rw [hdj]; omega
      have h6 : (l.take i ++ l.drop j).length = (l.take i).length := by rw [List.length_append, this]; rfl
      rw [h6, this];simp only [SlV.val];exact lb hu' q1 w (by rw [hti]; omega)
     ·rw [e2];refine (qK (q := ownL E e X (some g) (l.take i ++ l.drop j)) (g := g) (cs := cur.toList) rfl (hok _ hsz ?_) _ _ hrep2).wo;have : l.drop j = [] := Dl (by omega);rw [this, List.append_nil, ← hct];congr 1;rw [show l.length - j = 0 by omega]; rfl
    ·obtain ⟨w', hr, hS⟩ := jz (P := P) ((l.drop j).flatMap E.enc) w cur.toList 0 (i * E.esz) (hrep2.wo.bl _ (.head _)).1 (by rw [hfd, hsz]; omega) (fun v hv => by
      obtain ⟨a, _, ha⟩ := List.mem_flatMap.1 hv;exact E.one a v ha)
     have hsl : slA X.a X.c j E.esz = some ⟨g, j * E.esz, none⟩ := by
      rw [hv.1, hv.2];unfold slA;have : ¬ cap = j := by omega
      simp [this, Addr.add_lit];try omega
     have hcell : ∀ k v, ((l.drop j).flatMap E.enc)[k]? = some v → w.cell? ((⟨g, j * E.esz, none⟩ : Addr).add k) = some v := fun k v hk => by
      have hk1 : k < (l.length - j) * E.esz := by
       obtain ⟨hlt, _⟩ := List.getElem?_eq_some_iff.1 hk;rw [hfd] at hlt; exact hlt
      rw [jH, le (hrep2.wo.bl _ (.head _)).1];rw [hfdr, List.getElem?_drop, ← htake, List.getElem?_take] at hk;split at hk
      ·exact hk
      ·cases hk
     have hfc : (Builtin.firstCells E.esz (l.length - j) (.slice (some ⟨g, j * E.esz, none⟩) (l.length - j) (X.c - j))).run P w = .ok ((l.drop j).flatMap E.enc).toArray w := by
      simp only [Builtin.firstCells];exact qz hfd hcell
     have hroom : i + (l.length - j) ≤ X.c := by omega
     have huniq : ∀ t'', (⟨g, t'', cur.toList⟩ : Blk) ∈ (⟨g, e, cur.toList⟩ :: BL : List Blk) → t'' = e := by
      intro t'' hm'';have h1 := (hrep2.wo.bl _ hm'').1;have h2 := (hrep2.wo.bl _ (.head _)).1;simp only at h1 h2;rw [h1] at h2;simp at h2;exact h2
     have hwo := hrep2.wo.store (t := e) (UpdB.here _ _ _ _ _) huniq hS;refine ⟨X.val (l.take i ++ l.drop j).length, w', BL, ow', FA, hrun0 ?_, ?_, ⟨by rw [hS.size]; exact Nr, fun k' _ hk' => hS.far k' fun e' => hk' (by simp [e'])⟩, rfl, rfl, rfl, rfl⟩
     ·rw [hlen, hti, hdj];simp only [SlV.val, hsl];rw [hv.1];simp [Builtin.append_, run_underlying hu', sizeOf, typeInfo, q1, q2, Builtin.lenOf, hroom, hfc, Addr.add_lit, hr]
     ·rw [e2];refine (qK (q := ownL E e X (some g) (l.take i ++ l.drop j)) (g := g) (cs := putAt cur.toList (i * E.esz + 0) ((l.drop j).flatMap E.enc)) rfl (hok _ (by rw [lY]; exact hsz) ?_) a w' ⟨hrep.sz, hrep.df, hrep.sl, hwo⟩).wo;rw [Nat.add_zero, ← hadd, ← hfd, sZ _ _ _ (by rw [hfd, hsz]; omega), hct, List.flatMap_append]
 have h' : ∀ s', s' = (⟨N, (d, .v (X.val (l.take i ++ l.drop j).length)) :: SL, BL, ow', FA⟩ : St) → RW P T C ops r' s' Q := fun s' e => by subst e; exact h
 cases hf with
 | sq => exact rO hg key h'
 | lo _ hi hDD => exact rw_l (.lo b.toList hi hDD) hg key h'
 | an hi hDD =>
  refine rw_l (.an hi hDD) hg (fun hT a w hrep => Oper.wp_mono (fun a' w' ⟨s', h1, h2, h3⟩ => ⟨s', h1, h2, h3.mono fun k hk => ?_⟩) (key hT a w hrep)) h';rcases hgD with ⟨_, e⟩ | e
  ·cases e
  ·exact e k (by simpa using hk)
theorem zT (E : El α) (l : List α) (h : Nat) {z : List Value} (hf : Front ops r o D r')
  (hgD : (∃ l, r = .sq l) ∨ ∀ g, b = some g → g ∈ D) (hg : Guard ops SL o true) (hd : o.dst = none) (ho : o.op = .call ⟨.builtin .clear, ⟨[x]⟩, ⟨[t]⟩⟩)
  (he : ev SL x = some (g0, .slice (slA X.a X.c l.length E.esz) (h - l.length) (X.c - l.length))) (hg0 : g0 = true) (ht : T.slc t = some e) (hz : T.siz e = some (E.esz, agg)) (hzz : T.zer e = some z) (hzl : z.length = E.esz) (hz1 : z.all (·.oneCell') = true) (hpos : Nat.blt 0 E.esz = true)
  (hlh : l.length ≤ h) (hhc : h ≤ X.c) (hm : ownL E e X b l ∈ OW)
  (hk : RW P T C ops r' ⟨N, SL, BL, OW, FA⟩ Q) : RW P T C ops r ⟨N, SL, BL, OW, FA⟩ Q := by
 have key : Loud P T C ⟨N, SL, BL, OW, FA⟩ o b.toList (fun s' => s' = ⟨N, SL, BL, OW, FA⟩) := by
  intro hT a w hrep;have hpos := Nat.le_of_ble_eq_true hpos;obtain ⟨ll, rr, e1⟩ := List.append_of_mem hm;have hq := hrep.wo.ow (ownL E e X b l) hm;have hcap0 := vp hq;obtain ⟨h1, h2, h3⟩ := hq;simp only at h1 h2 h3;have hu' := hT.slc _ _ ht;obtain ⟨tt, d', q1, q2, q3, q4⟩ := hT.siz _ _ _ hz;obtain ⟨ti'', zv, hi'', hz'', hzc⟩ := hT.zer _ _ hzz;rw [q1] at hi'';cases hi'';by_cases hz0 : h - l.length = 0
  ·have hrun : (execOp a.eval o).run P w = .ok (.value (.tuple #[])) w := by
    simp only [execOp, ho, resolve, invoke, builtin, Sem.run_bind, Sem.run_pure, Result.andThen_ok, List.map_toArray, List.map_cons, List.map_nil, ev_ok hrep.sl he hg0, hz0];simp only [Builtin.clear_, List.getElem?_toArray, List.getElem?_cons_zero, run_underlying hu', Sem.run_bind, Result.andThen_ok];cases slA X.a X.c l.length E.esz <;> simp
   unfold Oper.wp;rw [hrun, Oper.upon_value, hd];exact ⟨_, rfl, ⟨hrep.sz, hrep.df, hrep.sl, hrep.wo⟩, Keeps.refl _ _⟩
  ·cases b with
   | none =>
    obtain ⟨h0, A, hA⟩ := h3;simp only [SlV.val, Value.slice.injEq] at hA;omega
   | some g =>
    obtain ⟨hmine, cap, cur, hv, hh, hnc, hcap, hcs, htake⟩ := h3;simp only [SlV.val, Value.slice.injEq, true_and] at hv;have hsz : cur.toList.length = cap * E.esz := by rw [Array.length_toList]; exact hcs
    have hhe : h * E.esz ≤ cap * E.esz := Nat.mul_le_mul_right _ (by omega);have hzs : zv.cells.size = E.esz := by rw [← hzl, ← hzc]; simp
    have hzz1 : (Builtin.zeroCells zv.cells (h - l.length)).toList.all (·.oneCell') = true := qh (by rw [← hzc] at hz1; exact hz1) (by omega) _;have hzlen : (Builtin.zeroCells zv.cells (h - l.length)).toList.length = (h - l.length) * E.esz := by rw [Array.length_toList, size_zeroCells, hzs]
    have hadd : l.length * E.esz + (h - l.length) * E.esz = h * E.esz := by rw [← Nat.add_mul]; congr 1; omega
    have hrep2 := rm (q := ownL E e X (some g) l) (g := g) (cur := cur) rfl (by rw [e1] at hrep; exact hrep) hmine hh;obtain ⟨w', hr, hS⟩ := jz (P := P) (Builtin.zeroCells zv.cells (h - l.length)).toList w cur.toList 0 (l.length * E.esz) (hrep2.wo.bl _ (.head _)).1 (by rw [hzlen, hsz]; omega) (fun v hv => List.all_eq_true.1 hzz1 v hv);have hsl : slA X.a X.c l.length E.esz = some ⟨g, l.length * E.esz, none⟩ := by
     rw [hv.1, hv.2];unfold slA;have : ¬ cap = l.length := by omega
     simp [this, Addr.add_lit];try omega
    have hrun : (execOp a.eval o).run P w = .ok (.value (.tuple #[])) w' := by
     simp only [execOp, ho, resolve, invoke, builtin, Sem.run_bind, Sem.run_pure, Result.andThen_ok, List.map_toArray, List.map_cons, List.map_nil, ev_ok hrep.sl he hg0, hsl];obtain ⟨m, hm'⟩ : ∃ m, h - l.length = m + 1 := ⟨h - l.length - 1, by omega⟩;rw [hm'] at hr ⊢;simp only [Builtin.clear_, List.getElem?_toArray, List.getElem?_cons_zero, run_underlying hu', Sem.run_bind, Result.andThen_ok, lz q1 hz'', hr, Sem.run_pure]
    unfold Oper.wp;rw [hrun, Oper.upon_value, hd];have huniq : ∀ t'', (⟨g, t'', cur.toList⟩ : Blk) ∈ (⟨g, e, cur.toList⟩ :: BL : List Blk) → t'' = e := by
     intro t'' hm'';have h1 := (hrep2.wo.bl _ hm'').1;have h2 := (hrep2.wo.bl _ (.head _)).1;simp only at h1 h2;rw [h1] at h2;simp at h2;exact h2
    have hwo := hrep2.wo.store (t := e) (UpdB.here _ _ _ _ _) huniq hS;refine ⟨_, rfl, ?_, by rw [hS.size]; exact Nr, fun k' _ hk' => hS.far k' fun e' => hk' (by simp [e'])⟩;rw [e1];refine qK (q := ownL E e X (some g) l) (g := g) rfl (fun w'' hh'' hmine'' => ?_) _ _ ⟨hrep.sz, hrep.df, hrep.sl, hwo⟩;refine ⟨h1, h2, hmine'', cap, _, ?_, hh'', hnc, hcap, ?_, ?_⟩
    ·simp only [SlV.val, Value.slice.injEq, true_and]; exact hv
    ·simp only [List.size_toArray]; rw [lY]; exact hsz
    ·show List.take (l.length * E.esz) _ = l.flatMap E.enc;rw [Nat.add_zero, uv];exact htake
 have h' : ∀ s', s' = (⟨N, SL, BL, OW, FA⟩ : St) → RW P T C ops r' s' Q := fun s' e => by subst e; exact hk
 cases hf with
 | sq => exact rO hg key h'
 | lo _ hi hDD => exact rw_l (.lo b.toList hi hDD) hg key h'
 | an hi hDD =>
  refine rw_l (.an hi hDD) hg (fun hT a w hrep => Oper.wp_mono (fun a' w' ⟨s', h1, h2, h3⟩ => ⟨s', h1, h2, h3.mono fun k hk => ?_⟩) (key hT a w hrep)) h';rcases hgD with ⟨_, e⟩ | e
  ·cases e
  ·exact e k (by simpa using hk)
end
section
variable {G α : Type}
theorem Bu (γ : Nat → G) (l : List α) (i j : Nat) (hi : i ≤ l.length) : (zipG γ 0 l).take i ++ (zipG γ 0 l).drop j = zipG (appG γ i (dropG γ j)) 0 (l.take i ++ l.drop j) := by
 rw [qf, sI, sJ];congr 2;simp [Nat.min_eq_left hi]
end
section
variable {α : Type} [Inhabited α] (EN : En α)
theorem FactsG.del {γ : Nat → EN.G} {l : List α} {M : Nat → Prop} {w : World} (i j : Nat) (hi : i ≤ l.length) (h : FactsG EN γ l M w) : FactsG EN (appG γ i (dropG γ j)) (l.take i ++ l.drop j) M w := by
 have h1 := FactsG.app EN (FactsG.take EN i h) (FactsG.drop EN j h);have e : (l.take i).length = i := by simp [Nat.min_eq_left hi]
 rwa [e] at h1
end
end Go.Proofs.YtkjccbdeaflekaaGreatDoor.Fw
namespace Go.Proofs.YtkjccbdeaflekaaGreatDoor.Fw
open Go Go.RowKit
section
variable {P : Program} {T : Tab} {C : Cx} {ops : Array Oper} {o : Oper} {r r' : RS} {s : St} {Q : Post} {N : Nat} {SL : Slots} {BL : List Blk} {OW : List Own} {FA : List Pred} {c : Code}
variable {A : Option Addr} {G g0 g1 : Bool} {iv : Int} {k : IntKind} {x y : Operand}
theorem q_sl3 {t e n c k0 h m esz : Nat} {y' y2 : Operand} {g2 g3 b : Bool} {k' k2 : IntKind} {iv' iv2 : Int} (ho : o.op = .slice t x (some y) (some y') (some y2)) (he : ev SL x = some (g0, .slice A n c)) (hg0 : G = true → g0 = true)
  (hy : ev SL y = some (g1, .int k iv)) (hg1 : G = true → g1 = true) (hy' : ev SL y' = some (g2, .int k' iv')) (hg2 : G = true → g2 = true) (hy2 : ev SL y2 = some (g3, .int k2 iv2)) (hg3 : G = true → g3 = true) (ht : T.slc t = some e) (hz : T.siz e = some (esz, b)) (hi : G = true → iv = (k0 : Int)) (hi' : G = true → iv' = (h : Int)) (hi2 : G = true → iv2 = (m : Int)) (hle : G = true → k0 ≤ h) (hlm : G = true → h ≤ m) (hmc : G = true → m ≤ c) :
  Quiet P T SL BL FA o G (.slice (slA A m k0 esz) (h - k0) (m - k0)) :=
 fun hT hG a w hsl _ => by
  have hx := ev_ok hsl he (hg0 hG);have hy := ev_ok hsl hy (hg1 hG);have hy' := ev_ok hsl hy' (hg2 hG);have hy2 := ev_ok hsl hy2 (hg3 hG);have hu := hT.slc _ _ ht;obtain ⟨ti, d, q1, q2, q3, q4⟩ := hT.siz _ _ _ hz;have hi := hi hG;have hi' := hi' hG;have hi2 := hi2 hG;have hle := hle hG;have hlm := hlm hG;have hmc := hmc hG;subst hi; subst hi'; subst hi2;simp only [execOp, ho, hx, Option.map_none, Option.map_some, hy, hy', hy2, Instr.sliceAt, Sem.run_bind, run_underlying hu, Result.andThen_ok, Instr.slice, Instr.sliceBounds, Instr.sliceBound, asIntOf, Sem.run_pure];rw [if_pos (by omega)];simp only [Sem.run_pure, Result.andThen_ok, Int.toNat_natCast];rw [if_pos (by omega)];simp only [Sem.run_pure, Result.andThen_ok, Int.toNat_natCast];rw [if_pos (by omega)];simp only [Sem.run_pure, Result.andThen_ok, dR q1, q2, Int.toNat_natCast, slA]
variable {α : Type} {X : SlV} {b : Option Nat} {e : TypeId} {l : List α}
theorem za {E : El α} {k h : Nat} (hk : k ≤ h) (hh : h ≤ l.length) (hm : ownL E e X b l ∈ OW) : Reads ⟨N, SL, BL, OW, FA⟩ C E.esz (.slice (slA X.a X.c k E.esz) (h - k) (X.c - k)) (h - k) (((l.drop k).take (h - k)).flatMap E.enc) := by
 intro w hw;have hq := hw.ow _ hm;have hrd : RdL E X l (fun _ => False) w := OwnOk.rd (C := C) (e := e) (b := b) hq (fun _ _ h => h);have h1 := (RdL.drop hrd k (by omega)).take (h - k);have hl1 : ((l.drop k).take (h - k)).length = h - k := by simp; omega
 have h3 : ∀ e ∈ (l.drop k).take (h - k), (E.enc e).length = E.esz := fun e _ => E.len e;obtain ⟨_, _, _, h4⟩ := h1;refine ⟨_, _, rfl, by rw [eN _ h3, hl1], fun u hu => ?_, fun hl => ?_⟩
 ·obtain ⟨e, he, hu⟩ := List.mem_flatMap.1 hu;exact E.one e u hu
 ·obtain ⟨ad, ha, _, _, hc⟩ := h4 (by omega);refine ⟨ad, ha, fun j u hj => ?_⟩;obtain ⟨i, q, hi, rfl, h2⟩ := p9 _ h3 j u hj;exact hc i hi q u h2
theorem BZ (E : El α) (hm : ownL E e X b l ∈ OW) (hl : 0 < l.length) (h : X.a.isNone = false → CW P T C c ⟨N, SL, BL, OW, FA⟩ Q) : CW P T C c ⟨N, SL, BL, OW, FA⟩ Q := fun hT a w hr => by
 refine h ?_ hT a w hr;obtain ⟨_, _, h3⟩ := hr.wo.ow _ hm;cases b with
 | none => simp only at h3; omega
 | some g =>
  obtain ⟨_, cap, cur, hv, _⟩ := h3;simp only [SlV.val, Value.slice.injEq, true_and] at hv;rw [hv.1]; rfl
theorem BD {c k esz : Nat} (h : A.isNone = false) : (slA A c k esz).isNone = false := by
 unfold slA;split
 ·exact h
 ·cases A with
  | none => cases h
  | some a => rfl
theorem Bv {G : Type} (γ : Nat → G) (l : List α) (k n : Nat) : ((zipG γ 0 l).drop k).take n = zipG (dropG γ k) 0 ((l.drop k).take n) := by
 rw [sI, qf]
theorem Df (E : El α) (hm : ownL E e X b l ∈ OW) (h : l.length ≤ X.c ∧ X.c ≤ 9223372036854775807 → RW P T C ops r ⟨N, SL, BL, OW, FA⟩ Q) : RW P T C ops r ⟨N, SL, BL, OW, FA⟩ Q := fun hT a w hr =>
 h (vp (hr.wo.ow _ hm)) hT a w hr
variable {EN : En α} {M : Nat → Prop} {w : World}
theorem RdN.take [Inhabited α] (h : RdN EN X l M w) (n : Nat) : RdN EN X (l.take n) M w := by
 obtain ⟨γ, h1, h2⟩ := h;refine ⟨γ, ?_, FactsG.take EN n h2⟩;have := RdL.take h1 n
 rwa [qf] at this
theorem RdN.drop [Inhabited α] (h : RdN EN X l M w) (k : Nat) (hk : k ≤ l.length) : RdN EN ⟨slA X.a X.c k EN.E.esz, X.c - k⟩ (l.drop k) M w := by
 obtain ⟨γ, h1, h2⟩ := h;refine ⟨dropG γ k, ?_, FactsG.drop EN k h2⟩;have := RdL.drop h1 k (by rw [dL]; exact hk)
 rwa [sI] at this
variable {esz t : Nat}
theorem xl [Inhabited α] (EN : En α) (h : Nat) {e : Nat} {b : Bool} (ho : o.op = .slice t x none (some y) none) (he : ev SL x = some (g0, X.val l.length)) (hg0 : G = true → g0 = true)
  (hy : ev SL y = some (g1, .int k iv)) (hg1 : G = true → g1 = true) (ht : T.slc t = some e) (hz : T.siz e = some (esz, b)) (hm : RdN EN X l ∈ FA) (hi : G = true → iv = (h : Int)) (hle : G = true → h ≤ l.length) : Quiet P T SL BL FA o G (X.val (l.take h).length) :=
 fun hT hG a w hsl hw => by
  obtain ⟨_, γ, hrd, _⟩ := hw.fa _ hm;have h1 := hrd.1;rw [dL] at h1;have h2 := hle hG;have e1 : (l.take h).length = h := by simp; omega
  rw [e1];exact rR (P := P) (BL := BL) (FA := FA) ho he hg0 hy hg1 ht hz hi (fun _ => by omega) hT hG a w hsl hw
theorem Dr (EN : En α) (k0 : Nat) {e : Nat} {b : Bool} (ho : o.op = .slice t x (some y) none none) (he : ev SL x = some (g0, X.val l.length)) (hg0 : G = true → g0 = true)
  (hy : ev SL y = some (g1, .int k iv)) (hg1 : G = true → g1 = true) (ht : T.slc t = some e) (hz : T.siz e = some (esz, b)) (hi : G = true → iv = (k0 : Int)) (hle : G = true → k0 ≤ l.length) : Quiet P T SL BL FA o G ((⟨slA X.a X.c k0 esz, X.c - k0⟩ : SlV).val (l.drop k0).length) :=
 fun hT hG a w hsl hw => by
  have e1 : (l.drop k0).length = l.length - k0 := by simp
  rw [e1];exact CG (P := P) (BL := BL) (FA := FA) ho he hg0 hy hg1 ht hz hi hle hT hG a w hsl hw
theorem xi [Inhabited α] (EN : En α) (δ : Nat → EN.G) (m : List α) {d : Nat} {v : Value} {z : List Value} {agg : Bool} {ow' : SlV → Option Nat → List Own} {D : List Nat} (hf : Front ops r o D r') (hbD : ∀ g, b = some g → (∃ l, r = .sq l) ∨ g ∈ D) (hg : Guard ops SL o true) (hd : o.dst = some d) (hn : Nat.blt d N = true)
  (ho : o.op = .call ⟨.builtin .append, ⟨[x, y]⟩, ⟨[t, t]⟩⟩) (hx : ev SL x = some (g0, X.val ([] : List α).length)) (hg0 : g0 = true) (hy : ev SL y = some (g1, v)) (hg1 : g1 = true)
  (hu : ∀ (X' : SlV) b', UpdO OW (ownL EN.E e X b []) [ownN EN e X' b' δ m] (ow' X' b'))
  (ht : T.slc t = some e) (hz : T.siz e = some (EN.E.esz, agg)) (hzz : T.zer e = some z) (hzl : z.length = EN.E.esz) (hby : T.byt e = some EN.E.by_) (hpos : Nat.blt 0 EN.E.esz = true) (hbp : Nat.blt 0 EN.E.by_ = true)
  (hr : Reads ⟨N, SL, BL, OW, FA⟩ C EN.E.esz v m.length ((zipG δ 0 m).flatMap EN.E.enc)) (hb : m.length * EN.E.by_ ≤ 140737488355328)
  (h : ∀ (X' : SlV) (b' : Option Nat), RW P T C ops r' ⟨N, (d, .v (X'.val m.length)) :: SL, BL, ow' X' b', FA⟩ Q) : RW P T C ops r ⟨N, SL, BL, OW, FA⟩ Q := by
 refine kq EN.E [] (zipG δ 0 m) (ow' := ow') hf hbD hg hd hn ho hx hg0 hy hg1 hu ht hz hzz hzl hby hpos hbp (by rw [dL]; exact hr) (by rw [dL]; simpa using hb) fun X' b' => ?_;have e : ([] ++ zipG δ 0 m).length = m.length := by rw [List.nil_append, dL]
 rw [e]; exact h X' b'
end
end Go.Proofs.YtkjccbdeaflekaaGreatDoor.Fw
namespace Go.Proofs.YtkjccbdeaflekaaGreatDoor.Fw
open Go Go.RowKit
abbrev Str := List UInt8
abbrev sV (l : Str) : Value := .string ⟨l.toArray⟩
abbrev yV (b : UInt8) : Value := .int .u8 (b.toNat : Int)
abbrev eV (b : Bool) (tp : TypeId) (p : Value) : Value := bif b then .iface tp p else .nilIface
def EByte : El UInt8 := ⟨fun b => [yV b], 1, 1, fun _ => rfl, fun _ u hu => by simp only [List.mem_singleton] at hu; subst hu; rfl⟩
def EStr : El Str := ⟨fun l => [sV l], 1, 16, fun _ => rfl, fun _ u hu => by simp only [List.mem_singleton] at hu; subst hu; rfl⟩
theorem vW (l : Str) : (ByteArray.mk l.toArray).toList = l := by rw [ByteArray.toList_eq]
theorem kU (l : Str) : (ByteArray.mk l.toArray).size = l.length := by rw [Lib.size_eq]
theorem app_sV (a b : Str) : (ByteArray.mk a.toArray) ++ (ByteArray.mk b.toArray) = ByteArray.mk (a ++ b).toArray := by
 apply ByteArray.ext;simp
section
variable {P : Program} {T : Tab} {C : Cx} {ops : Array Oper} {o : Oper} {r r' : RS} {s : St} {Q : Post} {N : Nat} {SL : Slots} {BL : List Blk} {OW : List Own} {FA : List Pred} {c : Code}
variable {G g0 g1 : Bool} {a b : Str} {t t' : Nat} {x y : Operand}
theorem q_eqS (ho : o.op = .binOp .eql t x y t') (he : ev SL x = some (g0, sV a)) (hg0 : G = true → g0 = true)
  (hy : ev SL y = some (g1, sV b)) (hg1 : G = true → g1 = true) : Quiet P T SL BL FA o G (.bool (a == b)) :=
 fun _ hG a' w hsl _ => by
  have h1 := ev_ok hsl he (hg0 hG);have h2 := ev_ok hsl hy (hg1 hG);simp only [execOp, ho, h1, h2, eqGuard, binOp, Op.stringOp, vW];simp
theorem q_neS (ho : o.op = .binOp .neq t x y t') (he : ev SL x = some (g0, sV a)) (hg0 : G = true → g0 = true)
  (hy : ev SL y = some (g1, sV b)) (hg1 : G = true → g1 = true) : Quiet P T SL BL FA o G (.bool (a != b)) :=
 fun _ hG a' w hsl _ => by
  have h1 := ev_ok hsl he (hg0 hG);have h2 := ev_ok hsl hy (hg1 hG);simp only [execOp, ho, h1, h2, eqGuard, binOp, Op.stringOp, vW];simp [bne]
theorem z8 (ho : o.op = .binOp .add t x y t') (he : ev SL x = some (g0, sV a)) (hg0 : G = true → g0 = true)
  (hy : ev SL y = some (g1, sV b)) (hg1 : G = true → g1 = true) (hb : G = true → a.length + b.length ≤ 9223372036854775807) : Quiet P T SL BL FA o G (sV (a ++ b)) :=
 fun _ hG a' w hsl _ => by
  have h1 := ev_ok hsl he (hg0 hG);have h2 := ev_ok hsl hy (hg1 hG);have hb := hb hG;have hm : ¬ (((a.length + b.length : Nat) : Int) > IntKind.i64.max) := by simp only [IntKind.max, IntKind.signed, IntKind.bits]; simp; omega
  simp only [execOp, ho, h1, h2, eqGuard, binOp, Op.stringOp, kU, app_sV, if_neg hm];simp
theorem oI (ho : o.op = .call ⟨.builtin .len, ⟨[x]⟩, ⟨[t]⟩⟩) (he : ev SL x = some (g0, sV a)) (hg0 : G = true → g0 = true) (ht : P.underlying t = some .string) : Quiet P T SL BL FA o G (.int .i64 (a.length : Int)) :=
 fun _ hG a' w hsl _ => by
  have h1 := ev_ok hsl he (hg0 hG);have h2 := kU a;simp only [execOp, ho, resolve, invoke, builtin, List.map_toArray, List.map_cons, List.map_nil, h1];simp [Builtin.len_, run_underlying ht, goInt, h2]
theorem z5 {k : IntKind} {iv : Int} (h : Nat) (ho : o.op = .slice t x none (some y) none) (he : ev SL x = some (g0, sV a)) (hg0 : G = true → g0 = true)
  (hy : ev SL y = some (g1, .int k iv)) (hg1 : G = true → g1 = true) (ht : P.underlying t = some .string) (hi : G = true → iv = (h : Int)) (hle : G = true → h ≤ a.length) : Quiet P T SL BL FA o G (sV (a.take h)) :=
 fun hT hG a' w hsl _ => by
  have hx := ev_ok hsl he (hg0 hG);have hy := ev_ok hsl hy (hg1 hG);have hu := ht;have hi := hi hG;have hle := hle hG;subst hi;have hsz := kU a;simp only [execOp, ho, hx, Option.map_none, Option.map_some, hy, Instr.sliceAt, Sem.run_bind, run_underlying hu, Result.andThen_ok, Instr.slice, Instr.sliceBounds, Instr.sliceBound, asIntOf, Sem.run_pure];simp only [hsz];simp [hle, Lib.extract_eq]
variable {e : Nat} {l : Str}
theorem ut {X : SlV} (ht : P.underlying t = some (.slice e)) (he' : P.underlying e = some (.int .u8)) (ht' : P.underlying t' = some .string) (ho : o.op = .convert t t' x) (he : ev SL x = some (g0, X.val l.length)) (hg0 : G = true → g0 = true)
  (hm : RdL EByte X l ∈ FA) : Quiet P T SL BL FA o G (sV l) :=
 fun hT hG a' w hsl hw => by
  have h1 := ev_ok hsl he (hg0 hG);obtain ⟨_, _, _, _, h4⟩ := hw.fa _ hm;simp only [execOp, ho, h1, SlV.val];cases hA : X.a with
  | none =>
   have h0 : l = [] := by
    cases l with
    | nil => rfl
    | cons b r => obtain ⟨ad, ha, _⟩ := h4 (by simp); rw [hA] at ha; cases ha
   subst h0;have : (convert t t' (.slice none ([] : Str).length X.c)).run P w = .ok (.string .empty) w := by
    simp [convert, run_underlying ht, run_underlying ht', run_underlying he', Conv.bytesToString]
   rw [Sem.run_bind, this];rfl
  | some ad =>
   have := run_convert_bytes_back (P := P) w t t' e ad X.c l ht he' ht' (fun j hj => by
    obtain ⟨ad', ha, _, _, hc⟩ := h4 (by omega);rw [hA] at ha;cases ha;have := hc j hj 0 (yV l[j]) rfl;simpa [EByte] using this)
   rw [Sem.run_bind, this];rfl
variable {D : List Nat} {d : Nat}
theorem zR {u : TypeDesc} (hf : Front ops r o D r') (hg : Guard ops SL o true) (hd : o.dst = some d) (hn : Nat.blt d N = true)
  (ht : P.underlying t = some u) (ht' : P.underlying t' = some (.slice e)) (he' : P.underlying e = some (.int .u8)) (ho : o.op = .convert t t' x) (he : ev SL x = some (g0, sV l)) (hg0 : g0 = true) (hb : l.length ≤ 140737488355328)
  (h : ∀ X : SlV, RW P T C ops r' ⟨N, (d, .v (X.val l.length)) :: SL, BL, OW, RdL EByte X l :: FA⟩ Q) : RW P T C ops r ⟨N, SL, BL, OW, FA⟩ Q := by
 refine uo hf hg hd hn (K := fun u bl ow fa => ∃ X : SlV, u = X.val l.length ∧ bl = BL ∧ ow = OW ∧ fa = RdL EByte X l :: FA) ?_ (fun u bl ow fa ⟨X, e1, e2, e3, e4⟩ => by subst e1; subst e2; subst e3; subst e4; exact h X);intro hT a w hrep;have h1 := ev_ok hrep.sl he hg0;have hr := Lib.run_convert_string_bytes (P := P) w t t' e ⟨l.toArray⟩ ht ht' he';have hsz := kU l;have hge := grownCap_ge w l.length 0 e;have hcm : grownCap w l.length 0 e ≤ maxLen := grownCap_le_maxLen w l.length 0 e (by simp only [maxLen]; omega);have hB : Below w.heap.size w (Lib.bytesWorld w e ⟨l.toArray⟩) := by
  refine ⟨?_, ?_, ?_, by rw [Lib.bytesWorld_size]; omega, fun k hk => Lib.bytesWorld_at_old w e _ k hk⟩ <;> rfl
 rw [hsz] at hr;have hw := hrep.wo.grow hB;refine ⟨_, _, BL, OW, RdL EByte ⟨some ⟨w.heap.size, 0, none⟩, grownCap w l.length 0 e⟩ l :: FA, ?_, ⟨hw.be, hw.bl, hw.ow, hw.nd, ?_⟩, ⟨hB.size, fun k hk _ => hB.block k hk⟩, ⟨some ⟨w.heap.size, 0, none⟩, grownCap w l.length 0 e⟩, rfl, rfl, rfl, rfl⟩
 ·simp only [execOp, ho, h1, Sem.run_bind, hr];rfl
 ·intro F hF;cases hF with
  | head =>
   refine ⟨inferInstance, hge, by simpa [maxLen] using hcm, by simpa [EByte] using hb, fun _ => ⟨_, rfl, by rw [Lib.bytesWorld_size]; simp, fun hm => ?_, fun i hi j v hv => ?_⟩⟩
   ·have := xP hrep.wo hm;simp at this
   ·have hj : j = 0 := by
     obtain ⟨hlt, _⟩ := List.getElem?_eq_some_iff.1 hv;simp [EByte] at hlt;exact hlt
    subst hj;have := Lib.bytesWorld_cell w e ⟨l.toArray⟩ i (by rw [hsz]; exact hi);simp only [EByte, List.getElem?_cons_zero, Option.some.injEq] at hv;rw [jH];simp only [EByte, Nat.mul_one, Nat.zero_add, Nat.add_zero];rw [this, ← hv];simp [List.getD, hi]
  | tail _ hF => exact hw.fa F hF
variable {ms : Array (String × TypeId)}
theorem Dj (hu : P.underlying t = some (.interface ms)) (d : Nat) (tp : TypeId) (p : Value) (w : World) : (Op.equalIn (d + 1) t (.iface tp p) .nilIface).run P w = .ok false w := by
 simp [Op.equalIn, run_underlying hu]
theorem BH (hu : P.underlying t = some (.interface ms)) (d : Nat) (w : World) : (Op.equalIn (d + 1) t .nilIface .nilIface).run P w = .ok true w := by
 simp [Op.equalIn, run_underlying hu]
theorem z7 {b : Bool} {tp : TypeId} {p : Value} (ho : o.op = .binOp .neq t x (.const .nilIface) t') (he : ev SL x = some (g0, eV b tp p)) (hg0 : G = true → g0 = true) (hu : P.underlying t = some (.interface ms)) : Quiet P T SL BL FA o G (.bool b) :=
 fun _ hG a' w hsl _ => by
  have h1 := ev_ok hsl he (hg0 hG);have h2 : a'.eval (.const .nilIface) = .nilIface := rfl;cases b with
  | true =>
   have h3 : (Op.equal t (.iface tp p) .nilIface).run P w = .ok false w := Dj hu 9999 tp p w;have h1 : a'.eval x = .iface tp p := h1;simp [execOp, ho, h1, h2, eqGuard, binOp, h3]
  | false =>
   have h3 : (Op.equal t .nilIface .nilIface).run P w = .ok true w := BH hu 9999 w;have h1 : a'.eval x = .nilIface := h1;simp [execOp, ho, h1, h2, eqGuard, binOp, h3]
theorem zV {f : FuncId} {xs : Array Operand} {ts : Array TypeId} {g : Bool} {vs caps args : List Value} {pre : List Pred} {L : Lent} {X : Type} {val : X → Value} {post : X → List Pred} {L' : X → Lent} {RB : List Blk} {RO : List Own}
  (hS : DoesG P f args pre L val post L') (hfr : Front ops r o D r') (hD : (∃ l, r = .sq l) ∨ ∀ g ∈ L.ids, g ∈ D) (hg : Guard ops SL o true) (hd : o.dst = some d) (hn : Nat.blt d N = true) (ho : o.op = .call ⟨.value x, xs, ts⟩) (hx : ev SL x = some (g0, .func (.func f) #[] ⟨caps⟩)) (hg0 : g0 = true) (hf : T.fnb f = true)
  (he : evs SL xs.toList = some (g, vs)) (hgt : g = true) (ha : args = vs ++ caps) (hpre : SubM FA pre) (hb : Take BL L.bl RB) (hw : Take OW L.ow RO)
  (h : ∀ x, RW P T C ops r' ⟨N, (d, .v (val x)) :: SL, (L' x).bl ++ RB, (L' x).ow ++ RO, post x ++ FA⟩ Q) : RW P T C ops r ⟨N, SL, BL, OW, FA⟩ Q := by
 have key : Loud P T C ⟨N, SL, BL, OW, FA⟩ o L.ids (fun s' => ∃ x, s' = ⟨N, (d, .v (val x)) :: SL, (L' x).bl ++ RB, (L' x).ow ++ RO, post x ++ FA⟩) := by
  intro hT a w hrep;subst ha;refine vF hS (uJ hT ho hf hrep.sl hx hg0 he hgt w) hd hrep hpre.mem hb.perm hw.perm fun x w' hw hk => ?_;exact ⟨_, ⟨x, rfl⟩, hrep.putv (Nat.le_of_ble_eq_true hn) (x := .v (val x)) (u := val x) rfl ⟨hw.be, hw.bl, hw.ow, hw.nd, hw.fa⟩, hk⟩
 cases hfr with
 | sq => exact rO hg key (fun s' ⟨x, e⟩ => by subst e; exact h x)
 | lo _ hi hDD => exact rw_l (.lo L.ids hi hDD) hg key (fun s' ⟨x, e⟩ => by subst e; exact h x)
 | an hi hDD =>
  refine rw_l (.an hi hDD) hg (key.wide fun g hg => ?_) (fun s' ⟨x, e⟩ => by subst e; exact h x);rcases hD with ⟨_, e⟩ | e
  ·cases e
  ·exact e g hg
end
end Go.Proofs.YtkjccbdeaflekaaGreatDoor.Fw
namespace Go.Proofs.YtkjccbdeaflekaaGreatDoor
open Go Go.Proofs.YtkjccbdeaflekaaGreatDoor.Fw Go.Proofs
structure Place where
 node : Int
 parent : Int
 name : Int
 deriving DecidableEq
instance : Inhabited Place := ⟨⟨0, 0, 0⟩⟩
structure Stamp where
 time : Int
 who : Int
 deriving DecidableEq
instance : Inhabited Stamp := ⟨⟨0, 0⟩⟩
structure Op where
 time : Int
 who : Int
 node : Int
 parent : Int
 name : Int
 life : Int
 seq : Int
 deriving DecidableEq
instance : Inhabited Op := ⟨⟨0, 0, 0, 0, 0, 0, 0⟩⟩
structure Step where
 o : Op
 did : Bool
 was : Place
 deriving DecidableEq
instance : Inhabited Step := ⟨⟨default, false, default⟩⟩
structure History where
 l : List Step
 t : List Place
 deriving DecidableEq
instance : Inhabited History := ⟨⟨[], []⟩⟩
structure View where
 roots : List Int
 known : List Place
 way : List Place
 deriving DecidableEq
instance : Inhabited View := ⟨⟨[], [], []⟩⟩
structure Delta where
 gone : List Int
 here : List Place
 wayGone : List Int
 wayHere : List Place
 deriving DecidableEq
instance : Inhabited Delta := ⟨⟨[], [], [], []⟩⟩
structure Rec where
 kind : Int
 who : Int
 life : Int
 roots : List Int
 o : Op
 deriving DecidableEq
instance : Inhabited Rec := ⟨⟨0, 0, 0, [], default⟩⟩
structure Peer where
 life : Int
 seq : Int
 roots : List Int
 deriving DecidableEq
instance : Inhabited Peer := ⟨⟨0, 0, []⟩⟩
structure Hub where
 h : History
 version : Int
 peers : List Peer
 deriving DecidableEq
instance : Inhabited Hub := ⟨⟨default, 0, []⟩⟩
structure Client where
 life : Int
 time : Int
 seq : Int
 pending : List Op
 version : Int
 v : View
 deriving DecidableEq
instance : Inhabited Client := ⟨⟨0, 0, 0, [], 0, default⟩⟩
structure Mail where
 kind : Int
 who : Int
 life : Int
 seq : Int
 time : Int
 version : Int
 frm : Int
 o : Op
 v : View
 d : Delta
 deriving DecidableEq
instance : Inhabited Mail := ⟨⟨0, 0, 0, 0, 0, 0, 0, default, default, default⟩⟩
structure Disk where
 safe : List UInt8
 wait : List UInt8
 deriving DecidableEq
instance : Inhabited Disk := ⟨⟨[], []⟩⟩
structure Wld where
 h : Hub
 d : Disk
 up : Bool
 c : List Client
 mail : List Mail
 deriving DecidableEq
instance : Inhabited Wld := ⟨⟨default, default, false, [], []⟩⟩
structure Happening where
 kind : Int
 who : Int
 n : Int
 node : Int
 parent : Int
 name : Int
 roots : List Int
 deriving DecidableEq
instance : Inhabited Happening := ⟨⟨0, 0, 0, 0, 0, 0, []⟩⟩
def EInt : El Int := ⟨fun n => [.int .i64 n], 1, 8, fun _ => rfl, fun a u hu => lH (ks := [true]) (l := [.int .i64 a]) rfl u hu⟩
def EPlace : El Place := ⟨fun p => [.int .i64 p.node, .int .i64 p.parent, .int .i64 p.name], 3, 24, fun _ => rfl, fun p u hu => lH (ks := [true, true, true]) (l := [.int .i64 p.node, .int .i64 p.parent, .int .i64 p.name]) rfl u hu⟩
theorem AP : Encs [true, true, true] EPlace.enc := ⟨fun _ => rfl, fun cs h => by
 match cs, h with
 | [.int .i64 a0, .int .i64 a1, .int .i64 a2], _ => exact ⟨⟨a0, a1, a2⟩, rfl⟩⟩
theorem kM (a b : Place) : gk (EPlace.enc a) (EPlace.enc b) = decide (a = b) := by
 obtain ⟨_, _, _⟩ := a; obtain ⟨_, _, _⟩ := b;rw [Bool.eq_iff_iff]; simp [gk, EPlace, and_assoc]
theorem oX : EqT Tryz.prog 99 [true, true, true] := ⟨by kernel_rfl, by kernel_rfl⟩
def EStamp : El Stamp := ⟨fun p => [.int .i64 p.time, .int .i64 p.who], 2, 16, fun _ => rfl, fun p u hu => lH (ks := [true, true]) (l := [.int .i64 p.time, .int .i64 p.who]) rfl u hu⟩
theorem oW (a b : Stamp) : gk (EStamp.enc a) (EStamp.enc b) = decide (a = b) := by
 obtain ⟨_, _⟩ := a; obtain ⟨_, _⟩ := b;rw [Bool.eq_iff_iff]; simp [gk, EStamp, and_assoc]
theorem tB : EqT Tryz.prog 74 [true, true] := ⟨by kernel_rfl, by kernel_rfl⟩
def EOp : El Op := ⟨fun p => [.int .i64 p.time, .int .i64 p.who, .int .i64 p.node, .int .i64 p.parent, .int .i64 p.name, .int .i64 p.life, .int .i64 p.seq], 7, 56, fun _ => rfl, fun p u hu => lH (ks := [true, true, true, true, true, true, true]) (l := [.int .i64 p.time, .int .i64 p.who, .int .i64 p.node, .int .i64 p.parent, .int .i64 p.name, .int .i64 p.life, .int .i64 p.seq]) rfl u hu⟩
theorem CM : Encs [true, true, true, true, true, true, true] EOp.enc := ⟨fun _ => rfl, fun cs h => by
 match cs, h with
 | [.int .i64 a0, .int .i64 a1, .int .i64 a2, .int .i64 a3, .int .i64 a4, .int .i64 a5, .int .i64 a6], _ => exact ⟨⟨a0, a1, a2, a3, a4, a5, a6⟩, rfl⟩⟩
theorem lI (a b : Op) : gk (EOp.enc a) (EOp.enc b) = decide (a = b) := by
 obtain ⟨_, _, _, _, _, _, _⟩ := a; obtain ⟨_, _, _, _, _, _, _⟩ := b;rw [Bool.eq_iff_iff]; simp [gk, EOp, and_assoc]
theorem tC : EqT Tryz.prog 76 [true, true, true, true, true, true, true] := ⟨by kernel_rfl, by kernel_rfl⟩
def EStep : El Step := ⟨fun p => [.int .i64 p.o.time, .int .i64 p.o.who, .int .i64 p.o.node, .int .i64 p.o.parent, .int .i64 p.o.name, .int .i64 p.o.life, .int .i64 p.o.seq, .bool p.did, .int .i64 p.was.node, .int .i64 p.was.parent, .int .i64 p.was.name], 11, 88, fun _ => rfl, fun p u hu => lH (ks := [true, true, true, true, true, true, true, false, true, true, true]) (l := [.int .i64 p.o.time, .int .i64 p.o.who, .int .i64 p.o.node, .int .i64 p.o.parent, .int .i64 p.o.name, .int .i64 p.o.life, .int .i64 p.o.seq, .bool p.did, .int .i64 p.was.node, .int .i64 p.was.parent, .int .i64 p.was.name]) rfl u hu⟩
theorem BX : Encs [true, true, true, true, true, true, true, false, true, true, true] EStep.enc := ⟨fun _ => rfl, fun cs h => by
 match cs, h with
 | [.int .i64 a0, .int .i64 a1, .int .i64 a2, .int .i64 a3, .int .i64 a4, .int .i64 a5, .int .i64 a6, .bool a7, .int .i64 a8, .int .i64 a9, .int .i64 a10], _ => exact ⟨⟨⟨a0, a1, a2, a3, a4, a5, a6⟩, a7, ⟨a8, a9, a10⟩⟩, rfl⟩⟩
theorem xz (a b : Step) : gk (EStep.enc a) (EStep.enc b) = decide (a = b) := by
 obtain ⟨⟨_, _, _, _, _, _, _⟩, _, ⟨_, _, _⟩⟩ := a; obtain ⟨⟨_, _, _, _, _, _, _⟩, _, ⟨_, _, _⟩⟩ := b;rw [Bool.eq_iff_iff]; simp [gk, EStep, and_assoc]
theorem BW : EqT Tryz.prog 157 [true, true, true, true, true, true, true, false, true, true, true] := ⟨by kernel_rfl, by kernel_rfl⟩
def NPlaces : En (List Place) := ⟨SlV, inferInstance, ⟨fun h => [h.1.val h.2.length], 1, 24, fun _ => rfl, fun h => (bn rfl (fun _ h => by cases h))⟩, fun h => [RdL EPlace h.1 h.2], fun _ => inferInstance⟩
def NBytes : En (List UInt8) := ⟨SlV, inferInstance, ⟨fun h => [h.1.val h.2.length], 1, 24, fun _ => rfl, fun h => (bn rfl (fun _ h => by cases h))⟩, fun h => [RdL EByte h.1 h.2], fun _ => inferInstance⟩
def NPeer : En Peer := ⟨SlV, inferInstance, ⟨fun h => [.int .i64 h.2.life, .int .i64 h.2.seq, h.1.val h.2.roots.length], 3, 40, fun _ => rfl, fun h => (bn rfl (bn rfl (bn rfl (fun _ h => by cases h))))⟩, fun h => [RdL EInt h.1 h.2.roots], fun _ => inferInstance⟩
def NMail : En Mail := ⟨SlV × SlV × SlV × SlV × SlV × SlV × SlV, inferInstance, ⟨fun h => [.int .i64 h.2.kind, .int .i64 h.2.who, .int .i64 h.2.life, .int .i64 h.2.seq, .int .i64 h.2.time, .int .i64 h.2.version, .int .i64 h.2.frm, .int .i64 h.2.o.time, .int .i64 h.2.o.who, .int .i64 h.2.o.node, .int .i64 h.2.o.parent, .int .i64 h.2.o.name, .int .i64 h.2.o.life, .int .i64 h.2.o.seq, h.1.1.val h.2.v.roots.length, h.1.2.1.val h.2.v.known.length, h.1.2.2.1.val h.2.v.way.length, h.1.2.2.2.1.val h.2.d.gone.length, h.1.2.2.2.2.1.val h.2.d.here.length, h.1.2.2.2.2.2.1.val h.2.d.wayGone.length, h.1.2.2.2.2.2.2.val h.2.d.wayHere.length], 21, 280, fun _ => rfl, fun h => (bn rfl (bn rfl (bn rfl (bn rfl (bn rfl (bn rfl (bn rfl (bn rfl (bn rfl (bn rfl (bn rfl (bn rfl (bn rfl (bn rfl (bn rfl (bn rfl (bn rfl (bn rfl (bn rfl (bn rfl (bn rfl (fun _ h => by cases h))))))))))))))))))))))⟩, fun h => [RdL EInt h.1.1 h.2.v.roots, RdL EPlace h.1.2.1 h.2.v.known, RdL EPlace h.1.2.2.1 h.2.v.way, RdL EInt h.1.2.2.2.1 h.2.d.gone, RdL EPlace h.1.2.2.2.2.1 h.2.d.here, RdL EInt h.1.2.2.2.2.2.1 h.2.d.wayGone, RdL EPlace h.1.2.2.2.2.2.2 h.2.d.wayHere], fun _ => inferInstance⟩
def NRec : En Rec := ⟨SlV, inferInstance, ⟨fun h => [.int .i64 h.2.kind, .int .i64 h.2.who, .int .i64 h.2.life, h.1.val h.2.roots.length, .int .i64 h.2.o.time, .int .i64 h.2.o.who, .int .i64 h.2.o.node, .int .i64 h.2.o.parent, .int .i64 h.2.o.name, .int .i64 h.2.o.life, .int .i64 h.2.o.seq], 11, 104, fun _ => rfl, fun h => (bn rfl (bn rfl (bn rfl (bn rfl (bn rfl (bn rfl (bn rfl (bn rfl (bn rfl (bn rfl (bn rfl (fun _ h => by cases h))))))))))))⟩, fun h => [RdL EInt h.1 h.2.roots], fun _ => inferInstance⟩
def NMails : En (List Mail) := ⟨SlV, inferInstance, ⟨fun h => [h.1.val h.2.length], 1, 24, fun _ => rfl, fun h => (bn rfl (fun _ h => by cases h))⟩, fun h => [RdN NMail h.1 h.2], fun _ => inferInstance⟩
def NRecs : En (List Rec) := ⟨SlV, inferInstance, ⟨fun h => [h.1.val h.2.length], 1, 24, fun _ => rfl, fun h => (bn rfl (fun _ h => by cases h))⟩, fun h => [RdN NRec h.1 h.2], fun _ => inferInstance⟩
def NClient : En Client := ⟨SlV × SlV × SlV × SlV, inferInstance, ⟨fun h => [.int .i64 h.2.life, .int .i64 h.2.time, .int .i64 h.2.seq, h.1.1.val h.2.pending.length, .int .i64 h.2.version, h.1.2.1.val h.2.v.roots.length, h.1.2.2.1.val h.2.v.known.length, h.1.2.2.2.val h.2.v.way.length], 8, 128, fun _ => rfl, fun h => (bn rfl (bn rfl (bn rfl (bn rfl (bn rfl (bn rfl (bn rfl (bn rfl (fun _ h => by cases h)))))))))⟩, fun h => [RdL EOp h.1.1 h.2.pending, RdL EInt h.1.2.1 h.2.v.roots, RdL EPlace h.1.2.2.1 h.2.v.known, RdL EPlace h.1.2.2.2 h.2.v.way], fun _ => inferInstance⟩
def NHap : En Happening := ⟨SlV, inferInstance, ⟨fun h => [.int .i64 h.2.kind, .int .i64 h.2.who, .int .i64 h.2.n, .int .i64 h.2.node, .int .i64 h.2.parent, .int .i64 h.2.name, h.1.val h.2.roots.length], 7, 72, fun _ => rfl, fun h => (bn rfl (bn rfl (bn rfl (bn rfl (bn rfl (bn rfl (bn rfl (fun _ h => by cases h))))))))⟩, fun h => [RdL EInt h.1 h.2.roots], fun _ => inferInstance⟩
theorem und_3 : Tryz.prog.underlying 3 = some (.int .i64) := by kernel_rfl
theorem und_4 : Tryz.prog.underlying 4 = some .bool := by kernel_rfl
theorem ov : Tryz.prog.underlying 269 = some (.int .u64) := by kernel_rfl
theorem und_5 : Tryz.prog.underlying 5 = some (.int .u8) := by kernel_rfl
theorem und_9 : Tryz.prog.underlying 9 = some .string := by kernel_rfl
theorem sQ : Tryz.prog.underlying 31 = some (.slice 5) := by kernel_rfl
theorem va : Tryz.prog.underlying 215 = some (.interface #[("Error", 237)]) := by kernel_rfl
instance (γ : Nat → SlV) (l : List (List Place)) : Stab (FactsG NPlaces γ l) := qu NPlaces γ l
instance (γ : Nat → SlV) (l : List (List UInt8)) : Stab (FactsG NBytes γ l) := qu NBytes γ l
instance (γ : Nat → SlV) (l : List Peer) : Stab (FactsG NPeer γ l) := qu NPeer γ l
instance (γ : Nat → SlV × SlV × SlV × SlV × SlV × SlV × SlV) (l : List Mail) : Stab (FactsG NMail γ l) := qu NMail γ l
instance (γ : Nat → SlV) (l : List Rec) : Stab (FactsG NRec γ l) := qu NRec γ l
instance (γ : Nat → SlV) (l : List (List Mail)) : Stab (FactsG NMails γ l) := qu NMails γ l
instance (γ : Nat → SlV) (l : List (List Rec)) : Stab (FactsG NRecs γ l) := qu NRecs γ l
instance (γ : Nat → SlV × SlV × SlV × SlV) (l : List Client) : Stab (FactsG NClient γ l) := qu NClient γ l
instance (γ : Nat → SlV) (l : List Happening) : Stab (FactsG NHap γ l) := qu NHap γ l
end Go.Proofs.YtkjccbdeaflekaaGreatDoor
namespace Go.Proofs.YtkjccbdeaflekaaGreatDoor.Fw
open Go Go.RowKit
section
variable {P : Program} {T : Tab} {C : Cx} {ops : Array Oper} {o : Oper} {r r' : RS} {s : St} {Q : Post} {N : Nat} {SL : Slots} {BL : List Blk} {OW : List Own} {FA : List Pred} {c : Code}
variable {l : List Oper}
theorem isR (h : RW P T C ops (.sq l) s Q) : RW P T C ops (.sq l) s Q := h
theorem isG {j : Nat × Bool} (_ : o.guard = some j) (h : RW P T C ops (.sq (o :: l)) s Q) : RW P T C ops (.sq (o :: l)) s Q := h
variable {x : Operand}
theorem isL {t : TypeId} (_ : o.op = .load t x) (h : RW P T C ops (.sq (o :: l)) s Q) : RW P T C ops (.sq (o :: l)) s Q := h
theorem isS {t : TypeId} {y : Operand} (_ : o.op = .store t x y) (h : RW P T C ops (.sq (o :: l)) s Q) : RW P T C ops (.sq (o :: l)) s Q := h
theorem isC (h : CW P T C c s Q) : CW P T C c s Q := h
variable {p q : Prop}
theorem Tx (h : q) (f : q → p := by
  intro hq_;repeat (first
   | refine Rp rfl rfl rfl rfl ?_
   | (refine isR ?_; first
     | refine eF ?_
     | (refine isG rfl ?_; first
       | refine rw_qg (fH rfl rfl rfl) rfl rfl (q_pev rfl Bt) ?_
       | refine rw_qg (ce rfl rfl rfl) rfl rfl (q_pev rfl Bt) ?_
       | refine rw_qg (fI rfl rfl rfl) rfl rfl (q_pev rfl Bt) ?_
       | refine rw_qg (gI rfl rfl rfl) rfl rfl (q_pev rfl Bt) ?_
       | (refine isL rfl ?_; first
         | refine rw_qg (fH rfl rfl rfl) rfl rfl (q_ld1 rfl rfl Bt rfl Mm rfl) ?_
         | refine rw_qg (ce rfl rfl rfl) rfl rfl (q_ld1 rfl rfl Bt rfl Mm rfl) ?_
         | refine rw_qg (fI rfl rfl rfl) rfl rfl (q_ld1 rfl rfl Bt rfl Mm rfl) ?_
         | refine rw_qg (gI rfl rfl rfl) rfl rfl (q_ld1 rfl rfl Bt rfl Mm rfl) ?_
         | refine rw_qg (fH rfl rfl rfl) rfl rfl (q_ldA rfl rfl Bt rfl Mm rfl) ?_
         | refine rw_qg (ce rfl rfl rfl) rfl rfl (q_ldA rfl rfl Bt rfl Mm rfl) ?_
         | refine rw_qg (fI rfl rfl rfl) rfl rfl (q_ldA rfl rfl Bt rfl Mm rfl) ?_
         | refine rw_qg (gI rfl rfl rfl) rfl rfl (q_ldA rfl rfl Bt rfl Mm rfl) ?_
         | refine rw_qg (fH rfl rfl rfl) rfl rfl (q_ldP rfl rfl Bt rfl Mm rfl) ?_
         | refine rw_qg (ce rfl rfl rfl) rfl rfl (q_ldP rfl rfl Bt rfl Mm rfl) ?_
         | refine rw_qg (fI rfl rfl rfl) rfl rfl (q_ldP rfl rfl Bt rfl Mm rfl) ?_
         | refine rw_qg (gI rfl rfl rfl) rfl rfl (q_ldP rfl rfl Bt rfl Mm rfl) ?_))
     | (refine isL rfl ?_; first
       | refine rw_q rfl rfl rfl (q_ld1 rfl rfl (fun _ => rfl) rfl Mm rfl) ?_
       | refine rw_q rfl rfl rfl (q_ldA rfl rfl (fun _ => rfl) rfl Mm rfl) ?_
       | refine rw_q rfl rfl rfl (q_ldP rfl rfl (fun _ => rfl) rfl Mm rfl) ?_
       | refine rw_q rfl rfl rfl (q_lf1 rfl rfl (fun _ => rfl) rfl Mm rfl) ?_
       | refine rw_q rfl rfl rfl (q_lfA rfl rfl (fun _ => rfl) rfl Mm rfl) ?_
       | refine rw_q rfl rfl rfl (q_lfP rfl rfl (fun _ => rfl) rfl Mm rfl) ?_)
     | (refine isS rfl ?_; first
       | refine yd .sq (.inl ⟨_, rfl⟩) (au rfl) rfl rfl rfl rfl rfl rfl rfl rfl rfl Ub rfl ?_
       | refine ye .sq (.inl ⟨_, rfl⟩) (au rfl) rfl rfl rfl rfl rfl rfl rfl rfl rfl Ub rfl ?_)
     | refine rw_q rfl rfl rfl (q_pev rfl Bt) ?_)
   | (refine isC ?_; first
     | refine er ?_
     | refine kk ?_
     | refine rx ?_
     | refine pA ?_
     | refine AW ?_))
  exact hq_) : p := f h
theorem Ty (h : q) (f : q → p := by
  intro hq_;repeat (first
   | refine Rp rfl rfl rfl rfl ?_
   | (refine isR ?_; first
     | refine eF ?_
     | (refine isG rfl ?_; first
       | refine rw_qg (fH rfl rfl rfl) rfl rfl (q_pev rfl Bt) ?_
       | refine rw_qg (ce rfl rfl rfl) rfl rfl (q_pev rfl Bt) ?_)
     | (refine isL rfl ?_; first
       | refine rw_q rfl rfl rfl (q_ld1 rfl rfl (fun _ => rfl) rfl Mm rfl) ?_
       | refine rw_q rfl rfl rfl (q_ldA rfl rfl (fun _ => rfl) rfl Mm rfl) ?_
       | refine rw_q rfl rfl rfl (q_ldP rfl rfl (fun _ => rfl) rfl Mm rfl) ?_)
     | (refine isS rfl ?_; first
       | refine yd .sq (.inl ⟨_, rfl⟩) (au rfl) rfl rfl rfl rfl rfl rfl rfl rfl rfl Ub rfl ?_
       | refine ye .sq (.inl ⟨_, rfl⟩) (au rfl) rfl rfl rfl rfl rfl rfl rfl rfl rfl Ub rfl ?_)
     | refine rw_q rfl rfl rfl (q_pev rfl Bt) ?_)
   | (refine isC ?_; first
     | refine er ?_
     | refine kk ?_
     | refine rx ?_))
  exact hq_) : p := f h
theorem Tk (h : p := by refine .cons (by repeat (first | exact .here _ _ | apply Pick.there)) (.nil _)) : p := h
theorem Cf.{u} {α : Sort u} : (∀ a b : α, cond true a b = a) ∧ (∀ a b : α, cond false a b = b) := ⟨fun _ _ => rfl, fun _ _ => rfl⟩
theorem Zf.{u, v} {p : Sort u} {α : Sort v} {a : α} : p → a = a := fun _ => rfl
theorem Zo (h : q := by omega) : p → q := fun _ => h
theorem Za (h : q := by first | assumption | omega | (simp only [List.length_set]; omega)) : p → q := fun _ => h
theorem Zb (h : p := by first | assumption | omega | (simp only [List.length_set]; omega)) : p := h
theorem Zc (h : p := by first | assumption | omega) : p := h
theorem Zl (h : p := by simp only [Ln]; omega) : p := h
def behinds (ops : Array Oper) (listed : Array Bool) (i : Nat) : List Nat :=
 (List.range ops.size).foldl (fun B j => if !(listed.getD j true) && (match ops[j]? with | some oj => oj.after.any fun e => Region.binds .any e && (e.on == i || B.contains e.on) | none => false) then B ++ [j] else B) []
variable {α : Type}
theorem Pc (E : El α) (X : SlV) (l : List α) (n : Nat) (h : l.length * n ≤ 140737488355328 → CW P T C c ⟨N, SL, BL, OW, FA⟩ Q) (hm : RdL E X l ∈ FA := by exact Mm) (hn : E.by_ = n := by rfl) : CW P T C c ⟨N, SL, BL, OW, FA⟩ Q :=
 e8 [RdL E X l] (.cons hm (.nil _)) (fun M w h => by have := (allF1 h).len; rwa [hn] at this) h
theorem Pn [Inhabited α] (E : En α) (X : SlV) (l : List α) (n : Nat) (h : l.length * n ≤ 140737488355328 → CW P T C c ⟨N, SL, BL, OW, FA⟩ Q) (hm : RdN E X l ∈ FA := by exact Mm) (hn : E.E.by_ = n := by rfl) : CW P T C c ⟨N, SL, BL, OW, FA⟩ Q :=
 e8 [RdN E X l] (.cons hm (.nil _)) (fun M w h => by have := (allF1 h).len; rwa [hn] at this) h
theorem Pr (E : El α) (X : SlV) (l : List α) (n : Nat) (h : l.length * n ≤ 140737488355328 → RW P T C ops r ⟨N, SL, BL, OW, FA⟩ Q) (hm : RdL E X l ∈ FA := by exact Mm) (hn : E.by_ = n := by rfl) : RW P T C ops r ⟨N, SL, BL, OW, FA⟩ Q :=
 zS [RdL E X l] (.cons hm (.nil _)) (fun M w h => by have := (allF1 h).len; rwa [hn] at this) h
theorem Pm [Inhabited α] (E : En α) (X : SlV) (l : List α) (n : Nat) (h : l.length * n ≤ 140737488355328 → RW P T C ops r ⟨N, SL, BL, OW, FA⟩ Q) (hm : RdN E X l ∈ FA := by exact Mm) (hn : E.E.by_ = n := by rfl) : RW P T C ops r ⟨N, SL, BL, OW, FA⟩ Q :=
 zS [RdN E X l] (.cons hm (.nil _)) (fun M w h => by have := (allF1 h).len; rwa [hn] at this) h
theorem Fc (E : El α) (h : CW P T C c ⟨N, SL, BL, OW, RdL E ⟨none, 0⟩ [] :: FA⟩ Q) : CW P T C c ⟨N, SL, BL, OW, FA⟩ Q :=
 o0 [] (.nil _) (fun M w _ => RdL.nil _ _ _ (by omega) M w) h
theorem Fr (E : El α) (h : RW P T C ops r ⟨N, SL, BL, OW, RdL E ⟨none, 0⟩ [] :: FA⟩ Q) : RW P T C ops r ⟨N, SL, BL, OW, FA⟩ Q :=
 iq [] (.nil _) (fun M w _ => RdL.nil _ _ _ (by omega) M w) h
theorem Sb {α : Type} {l r : List α} (h : SubP l r := by repeat (first | exact .nil _ | refine .cons (by repeat (first | exact .here _ _ | apply Pick.there)) ?_)) : SubP l r := h
theorem Vn : ResVs T s [] [] := .nil
variable {rs : List ResultVar} {t : Nat} {v : Value} {vs : List Value}
theorem Vt (hr : ResVs T s rs vs) (h : getS s.sl t = some (.v v) := by rfl) : ResVs T s (.tmp t :: rs) (v :: vs) := .cons (.tmp h) hr
variable {cs : List Value} {g n : Nat}
theorem Va {ty ty' : Nat} (hr : ResVs T s rs vs) (h : getS s.sl t = some (.v (.pointer (some ⟨g, 0, none⟩))) := by rfl) (hs : T.siz ty = some (n, true) := by rfl) (hm : ⟨g, ty', cs⟩ ∈ s.bl := by exact Mm) (hl : cs.length = n := by rfl) : ResVs T s (.cell t ty :: rs) (.agg ⟨cs⟩ :: vs) := .cons (.agg h hs hm hl) hr
theorem Re {X : Type} {val : X → Value} {post : X → List Pred} {L' : X → Lent} (x : X) (h1 : ResVs T s rs vs) (h2 : val x = yl vs := by rfl) (h3 : SubM s.fa (post x) := by exact Sm) (h4 : SubP s.bl (L' x).bl := by exact Sb) (h5 : SubP s.ow (L' x).ow := by exact Sb) : finQ T rs val post L' .ret s := ⟨x, vs, h1, h2, h3, h4, h5⟩
variable {d fuel : Nat} {fp : Nat → Option (List Nat)} {listed : Array Bool}
theorem Ra (i : Nat) (hi : ops[i]? = some o) (hq : Quiet P T SL BL FA o true v) (h : RW P T C ops (.an fp fuel (listed.setIfInBounds i true)) ⟨N, (d, .v v) :: SL, BL, OW, FA⟩ Q) (hg : o.guard = none := by rfl) (hd : o.dst = some d := by rfl) (hn : Nat.blt d N = true := by rfl)
  (hs : Region.noSelect ops = true := by kernel_rfl) (hf : Region.free .any ops listed i = true := by kernel_rfl) (hr : (Region.ready .any ops listed).contains i = true := by kernel_rfl) (hD : sumO fp (others ops listed i) = some [] := by kernel_rfl) : RW P T C ops (.an fp (fuel + 1) listed) ⟨N, SL, BL, OW, FA⟩ Q :=
 ra_q (D := []) (hD ▸ jf.an hi hs hf hr rfl) (iL.all _) (by simp) hg hd hn hq h
theorem Rb (i : Nat) (hi : ops[i]? = some o) (hq : Quiet P T SL BL FA o true v) (h : RW P T C ops (.an fp fuel (listed.setIfInBounds i true)) ⟨N, (d, .v v) :: SL, BL, OW, FA⟩ Q) (hg : o.guard = none := by rfl) (hd : o.dst = some d := by rfl) (hn : Nat.blt d N = true := by rfl)
  (hs : Region.noSelect ops = true := by kernel_rfl) (hf : Region.free .any ops listed i = true := by kernel_rfl) (hr : (Region.ready .any ops listed).contains i = true := by kernel_rfl) (hB : mf ops listed i (behinds ops listed i) = true := by kernel_rfl) (hD : sumO fp ((others ops listed i).filter fun j => !(behinds ops listed i).contains j) = some [] := by kernel_rfl) : RW P T C ops (.an fp (fuel + 1) listed) ⟨N, SL, BL, OW, FA⟩ Q :=
 ra_q (D := []) (hD ▸ jf.ab _ hi hs hf hr hB rfl) (iL.all _) (by simp) hg hd hn hq h
variable {G : Bool}
theorem Ga (i : Nat) (hi : ops[i]? = some o) (hG : Guard ops SL o G) (hq : Quiet P T SL BL FA o G v) (h : RW P T C ops (.an fp fuel (listed.setIfInBounds i true)) ⟨N, (d, .o G v) :: SL, BL, OW, FA⟩ Q) (hd : o.dst = some d := by rfl) (hn : Nat.blt d N = true := by rfl)
  (hs : Region.noSelect ops = true := by kernel_rfl) (hf : Region.free .any ops listed i = true := by kernel_rfl) (hr : (Region.ready .any ops listed).contains i = true := by kernel_rfl) (hD : sumO fp (others ops listed i) = some [] := by kernel_rfl) : RW P T C ops (.an fp (fuel + 1) listed) ⟨N, SL, BL, OW, FA⟩ Q :=
 ra_qg (D := []) (hD ▸ jf.an hi hs hf hr rfl) (iL.all _) (by simp) hG hd hn hq h
theorem Gb (i : Nat) (hi : ops[i]? = some o) (hG : Guard ops SL o G) (hq : Quiet P T SL BL FA o G v) (h : RW P T C ops (.an fp fuel (listed.setIfInBounds i true)) ⟨N, (d, .o G v) :: SL, BL, OW, FA⟩ Q) (hd : o.dst = some d := by rfl) (hn : Nat.blt d N = true := by rfl)
  (hs : Region.noSelect ops = true := by kernel_rfl) (hf : Region.free .any ops listed i = true := by kernel_rfl) (hr : (Region.ready .any ops listed).contains i = true := by kernel_rfl) (hB : mf ops listed i (behinds ops listed i) = true := by kernel_rfl) (hD : sumO fp ((others ops listed i).filter fun j => !(behinds ops listed i).contains j) = some [] := by kernel_rfl) : RW P T C ops (.an fp (fuel + 1) listed) ⟨N, SL, BL, OW, FA⟩ Q :=
 ra_qg (D := []) (hD ▸ jf.ab _ hi hs hf hr hB rfl) (iL.all _) (by simp) hG hd hn hq h
theorem Qp {g : Bool} (he : pev T SL o.op = some (g, v) := by rfl) (hgt : G = true → g = true := by exact fun _ => rfl) : Quiet P T SL BL FA o G v := q_pev he hgt
theorem Q1 {g0 : Bool} {t' off : Nat} (ho : o.op = .load t x := by rfl) (he : ev SL x = some (g0, .pointer (some ⟨g, off, none⟩)) := by rfl) (hg0 : G = true → g0 = true := by exact fun _ => rfl) (hs : T.siz t = some (n, false) := by rfl) (hm : ⟨g, t', cs⟩ ∈ BL := by exact Mm) (hv : cs[off]? = some v := by rfl) : Quiet P T SL BL FA o G v := q_ld1 ho he hg0 hs hm hv
structure Ls where
 sl : Slots
 bl : List Blk
 ow : List Own
 fa : List Pred
 inv : Prop
 mu : Nat
def loopD {ι : Type} (C : Cx) (N : Nat) (d : ι → Ls) (SL' : Slots) (BL' : List Blk) (FA : List Pred) (i : ι) (Q : Post) : Post
 | .normal, s' => ∃ j, (d j).inv ∧ (d j).mu < (d i).mu ∧ Le C s' ⟨N, (d j).sl ++ SL', (d j).bl ++ BL', (d j).ow, (d j).fa ++ FA⟩
 | e, s' => Q e s'
theorem Lp {ι : Type} (keep : List Nat) (mask : List Bool) (d : ι → Ls) (i0 : ι) {b : Code} {SL' : Slots} {BL' : List Blk} (hsel : Sel SL keep SL') (hB : SelB BL mask BL') (h0 : (d i0).inv) (hs : Le C ⟨N, SL, BL, OW, FA⟩ ⟨N, (d i0).sl ++ SL', (d i0).bl ++ BL', (d i0).ow, (d i0).fa ++ FA⟩)
  (h : ∀ i, (d i).inv → CW P T C b ⟨N, (d i).sl ++ SL', (d i).bl ++ BL', (d i).ow, (d i).fa ++ FA⟩ (loopD C N d SL' BL' FA i Q)) : CW P T C (.loop b) ⟨N, SL, BL, OW, FA⟩ Q :=
 B1 keep mask (fun i => (d i).sl) (fun i => (d i).bl) (fun i => (d i).ow) (fun i => (d i).fa) (fun i => (d i).inv) (fun i => (d i).mu) i0 hsel hB h0 hs fun i hi => xE (fun e s' hq => by
  cases e with
  | normal => exact hq
  | exit i => exact hq
  | ret => exact hq
  | goto l => exact hq
  | panic c => exact hq
  | outgrown => exact hq) (h i hi)
end
end Go.Proofs.YtkjccbdeaflekaaGreatDoor.Fw
