/- Part of this claim. No condition. -/
import Derived.Test.YtkjccbdeaflekaaGreatDoorR1
import Derived.Maps.AppendAt
import Derived.ProofKit
import Derived.OpenShut
import Derived.SizedLaws
import Derived.Carry
import Derived.Deep.Slices
import Derived.Test.YtkjccbdeaflekaaGreatDoorProg
import Derived.KernelRfl
set_option linter.unusedVariables false
set_option linter.unusedSimpArgs false
namespace Go.Proofs.YtkjccbdeaflekaaGreatDoor.Fw
open Go Go.RowKit
inductive UpdO : List Own → Own → List Own → List Own → Prop
 | here (o : Own) (n : List Own) (r : List Own) : UpdO (o :: r) o n (n ++ r)
 | there (k : Own) {o : Own} {n : List Own} {r r' : List Own} (h : UpdO r o n r') : UpdO (k :: r) o n (k :: r')
theorem UpdO.spec {l l' : List Own} {o : Own} {n : List Own} (h : UpdO l o n l') : ∃ a b, l = a ++ o :: b ∧ l' = a ++ (n ++ b) := by
 induction h with
 | here o n r => exact ⟨[], r, rfl, rfl⟩
 | there k _ ih => obtain ⟨a, b, h1, h2⟩ := ih; exact ⟨k :: a, b, by rw [h1]; rfl, by rw [h2]; rfl⟩
section
variable {P : Program} {T : Tab} {C : Cx} {ops : Array Oper} {o : Oper} {r r' : RS} {s : St} {Q : Post} {N : Nat} {SL : Slots} {BL : List Blk} {OW : List Own} {FA : List Pred}
variable {ow' : List Own} {w : World}
theorem WOk.swapO {w' : World} {o o' : Own} (h : WOk C ⟨N, SL, BL, OW, FA⟩ w) (hu : UpdO OW o [o'] ow') (ho' : OwnOk C w' o')
  (hg : w.grownBy w' o.b) (hb : o'.b = o.b ∨ o'.b = none ∨ o'.b = some w.heap.size) : WOk C ⟨N, SL, BL, ow', FA⟩ w' := by
 obtain ⟨x, y, rfl, rfl⟩ := hu.spec;have hnd := h.nd;have hid : ids ⟨N, SL, BL, x ++ o :: y, FA⟩ = BL.map (·.g) ++ (x ++ o :: y).filterMap (·.b) := rfl;have hid' : ids ⟨N, SL, BL, x ++ ([o'] ++ y), FA⟩ = BL.map (·.g) ++ (x ++ o' :: y).filterMap (·.b) := rfl;have hbf : ∀ k, k < w.heap.size → o.b ≠ some k → w'.heap[k]? = w.heap[k]? := by
  exact fun k hk hne => hg.block k hk fun e => hne e.symm
 have hsub : ∀ k, k < w.heap.size → k ∈ ids ⟨N, SL, BL, x ++ ([o'] ++ y), FA⟩ → k ∈ ids ⟨N, SL, BL, x ++ o :: y, FA⟩ := by
  intro k hk hm;rw [hid'] at hm;rw [hid];rcases List.mem_append.1 hm with hm | hm
  ·exact List.mem_append_left _ hm
  ·refine List.mem_append_right _ ?_;rw [List.filterMap_append, List.mem_append] at hm ⊢;rcases hm with hm | hm
   ·exact .inl hm
   ·refine .inr ?_;rw [List.filterMap_cons] at hm ⊢;rcases hb with e | e | e
    ·rw [e] at hm; exact hm
    ·rw [e] at hm;simp only at hm;cases o.b with
     | none => exact hm
     | some g => exact .tail _ hm
    ·rw [e] at hm;simp only at hm;rcases List.mem_cons.1 hm with hm | hm
     ·omega
     ·cases o.b with
      | none => exact hm
      | some g => exact .tail _ hm
 have hlt := fun {b} hb => (kK h (b := b) hb).1;refine ⟨?_, ?_, ?_, ?_, ?_⟩
 ·refine h.be.trans ⟨hg.os, hg.tape, hg.output, hg.size, fun k hk hB => hbf k (Nat.lt_of_lt_of_le hk h.be.size) fun e => ?_⟩;rcases (kK h (b := k) (by rw [hid]; exact List.mem_append_right _ (List.mem_filterMap.2 ⟨o, by simp, e⟩))).2 with h1 | h1
  ·omega
  ·exact hB h1
 ·intro k hk;refine (h.bl k hk).of_eq (hbf _ (ke (h.bl k hk).1) fun e => ?_);have h1 := (List.nodup_append.1 hnd).2.2;exact h1 k.g (List.mem_map.2 ⟨k, hk, rfl⟩) k.g (List.mem_filterMap.2 ⟨o, by simp, e⟩) rfl
 ·intro q hq;have hq : q ∈ x ++ o' :: y := hq;rcases List.mem_append.1 hq with hq | hq
  ·refine (h.ow q (List.mem_append_left _ hq)).of_eq fun g hgb => hbf g (hlt (by rw [hid]; exact List.mem_append_right _ (List.mem_filterMap.2 ⟨q, List.mem_append_left _ hq, hgb⟩))) fun e => ?_;have h1 := (List.nodup_append.1 hnd).2.1;rw [List.filterMap_append] at h1;exact (List.nodup_append.1 h1).2.2 g (List.mem_filterMap.2 ⟨q, hq, hgb⟩) g (List.mem_filterMap.2 ⟨o, by simp, e⟩) rfl
  ·rcases List.mem_cons.1 hq with rfl | hq
   ·exact ho'
   ·refine (h.ow q (List.mem_append_right _ (.tail _ hq))).of_eq fun g hgb => hbf g (hlt (by rw [hid]; exact List.mem_append_right _ (List.mem_filterMap.2 ⟨q, List.mem_append_right _ (.tail _ hq), hgb⟩))) fun e => ?_;have h1 := (List.nodup_append.1 hnd).2.1;rw [List.filterMap_append, List.filterMap_cons, e] at h1;have h2 := (List.nodup_append.1 h1).2.1;simp only at h2;exact (List.nodup_cons.1 h2).1 (List.mem_filterMap.2 ⟨q, hq, hgb⟩)
 ·rw [hid'];rw [hid] at hnd;rw [List.filterMap_append, List.filterMap_cons] at hnd ⊢;have hfresh : w.heap.size ∉ BL.map (·.g) ++ (x.filterMap (·.b) ++ y.filterMap (·.b)) := by
   intro hm;have : w.heap.size ∈ ids ⟨N, SL, BL, x ++ o :: y, FA⟩ := by
    rw [hid, List.filterMap_append, List.filterMap_cons];rcases List.mem_append.1 hm with hm | hm
    ·exact List.mem_append_left _ hm
    ·refine List.mem_append_right _ ?_;rcases List.mem_append.1 hm with hm | hm
     ·exact List.mem_append_left _ hm
     ·refine List.mem_append_right _ ?_;cases o.b with
      | none => exact hm
      | some g => exact .tail _ hm
   exact Nat.lt_irrefl _ (hlt this)
  have hbase : (BL.map (·.g) ++ (x.filterMap (·.b) ++ y.filterMap (·.b))).Nodup := by
   refine List.Nodup.sublist ?_ hnd;refine List.Sublist.append (List.Sublist.refl _) (List.Sublist.append (List.Sublist.refl _) ?_);cases o.b with
   | none => exact List.Sublist.refl _
   | some g => exact List.sublist_cons_self _ _
  rcases hb with e | e | e
  ·rw [e]; exact hnd
  ·rw [e]; exact hbase
  ·rw [e];simp only;have hp : (BL.map (·.g) ++ (x.filterMap (·.b) ++ w.heap.size :: y.filterMap (·.b))).Perm (w.heap.size :: (BL.map (·.g) ++ (x.filterMap (·.b) ++ y.filterMap (·.b)))) := by
    rw [← List.append_assoc, ← List.append_assoc];exact List.perm_middle
   exact hp.nodup_iff.2 (List.nodup_cons.2 ⟨hfresh, hbase⟩)
 ·intro F hF;refine ⟨(h.fa F hF).1, (h.fa F hF).1.st _ _ w w' (h.fa F hF).2 ⟨hg.size, fun k hk hm => hbf k hk fun e => hm (.inr ?_)⟩ fun k hk hm => ?_⟩
  ·rw [hid]; exact List.mem_append_right _ (List.mem_filterMap.2 ⟨o, by simp, e⟩)
  ·rcases hm with hm | hm
   ·exact .inl hm
   ·exact .inr (hsub k hk hm)
def Reads (s : St) (C : Cx) (esz : Nat) (v : Value) (m : Nat) (news : List Value) : Prop := ∀ w, WOk C s w →
 ∃ A c, v = .slice A m c ∧ news.length = m * esz ∧ (∀ u ∈ news, u.oneCell' = true) ∧ (0 < m → ∃ ad, A = some ad ∧ ∀ j u, news[j]? = some u → w.cell? (ad.add j) = some u)
theorem p9 {α : Type} {enc : α → List Value} {esz : Nat} : ∀ (l : List α), (∀ e ∈ l, (enc e).length = esz) → ∀ (j : Nat) (u : Value), (l.flatMap enc)[j]? = some u →
  ∃ (i k : Nat) (h : i < l.length), j = i * esz + k ∧ (enc l[i])[k]? = some u
 | [], _, j, u, h => by simp at h
 | a :: l, hl, j, u, h => by
  have ha := hl a (.head _);rw [List.flatMap_cons] at h;by_cases hj : j < esz
  ·rw [List.getElem?_append_left (by omega)] at h;exact ⟨0, j, by simp, by omega, h⟩
  ·rw [List.getElem?_append_right (by omega), ha] at h;obtain ⟨i, k, hi, h1, h2⟩ := p9 l (fun e he => hl e (.tail _ he)) (j - esz) u h;exact ⟨i + 1, k, by simp; omega, by rw [Nat.add_mul]; omega, by simpa using h2⟩
theorem eN {α : Type} {enc : α → List Value} {esz : Nat} : ∀ (l : List α), (∀ e ∈ l, (enc e).length = esz) → (l.flatMap enc).length = l.length * esz
 | [], _ => by simp
 | a :: l, hl => by
  rw [List.flatMap_cons, List.length_append, hl a (.head _), eN l (fun e he => hl e (.tail _ he)), List.length_cons, Nat.add_mul];omega
theorem px {α : Type} {enc : α → List Value} {esz : Nat} : ∀ (l : List α), (∀ e ∈ l, (enc e).length = esz) → ∀ (i : Nat) (h : i < l.length) (k : Nat) (u : Value), (enc l[i])[k]? = some u → (l.flatMap enc)[i * esz + k]? = some u
 | [], _, i, h, _, _, _ => absurd h (by simp)
 | a :: l, hl, i, h, k, u, hu => by
  have ha := hl a (.head _);rw [List.flatMap_cons];cases i with
  | zero =>
   have : k < esz := by
    obtain ⟨hlt, _⟩ := List.getElem?_eq_some_iff.1 hu;simp at hlt;omega
   rw [List.getElem?_append_left (by omega)];simpa using hu
  | succ i =>
   have ih := px l (fun e he => hl e (.tail _ he)) i (by simpa using h) k u (by simpa using hu);rw [List.getElem?_append_right (by rw [ha, Nat.add_mul]; omega), ha];rw [← ih];congr 1;rw [Nat.add_mul];omega
variable {A : Option Addr} {c esz m : Nat} {α : Type}
theorem BK {E : El α} {l : List α} (hm : RdL E ⟨A, c⟩ l ∈ FA) (hes : E.esz = esz) (hn : m = l.length) : Reads ⟨N, SL, BL, OW, FA⟩ C esz (.slice A m c) m (l.flatMap E.enc) := by
 intro w hw;subst hn;subst hes;have h1 := E.one;have h3 : ∀ e ∈ l, (E.enc e).length = E.esz := fun e _ => E.len e;obtain ⟨_, _, _, h4⟩ := (hw.fa _ hm).2;refine ⟨A, c, rfl, eN l h3, fun u hu => ?_, fun hl => ?_⟩
 ·obtain ⟨e, he, hu⟩ := List.mem_flatMap.1 hu;exact h1 e u hu
 ·obtain ⟨ad, ha, _, _, hc⟩ := h4 hl;refine ⟨ad, ha, fun j u hj => ?_⟩;obtain ⟨i, k, hi, rfl, h2⟩ := p9 l h3 j u hj;exact hc i hi k u h2
variable {q : Own}
theorem z3 (hm : q ∈ OW) (h1 : ∀ u ∈ q.xs, u.oneCell' = true) : Reads ⟨N, SL, BL, OW, FA⟩ C q.esz q.v q.n q.xs := by
 intro w hw;have h := hw.ow q hm;obtain ⟨hl, hn, hb⟩ := h;cases hbb : q.b with
 | none =>
  rw [hbb] at hb;obtain ⟨h0, A, hA⟩ := hb;exact ⟨A, 0, by rw [hA, h0], hl, h1, fun h => by omega⟩
 | some g =>
  rw [hbb] at hb;obtain ⟨_, cap, cur, hv, hh, hnc, hcap, hcs, htake⟩ := hb;refine ⟨_, cap, hv, hl, h1, fun _ => ⟨_, rfl, fun j u hj => ?_⟩⟩;rw [jH];simp only [World.cell?, hh];rw [← htake, List.getElem?_take] at hj;split at hj
  ·simpa using hj
  ·cases hj
theorem Dt (h : OwnOk C w q) (hv : q.b = none → q.v = .slice none 0 0) : w.ownsRow 0 q.e q.esz q.v q.n q.xs := by
 obtain ⟨hl, hn, hb⟩ := h;refine ⟨hl, ?_⟩;cases hbb : q.b with
 | none => rw [hbb] at hb; exact .inl ⟨hv hbb, hb.1⟩
 | some g =>
  rw [hbb] at hb;obtain ⟨hg, cap, cur, hv, hh, hnc, hcap, hcs, htake⟩ := hb;exact .inr ⟨g, cap, cur, hv, N0, hh, hnc, hcap, hcs, htake⟩
variable {by_ e n : Nat} {v : Value} {xs : List Value}
theorem Dm (h : w.ownsRow 0 e esz v n xs) (hn : n ≤ 9223372036854775807) (hnb : n * by_ ≤ 140737488355328) (hmine : ∀ g, v.ownBlock = some g → C.mine g) : OwnOk C w ⟨v, v.ownBlock, e, esz, by_, n, xs⟩ := by
 refine ⟨h.1, ⟨hn, hnb⟩, ?_⟩;rcases h.2 with ⟨rfl, h0⟩ | ⟨g, cap, cur, rfl, hg, hh, h1, h2, h3, h4⟩
 ·exact ⟨h0, none, rfl⟩
 ·exact ⟨hmine g rfl, cap, cur, rfl, hh, h1, h2, h3, h4⟩
variable {t ty : Nat}
theorem lb {i : TypeInfo} (ht : P.underlying t = some (.slice e)) (hi : P.info? e = some i) (w : World) {B : Option Addr} {cap : Nat} (hn : n ≤ cap) :
  (Builtin.append_ #[t, t] ty #[.slice B n cap, .slice A 0 c]).run P w = .ok (.slice B n cap) w := by
 cases A <;> cases B <;> simp [Builtin.append_, run_underlying ht, sizeOf, typeInfo, hi, Builtin.lenOf, Builtin.firstCells, loadCells, loadCellsFrom, hn, storeCells]
variable {agg : Bool} {news z : List Value}
theorem run_app (hT : TabOk T P) (ht : T.slc t = some q.e) (hz : T.siz q.e = some (q.esz, agg)) (hzz : T.zer q.e = some z) (hzl : z.length = q.esz) (hby : T.byt q.e = some q.by_) (hpos : 0 < q.esz)
  (hw : WOk C ⟨N, SL, BL, OW, FA⟩ w) (hq : OwnOk C w q) {x : Value} (hx : Reads ⟨N, SL, BL, OW, FA⟩ C q.esz x m news)
  (hb : (q.n + m) * q.by_ ≤ 140737488355328) (h63 : q.n + m ≤ 9223372036854775807) :
  ∃ A' c' b' w', (Builtin.append_ #[t, t] ty #[q.v, x]).run P w = .ok (.slice A' (q.n + m) c') w' ∧ OwnOk C w' ⟨.slice A' (q.n + m) c', b', q.e, q.esz, q.by_, q.n + m, q.xs ++ news⟩ ∧ w.grownBy w' q.b ∧ (b' = q.b ∨ b' = none ∨ b' = some w.heap.size) := by
 obtain ⟨A, c, rfl, hl, h1, hrd⟩ := hx w hw;have hu := hT.slc _ _ ht;obtain ⟨ti, d, q1, q2, q3, q4⟩ := hT.siz _ _ _ hz;obtain ⟨ti', hi', hby'⟩ := hT.byt _ _ hby;obtain ⟨ti'', zv, hi'', hz'', hzc⟩ := hT.zer _ _ hzz;rw [q1] at hi' hi'';cases hi'; cases hi'';have hzs : zv.cells.size = q.esz := by rw [← hzl, ← hzc]; simp
 by_cases hm : m = 0
 ·subst hm;have hnews : news = [] := List.eq_nil_of_length_eq_zero (by simpa using hl);subst hnews;simp only [List.append_nil];obtain ⟨hl', hn', hbb⟩ := hq;cases hqb : q.b with
  | none =>
   rw [hqb] at hbb;obtain ⟨h0, A', hv⟩ := hbb;refine ⟨A', 0, none, w, ?_, ⟨hl', hn', h0, A', by simp [h0]⟩, ⟨rfl, rfl, rfl, Nr, fun _ _ _ => rfl⟩, .inl rfl⟩;rw [hv, h0];exact lb hu q1 w Nr
  | some g =>
   rw [hqb] at hbb;obtain ⟨hg, cap, cur, hv, hh, hnc, hcap, hcs, htake⟩ := hbb;refine ⟨some ⟨g, 0, none⟩, cap, some g, w, ?_, ⟨hl', hn', hg, cap, cur, rfl, hh, hnc, hcap, hcs, htake⟩, ⟨rfl, rfl, rfl, Nr, fun _ _ _ => rfl⟩, .inl rfl⟩;rw [hv];exact lb hu q1 w hnc
 ·obtain ⟨ad, rfl, hcell⟩ := hrd (by omega);by_cases hfor : q.b = none ∧ q.v ≠ .slice none 0 0
  ·obtain ⟨hqb, hne⟩ := hfor;obtain ⟨hl', hn', hbb⟩ := hq;rw [hqb] at hbb;obtain ⟨h0, A', hv⟩ := hbb;have hxs : q.xs = [] := List.eq_nil_of_length_eq_zero (by rw [hl', h0]; simp);cases A' with
   | none => exact absurd hv hne
   | some a' =>
    rw [h0] at hb h63;have hr := run_append_grow (P := P) w t ty q.e ti zv hu q1 hz'' a' 0 0 [] (by simp) (by simp) ad m c news (by rw [q2]; exact hl) hcell (by omega) (by omega)
     (growslice_fits (by omega) (by rw [hby']; exact hb))
    have hge := grownCap_ge w (0 + m) 0 q.e;have hcm : grownCap w (0 + m) 0 q.e ≤ maxLen := grownCap_le_maxLen w (0 + m) 0 q.e (by simp only [maxLen]; omega);rw [hv, hxs, h0, hqb];refine ⟨_, _, some w.heap.size, _, hr, ⟨by simpa using hl, ⟨h63, by simpa using hb⟩, .inl hw.be.size, _, _, rfl, heap_alloc_new w.drew _, hge, by simpa [maxLen] using hcm, ?_, ?_⟩, ⟨rfl, rfl, rfl, by simp, fun k hk _ => heap_alloc_old w.drew _ k hk⟩, .inr (.inr rfl)⟩
    ·simp only [Array.size_append, List.size_toArray, List.length_nil, size_zeroCells, hzs, hl, Nat.zero_add, ← Nat.add_mul];congr 1;simp only [Nat.zero_add] at hge;omega
    ·simp only [Array.toList_append, List.nil_append, Nat.zero_add];rw [← hl];simp
  ·have hrow := Dt hq (fun hqb => Classical.byContradiction fun hne => hfor ⟨hqb, hne⟩);obtain ⟨v', w', hr, h2, h3, h4, h5⟩ := run_append_own_at (P := P) w 0 t ty q.e ti zv q.esz q.by_ hu q1 hz'' q2 hby' hzs hpos q.v q.n q.xs hrow ad m c news hl hcell h1 (by simp only [maxLen]; omega) hb N0;have hvb : q.v.ownBlock = q.b := by
    obtain ⟨hl', hn', hbb⟩ := hq;cases hqb : q.b with
    | none =>
     have : q.v = .slice none 0 0 := Classical.byContradiction fun hne => hfor ⟨hqb, hne⟩;rw [this]; rfl
    | some g => rw [hqb] at hbb; obtain ⟨_, cap, cur, hv, _⟩ := hbb; rw [hv]; rfl
   rw [hvb] at h3 h5;have ho := Dm (C := C) (by_ := q.by_) h2 h63 hb (fun g hgb => by
    rcases h5 with e | e
    ·rw [e] at hgb;have h9 := hq.2.2;rw [hgb] at h9;exact h9.1
    ·rw [e] at hgb;cases hgb;exact .inl hw.be.size)
   have hform : ∃ A' c', v' = .slice A' (q.n + m) c' := by
    rcases h2.2 with ⟨_, h0⟩ | ⟨g, cap, cur, hv, _⟩
    ·omega
    ·exact ⟨_, _, hv⟩
   obtain ⟨A', c', rfl⟩ := hform;exact ⟨A', c', _, w', hr, ho, h3, by rcases h5 with e | e <;> simp [e]⟩
theorem zX {d : Nat} {x y : Operand} {g0 g1 : Bool} {ow' : SlV → Option Nat → List Own} {D : List Nat} (hf : Front ops r o D r') (hbD : ∀ g, q.b = some g → (∃ l, r = .sq l) ∨ g ∈ D) (hg : Guard ops SL o true) (hd : o.dst = some d) (hn : Nat.blt d N = true)
  (ho : o.op = .call ⟨.builtin .append, ⟨[x, y]⟩, ⟨[t, t]⟩⟩) (hx : ev SL x = some (g0, q.v)) (hg0 : g0 = true) (hy : ev SL y = some (g1, v)) (hg1 : g1 = true)
  (hu : ∀ (X : SlV) b', UpdO OW q [⟨X.val (q.n + m), b', q.e, q.esz, q.by_, q.n + m, q.xs ++ news⟩] (ow' X b'))
  (ht : T.slc t = some q.e) (hz : T.siz q.e = some (q.esz, agg)) (hzz : T.zer q.e = some z) (hzl : z.length = q.esz) (hby : T.byt q.e = some q.by_) (hpos : Nat.blt 0 q.esz = true)
  (hr : Reads ⟨N, SL, BL, OW, FA⟩ C q.esz v m news) (hb : (q.n + m) * q.by_ ≤ 140737488355328) (h63 : q.n + m ≤ 9223372036854775807)
  (h : ∀ (X : SlV) (b' : Option Nat), RW P T C ops r' ⟨N, (d, .v (X.val (q.n + m))) :: SL, BL, ow' X b', FA⟩ Q) : RW P T C ops r ⟨N, SL, BL, OW, FA⟩ Q := by
 have key : Loud P T C ⟨N, SL, BL, OW, FA⟩ o q.b.toList (fun s' => ∃ (X : SlV) (b' : Option Nat), s' = ⟨N, (d, .v (X.val (q.n + m))) :: SL, BL, ow' X b', FA⟩) := by
  intro hT a w hrep;refine Oper.wp_mono ?_ (qH (D := q.b.toList) hd hn (K := fun u bl ow fa => ∃ (X : SlV) (b' : Option Nat), u = X.val (q.n + m) ∧ bl = BL ∧ ow = ow' X b' ∧ fa = FA) ?_ hT a w hrep)
  ·rintro a' w' ⟨s', ⟨u, bl, ow, fa, ⟨X, b', e1, e2, e3, e4⟩, e5⟩, h2, h3⟩;subst e1; subst e2; subst e3; subst e4;exact ⟨s', ⟨X, b', e5⟩, h2, h3⟩
  ·intro hT a w hrep;have hm : q ∈ OW := by obtain ⟨l, r, e, _⟩ := (hu ⟨none, 0⟩ none).spec; rw [e]; simp
   have hq := hrep.wo.ow q hm;obtain ⟨A', c', b', w', hrun, ho', hgr, hbb⟩ := run_app (ty := o.type) hT ht hz hzz hzl hby (Nat.le_of_ble_eq_true hpos) hrep.wo hq hr hb h63;refine ⟨.slice A' (q.n + m) c', w', BL, ow' ⟨A', c'⟩ b', FA, ?_, hrep.wo.swapO (hu ⟨A', c'⟩ _) ho' hgr hbb, ⟨hgr.size, fun k hk hn => hgr.block k hk fun e => hn (by rw [← e]; simp)⟩, ⟨A', c'⟩, b', rfl, rfl, rfl, rfl⟩;simp only [execOp, ho, resolve, invoke, builtin, Sem.run_bind, Sem.run_pure, Result.andThen_ok, List.map_toArray, List.map_cons, List.map_nil, ev_ok hrep.sl hx hg0, ev_ok hrep.sl hy hg1, hrun]
 cases hf with
 | sq => exact rO hg key (fun s' ⟨X, b', e⟩ => by subst e; exact h X b')
 | lo _ hi hDD => exact rw_l (.lo q.b.toList hi hDD) hg key (fun s' ⟨X, b', e⟩ => by subst e; exact h X b')
 | an hi hDD =>
  refine rw_l (.an hi hDD) hg (fun hT a w hrep => Oper.wp_mono (fun a' w' ⟨s', h1, h2, h3⟩ => ⟨s', h1, h2, h3.mono fun k hk => ?_⟩) (key hT a w hrep)) (fun s' ⟨X, b', e⟩ => by subst e; exact h X b');rcases hbD k (by simpa using hk) with ⟨_, e⟩ | e
  ·cases e
  ·exact e
theorem le_nil (e esz by_ : Nat) : Le C ⟨N, SL, BL, OW, FA⟩ ⟨N, SL, BL, ⟨.slice A 0 0, none, e, esz, by_, 0, []⟩ :: OW, FA⟩ := fun a w hr =>
 ⟨hr.sz, hr.df, hr.sl, hr.wo.be, hr.wo.bl, fun q hq => (by
  cases hq with
  | head => exact ⟨by simp, by simp, rfl, A, rfl⟩
  | tail _ hq => exact hr.wo.ow q hq), hr.wo.nd, hr.wo.fa⟩
theorem AG (E : El α) (l : List α) {X : SlV} {b : Option Nat} (hu : UpdO OW ⟨X.val n, b, e, esz, by_, n, xs⟩ [] ow')
  (hn : n = l.length) (hx : xs = l.flatMap E.enc) (hes : esz = E.esz) (hby : by_ = E.by_) : Le C ⟨N, SL, BL, OW, FA⟩ ⟨N, SL, BL, ow', RdL E X l :: FA⟩ := by
 intro a w hr;subst hn; subst hx; subst hes; subst hby;have hl : ∀ e ∈ l, (E.enc e).length = E.esz := fun e _ => E.len e;obtain ⟨p, r, rfl, rfl⟩ := hu.spec;have hsub : (p ++ ([] ++ r)).Sublist (p ++ (⟨X.val l.length, b, e, E.esz, E.by_, l.length, l.flatMap E.enc⟩ : Own) :: r) := List.Sublist.append (List.Sublist.refl _) (List.sublist_cons_self _ _);have hi : (ids ⟨N, SL, BL, p ++ ([] ++ r), FA⟩).Sublist (ids ⟨N, SL, BL, p ++ (⟨X.val l.length, b, e, E.esz, E.by_, l.length, l.flatMap E.enc⟩ : Own) :: r, FA⟩) :=
  List.Sublist.append (List.Sublist.refl _) (hsub.filterMap _)
 refine ⟨hr.sz, hr.df, hr.sl, hr.wo.be, hr.wo.bl, fun q hq => hr.wo.ow q (hsub.subset hq), hi.nodup hr.wo.nd, fun F hF => ?_⟩;have hM : ∀ k, Mset C ⟨N, SL, BL, p ++ ([] ++ r), RdL E X l :: FA⟩ k → Mset C ⟨N, SL, BL, p ++ (⟨X.val l.length, b, e, E.esz, E.by_, l.length, l.flatMap E.enc⟩ : Own) :: r, FA⟩ k := fun k hm => by
  rcases hm with hm | hm
  ·exact .inl hm
  ·exact .inr (hi.subset hm)
 cases hF with
 | tail _ hF =>
  have h1 := hr.wo.fa F hF;exact ⟨h1.1, h1.1.st _ _ w w h1.2 ⟨Nr, fun _ _ _ => rfl⟩ fun k _ hm => hM k hm⟩
 | head =>
  refine ⟨inferInstance, ?_⟩;have ho := hr.wo.ow ⟨X.val l.length, b, e, E.esz, E.by_, l.length, l.flatMap E.enc⟩ (by simp);obtain ⟨h1, h2, h3⟩ := ho;simp only at h1 h2 h3;cases b with
  | none =>
   obtain ⟨h0, A, hA⟩ := h3;have hA : X.val l.length = .slice A 0 0 := hA;simp only [SlV.val, Value.slice.injEq] at hA;exact ⟨by omega, by omega, h2.2, fun hp => by omega⟩
  | some g =>
   obtain ⟨hg, cap, cur, hv, hh, hnc, hcap, hcs, htake⟩ := h3;simp only [SlV.val, Value.slice.injEq, true_and] at hv;obtain ⟨hva, hvc⟩ := hv;refine ⟨by rw [hvc]; exact hnc, by rw [hvc]; exact hcap, h2.2, fun hp => ⟨⟨g, 0, none⟩, hva, ke hh, fun hm => ?_, fun i hi' j v hv => ?_⟩⟩
   ·rcases hm with hm | hm
    ·rcases hg with hg | hg
     ·have := C.hM g hm;omega
     ·exact (C.hB g hg).2 hm
    ·have hnd := hr.wo.nd;unfold ids at hnd hm;simp only [List.nil_append] at hm;rw [List.filterMap_append, List.filterMap_cons] at hnd;simp only at hnd;have hp2 : (BL.map (·.g) ++ (p.filterMap (·.b) ++ g :: r.filterMap (·.b))).Perm (g :: (BL.map (·.g) ++ (p.filterMap (·.b) ++ r.filterMap (·.b)))) := by
      rw [← List.append_assoc, ← List.append_assoc];exact List.perm_middle
     have := (List.nodup_cons.1 (hp2.nodup_iff.1 hnd)).1;rw [List.filterMap_append] at hm;exact this hm
   ·rw [jH];simp only [World.cell?, hh];have hfm := eN l hl;obtain ⟨hjlt, _⟩ := List.getElem?_eq_some_iff.1 hv;have hel := hl _ (List.getElem_mem hi');have hij : i * E.esz + j < l.length * E.esz := by
     have : (i + 1) * E.esz ≤ l.length * E.esz := Nat.mul_le_mul_right _ hi';rw [Nat.add_mul] at this;omega
    have hflat : (l.flatMap E.enc)[i * E.esz + j]? = some v := px l hl i hi' j v hv;rw [← htake, List.getElem?_take, if_pos hij] at hflat;simpa using hflat
end
section
variable {P : Program} {T : Tab} {C : Cx} {ops : Array Oper} {o : Oper} {r r' : RS} {s : St} {Q : Post} {N : Nat} {SL : Slots} {BL : List Blk} {OW : List Own} {FA : List Pred} {c : Code}
variable {φ : Prop}
theorem e8 (pre : List Pred) (hpre : SubM FA pre) (hd : ∀ M w, AllF pre M w → φ) (h : φ → CW P T C c ⟨N, SL, BL, OW, FA⟩ Q) : CW P T C c ⟨N, SL, BL, OW, FA⟩ Q := fun hT a w hr =>
 h (hd (Mset C ⟨N, SL, BL, OW, FA⟩) w fun F hF => (hr.wo.fa F (hpre.mem F hF)).2) hT a w hr
theorem zS (pre : List Pred) (hpre : SubM FA pre) (hd : ∀ M w, AllF pre M w → φ) (h : φ → RW P T C ops r ⟨N, SL, BL, OW, FA⟩ Q) : RW P T C ops r ⟨N, SL, BL, OW, FA⟩ Q := fun hT a w hr =>
 h (hd (Mset C ⟨N, SL, BL, OW, FA⟩) w fun F hF => (hr.wo.fa F (hpre.mem F hF)).2) hT a w hr
variable {M : Nat → Prop} {w : World}
theorem allF1 {F : Pred} (h : AllF [F] M w) : F M w := h F (.head _)
variable {α : Type} {E : El α} {l : List α}
theorem RdL.nil_of {x : SlV} (h : RdL E x l M w) (hx : x.a.isNone = true) : l = [] := by
 obtain ⟨_, _, _, h4⟩ := h;cases l with
 | nil => rfl
 | cons a l =>
  obtain ⟨ad, ha, _⟩ := h4 (by simp);rw [ha] at hx;cases hx
theorem RdL.take {x : SlV} (h : RdL E x l M w) (k : Nat) : RdL E x (l.take k) M w := by
 obtain ⟨h1, h2, h3, h4⟩ := h;refine ⟨by simp; omega, h2, Nat.le_trans (Nat.mul_le_mul_right _ (by simp; omega)) h3, fun hp => ?_⟩;obtain ⟨ad, ha, hb, hm, hc⟩ := h4 (by simp at hp; omega);refine ⟨ad, ha, hb, hm, fun i hi j v hv => hc i (by simp at hi; omega) j v ?_⟩;simpa using hv
def slA (A : Option Addr) (c k esz : Nat) : Option Addr := if c = k then A else A.map (·.add (k * esz))
theorem RdL.drop {x : SlV} (h : RdL E x l M w) (k : Nat) (hk : k ≤ l.length) : RdL E ⟨slA x.a x.c k E.esz, x.c - k⟩ (l.drop k) M w := by
 obtain ⟨h1, h2, h3, h4⟩ := h;refine ⟨by simp; omega, by simp only []; omega, Nat.le_trans (Nat.mul_le_mul_right _ (by simp)) h3, fun hp => ?_⟩;simp at hp;obtain ⟨ad, ha, hb, hm, hc⟩ := h4 (by omega);refine ⟨ad.add (k * E.esz), by simp only [slA]; rw [if_neg (by omega), ha]; rfl, by rw [lp]; exact hb, by rw [lp]; exact hm, fun i hi j v hv => ?_⟩;rw [jd, ← Nat.add_assoc, ← Nat.add_mul];simp at hi;exact hc (k + i) (by omega) j v (by simpa using hv)
theorem RdL.nil (E : El α) (A : Option Addr) (c : Nat) (hc : c ≤ 9223372036854775807) (M : Nat → Prop) (w : World) : RdL E ⟨A, c⟩ [] M w := ⟨by simp, hc, by simp, by simp⟩
variable {t : Nat}
theorem zZ {e : Nat} (hu : P.underlying t = some (.slice e)) (d : Nat) (A : Option Addr) (n c : Nat) (w : World) : (Op.equalIn (d + 1) t (.slice A n c) (.slice none 0 0)).run P w = .ok A.isNone w := by
 cases A <;> simp [Op.equalIn, run_underlying hu]
variable {A : Option Addr} {G g0 : Bool} {x : Operand}
theorem nl {t t' e n c : Nat} (ho : o.op = .binOp .eql t x (.const (.slice none 0 0)) t') (he : ev SL x = some (g0, .slice A n c)) (hg0 : G = true → g0 = true) (ht : T.slc t = some e) : Quiet P T SL BL FA o G (.bool A.isNone) :=
 fun hT hG a w hsl _ => by
  have hx := ev_ok hsl he (hg0 hG);have hu := hT.slc _ _ ht;have h1 : (Op.equal t (.slice A n c) (.slice none 0 0)).run P w = .ok A.isNone w := zZ hu 9999 A n c w;simp [execOp, ho, hx, pz, eqGuard, binOp, h1]
theorem A4 (a : Addr) : a.add 0 = a := by simp [Addr.add]
variable {b g1 : Bool} {iv : Int} {k : IntKind} {y : Operand}
theorem rR {t e n c h esz : Nat} (ho : o.op = .slice t x none (some y) none) (he : ev SL x = some (g0, .slice A n c)) (hg0 : G = true → g0 = true)
  (hy : ev SL y = some (g1, .int k iv)) (hg1 : G = true → g1 = true) (ht : T.slc t = some e) (hz : T.siz e = some (esz, b)) (hi : G = true → iv = (h : Int)) (hle : G = true → h ≤ c) : Quiet P T SL BL FA o G (.slice A h c) :=
 fun hT hG a w hsl _ => by
  have hx := ev_ok hsl he (hg0 hG);have hy := ev_ok hsl hy (hg1 hG);have hu := hT.slc _ _ ht;obtain ⟨ti, d, q1, q2, q3, q4⟩ := hT.siz _ _ _ hz;have hi := hi hG;have hle := hle hG;subst hi;simp only [execOp, ho, hx, Option.map_none, Option.map_some, hy, Instr.sliceAt, Sem.run_bind, run_underlying hu, Result.andThen_ok, Instr.slice, Instr.sliceBounds, Instr.sliceBound, asIntOf, Sem.run_pure];rw [if_pos (by omega)];simp only [Sem.run_pure, Result.andThen_ok, dR q1, Int.toNat_natCast, Nat.sub_zero, Nat.zero_mul];split
  ·rfl
  ·cases A <;> simp [A4]
theorem CG {t e n c k0 esz : Nat} (ho : o.op = .slice t x (some y) none none) (he : ev SL x = some (g0, .slice A n c)) (hg0 : G = true → g0 = true)
  (hy : ev SL y = some (g1, .int k iv)) (hg1 : G = true → g1 = true) (ht : T.slc t = some e) (hz : T.siz e = some (esz, b)) (hi : G = true → iv = (k0 : Int)) (hle : G = true → k0 ≤ n) : Quiet P T SL BL FA o G (.slice (slA A c k0 esz) (n - k0) (c - k0)) :=
 fun hT hG a w hsl _ => by
  have hx := ev_ok hsl he (hg0 hG);have hy := ev_ok hsl hy (hg1 hG);have hu := hT.slc _ _ ht;obtain ⟨ti, d, q1, q2, q3, q4⟩ := hT.siz _ _ _ hz;have hi := hi hG;have hle := hle hG;subst hi;simp only [execOp, ho, hx, Option.map_none, Option.map_some, hy, Instr.sliceAt, Sem.run_bind, run_underlying hu, Result.andThen_ok, Instr.slice, Instr.sliceBounds, Instr.sliceBound, asIntOf, Sem.run_pure];rw [if_pos (by omega)];simp only [Sem.run_pure, Result.andThen_ok, dR q1, q2, Int.toNat_natCast, slA]
theorem CH {t e n c k0 h esz : Nat} {y' : Operand} {g2 : Bool} {k' : IntKind} {iv' : Int} (ho : o.op = .slice t x (some y) (some y') none) (he : ev SL x = some (g0, .slice A n c)) (hg0 : G = true → g0 = true)
  (hy : ev SL y = some (g1, .int k iv)) (hg1 : G = true → g1 = true) (hy' : ev SL y' = some (g2, .int k' iv')) (hg2 : G = true → g2 = true) (ht : T.slc t = some e) (hz : T.siz e = some (esz, b)) (hi : G = true → iv = (k0 : Int)) (hi' : G = true → iv' = (h : Int)) (hle : G = true → k0 ≤ h) (hlc : G = true → h ≤ c) :
  Quiet P T SL BL FA o G (.slice (slA A c k0 esz) (h - k0) (c - k0)) :=
 fun hT hG a w hsl _ => by
  have hx := ev_ok hsl he (hg0 hG);have hy := ev_ok hsl hy (hg1 hG);have hy' := ev_ok hsl hy' (hg2 hG);have hu := hT.slc _ _ ht;obtain ⟨ti, d, q1, q2, q3, q4⟩ := hT.siz _ _ _ hz;have hi := hi hG;have hi' := hi' hG;have hle := hle hG;have hlc := hlc hG;subst hi; subst hi';simp only [execOp, ho, hx, Option.map_none, Option.map_some, hy, hy', Instr.sliceAt, Sem.run_bind, run_underlying hu, Result.andThen_ok, Instr.slice, Instr.sliceBounds, Instr.sliceBound, asIntOf, Sem.run_pure];rw [if_pos (by omega)];simp only [Sem.run_pure, Result.andThen_ok, Int.toNat_natCast];rw [if_pos (by omega)];simp only [Sem.run_pure, Result.andThen_ok, dR q1, q2, Int.toNat_natCast, slA]
def gk : List Value → List Value → Bool
 | .int _ a :: l, .int _ b :: r => (a == b) && gk l r
 | .bool a :: l, .bool b :: r => (a == b) && gk l r
 | _, _ => true
def dg : List Bool → List Value → Bool
 | [], [] => true
 | true :: ks, .int .i64 _ :: l => dg ks l
 | false :: ks, .bool _ :: l => dg ks l
 | _, _ => false
def eqKs (P : Program) (f : TypeId → Option (List Bool)) : List Field → Nat → Option (List Bool)
 | [], _ => some []
 | fd :: fs, off => match fd.name == "_", Nat.beq fd.offset off, f fd.type, P.info? fd.type with
  | false, true, some ks, some ti => match Nat.beq ks.length ti.size, eqKs P f fs (off + ks.length) with
   | true, some r => some (ks ++ r)
   | _, _ => none
  | _, _, _, _ => none
def eqK (P : Program) : Nat → TypeId → Option (List Bool)
 | 0, _ => none
 | d + 1, t => match P.underlying t with
  | some (.int .i64) => some [true]
  | some .bool => some [false]
  | some (.struct fs) => match P.stoodInHeld t, P.eqGuardType P.depth t with
   | false, false => eqKs P (eqK P d) fs.toList 0
   | _, _ => none
  | _ => none
theorem fS : ∀ {ks : List Bool} {l : List Value}, dg ks l = true → l.length = ks.length
 | [], [], _ => rfl
 | true :: ks, .int .i64 n :: l, h => by simp only [dg] at h; simp [fS h]
 | false :: ks, .bool n :: l, h => by simp only [dg] at h; simp [fS h]
theorem kx : ∀ {ks ks' : List Bool} {l : List Value}, dg (ks ++ ks') l = true → dg ks (l.take ks.length) = true ∧ dg ks' (l.drop ks.length) = true
 | [], _, l, h => by simpa [dg] using h
 | true :: ks, ks', .int .i64 n :: l, h => by simp only [List.cons_append, dg] at h; simpa [dg] using kx h
 | false :: ks, ks', .bool n :: l, h => by simp only [List.cons_append, dg] at h; simpa [dg] using kx h
theorem nA : ∀ {ks : List Bool} {a b a' b' : List Value}, dg ks a = true → dg ks b = true → gk (a ++ a') (b ++ b') = (gk a b && gk a' b')
 | [], [], [], _, _, _, _ => by simp [gk]
 | true :: ks, .int .i64 n :: l, .int .i64 m :: r, _, _, h, h' => by
  simp only [dg] at h h';simp [gk, nA h h', Bool.and_assoc]
 | false :: ks, .bool n :: l, .bool m :: r, _, _, h, h' => by
  simp only [dg] at h h';simp [gk, nA h h', Bool.and_assoc]
theorem wu : ∀ {x : Value}, dg [true] [x] = true → ∃ n, x = .int .i64 n
 | .int .i64 n, _ => ⟨n, rfl⟩
theorem uE : ∀ {x : Value}, dg [false] [x] = true → ∃ n, x = .bool n
 | .bool n, _ => ⟨n, rfl⟩
theorem rP {n : Nat} {d : TypeDesc} (hu : P.underlying t = some d) (hd : aggD d = false) {cs : Array Value} {off : Nat} {v : Value} (h : cs[off]? = some v) (w : World) : (part t cs off).run P w = .ok v w := by
 simp [part, Sem.run_bind, kr hu, hd, h]
theorem eqK_ok (w : World) : ∀ (d : Nat) (t : TypeId) (ks : List Bool), eqK P d t = some ks → ∀ (k : Nat) (xs ys : List Value), dg ks xs = true → dg ks ys = true →
  (∀ fs, P.underlying t = some (.struct fs) → (Op.equalIn (k + d) t (.agg ⟨xs⟩) (.agg ⟨ys⟩)).run P w = .ok (gk xs ys) w) ∧
  ((∀ fs, P.underlying t ≠ some (.struct fs)) → ∃ dd x y, P.underlying t = some dd ∧ aggD dd = false ∧ xs = [x] ∧ ys = [y] ∧ (Op.equalIn (k + d) t x y).run P w = .ok (gk xs ys) w) := by
 intro d;induction d with
 | zero => intro t ks h; simp [eqK] at h
 | succ d ih =>
  intro t ks h k xs ys hx hy;simp only [eqK] at h;cases hu : P.underlying t with
  | none => simp [hu] at h
  | some dd =>
   refine ⟨fun fs hfs => ?_, fun hns => ?_⟩
   ·cases hfs;simp only [hu] at h;split at h
    ·rename_i hs hg;have hrun : (Op.equalIn (k + (d + 1)) t (.agg ⟨xs⟩) (.agg ⟨ys⟩)).run P w = (Op.eqFields (k + d) ⟨xs⟩ ⟨ys⟩ fs.toList).run P w := by
      have := run_equalIn_struct (P := P) w (k + d) t ⟨xs⟩ ⟨ys⟩ (by simp [Program.fieldsOf, hu]) hs;simpa [Program.fieldsOf, hu, Nat.add_assoc] using this
     rw [hrun];have key : ∀ (fs : List Field) (off : Nat) (ks : List Bool), eqKs P (eqK P d) fs off = some ks → dg ks (xs.drop off) = true → dg ks (ys.drop off) = true →
       (Op.eqFields (k + d) ⟨xs⟩ ⟨ys⟩ fs).run P w = .ok (gk (xs.drop off) (ys.drop off)) w := by
      intro fs;induction fs with
      | nil =>
       intro off ks h1 h2 h3;simp only [eqKs, Option.some.injEq] at h1;subst h1;have e1 := List.eq_nil_of_length_eq_zero (fS h2);have e2 := List.eq_nil_of_length_eq_zero (fS h3);simp [Op.eqFields, e1, e2, gk]
      | cons f fs ihf =>
       intro off ks h1 h2 h3;simp only [eqKs] at h1;split at h1
       ·rename_i ks1 ti hn ho hk hi;split at h1
        ·rename_i rks hl hr;simp only [Option.some.injEq] at h1;subst h1;have ho := Nat.eq_of_beq_eq_true ho;have hl := Nat.eq_of_beq_eq_true hl;obtain ⟨a1, a2⟩ := kx h2;obtain ⟨b1, b2⟩ := kx h3;rw [List.drop_drop] at a2 b2;have ih2 := ihf (off + ks1.length) rks hr a2 b2;have hname : f.name ≠ "_" := by simpa using hn
         have hfl : gk (xs.drop off) (ys.drop off) = (gk ((xs.drop off).take ks1.length) ((ys.drop off).take ks1.length) && gk (xs.drop (off + ks1.length)) (ys.drop (off + ks1.length))) := by
          have e1 := List.take_append_drop ks1.length (xs.drop off);have e2 := List.take_append_drop ks1.length (ys.drop off);rw [List.drop_drop] at e1 e2;rw [← nA a1 b1, e1, e2]
         obtain ⟨c1, c2⟩ := ih f.type ks1 hk k _ _ a1 b1;have hpe : ∃ x y, (part f.type ⟨xs⟩ f.offset).run P w = .ok x w ∧ (part f.type ⟨ys⟩ f.offset).run P w = .ok y w ∧
           (Op.equalIn (k + d) f.type x y).run P w = .ok (gk ((xs.drop off).take ks1.length) ((ys.drop off).take ks1.length)) w := by
          by_cases hst : ∃ fs', P.underlying f.type = some (.struct fs')
          ·obtain ⟨fs', hfs'⟩ := hst;refine ⟨_, _, ?_, ?_, c1 fs' hfs'⟩
           ·simp only [part, Sem.run_bind, kr hfs', Result.andThen_ok, aggD, if_true, dR hi, Sem.run_pure, ho, ← hl];congr 2;apply Array.ext';simp [List.extract]
           ·simp only [part, Sem.run_bind, kr hfs', Result.andThen_ok, aggD, if_true, dR hi, Sem.run_pure, ho, ← hl];congr 2;apply Array.ext';simp [List.extract]
          ·obtain ⟨dd, x, y, q1, q2, q3, q4, q5⟩ := c2 fun fs' h => hst ⟨fs', h⟩;have hlen1 : ks1.length = 1 := by have := fS a1; rw [q3] at this; simpa using this.symm
           refine ⟨x, y, rP (n := 0) q1 q2 ?_ w, rP (n := 0) q1 q2 ?_ w, q5⟩
           ·have : ((xs.drop off).take ks1.length)[0]? = some x := by rw [q3]; rfl
            rw [hlen1] at this;simpa [ho] using this
           ·have : ((ys.drop off).take ks1.length)[0]? = some y := by rw [q4]; rfl
            rw [hlen1] at this;simpa [ho] using this
         obtain ⟨x, y, p1, p2, p3⟩ := hpe;simp only [Op.eqFields, hname, ne_eq, not_false_eq_true, if_true, Sem.run_bind, p1, p2, p3, Result.andThen_ok, Sem.run_ite, Sem.run_pure];rw [hfl];cases hv : gk ((xs.drop off).take ks1.length) ((ys.drop off).take ks1.length) with
         | false => simp
         | true => simp [ih2]
        ·cases h1
       ·cases h1
     simpa using key fs.toList 0 ks h (by simpa using hx) (by simpa using hy)
    ·cases h
   ·have hone : ∀ b : Bool, ks = [b] → ∃ x y, xs = [x] ∧ ys = [y] := by
     intro b hb;subst hb;have h1 := fS hx;have h2 := fS hy
     match xs, ys, h1, h2 with
     | [x], [y], _, _ => exact ⟨x, y, rfl, rfl⟩
    cases dd with
    | int kd =>
     cases kd <;> simp [hu] at h;subst h;obtain ⟨x, y, rfl, rfl⟩ := hone _ rfl;obtain ⟨n1, rfl⟩ := wu hx;obtain ⟨n2, rfl⟩ := wu hy;exact ⟨_, _, _, rfl, rfl, rfl, rfl, by rw [show k + (d + 1) = (k + d) + 1 by omega]; simp [Op.equalIn, run_underlying hu, gk]⟩
    | bool =>
     simp [hu] at h;subst h;obtain ⟨x, y, rfl, rfl⟩ := hone _ rfl;obtain ⟨n1, rfl⟩ := uE hx;obtain ⟨n2, rfl⟩ := uE hy;exact ⟨_, _, _, rfl, rfl, rfl, rfl, by rw [show k + (d + 1) = (k + d) + 1 by omega]; simp [Op.equalIn, run_underlying hu, gk]⟩
    | struct fs => exact absurd rfl (hns fs)
    | _ => simp [hu] at h
end
section
variable {P : Program} {T : Tab} {C : Cx} {ops : Array Oper} {o : Oper} {r r' : RS} {s : St} {Q : Post} {N : Nat} {SL : Slots} {BL : List Blk} {OW : List Own} {FA : List Pred} {c : Code}
def isStr : Option TypeDesc → Bool | some (.struct _) => true | _ => false
def EqT (P : Program) (t : TypeId) (ks : List Bool) : Prop := eqK P 20 t = some ks ∧ isStr (P.underlying t) = true
variable {ks : List Bool} {t : TypeId} {xs ys : List Value}
theorem z0 (h : EqT P t ks) (hx : dg ks xs = true) (hy : dg ks ys = true) (w : World) :
  (Op.equal t (.agg ⟨xs⟩) (.agg ⟨ys⟩)).run P w = .ok (gk xs ys) w ∧ P.eqGuardType P.depth t = false := by
 obtain ⟨h1, h2⟩ := h;cases hu : P.underlying t with
 | none => simp [hu, isStr] at h2
 | some dd =>
  cases dd <;> simp [hu, isStr] at h2;rename_i fs;refine ⟨((eqK_ok (P := P) w 20 t ks h1 9980 xs ys hx hy).1 fs hu), ?_⟩;have h3 := h1;rw [eqK] at h3;simp only [hu] at h3;split at h3
  ·assumption
  ·cases h3
variable {G g0 g1 : Bool} {t' : TypeId} {x y : Operand}
theorem q_eqs (hE : EqT P t ks) (ho : o.op = .binOp .eql t x y t') (he : ev SL x = some (g0, .agg ⟨xs⟩)) (hg0 : G = true → g0 = true)
  (hy : ev SL y = some (g1, .agg ⟨ys⟩)) (hg1 : G = true → g1 = true) (hkx : dg ks xs = true) (hky : dg ks ys = true) : Quiet P T SL BL FA o G (.bool (gk xs ys)) :=
 fun _ hG a w hsl _ => by
  have h1 := ev_ok hsl he (hg0 hG);have h2 := ev_ok hsl hy (hg1 hG);obtain ⟨h3, h4⟩ := z0 (P := P) hE hkx hky w;have h5 := run_eqGuard_agg (P := P) w .eql t x y ⟨xs⟩ ⟨ys⟩ h4;simp only [execOp, ho, h1, h2, Sem.run_bind, h5, Result.andThen_ok, binOp, h3, Sem.run_pure]
theorem q_nes (hE : EqT P t ks) (ho : o.op = .binOp .neq t x y t') (he : ev SL x = some (g0, .agg ⟨xs⟩)) (hg0 : G = true → g0 = true)
  (hy : ev SL y = some (g1, .agg ⟨ys⟩)) (hg1 : G = true → g1 = true) (hkx : dg ks xs = true) (hky : dg ks ys = true) : Quiet P T SL BL FA o G (.bool (!gk xs ys)) :=
 fun _ hG a w hsl _ => by
  have h1 := ev_ok hsl he (hg0 hG);have h2 := ev_ok hsl hy (hg1 hG);obtain ⟨h3, h4⟩ := z0 (P := P) hE hkx hky w;have h5 := run_eqGuard_agg (P := P) w .neq t x y ⟨xs⟩ ⟨ys⟩ h4;simp only [execOp, ho, h1, h2, Sem.run_bind, h5, Result.andThen_ok, binOp, h3, Sem.run_pure]
variable {caps vs : List Value} {f : FuncId} {g : Bool} {ts : Array TypeId}
theorem uJ (hT : TabOk T P) {xs : Array Operand} (ho : o.op = .call ⟨.value x, xs, ts⟩) (hf : T.fnb f = true) {a : Act} (hsl : nE SL a)
  (hx : ev SL x = some (g0, .func (.func f) #[] ⟨caps⟩)) (hg0 : g0 = true) (he : evs SL xs.toList = some (g, vs)) (hg : g = true) (w : World) : (execOp a.eval o).run P w = .ok (.enter f (vs ++ caps).toArray) w := by
 have hv := wF hsl he hg;have hc := ev_ok hsl hx hg0;have : xs.map a.eval = vs.toArray := by apply Array.ext'; simp [hv]
 have h2 : vs.toArray ++ (⟨caps⟩ : Array Value) = (vs ++ caps).toArray := by apply Array.ext'; simp
 simp [execOp, ho, resolve, hc, Deferred.ofValue, invoke, this, yi hT hf, h2]
variable {D : List Nat} {d : Nat}
theorem yg {xs : Array Operand} {args : List Value} {pre : List Pred} {X : Type} {val : X → Value} {post : X → List Pred}
  (hS : Does P f args pre val post) (hfr : Front ops r o D r') (hg : Guard ops SL o true) (hd : o.dst = some d) (hn : Nat.blt d N = true) (ho : o.op = .call ⟨.value x, xs, ts⟩) (hx : ev SL x = some (g0, .func (.func f) #[] ⟨caps⟩)) (hg0 : g0 = true) (hf : T.fnb f = true)
  (he : evs SL xs.toList = some (g, vs)) (hgt : g = true) (ha : args = vs ++ caps) (hpre : SubM FA pre)
  (h : ∀ x, RW P T C ops r' ⟨N, (d, .v (val x)) :: SL, BL, OW, post x ++ FA⟩ Q) : RW P T C ops r ⟨N, SL, BL, OW, FA⟩ Q := by
 refine rw_l hfr hg (K := fun s' => ∃ x, s' = ⟨N, (d, .v (val x)) :: SL, BL, OW, post x ++ FA⟩) ?_ (fun s' ⟨x, e⟩ => by subst e; exact h x);intro hT a w hrep;subst ha;refine vF hS (uJ hT ho hf hrep.sl hx hg0 he hgt w) hd hrep hpre.mem (RB := BL) (RO := OW) (.refl _) (.refl _) fun x w' hw hk => ?_;exact ⟨_, ⟨x, rfl⟩, hrep.putv (Nat.le_of_ble_eq_true hn) (x := .v (val x)) (u := val x) rfl ⟨hw.be, hw.bl, hw.ow, hw.nd, hw.fa⟩, hk.mono (by simp [Lent.ids])⟩
def VarP (g : Nat) (cs : List Value) : Pred := fun M w => (∃ t, w.heap[g]? = some (.cells cs.toArray t (0, 0))) ∧ ¬ M g
instance (g : Nat) (cs : List Value) : Stab (VarP g cs) where
 st M M' w w' h hx hM := by
  obtain ⟨⟨t, ht⟩, hm⟩ := h;have := ke ht;exact ⟨⟨t, (hx.2 g this hm).trans ht⟩, fun h => hm (hM g this h)⟩
variable {cs : List Value}
theorem rY {g : Nat} {bl' : List Blk} (hp : Pick ⟨g, t, cs⟩ BL bl') : Le C ⟨N, SL, BL, OW, FA⟩ ⟨N, SL, bl', OW, VarP g cs :: FA⟩ := by
 intro a w hr;have hperm := hp.perm;have hi : (ids ⟨N, SL, BL, OW, FA⟩).Perm (g :: ids ⟨N, SL, bl', OW, VarP g cs :: FA⟩) := (hperm.map (·.g)).append_right _;have hnd := (List.nodup_cons.1 (hi.nodup_iff.1 hr.wo.nd));have hM : ∀ k, Mset C ⟨N, SL, bl', OW, VarP g cs :: FA⟩ k → Mset C ⟨N, SL, BL, OW, FA⟩ k := fun k hm => by
  rcases hm with hm | hm
  ·exact .inl hm
  ·exact .inr (hi.symm.subset (.tail _ hm))
 have hB := hr.wo.bl ⟨g, t, cs⟩ (hperm.symm.subset (.head _));refine ⟨hr.sz, hr.df, hr.sl, hr.wo.be, fun k hk => hr.wo.bl k (hperm.symm.subset (.tail _ hk)), hr.wo.ow, hnd.2, fun F hF => ?_⟩;cases hF with
 | head =>
  refine ⟨inferInstance, ⟨t, hB.1⟩, fun hm => ?_⟩;rcases hm with hm | hm
  ·have h1 := C.hM g hm;have h2 := hB.2;rcases h2 with h2 | h2
   ·simp only at h2;omega
   ·exact (C.hB g h2).2 hm
  ·exact hnd.1 hm
 | tail _ hF =>
  have h1 := hr.wo.fa F hF;exact ⟨h1.1, h1.1.st _ _ w w h1.2 ⟨Nr, fun _ _ _ => rfl⟩ fun k _ hm => hM k hm⟩
variable {n : Nat}
theorem q_lf1 {t : Nat} {g off : Nat} {v : Value} (ho : o.op = .load t x)
  (he : ev SL x = some (g0, .pointer (some ⟨g, off, none⟩))) (hg0 : G = true → g0 = true) (hs : T.siz t = some (n, false)) (hm : VarP g cs ∈ FA) (hv : cs[off]? = some v) : Quiet P T SL BL FA o G v :=
 iR ho he hg0 fun hT _ w hw => i5 hT hs (by
  obtain ⟨_, ⟨t, ht⟩, _⟩ := hw.fa _ hm;rw [le ht]; exact hv)
theorem q_lfA {t : Nat} {g : Nat} (ho : o.op = .load t x)
  (he : ev SL x = some (g0, .pointer (some ⟨g, 0, none⟩))) (hg0 : G = true → g0 = true) (hs : T.siz t = some (n, true)) (hm : VarP g cs ∈ FA) (hl : cs.length = n) : Quiet P T SL BL FA o G (.agg ⟨cs⟩) :=
 iR ho he hg0 fun hT _ w hw => by
  obtain ⟨_, ⟨t', ht⟩, _⟩ := hw.fa _ hm;refine j7 hT hs hl fun j v hj => ?_;rw [jH, Nat.zero_add, le ht];exact hj
theorem WOk.allocO {w : World} (h : WOk C ⟨N, SL, BL, OW, FA⟩ w) (e esz by_ n : Nat) (cs : List Value) (hl : cs.length = n * esz) (hn : n ≤ 9223372036854775807) (hnb : n * by_ ≤ 140737488355328) :
  WOk C ⟨N, SL, BL, ⟨.slice (some ⟨w.heap.size, 0, none⟩) n n, some w.heap.size, e, esz, by_, n, cs⟩ :: OW, FA⟩ { w with heap := w.heap.push (.cells cs.toArray e) } := by
 have hb : Below w.heap.size w { w with heap := w.heap.push (.cells cs.toArray e) } :=
  ⟨rfl, rfl, rfl, by simp, fun k hk => by simp only; rw [Array.getElem?_push, if_neg (by omega)]⟩
 have hg := h.grow hb;refine ⟨hg.be, hg.bl, ?_, ?_, ?_⟩
 ·intro q hq;cases hq with
  | head => exact ⟨hl, ⟨hn, hnb⟩, .inl h.be.size, n, cs.toArray, rfl, by simp, Nr, hn, by simpa using hl, by simp [← hl]⟩
  | tail _ hq => exact hg.ow q hq
 ·have hp : (BL.map (·.g) ++ w.heap.size :: OW.filterMap (·.b)).Perm (w.heap.size :: (BL.map (·.g) ++ OW.filterMap (·.b))) := List.perm_middle;exact hp.nodup_iff.2 (List.nodup_cons.2 ⟨fun hm => Nat.lt_irrefl _ (kK h hm).1, h.nd⟩)
 ·intro F hF;refine ⟨(h.fa F hF).1, (h.fa F hF).1.st _ _ w _ (h.fa F hF).2 ⟨hb.size, fun k hk _ => hb.block k hk⟩ fun k hk hm => ?_⟩;rcases hm with hm | hm
  ·exact .inl hm
  ·have hp : (BL.map (·.g) ++ w.heap.size :: OW.filterMap (·.b)).Perm (w.heap.size :: (BL.map (·.g) ++ OW.filterMap (·.b))) := List.perm_middle;rcases List.mem_cons.1 (hp.subset hm) with e | e
   ·omega
   ·exact .inr e
def kC (z : List Value) (n : Nat) : List Value := (List.range n).map fun i => (z[i % z.length]?).getD undef
theorem zW {t e esz by_ : Nat} {b : Bool} {parts : List (Nat × Operand)} {vs : List (Nat × Value)} {z : List Value} (hf : Front ops r o D r') (hg : Guard ops SL o true) (hd : o.dst = some d) (hn : Nat.blt d N = true) (ho : o.op = .buildSlice t n ⟨parts⟩)
  (ht : T.slc t = some e) (hz : T.siz e = some (esz, b)) (hzz : T.zer e = some z) (hzl : z.length = esz) (hby : T.byt e = some by_) (hnb : Nat.ble (n * by_) 140737488355328 = true) (hpos : Nat.blt 0 esz = true) (he : evp SL parts = some (g, vs)) (hgt : g = true) (hfill : fillL ((List.range n).map fun i => (i * esz, esz)) (kC z (n * esz)) vs = some cs) (hcl : cs.length = n * esz) (hsm : Nat.ble (n * esz) 16777216 = true)
  (h : ∀ (X : SlV) (b' : Option Nat), RW P T C ops r' ⟨N, (d, .v (X.val n)) :: SL, BL, ⟨X.val n, b', e, esz, by_, n, cs⟩ :: OW, FA⟩ Q) : RW P T C ops r ⟨N, SL, BL, OW, FA⟩ Q :=
 uo hf hg hd hn (K := fun u bl ow fa => ∃ (X : SlV) (b' : Option Nat), u = X.val n ∧ bl = BL ∧ ow = ⟨X.val n, b', e, esz, by_, n, cs⟩ :: OW ∧ fa = FA)
  (fun hT a w hrep => by
   obtain ⟨ti, dd, q1, q2, q3, q4⟩ := hT.siz _ _ _ hz;obtain ⟨ti', zv, p1, p2, p3⟩ := hT.zer _ _ hzz;have hsm := Nat.le_of_ble_eq_true hsm;have hpos : 0 < esz := Nat.le_of_ble_eq_true hpos;have hns : n ≤ n * esz := Nat.le_mul_of_pos_right _ hpos;refine ⟨.slice (some ⟨w.heap.size, 0, none⟩) n n, _, BL, _, FA, ?_, hrep.wo.allocO e esz by_ n cs hcl (by omega) (Nat.le_of_ble_eq_true hnb), pu _ _ _, ⟨some ⟨w.heap.size, 0, none⟩, n⟩, some w.heap.size, rfl, rfl, rfl, rfl⟩;have hv := yD hrep.sl he hgt;have hvs : ((⟨parts⟩ : Array (Nat × Operand)).map fun (i, x) => (i, a.eval x)).toList = vs := by rw [← hv]; simp
   simp only [execOp, ho, Instr.buildSlice, Sem.run_bind, run_underlying (hT.slc _ _ ht), Result.andThen_ok, dR q1, q2];rw [if_neg (by omega)];have hfl : ∀ zs : Array Value, zs.toList = kC z (n * esz) → Instr.fill (fun i => some (i * esz, esz)) zs vs = some cs.toArray := by
    intro zs hzs;have key : ∀ (vs : List (Nat × Value)) (cs0 r : List Value), fillL ((List.range n).map fun i => (i * esz, esz)) cs0 vs = some r → Instr.fill (fun i => some (i * esz, esz)) cs0.toArray vs = some r.toArray := by
     intro vs;induction vs with
     | nil => intro cs0 r h; simp [fillL] at h; simp [Instr.fill, h]
     | cons p vs ih =>
      intro cs0 r h;obtain ⟨i, v⟩ := p;simp only [fillL] at h;split at h
      ·cases h
      ·rename_i off sz hi;have hoff : off = i * esz ∧ sz = esz := by
        simp only [List.getElem?_map] at hi;cases hri : (List.range n)[i]? with
        | none => simp [hri] at hi
        | some k =>
         simp [hri] at hi;have := List.getElem?_eq_some_iff.1 hri;obtain ⟨h1, h2⟩ := this;simp at h2;exact ⟨by rw [← hi.1, ← h2], hi.2.symm⟩
       obtain ⟨rfl, rfl⟩ := hoff;split at h
       ·rename_i h1 h2;have h1 := Nat.eq_of_beq_eq_true h1;have h2 := Nat.le_of_ble_eq_true h2;simp only [Instr.fill];have h1' : v.cells.size = sz := by simpa using h1
        rw [if_neg (by simp [h1']; omega)];have := ih _ _ h;rw [← this];congr 1;apply Array.ext';rw [← Array.foldl_toList, Array.toList_zipIdx];exact pv v.cells.toList cs0.toArray 0 (i * sz)
       ·cases h
    have hz2 : zs = (kC z (n * esz)).toArray := by apply Array.ext'; simp [hzs]
    rw [hz2];exact key vs _ _ hfill
   by_cases h0 : n * esz = 0
   ·rw [if_pos h0];simp only [Sem.run_bind, Sem.run_pure, Result.andThen_ok, hvs];have hz0 : ∀ z : Array Value, (Array.range (n * esz)).map (fun x => z[x % z.size]!) = #[] := fun z => by rw [h0]; simp
    rw [hz0, hfl #[] (by simp [h0, kC])];simp [newRow]
   ·rw [if_neg h0];simp only [Sem.run_bind, lz p1 p2, Result.andThen_ok, Sem.run_pure, hvs];rw [hfl _ (by
     simp only [Array.toList_map, Array.toList_range, kC];refine List.map_congr_left fun i hi => ?_;have hzs : zv.cells.size = z.length := by rw [← p3]; simp
     have hlt : i % z.length < z.length := Nat.mod_lt _ (by omega);rw [hzs, getElem!_pos zv.cells (i % z.length) (by omega)];have hlt' : i % z.length < zv.cells.size := by omega
     have hg : zv.cells.toList[i % z.length]? = some (zv.cells[i % z.length]'hlt') := by
      rw [Array.getElem?_toList];exact Array.getElem?_eq_getElem hlt'
     rw [p3] at hg;rw [hg];rfl)]
    simp [newRow])
  (fun u bl ow fa ⟨X, b', e1, e2, e3, e4⟩ => by subst e1; subst e2; subst e3; subst e4; exact h X b')
end
section
open Go.ChangeShapes Go.Deep Go.WideShapes
section
variable {H : Type} {enc : TypeId × Value → H} {P : Program} {w : World} {base : Nat} {spare : Nat → Bool} {held : Bool}
theorem p6 : ∀ {a b : List Bool} {x y : List Value}, dg a x = true → dg b y = true → dg (a ++ b) (x ++ y) = true
 | [], _, [], _, _, h => by simpa using h
 | true :: a, b, .int .i64 n :: x, y, h, h' => by simp only [dg] at h; simpa [dg] using p6 h h'
 | false :: a, b, .bool n :: x, y, h, h' => by simp only [dg] at h; simpa [dg] using p6 h h'
theorem yH {f : TypeId → Option (List Bool)} : ∀ {fs : List Field} {off : Nat} {ks : List Bool}, eqKs P f fs off = some ks → ∀ (cs : List Value), cs.length = off + ks.length →
  (∀ (fd : Field), fd ∈ fs → ∀ ks', f fd.type = some ks' → P.cellsOf fd.type = ks'.length → dg ks' ((cs.drop fd.offset).take (P.cellsOf fd.type)) = true) → dg ks (cs.drop off) = true
 | [], off, ks, h, cs, hl, _ => by
  simp only [eqKs, Option.some.injEq] at h;subst h;have : cs.drop off = [] := List.drop_eq_nil_of_le (by simpa using Nat.le_of_eq hl);rw [this]; rfl
 | fd :: fs, off, ks, h, cs, hl, hf => by
  simp only [eqKs] at h;split at h
  ·rename_i ks1 ti hn ho hk hi;split at h
   ·rename_i rks hb hr;simp only [Option.some.injEq] at h;subst h;have ho := Nat.eq_of_beq_eq_true ho;have hb := Nat.eq_of_beq_eq_true hb;have hc : P.cellsOf fd.type = ks1.length := by simp [Program.cellsOf, hi, hb]
    have h1 := hf fd (.head _) ks1 hk hc;rw [ho, hc] at h1;have ih := yH hr cs (by rw [hl]; simp [Nat.add_assoc]) (fun fd' hm => hf fd' (.tail _ hm));have e : cs.drop off = (cs.drop off).take ks1.length ++ cs.drop (off + ks1.length) := by
     have := List.take_append_drop ks1.length (cs.drop off);rw [List.drop_drop] at this;exact this.symm
    rw [e];exact p6 h1 ih
   ·cases h
  ·cases h
theorem qL : ∀ (d : Nat) (t : TypeId) (ks : List Bool), eqK P d t = some ks → P.cellsOf t = ks.length → ∀ (fuel : Nat) (cs : List Value) (x : DataW H × List MemPlace),
  DataW.trod enc P w base spare held fuel t cs = some x → dg ks cs = true := by
 intro d;induction d with
 | zero => intro t ks h; simp [eqK] at h
 | succ d ih =>
  intro t ks h hc fuel cs x hx;simp only [eqK] at h;cases hu : P.underlying t with
  | none => simp [hu] at h
  | some dd =>
   cases dd with
   | int kd =>
    cases kd <;> simp [hu] at h;subst h;obtain ⟨n, rfl, _⟩ := DataW.trod_int hu hx;rfl
   | bool =>
    simp [hu] at h;subst h;obtain ⟨b, rfl, _⟩ := DataW.trod_bool hu hx;rfl
   | struct fs =>
    simp only [hu] at h;split at h
    ·obtain ⟨xs, n, rfl, _, hlen, hxl, hf⟩ := DataW.trod_struct hu hx;have := yH (P := P) h cs (by rw [hlen, hc]; simp) (fun fd hfd ks' hk' hc' => by
      obtain ⟨i, hi, hfi⟩ := List.getElem_of_mem hfd;have hfi' : fs[i]? = some fd := by rw [← Array.getElem?_toList, List.getElem?_eq_getElem hi, hfi]
      have h1 := hf i fd hfi';have hilt : i < xs.length := by rw [hxl]; simpa using hi
      rw [List.getElem?_eq_getElem hilt] at h1;exact ih fd.type ks' hk' hc' n _ _ h1)
     simpa using this
    ·cases h
   | _ => simp [hu] at h
structure Encs {α : Type} (ks : List Bool) (encα : α → List Value) : Prop where
 on : ∀ a, dg ks (encα a) = true
 to : ∀ cs, dg ks cs = true → ∃ a, encα a = cs
theorem lH : ∀ {ks : List Bool} {l : List Value}, dg ks l = true → ∀ u ∈ l, u.oneCell' = true
 | [], [], _, u, hu => by cases hu
 | true :: ks, .int .i64 n :: l, h, u, hu => by
  simp only [dg] at h;rcases List.mem_cons.1 hu with rfl | hu
  ·rfl
  ·exact lH h u hu
 | false :: ks, .bool n :: l, h, u, hu => by
  simp only [dg] at h;rcases List.mem_cons.1 hu with rfl | hu
  ·rfl
  ·exact lH h u hu
variable {α : Type}
theorem qd {n : Nat} {p : Nat → α → Prop} (h : ∀ i, i < n → ∃ a, p i a) : ∃ l : List α, l.length = n ∧ ∀ (i : Nat) (hi : i < l.length), p i l[i] := by
 induction n with
 | zero => exact ⟨[], rfl, fun i hi => absurd hi (by simp)⟩
 | succ n ih =>
  obtain ⟨l, hl, hp⟩ := ih fun i hi => h i (by omega);obtain ⟨a, ha⟩ := h n (by omega);refine ⟨l ++ [a], by simp [hl], fun i hi => ?_⟩;by_cases hlt : i < l.length
  ·rw [List.getElem_append_left hlt]; exact hp i hlt
  ·have : i = n := by simp [hl] at hi; omega
   subst this;rw [List.getElem_append_right (by omega)];simp [hl];exact ha
theorem Dy {E : El α} {ks : List Bool} {t e by_ : TypeId} {fuel : Nat} {cs : List Value} {x : DataW H × List MemPlace} (hE : Encs ks E.enc) (hby' : E.by_ = by_) (ht : P.underlying t = some (.slice e)) (he : eqK P 20 e = some ks) (hc : P.cellsOf e = ks.length)
  (hpos : 0 < ks.length) (hby : P.bytesOf e = by_) (h : DataW.trod enc P w 0 (fun _ => true) true fuel t cs = some x) (hsz : (x.1.weights P t).all (· ≤ reachBytes) = true) :
  ∃ (X : SlV) (l : List α), cs = [X.val l.length] ∧ RdL E X l (fun _ => False) w := by
 subst hby';rcases open_slice ht h with ⟨rfl, _⟩ | ⟨a, len, cap, m, n, D, Pl, rfl, _, hlc, hcm, hm, hx, hi⟩
 ·exact ⟨⟨none, 0⟩, [], rfl, RdL.nil E none 0 (by omega) _ _⟩
 ·simp only [if_true] at hm;have hrow : ∀ i, i < len → ∃ a0 : α, ∀ (j : Nat) (v : Value), (E.enc a0)[j]? = some v → w.cell? (a.add (i * ks.length + j)) = some v := by
   intro i hil;obtain ⟨cs', hcs, htr⟩ := hi i (by omega);have hk := qL 20 e ks he hc _ _ _ htr;obtain ⟨a0, rfl⟩ := hE.to cs' hk;obtain ⟨_, hl, hat⟩ := World.cells?_some hcs;refine ⟨a0, fun j v hv => ?_⟩;obtain ⟨hlt, _⟩ := List.getElem?_eq_some_iff.1 hv;have := hat j (by omega);rw [hc, jd] at this;rw [this, hv]
  obtain ⟨l, hl, hp⟩ := qd hrow;have hbound : l.length * E.by_ ≤ 140737488355328 := by
   subst hx;rw [List.all_eq_true] at hsz;have := hsz ((len + (m - len)) * E.by_) (by simp [DataW.weights, ht, hby]);have h2 : l.length * E.by_ ≤ (len + (m - len)) * E.by_ := Nat.mul_le_mul_right _ (by omega);have h3 : reachBytes ≤ 140737488355328 := by decide
   simp at this;omega
  refine ⟨⟨some a, cap⟩, l, by rw [hl]; rfl, ⟨by rw [hl]; exact hlc, by simpa [maxLen] using hcm, hbound, fun hpl => ⟨a, rfl, ?_, fun h => h, fun i hi j v hv => by rw [show E.esz = ks.length by rw [← E.len l[i], fS (hE.on l[i])]]; exact hp i hi j v hv⟩⟩⟩
  ·have h0 := hp 0 hpl;have hle := fS (hE.on l[0]);have := h0 0 _ (List.getElem?_eq_getElem (by omega));have hcell := this;unfold World.cell? at hcell;rw [lp] at hcell;cases hh : w.heap[a.block]? with
   | none => simp [hh] at hcell
   | some ob => exact ke hh
end
section
variable {H : Type} {enc : TypeId × Value → H} {P : Program}
theorem qr (hl : laidOutB P = true) {W W' : World} (hb : Below W.heap.size W W') : ∀ {ts : List TypeId} {vs : List Value} {ds : List (DataW H)} {ps : List MemPlace},
  (∀ t ∈ ts, P.readableRec t = true ∧ t < P.types.size) → DataW.TrodAll enc P W 0 (fun _ => true) true ts vs ds ps → (∀ x ∈ ps, x.block < W.heap.size) → DataW.TrodAll enc P W' 0 (fun b => decide (b < W.heap.size)) true ts vs ds ps
 | [], [], [], _, _, h, _ => h
 | t :: ts, v :: vs, d :: ds, ps, hr, h, hlt => by
  obtain ⟨p, q, h1, h2, rfl⟩ := h;exact ⟨p, q, Below.trod hl (hr t (.head _)).1 (hr t (.head _)).2 h1 hb (fun x hx => hlt x (List.mem_append_left _ hx)), qr hl hb (fun t' ht' => hr t' (.tail _ ht')) h2 (fun x hx => hlt x (List.mem_append_right _ hx)), rfl⟩
 | [], _ :: _, _, _, _, h, _ => by simp [DataW.TrodAll] at h
 | [], [], _ :: _, _, _, h, _ => by simp [DataW.TrodAll] at h
 | _ :: _, [], _, _, _, h, _ => by simp [DataW.TrodAll] at h
 | _ :: _, _ :: _, [], _, _, h, _ => by simp [DataW.TrodAll] at h
theorem law_step {f : FuncId} {fn : Func} {s : ChangeSpec} {bt : TypeId} (hl : laidOutB P = true) (hvars : s.vars = []) (hb : P.underlying bt = some .bool) (hres : fn.resultTypes = #[bt]) (hpar : fn.params.toList.all (fun t => P.readableRec t && decide (t < P.types.size)) = true)
  {W : World} {args : Array Value} {ds gs : List (DataW H)} {before : List MemPlace} (hW : DataW.Whole enc P fn.params.toList s.vars false W args.toList ds gs before) (hs : s.fn H (ds ++ gs) = { results := [.lit (.bool true)], args := ds })
  (hcall : Calls P f args W fun e W' => e = .returned (.bool true) ∧ Below W.heap.size W W') :
  Calls P f args W fun e W' => ∃ v, e = .returned v ∧ s.post enc P fn false true false false W args v W' := by
 refine hcall.mono fun e W' ⟨he, hbw⟩ => ⟨_, he, ?_⟩;have hW' := hW;obtain ⟨p, q, hA, hV, rfl, hfz, _⟩ := hW';rw [hvars] at hV;obtain ⟨rfl, rfl⟩ := trodVars_none hV;have hlt : ∀ x ∈ p, x.block < W.heap.size := fun x hx => hW.lt x (List.mem_append_left _ hx);have hpar' : ∀ t ∈ fn.params.toList, P.readableRec t = true ∧ t < P.types.size := fun t ht => by
  have := List.all_eq_true.1 hpar t ht;simpa using this
 refine ⟨ds, [], p ++ [], [], p, [], hW, ?_, ?_, ?_, hbw.frame _, fun h => by cases h⟩
 ·rw [hs, hres];exact ⟨[], [], ⟨1, by simp [DataW.trod, hb, Value.cells, Value.resultList]⟩, rfl, rfl⟩
 ·rw [hs];exact qr hl hbw hpar' hA hlt
 ·rw [hs, hvars];exact rfl
end
end
section
variable {P : Program} {T : Tab} {C : Cx} {ops : Array Oper} {o : Oper} {r r' : RS} {s : St} {Q : Post} {N : Nat} {SL : Slots} {BL : List Blk} {OW : List Own} {FA : List Pred} {c : Code}
theorem vi {fp : Nat → Option (List Nat)} {fuel : Nat} {listed : Array Bool} (i j k : Nat) (hr : Region.ready .any ops listed = [i, j, k]) (h : RW P T C ops (.at_ fp fuel listed i) s Q) (h' : RW P T C ops (.at_ fp fuel listed j) s Q) (h'' : RW P T C ops (.at_ fp fuel listed k) s Q) : RW P T C ops (.an fp (fuel + 1) listed) s Q := fun hT a w hrep =>
 ⟨by rw [hr]; simp, by
  rw [hr]; intro m hm;rcases List.mem_cons.1 hm with rfl | hm
  ·exact h hT a w hrep
  ·rcases List.mem_cons.1 hm with rfl | hm
   ·exact h' hT a w hrep
   ·rw [List.mem_singleton] at hm; subst hm; exact h'' hT a w hrep⟩
variable {α : Type}
theorem ag [BEq α] [LawfulBEq α] {a b : α} (h : (a != b) = false) : a = b := by simpa using h
def joinQ {ι : Type} (C : Cx) (J : ι → St) (inv : ι → Prop) (Q : Post) : Post
 | .normal, s' => ∃ i, inv i ∧ Le C s' (J i)
 | e, s' => Q e s'
variable {ι : Type}
theorem B2 (J : ι → St) (inv : ι → Prop) {y : Code} (h : CW P T C c s (joinQ C J inv Q)) (hj : ∀ i, inv i → CW P T C y (J i) Q) : CW P T C c s (thenQ P T C y Q) := fun hT a w hr =>
 Code.wp_mono (fun e a w hq => by
  cases e with
  | normal => obtain ⟨s', ⟨i, h1, h2⟩, h3⟩ := hq; exact ⟨s', cw_le h2 (hj i h1), h3⟩
  | exit i => exact hq
  | ret => exact hq
  | goto l => exact hq.elim
  | panic c => exact hq.elim
  | outgrown => exact hq.elim) (h hT a w hr)
theorem my (keep : List Nat) (mask : List Bool) (mS : ι → Slots) (mB : ι → List Blk) (mO : ι → List Own) (mF : ι → List Pred) (inv : ι → Prop) {y : Code} {SL' : Slots} {BL' : List Blk}
  (_hsel : Sel SL keep SL') (_hB : SelB BL mask BL')
  (h : CW P T C c ⟨N, SL, BL, OW, FA⟩ (joinQ C (fun i => ⟨N, mS i ++ SL', mB i ++ BL', mO i, mF i ++ FA⟩) inv Q))
  (hj : ∀ i, inv i → CW P T C y ⟨N, mS i ++ SL', mB i ++ BL', mO i, mF i ++ FA⟩ Q) : CW P T C c ⟨N, SL, BL, OW, FA⟩ (thenQ P T C y Q) :=
 B2 _ inv h hj
abbrev ownL {α : Type} (E : El α) (e : TypeId) (X : SlV) (b : Option Nat) (l : List α) : Own := ⟨X.val l.length, b, e, E.esz, E.by_, l.length, l.flatMap E.enc⟩
theorem eI (E : El α) (e : TypeId) : Le C ⟨N, SL, BL, OW, FA⟩ ⟨N, SL, BL, ownL E e ⟨none, 0⟩ none ([] : List α) :: OW, FA⟩ := le_nil e E.esz E.by_
theorem pt (E : El α) (e : TypeId) (X : SlV) (b : Option Nat) (l : List α) {ow' : List Own} (hu : UpdO OW (ownL E e X b l) [] ow') : Le C ⟨N, SL, BL, OW, FA⟩ ⟨N, SL, BL, ow', RdL E X l :: FA⟩ :=
 AG E l hu rfl rfl rfl rfl
variable {E : El α} {X : SlV} {l : List α}
theorem ur {e : TypeId} {b : Option Nat} (hm : ownL E e X b l ∈ OW) : Reads ⟨N, SL, BL, OW, FA⟩ C E.esz (X.val l.length) l.length (l.flatMap E.enc) :=
 z3 (q := ownL E e X b l) hm fun u hu => by
  obtain ⟨a, _, ha⟩ := List.mem_flatMap.1 hu;exact E.one a u ha
theorem oH (hm : RdL E X l ∈ FA) : Reads ⟨N, SL, BL, OW, FA⟩ C E.esz (X.val l.length) l.length (l.flatMap E.enc) :=
 BK hm rfl rfl
variable {D : List Nat} {d t : Nat} {g0 g1 : Bool} {v : Value} {x y : Operand} {z : List Value}
theorem kq (E : El α) (l m : List α) {e : TypeId} {b : Option Nat} {agg : Bool} {ow' : SlV → Option Nat → List Own} (hf : Front ops r o D r') (hbD : ∀ g, b = some g → (∃ l, r = .sq l) ∨ g ∈ D) (hg : Guard ops SL o true) (hd : o.dst = some d) (hn : Nat.blt d N = true)
  (ho : o.op = .call ⟨.builtin .append, ⟨[x, y]⟩, ⟨[t, t]⟩⟩) (hx : ev SL x = some (g0, X.val l.length)) (hg0 : g0 = true) (hy : ev SL y = some (g1, v)) (hg1 : g1 = true)
  (hu : ∀ (X' : SlV) b', UpdO OW (ownL E e X b l) [ownL E e X' b' (l ++ m)] (ow' X' b'))
  (ht : T.slc t = some e) (hz : T.siz e = some (E.esz, agg)) (hzz : T.zer e = some z) (hzl : z.length = E.esz) (hby : T.byt e = some E.by_) (hpos : Nat.blt 0 E.esz = true) (hbp : Nat.blt 0 E.by_ = true)
  (hr : Reads ⟨N, SL, BL, OW, FA⟩ C E.esz v m.length (m.flatMap E.enc)) (hb : (l.length + m.length) * E.by_ ≤ 140737488355328)
  (h : ∀ (X' : SlV) (b' : Option Nat), RW P T C ops r' ⟨N, (d, .v (X'.val (l ++ m).length)) :: SL, BL, ow' X' b', FA⟩ Q) : RW P T C ops r ⟨N, SL, BL, OW, FA⟩ Q := by
 have e1 : (l ++ m).length = l.length + m.length := by simp
 have e2 : (l ++ m).flatMap E.enc = l.flatMap E.enc ++ m.flatMap E.enc := by simp
 have hbp := Nat.le_of_ble_eq_true hbp;have h63 : l.length + m.length ≤ 9223372036854775807 := by
  have := Nat.le_mul_of_pos_right (l.length + m.length) hbp;omega
 refine zX (q := ownL E e X b l) (ow' := ow') hf hbD hg hd hn ho hx hg0 hy hg1 (fun X' b' => ?_) ht hz hzz hzl hby hpos hr hb h63 (fun X' b' => ?_)
 ·have := hu X' b';rw [ownL, ownL, e1, e2] at this;exact this
 ·have := h X' b';rw [e1] at this;exact this
variable {b : Bool} {e n : Nat}
theorem rl (E : El α) (l : List α) {g : Bool} {parts : List (Nat × Operand)} {vs : List (Nat × Value)} (hf : Front ops r o D r') (hg : Guard ops SL o true) (hd : o.dst = some d) (hn : Nat.blt d N = true) (ho : o.op = .buildSlice t n ⟨parts⟩)
  (ht : T.slc t = some e) (hz : T.siz e = some (E.esz, b)) (hzz : T.zer e = some z) (hzl : z.length = E.esz) (hby : T.byt e = some E.by_) (hnb : Nat.ble (n * E.by_) 140737488355328 = true) (hpos : Nat.blt 0 E.esz = true) (he : evp SL parts = some (g, vs)) (hgt : g = true) (hnl : n = l.length) (hfill : fillL ((List.range n).map fun i => (i * E.esz, E.esz)) (kC z (n * E.esz)) vs = some (l.flatMap E.enc)) (hsm : Nat.ble (n * E.esz) 16777216 = true)
  (h : ∀ (X : SlV) (b' : Option Nat), RW P T C ops r' ⟨N, (d, .v (X.val l.length)) :: SL, BL, ownL E e X b' l :: OW, FA⟩ Q) : RW P T C ops r ⟨N, SL, BL, OW, FA⟩ Q := by
 subst hnl;exact zW hf hg hd hn ho ht hz hzz hzl hby hnb hpos he hgt hfill (eN l fun a _ => E.len a) hsm h
variable {G : Bool} {esz : Nat} {iv : Int} {k : IntKind}
theorem z6 (E : El α) (h : Nat) (ho : o.op = .slice t x none (some y) none) (he : ev SL x = some (g0, X.val l.length)) (hg0 : G = true → g0 = true)
  (hy : ev SL y = some (g1, .int k iv)) (hg1 : G = true → g1 = true) (ht : T.slc t = some e) (hz : T.siz e = some (esz, b)) (hm : RdL E X l ∈ FA) (hi : G = true → iv = (h : Int)) (hle : G = true → h ≤ l.length) : Quiet P T SL BL FA o G (X.val (l.take h).length) :=
 fun hT hG a w hsl hw => by
  obtain ⟨_, hrd⟩ := hw.fa _ hm;have h1 := hrd.1;have h2 := hle hG;have e1 : (l.take h).length = h := by simp; omega
  rw [e1];exact rR (P := P) (BL := BL) (FA := FA) ho he hg0 hy hg1 ht hz hi (fun _ => by omega) hT hG a w hsl hw
theorem rS (E : El α) (k0 : Nat) (ho : o.op = .slice t x (some y) none none) (he : ev SL x = some (g0, X.val l.length)) (hg0 : G = true → g0 = true)
  (hy : ev SL y = some (g1, .int k iv)) (hg1 : G = true → g1 = true) (ht : T.slc t = some e) (hz : T.siz e = some (esz, b)) (hi : G = true → iv = (k0 : Int)) (hle : G = true → k0 ≤ l.length) : Quiet P T SL BL FA o G ((⟨slA X.a X.c k0 esz, X.c - k0⟩ : SlV).val (l.drop k0).length) :=
 fun hT hG a w hsl hw => by
  have e1 : (l.drop k0).length = l.length - k0 := by simp
  rw [e1];exact CG (P := P) (BL := BL) (FA := FA) ho he hg0 hy hg1 ht hz hi hle hT hG a w hsl hw
theorem th (F : Pred) [hF : Stab F] (pre : List Pred) (hpre : SubM FA pre) (hd : ∀ M w, AllF pre M w → F M w) : Le C ⟨N, SL, BL, OW, FA⟩ ⟨N, SL, BL, OW, F :: FA⟩ := fun a w hr =>
 ⟨hr.sz, hr.df, hr.sl, hr.wo.be, hr.wo.bl, hr.wo.ow, hr.wo.nd, fun G hG => by
  cases hG with
  | head => exact ⟨hF, hd _ _ fun F hF => (hr.wo.fa F (hpre.mem F hF)).2⟩
  | tail _ hG => exact hr.wo.fa G hG⟩
theorem q_lfP {g off : Nat} {cs : List Value} (ho : o.op = .load t x)
  (he : ev SL x = some (g0, .pointer (some ⟨g, off, none⟩))) (hg0 : G = true → g0 = true) (hs : T.siz t = some (n, true)) (hm : VarP g cs ∈ FA) (hl : Nat.ble (off + n) cs.length = true) : Quiet P T SL BL FA o G (.agg ⟨subL cs off n⟩) :=
 iR ho he hg0 fun hT _ w hw => by
  obtain ⟨_, ⟨t', ht⟩, _⟩ := hw.fa _ hm;have hle := Nat.le_of_ble_eq_true hl;refine j7 hT hs (by simp [subL]; omega) fun j v hj => ?_;rw [jH, le ht, ← hj];simp only [subL, List.getElem?_take, List.getElem?_drop];rw [if_pos];obtain ⟨hlt, _⟩ := List.getElem?_eq_some_iff.1 hj;simp [subL] at hlt;omega
theorem jA (e : G = false) : Quiet P T SL BL FA o G v := fun _ hG => by rw [e] at hG; cases hG
theorem q_is {v' : Value} (h : Quiet P T SL BL FA o G v) (e : v = v') : Quiet P T SL BL FA o G v' := e ▸ h
variable {ks : List Bool} {t' : TypeId} {xs ys : List Value}
theorem q_eqE {t : TypeId} (hE : EqT P t ks) (hb : gk xs ys = b) (ho : o.op = .binOp .eql t x y t') (he : ev SL x = some (g0, .agg ⟨xs⟩)) (hg0 : G = true → g0 = true)
  (hy : ev SL y = some (g1, .agg ⟨ys⟩)) (hg1 : G = true → g1 = true) (hkx : dg ks xs = true) (hky : dg ks ys = true) : Quiet P T SL BL FA o G (.bool b) :=
 hb ▸ q_eqs hE ho he hg0 hy hg1 hkx hky
theorem q_neE {t : TypeId} (hE : EqT P t ks) (hb : gk xs ys = b) (ho : o.op = .binOp .neq t x y t') (he : ev SL x = some (g0, .agg ⟨xs⟩)) (hg0 : G = true → g0 = true)
  (hy : ev SL y = some (g1, .agg ⟨ys⟩)) (hg1 : G = true → g1 = true) (hkx : dg ks xs = true) (hky : dg ks ys = true) : Quiet P T SL BL FA o G (.bool (!b)) :=
 hb ▸ q_nes hE ho he hg0 hy hg1 hkx hky
theorem Di (hu : P.underlying t = some .bool) (d : Nat) (a b : Bool) (w : World) : (Op.equalIn (d + 1) t (.bool a) (.bool b)).run P w = .ok (a == b) w := by
 simp [Op.equalIn, run_underlying hu]
theorem q_eqb {t' : Nat} {a : Bool} (hu : P.underlying t = some .bool) (ho : o.op = .binOp .eql t x y t') (he : ev SL x = some (g0, .bool a)) (hg0 : G = true → g0 = true)
  (hy : ev SL y = some (g1, .bool b)) (hg1 : G = true → g1 = true) : Quiet P T SL BL FA o G (.bool (a == b)) :=
 fun _ hG a' w hsl _ => by
  have h1 := ev_ok hsl he (hg0 hG);have h2 := ev_ok hsl hy (hg1 hG);have h3 : (Op.equal t (.bool a) (.bool b)).run P w = .ok (a == b) w := Di hu 9999 a b w;simp [execOp, ho, h1, h2, eqGuard, binOp, h3]
theorem q_max {ts : Array TypeId} {a b : Int} (ho : o.op = .call ⟨.builtin .max, ⟨[x, y]⟩, ts⟩) (he : ev SL x = some (g0, .int .i64 a)) (hg0 : G = true → g0 = true)
  (hy : ev SL y = some (g1, .int .i64 b)) (hg1 : G = true → g1 = true) : Quiet P T SL BL FA o G (.int .i64 (if b > a then b else a)) :=
 fun hT hG a' w hsl hw => by
  have h1 := ev_ok hsl he (hg0 hG);have h2 := ev_ok hsl hy (hg1 hG);simp [execOp, ho, resolve, invoke, builtin, h1, h2, Builtin.max_, Builtin.max2]
end
end Go.Proofs.YtkjccbdeaflekaaGreatDoor.Fw
namespace Go.Proofs.YtkjccbdeaflekaaGreatDoor
open Go Go.Proofs.YtkjccbdeaflekaaGreatDoor.Fw Go.Proofs
def rows : TRows where
 fld := [(37, [(0, 30), (4, 33), (6, 4), (7, 34), (8, 35)]), (76, [(0, 74), (2, 3), (3, 3), (4, 3), (5, 3), (6, 3)]), (63, [(0, 3), (1, 3), (2, 3), (3, 59), (4, 3), (5, 61)]), (61, [(0, 46), (1, 23), (2, 23)]), (108, [(0, 3), (1, 3), (2, 3), (3, 3), (4, 3), (5, 3), (6, 3), (7, 76), (14, 61), (17, 106)]), (30, [(0, 27), (2, 3), (3, 28)]), (99, [(0, 3), (1, 3), (2, 3)]), (78, [(0, 3), (1, 3), (2, 3), (3, 46), (4, 76)]), (33, [(0, 31), (1, 31)]), (25, [(0, 23)]), (27, [(0, 22), (1, 25)]), (48, [(0, 3), (1, 3), (2, 3), (3, 3), (4, 3), (5, 3), (6, 46)]), (106, [(0, 46), (1, 23), (2, 46), (3, 23)]), (84, [(0, 3), (1, 3), (2, 46)]), (157, [(0, 76), (7, 4), (8, 99)]), (74, [(0, 3), (1, 3)]), (299, [(0, 5), (1, 5)]), (233, [(0, 231), (1, 31)]), (288, [(0, 9), (1, 9), (2, 215)]), (303, [(0, 9)])]
 siz := [(3, (1, false)), (0, (1, false)), (4, (1, false)), (40, (1, false)), (9, (1, false)), (37, (9, true)), (23, (1, false)), (76, (7, true)), (46, (1, false)), (63, (8, true)), (61, (3, true)), (59, (1, false)), (108, (21, true)), (30, (4, true)), (5, (1, false)), (99, (3, true)), (31, (1, false)), (35, (1, false)), (78, (11, true)), (33, (2, true)), (25, (1, true)), (292, (1, false)), (266, (1, false)), (27, (2, true)), (48, (7, true)), (70, (1, false)), (106, (4, true)), (215, (1, false)), (28, (1, false)), (34, (1, false)), (84, (3, true)), (22, (1, false)), (157, (11, true)), (21, (1, false)), (74, (2, true)), (171, (1, false)), (2, (1, false)), (39, (1, false)), (88, (1, false)), (201, (48, true)), (49, (1, false)), (64, (1, false)), (269, (1, false)), (231, (1, false)), (80, (1, false)), (104, (1, false)), (38, (1, false)), (270, (1, false)), (299, (2, true)), (306, (1, false)), (176, (1, false)), (233, (2, true)), (58, (1, false)), (20, (1, false)), (129, (1, false)), (93, (1, false)), (127, (1, false)), (71, (1, false)), (112, (1, false)), (117, (1, false)), (155, (1, false)), (166, (1, false)), (288, (3, true)), (293, (65, true)), (205, (1, false)), (235, (1, false)), (41, (1, false)), (109, (1, false)), (158, (1, false)), (163, (1, false)), (178, (1, false)), (199, (1, false)), (209, (2, true)), (216, (1, false)), (250, (1, false)), (1, (1, false)), (110, (1, false)), (273, (24, true)), (68, (1, false)), (120, (1, false)), (125, (1, false)), (142, (1, false)), (161, (1, false)), (174, (1, false)), (212, (1, false)), (225, (1, false)), (259, (1, false)), (262, (1, false)), (291, (20, true)), (300, (32, true)), (307, (32, true)), (308, (64, true)), (204, (1, false)), (208, (1, false)), (238, (2, true)), (248, (2, true)), (249, (6, true)), (254, (1, false)), (55, (1, false)), (96, (1, false)), (196, (1, false)), (220, (1, false)), (226, (1, false)), (256, (1, false)), (267, (1, false)), (276, (1, false)), (279, (1, false)), (295, (1, false)), (303, (1, true)), (57, (1, false)), (102, (1, false)), (149, (1, false)), (154, (1, false)), (252, (1, false)), (297, (256, true)), (301, (1, false))]
 zer := [(3, [.int .i64 (0)]), (4, [.bool false]), (40, [.int .i64 (0)]), (9, [.string ⟨#[]⟩]), (37, [.slice none 0 0, .slice none 0 0, .int .i64 (0), .slice none 0 0, .slice none 0 0, .slice none 0 0, .bool false, .slice none 0 0, .slice none 0 0]), (23, [.slice none 0 0]), (76, [.int .i64 (0), .int .i64 (0), .int .i64 (0), .int .i64 (0), .int .i64 (0), .int .i64 (0), .int .i64 (0)]), (46, [.slice none 0 0]), (63, [.int .i64 (0), .int .i64 (0), .int .i64 (0), .slice none 0 0, .int .i64 (0), .slice none 0 0, .slice none 0 0, .slice none 0 0]), (61, [.slice none 0 0, .slice none 0 0, .slice none 0 0]), (59, [.slice none 0 0]), (108, [.int .i64 (0), .int .i64 (0), .int .i64 (0), .int .i64 (0), .int .i64 (0), .int .i64 (0), .int .i64 (0), .int .i64 (0), .int .i64 (0), .int .i64 (0), .int .i64 (0), .int .i64 (0), .int .i64 (0), .int .i64 (0), .slice none 0 0, .slice none 0 0, .slice none 0 0, .slice none 0 0, .slice none 0 0, .slice none 0 0, .slice none 0 0]), (30, [.slice none 0 0, .slice none 0 0, .int .i64 (0), .slice none 0 0]), (5, [.int .u8 (0)]), (99, [.int .i64 (0), .int .i64 (0), .int .i64 (0)]), (31, [.slice none 0 0]), (35, [.slice none 0 0]), (78, [.int .i64 (0), .int .i64 (0), .int .i64 (0), .slice none 0 0, .int .i64 (0), .int .i64 (0), .int .i64 (0), .int .i64 (0), .int .i64 (0), .int .i64 (0), .int .i64 (0)]), (33, [.slice none 0 0, .slice none 0 0]), (25, [.slice none 0 0]), (292, [.int .u32 (0)]), (266, [.int .u64 (0)]), (27, [.slice none 0 0, .slice none 0 0]), (48, [.int .i64 (0), .int .i64 (0), .int .i64 (0), .int .i64 (0), .int .i64 (0), .int .i64 (0), .slice none 0 0]), (70, [.slice none 0 0]), (106, [.slice none 0 0, .slice none 0 0, .slice none 0 0, .slice none 0 0]), (215, [.nilIface]), (28, [.slice none 0 0]), (34, [.slice none 0 0]), (84, [.int .i64 (0), .int .i64 (0), .slice none 0 0]), (22, [.slice none 0 0]), (157, [.int .i64 (0), .int .i64 (0), .int .i64 (0), .int .i64 (0), .int .i64 (0), .int .i64 (0), .int .i64 (0), .bool false, .int .i64 (0), .int .i64 (0), .int .i64 (0)]), (21, [.int .i32 (0)]), (74, [.int .i64 (0), .int .i64 (0)]), (171, [.slice none 0 0]), (2, [.int .i64 (0)]), (39, [.slice none 0 0]), (88, [.pointer none]), (201, List.replicate 48 (.int .i64 (0))), (269, [.int .u64 (0)]), (231, [.pointer none]), (104, [.nilFunc]), (38, [.slice none 0 0]), (270, [.pointer none]), (299, [.int .u8 (0), .int .u8 (0)]), (306, [.nilFunc]), (176, [.slice none 0 0]), (233, [.pointer none, .slice none 0 0]), (58, [.nilFunc]), (20, [.nilIface]), (93, [.nilFunc]), (155, [.pointer none]), (288, [.string ⟨#[]⟩, .string ⟨#[]⟩, .nilIface]), (109, [.nilFunc]), (163, [.slice none 0 0]), (178, [.slice none 0 0]), (199, [.nilFunc]), (209, [.slice none 0 0, .slice none 0 0]), (250, [.slice none 0 0]), (1, [.nilFunc]), (110, [.nilFunc]), (273, List.replicate 24 (.int .u8 (0))), (212, [.nilFunc]), (225, [.nilFunc]), (291, List.replicate 20 (.int .u64 (0))), (300, List.replicate 32 (.int .u8 (0))), (307, List.replicate 32 (.int .u8 (0))), (308, List.replicate 64 (.int .u8 (0))), (204, [.nilFunc]), (208, [.pointer none]), (238, [.slice none 0 0, .slice none 0 0]), (248, [.slice none 0 0, .slice none 0 0]), (249, [.slice none 0 0, .slice none 0 0, .slice none 0 0, .slice none 0 0, .slice none 0 0, .slice none 0 0]), (254, [.nilFunc]), (96, [.nilFunc]), (220, [.nilFunc]), (279, [.pointer none]), (303, [.string ⟨#[]⟩]), (57, [.nilFunc]), (102, [.nilFunc]), (149, [.nilFunc]), (154, [.nilFunc]), (252, [.pointer none]), (301, [.pointer none])]
 str := [(37, [(0, 4), (4, 2), (6, 1), (7, 1), (8, 1)]), (76, [(0, 2), (2, 1), (3, 1), (4, 1), (5, 1), (6, 1)]), (63, [(0, 1), (1, 1), (2, 1), (3, 1), (4, 1), (5, 3)]), (61, [(0, 1), (1, 1), (2, 1)]), (108, [(0, 1), (1, 1), (2, 1), (3, 1), (4, 1), (5, 1), (6, 1), (7, 7), (14, 3), (17, 4)]), (30, [(0, 2), (2, 1), (3, 1)]), (99, [(0, 1), (1, 1), (2, 1)]), (78, [(0, 1), (1, 1), (2, 1), (3, 1), (4, 7)]), (33, [(0, 1), (1, 1)]), (25, [(0, 1)]), (27, [(0, 1), (1, 1)]), (48, [(0, 1), (1, 1), (2, 1), (3, 1), (4, 1), (5, 1), (6, 1)]), (106, [(0, 1), (1, 1), (2, 1), (3, 1)]), (84, [(0, 1), (1, 1), (2, 1)]), (157, [(0, 7), (7, 1), (8, 3)]), (74, [(0, 1), (1, 1)]), (299, [(0, 1), (1, 1)]), (233, [(0, 1), (1, 1)]), (288, [(0, 1), (1, 1), (2, 1)]), (303, [(0, 1)])]
 slc := [(23, 99), (46, 3), (59, 76), (31, 5), (35, 108), (70, 78), (28, 84), (34, 63), (22, 157), (171, 9), (39, 40), (38, 48), (176, 31), (163, 35), (178, 70), (250, 23)]
 arr := [(201, (16, 99)), (293, (65, 5)), (209, (2, 23)), (273, (24, 5)), (291, (20, 266)), (300, (16, 299)), (307, (32, 5)), (308, (64, 5)), (238, (2, 46)), (248, (2, 35)), (249, (2, 61)), (297, (256, 5))]
 byt := [(3, 8), (0, 0), (4, 1), (40, 8), (9, 16), (37, 184), (23, 24), (76, 56), (46, 24), (63, 128), (61, 72), (59, 24), (108, 280), (30, 80), (5, 1), (99, 24), (31, 24), (35, 24), (78, 104), (33, 48), (25, 24), (292, 4), (266, 8), (27, 48), (48, 72), (70, 24), (106, 96), (215, 16), (28, 24), (34, 24), (84, 40), (22, 24), (157, 88), (21, 4), (74, 16), (171, 24), (2, 8), (39, 24), (88, 8), (201, 384), (49, 0), (64, 0), (269, 8), (231, 8), (80, 0), (104, 8), (38, 24), (270, 8), (299, 2), (306, 8), (176, 24), (233, 32), (58, 8), (20, 16), (129, 0), (93, 8), (127, 0), (71, 0), (112, 0), (117, 0), (155, 8), (166, 0), (288, 48), (293, 65), (205, 0), (235, 0), (41, 0), (109, 8), (158, 0), (163, 24), (178, 24), (199, 8), (209, 48), (216, 0), (250, 24), (1, 8), (110, 8), (273, 24), (68, 0), (120, 0), (125, 0), (142, 0), (161, 0), (174, 0), (212, 8), (225, 8), (259, 0), (262, 0), (291, 160), (300, 32), (307, 32), (308, 64), (204, 8), (208, 8), (238, 48), (248, 48), (249, 144), (254, 8), (55, 0), (96, 8), (196, 0), (220, 8), (226, 0), (256, 0), (267, 0), (276, 0), (279, 8), (295, 0), (303, 16), (57, 8), (102, 8), (149, 8), (154, 8), (252, 8), (297, 256), (301, 8)]
 isS := [9]
 fnb := [2, 3, 4, 5, 6, 7, 8, 9, 10, 11, 12, 13, 14, 15, 16, 17, 18, 19, 20, 21, 22, 23, 24, 25, 26, 27, 28, 29, 30, 31, 32, 33, 34, 35, 36, 37, 38, 39, 40, 41, 42, 43, 44, 45, 46, 47, 48, 49, 50, 51, 52, 53, 54, 55, 56, 57, 58, 59, 60, 61, 62, 63, 64, 65, 66, 67, 68, 69, 70, 71, 72, 73, 74, 75, 76, 77, 78, 79, 80, 81, 82, 83, 84, 85, 86, 87, 88, 89, 90, 91, 92, 93, 94, 95, 96, 97, 98, 99, 100, 101, 102, 103, 104, 105, 106, 107, 108, 109, 110, 111, 112, 113, 114, 115, 116, 117, 118, 119, 120, 121, 122, 123, 124, 125, 126, 127, 128, 129, 130, 131, 132, 133, 134, 135, 136, 137, 138, 139, 140, 141, 142, 143, 144, 145, 146, 147, 148, 149, 150, 151, 152, 153, 154, 155, 156, 157, 158, 159, 160, 161, 162, 163, 164, 165, 166, 167, 168, 169, 170, 171, 172, 173, 174, 175, 176, 177, 178, 179, 180, 181, 182, 183, 184, 185, 186, 187, 188, 189, 190, 191, 192, 193, 194, 195, 196, 197, 198, 199, 200, 201, 202, 203, 204, 205, 206, 207, 208, 209, 210, 211, 212, 213, 214, 215, 216, 217, 218, 219, 220, 222, 223, 224, 225, 226, 227, 228, 229, 230, 231, 234, 236, 237, 238, 239, 240, 241, 242, 243, 244, 245, 246, 247, 248, 249, 250, 252, 253, 254, 255, 256, 257, 258, 259, 260, 261, 291]
def tab : Tab := tabOf rows
theorem Dk : ROk rows Tryz.prog where
 mixed := by kernel_rfl
 fld := by kernel_rfl
 siz := by kernel_rfl
 zer := by kernel_rfl
 str := by kernel_rfl
 slc := by kernel_rfl
 arr := by kernel_rfl
 byt := by kernel_rfl
 isS := by kernel_rfl
 fnb := by kernel_rfl
theorem CC : TabOk tab Tryz.prog := BC Dk
abbrev Dw (f : FuncId) (a : List Value) (p : List Pred) {X : Type} (v : X → Value) (q : X → List Pred) := Does Tryz.prog f a p v q
abbrev Du (f : FuncId) (a : List Value) (p : List Pred) (v : Value) := Does Tryz.prog f a p (fun (_ : Unit) => v) (fun _ => [])
abbrev Dv (f : FuncId) (a : List Value) (p : List Pred) {X : Type} (L : Lent) (v : X → Value) (q : X → List Pred) (K : X → Lent) := DoesG Tryz.prog f a p L v q K
end Go.Proofs.YtkjccbdeaflekaaGreatDoor
namespace Go.Proofs.YtkjccbdeaflekaaGreatDoor.Fw
open Go Go.RowKit
theorem oJ : ∀ (vs a b : List Value) (k : Nat), putAt (a ++ b) (a.length + k) vs = a ++ putAt b k vs
 | [], _, _, _ => rfl
 | v :: vs, a, b, k => by
  rw [putAt, putAt, List.set_append_right _ _ (by omega), show a.length + k - a.length = k by omega, Nat.add_assoc];exact oJ vs a _ (k + 1)
theorem pP : ∀ (vs a b : List Value) (k : Nat), k + vs.length ≤ a.length → putAt (a ++ b) k vs = putAt a k vs ++ b
 | [], _, _, _, _ => rfl
 | v :: vs, a, b, k, h => by
  simp only [List.length_cons] at h;rw [putAt, putAt, List.set_append_left _ _ (by omega)];exact pP vs _ b (k + 1) (by simp; omega)
theorem pp {α : Type} [Inhabited α] (E : El α) (p : α) (off : Nat) (vs : List Value) (hv : off + vs.length ≤ E.esz) : ∀ (tb : List α) (i : Nat), i < tb.length → E.enc p = putAt (E.enc (gt tb i)) off vs →
  putAt (tb.flatMap E.enc) (i * E.esz + off) vs = (tb.set i p).flatMap E.enc
 | [], i, h, _ => absurd h (by simp)
 | a :: l, 0, _, hp => by
  rw [Nat.zero_mul, Nat.zero_add, List.flatMap_cons, pP _ _ _ _ (by rw [E.len]; exact hv), List.set_cons_zero, List.flatMap_cons, hp];rfl
 | a :: l, i + 1, h, hp => by
  rw [List.flatMap_cons, show (i + 1) * E.esz + off = (E.enc a).length + (i * E.esz + off) by rw [E.len, Nat.add_mul]; omega, oJ, List.set_cons_succ, List.flatMap_cons,
   pp E p off vs hv l i (by simpa using h) (by simpa [gt] using hp)]
theorem tw {α : Type} [Inhabited α] (E : El α) : ∀ (tb : List α) (i : Nat), i < tb.length → ((tb.flatMap E.enc).drop (i * E.esz)).take E.esz = E.enc (gt tb i)
 | [], i, h => absurd h (by simp)
 | a :: l, 0, _ => by
  rw [Nat.zero_mul, List.drop_zero, List.flatMap_cons, List.take_append_of_le_length (by rw [E.len]; exact Nr), List.take_of_length_le (by rw [E.len]; exact Nr)];rfl
 | a :: l, i + 1, h => by
  rw [List.flatMap_cons, show (i + 1) * E.esz = (E.enc a).length + i * E.esz by rw [E.len, Nat.add_mul]; omega, List.drop_append, Dl (by omega), List.nil_append, show (E.enc a).length + i * E.esz - (E.enc a).length = i * E.esz by omega,
   tw E l i (by simpa using h)]
  simp [gt]
theorem ru {α : Type} (E : El α) {tb : List α} {i : Nat} (h : i < tb.length) : i * E.esz + E.esz ≤ (tb.flatMap E.enc).length := by
 rw [eN tb fun a _ => E.len a, ← Nat.succ_mul];exact Nat.mul_le_mul_right _ h
section
variable {P : Program} {T : Tab} {C : Cx} {ops : Array Oper} {o : Oper} {r r' : RS} {s : St} {Q : Post} {N : Nat} {SL : Slots} {BL : List Blk} {OW : List Own} {FA : List Pred} {c : Code}
variable {G b g0 g1 : Bool} {e esz g n t : Nat} {iv : Int} {k : IntKind} {x y : Operand}
theorem qB (i : Nat) (ho : o.op = .indexAddr t x y)
  (he : ev SL x = some (g0, .pointer (some ⟨g, 0, none⟩))) (hg0 : G = true → g0 = true) (hy : ev SL y = some (g1, .int k iv)) (hg1 : G = true → g1 = true)
  (ht : T.arr t = some (n, e)) (hz : T.siz e = some (esz, b)) (hn1 : Nat.blt 1 n = true) (hi : G = true → iv = (i : Int)) (hlt : G = true → i < n) :
  Quiet P T SL BL FA o G (.pointer (some ⟨g, i * esz, none⟩)) :=
 fun hT hG a w hsl hw => by
  obtain ⟨ti, d, q1, q2, q3, q4⟩ := hT.siz _ _ _ hz;have h1 := ev_ok hsl he (hg0 hG);have h2 := ev_ok hsl hy (hg1 hG);have hlt := hlt hG;have hi := hi hG;have hn1 := Nat.le_of_ble_eq_true hn1;subst hi;have hu := hT.arr _ _ _ ht;simp only [execOp, ho, h1, h2, Instr.indexAt, asIntOf, Sem.run_bind, Sem.run_pure, Result.andThen_ok, run_underlying hu, Instr.sureAddr];rw [if_pos (by omega)];simp [dR q1, q2, jH]
variable {off t' : Nat} {α : Type} {tb : List α}
theorem q_ltA [Inhabited α] (E : El α) (i : Nat) (ho : o.op = .load t x) (he : ev SL x = some (g0, .pointer (some ⟨g, off, none⟩))) (hg0 : G = true → g0 = true)
  (hs : T.siz t = some (esz, true)) (hes : E.esz = esz) (hoff : off = i * esz) (hm : ⟨g, t', tb.flatMap E.enc⟩ ∈ BL) (hlt : G = true → i < tb.length) : Quiet P T SL BL FA o G (.agg ⟨E.enc (gt tb i)⟩) :=
 iR ho he hg0 fun hT hG _ hw => by
  subst hes; subst hoff;rw [← tw E tb i (hlt hG)];exact md hs hm (Nat.ble_eq_true_of_le (ru E (hlt hG))) hT hw
variable {v : Value}
theorem q_lt1 [Inhabited α] (E : El α) {o2 : Nat} (i : Nat) (ho : o.op = .load t x) (he : ev SL x = some (g0, .pointer (some ⟨g, off, none⟩))) (hg0 : G = true → g0 = true)
  (hs : T.siz t = some (n, false)) (hes : E.esz = esz) (hoff : off = i * esz + o2) (hm : ⟨g, t', tb.flatMap E.enc⟩ ∈ BL) (hlt : G = true → i < tb.length) (hv : (E.enc (gt tb i))[o2]? = some v) : Quiet P T SL BL FA o G v :=
 iR ho he hg0 fun hT hG w hw => i5 hT hs (by
  subst hes; subst hoff;rw [le (hw.bl _ hm)];rw [gt_eq (hlt hG)] at hv;exact px tb (fun a _ => E.len a) i (hlt hG) o2 v hv)
theorem q_ixA [Inhabited α] (E : El α) (i : Nat) (ho : o.op = .index t x y) (he : ev SL x = some (g0, .agg ⟨tb.flatMap E.enc⟩)) (hg0 : G = true → g0 = true) (hy : ev SL y = some (g1, .int k iv)) (hg1 : G = true → g1 = true)
  (ht : T.arr t = some (n, e)) (hz : T.siz e = some (esz, true)) (hes : E.esz = esz) (hi : G = true → iv = (i : Int)) (hln : tb.length = n) (hlt : G = true → i < n) : Quiet P T SL BL FA o G (.agg ⟨E.enc (gt tb i)⟩) :=
 fun hT hG a w hsl hw => by
  obtain ⟨ti, d, q1, q2, q3, q4⟩ := hT.siz _ _ _ hz;have h1 := ev_ok hsl he (hg0 hG);have h2 := ev_ok hsl hy (hg1 hG);have hlt := hlt hG;have hi := hi hG;subst hi; subst hes; subst hln;have hu := hT.arr _ _ _ ht;simp only [execOp, ho, h1, h2, Instr.index, asIntOf, Sem.run_bind, Sem.run_pure, Result.andThen_ok, run_underlying hu];rw [if_pos (by omega)];simp only [Sem.run_bind, dR q1, Result.andThen_ok, q2, Int.toNat_natCast];have hp : partL T e (tb.flatMap E.enc) (i * E.esz) = some (.agg ⟨E.enc (gt tb i)⟩) := by
   unfold partL;rw [hz];simp only [tw E tb i hlt]
  rw [vo hT (cs := ⟨tb.flatMap E.enc⟩) hp];rfl
variable {cs : List Value}
theorem q_ixL (i : Nat) (ho : o.op = .index t x y) (he : ev SL x = some (g0, .agg ⟨cs⟩)) (hg0 : G = true → g0 = true) (hy : ev SL y = some (g1, .int k iv)) (hg1 : G = true → g1 = true)
  (ht : T.arr t = some (n, e)) (hz : T.siz e = some (esz, b)) (hi : iv = (i : Int)) (hlt : Nat.blt i n = true) (hp : partL T e cs (i * esz) = some v) : Quiet P T SL BL FA o G v :=
 fun hT hG a w hsl hw => by
  obtain ⟨ti, d, q1, q2, q3, q4⟩ := hT.siz _ _ _ hz;have h1 := ev_ok hsl he (hg0 hG);have h2 := ev_ok hsl hy (hg1 hG);have hlt := Nat.le_of_ble_eq_true hlt;subst hi;have hu := hT.arr _ _ _ ht;simp only [execOp, ho, h1, h2, Instr.index, asIntOf, Sem.run_bind, Sem.run_pure, Result.andThen_ok, run_underlying hu];rw [if_pos (by omega)];simp only [Sem.run_bind, dR q1, Result.andThen_ok, q2, Int.toNat_natCast];rw [vo hT (cs := ⟨cs⟩) hp];rfl
theorem zp : ∀ (vs : List (Nat × Value)) (cs0 r : List Value), fillL ((List.range n).map fun i => (i * esz, esz)) cs0 vs = some r → Instr.fill (fun i => some (i * esz, esz)) cs0.toArray vs = some r.toArray := by
 intro vs;induction vs with
 | nil => intro cs0 r h; simp [fillL] at h; simp [Instr.fill, h]
 | cons p vs ih =>
  intro cs0 r h;obtain ⟨i, v⟩ := p;simp only [fillL] at h;split at h
  ·cases h
  ·rename_i off sz hi;have hoff : off = i * esz ∧ sz = esz := by
    simp only [List.getElem?_map] at hi;cases hri : (List.range n)[i]? with
    | none => simp [hri] at hi
    | some k =>
     simp [hri] at hi;have := List.getElem?_eq_some_iff.1 hri;obtain ⟨h1, h2⟩ := this;simp at h2;exact ⟨by rw [← hi.1, ← h2], hi.2.symm⟩
   obtain ⟨rfl, rfl⟩ := hoff;split at h
   ·rename_i h1 h2;have h1 := Nat.eq_of_beq_eq_true h1;have h2 := Nat.le_of_ble_eq_true h2;simp only [Instr.fill];have h1' : v.cells.size = sz := by simpa using h1
    rw [if_neg (by simp [h1']; omega)];have := ih _ _ h;rw [← this];congr 1;apply Array.ext';rw [← Array.foldl_toList, Array.toList_zipIdx];exact pv v.cells.toList cs0.toArray 0 (i * sz)
   ·cases h
theorem po {g : Bool} {parts : Array (Nat × Operand)} {vs : List (Nat × Value)} {z : List Value} (ho : o.op = .build t parts) (he : evp SL parts.toList = some (g, vs)) (hg : G = true → g = true) (ht : T.arr t = some (n, e)) (hz : T.siz e = some (esz, b)) (hzz : T.zer t = some z)
  (hf : fillL ((List.range n).map fun i => (i * esz, esz)) z vs = some cs) : Quiet P T SL BL FA o G (.agg ⟨cs⟩) :=
 fun hT hG a w hsl _ => by
  obtain ⟨ti, d, q1, q2, q3, q4⟩ := hT.siz _ _ _ hz;obtain ⟨ti', zv, p1, p2, p3⟩ := hT.zer _ _ hzz;have hv := yD hsl he (hg hG);have hu := hT.arr _ _ _ ht;have hvs : (parts.map fun (i, x) => (i, a.eval x)).toList = vs := by rw [← hv]; simp
  have hz2 : zv.cells = z.toArray := by apply Array.ext'; simp [p3]
  simp only [execOp, ho, Instr.build, Sem.run_bind, lz p1 p2, Result.andThen_ok, run_underlying hu, dR q1, q2, hvs, hz2, zp vs z cs hf, Sem.run_pure]
variable {D : List Nat} {bl' : List Blk} {vs : List Value}
theorem yb (hf : Front ops r o D r') (hgD : (∃ l, r = .sq l) ∨ g ∈ D) (hg : Guard ops SL o true) (hd : o.dst = none) (ho : o.op = .store t x y)
  (he : ev SL x = some (g0, .pointer (some ⟨g, off, none⟩))) (hg0 : g0 = true) (hev : ev SL y = some (g1, v)) (hg1 : g1 = true) (hs : T.siz t = some (n, b)) (hvc : v.cells = vs.toArray) (hvn : vs.length = n)
  (hone : vs.all (·.oneCell') = true) (hu : UpdB BL g cs (putAt cs off vs) bl') (hle : off + n ≤ cs.length)
  (h : RW P T C ops r' ⟨N, SL, bl', OW, FA⟩ Q) : RW P T C ops r ⟨N, SL, BL, OW, FA⟩ Q :=
 rw_st hf hgD hg hd ho he hg0 hev hg1 hs hvc hvn hone hu (Nat.ble_eq_true_of_le hle) h
theorem zP [Inhabited α] (E : El α) (tb : List α) (i : Nat) (p : α) (hf : Front ops r o D r') (hgD : (∃ l, r = .sq l) ∨ g ∈ D) (hg : Guard ops SL o true) (hd : o.dst = none) (ho : o.op = .store t x y)
  (he : ev SL x = some (g0, .pointer (some ⟨g, off, none⟩))) (hg0 : g0 = true) (hev : ev SL y = some (g1, .agg ⟨E.enc p⟩)) (hg1 : g1 = true) (hs : T.siz t = some (esz, true)) (hes : E.esz = esz) (hoff : off = i * esz) (hlt : i < tb.length)
  (hu : UpdB BL g (tb.flatMap E.enc) ((tb.set i p).flatMap E.enc) bl')
  (h : RW P T C ops r' ⟨N, SL, bl', OW, FA⟩ Q) : RW P T C ops r ⟨N, SL, BL, OW, FA⟩ Q := by
 subst hes; subst hoff;have hp : putAt (tb.flatMap E.enc) (i * E.esz) (E.enc p) = (tb.set i p).flatMap E.enc := by
  have h1 : E.enc p = putAt (E.enc (gt tb i)) 0 (E.enc p) := by
   have h2 := qE (E.enc p) [] (E.enc (gt tb i)) (by rw [E.len, E.len]);exact h2.symm
  exact pp E p 0 (E.enc p) (by rw [E.len]; omega) tb i hlt h1
 rw [← hp] at hu;exact yb (vs := E.enc p) hf hgD hg hd ho he hg0 hev hg1 hs rfl (E.len p) (by rw [List.all_eq_true]; exact fun u hu => E.one p u hu) hu (ru E hlt) h
theorem zO [Inhabited α] (E : El α) (tb : List α) (i o2 : Nat) (p : α) (hf : Front ops r o D r') (hgD : (∃ l, r = .sq l) ∨ g ∈ D) (hg : Guard ops SL o true) (hd : o.dst = none) (ho : o.op = .store t x y)
  (he : ev SL x = some (g0, .pointer (some ⟨g, off, none⟩))) (hg0 : g0 = true) (hev : ev SL y = some (g1, v)) (hg1 : g1 = true) (hs : T.siz t = some (n, false)) (hn1 : n = 1) (hvc : v.oneCell' = true) (hes : E.esz = esz) (hoff : off = i * esz + o2) (ho2 : Nat.blt o2 esz = true) (hlt : i < tb.length) (hp : E.enc p = (E.enc (gt tb i)).set o2 v)
  (hu : UpdB BL g (tb.flatMap E.enc) ((tb.set i p).flatMap E.enc) bl')
  (h : RW P T C ops r' ⟨N, SL, bl', OW, FA⟩ Q) : RW P T C ops r ⟨N, SL, BL, OW, FA⟩ Q := by
 subst hes; subst hoff; subst hn1;have ho2 := Nat.le_of_ble_eq_true ho2;have hp' : putAt (tb.flatMap E.enc) (i * E.esz + o2) [v] = (tb.set i p).flatMap E.enc := pp E p o2 [v] (by simpa using ho2) tb i hlt hp;rw [← hp'] at hu;have hb := ru E hlt;exact yb (vs := [v]) hf hgD hg hd ho he hg0 hev hg1 hs (by cases v <;> first | rfl | (simp [Value.oneCell'] at hvc)) rfl (by simp [hvc]) hu (by omega) h
variable {m : Nat}
theorem pw (E : El α) (h : tb.length = n) (hm : n * E.esz = m) : (tb.flatMap E.enc).length = m := by rw [eN tb fun a _ => E.len a, h, hm]
theorem BV (E : El α) (tb : List α) : (tb.flatMap E.enc).all (·.oneCell') = true := by
 rw [List.all_eq_true];intro u hu;obtain ⟨a, _, ha⟩ := List.mem_flatMap.1 hu;exact E.one a u ha
theorem sW (E : El α) (tb : List α) (hf : Front ops r o D r') (hgD : (∃ l, r = .sq l) ∨ g ∈ D) (hg : Guard ops SL o true) (hd : o.dst = none) (ho : o.op = .store t x y)
  (he : ev SL x = some (g0, .pointer (some ⟨g, 0, none⟩))) (hg0 : g0 = true) (hev : ev SL y = some (g1, .agg ⟨tb.flatMap E.enc⟩)) (hg1 : g1 = true) (hs : T.siz t = some (m, true)) (hln : tb.length = n) (hm : n * E.esz = m)
  (hu : UpdB BL g cs (tb.flatMap E.enc) bl') (hcl : cs.length = m)
  (h : RW P T C ops r' ⟨N, SL, bl', OW, FA⟩ Q) : RW P T C ops r ⟨N, SL, BL, OW, FA⟩ Q := by
 have hl := pw E hln hm;have hp : putAt cs 0 (tb.flatMap E.enc) = tb.flatMap E.enc := by
  have := qE (tb.flatMap E.enc) [] cs (by rw [hl, hcl]);exact this
 rw [← hp] at hu;exact yb (vs := tb.flatMap E.enc) hf hgD hg hd ho he hg0 hev hg1 hs rfl hl (BV E tb) hu (by omega) h
variable {w : World}
theorem OwnOk.rd {α : Type} {E : El α} {e : TypeId} {X : SlV} {b : Option Nat} {l : List α} {M : Nat → Prop} (ho : OwnOk C w (ownL E e X b l)) (hM : ∀ g, b = some g → ¬ M g) : RdL E X l M w := by
 have hl : ∀ e ∈ l, (E.enc e).length = E.esz := fun e _ => E.len e;obtain ⟨h1, h2, h3⟩ := ho;simp only at h1 h2 h3;cases b with
 | none =>
  obtain ⟨h0, A, hA⟩ := h3;have hA : X.val l.length = .slice A 0 0 := hA;simp only [SlV.val, Value.slice.injEq] at hA;exact ⟨by omega, by omega, h2.2, fun hp => by omega⟩
 | some g =>
  obtain ⟨hg, cap, cur, hv, hh, hnc, hcap, hcs, htake⟩ := h3;simp only [SlV.val, Value.slice.injEq, true_and] at hv;obtain ⟨hva, hvc⟩ := hv;refine ⟨by rw [hvc]; exact hnc, by rw [hvc]; exact hcap, h2.2, fun hp => ⟨⟨g, 0, none⟩, hva, ke hh, hM g rfl, fun i hi' j v hv => ?_⟩⟩;rw [jH];simp only [World.cell?, hh];obtain ⟨hjlt, _⟩ := List.getElem?_eq_some_iff.1 hv;have hel := hl _ (List.getElem_mem hi');have hij : i * E.esz + j < l.length * E.esz := by
   have : (i + 1) * E.esz ≤ l.length * E.esz := Nat.mul_le_mul_right _ hi';rw [Nat.add_mul] at this;omega
  have hflat : (l.flatMap E.enc)[i * E.esz + j]? = some v := px l hl i hi' j v hv;rw [← htake, List.getElem?_take, if_pos hij] at hflat;simpa using hflat
inductive PreR : List Pred → List Own → List Pred → Prop
 | nil (FA : List Pred) (OW : List Own) : PreR FA OW []
 | fact {FA : List Pred} {OW : List Own} {F : Pred} {r : List Pred} (h : F ∈ FA) (hr : PreR FA OW r) : PreR FA OW (F :: r)
 | own {FA : List Pred} {OW : List Own} {α : Type} {E : El α} {e : TypeId} {X : SlV} {b : Option Nat} {l : List α} {r : List Pred} (h : ownL E e X b l ∈ OW) (hr : PreR FA OW r) : PreR FA OW (RdL E X l :: r)
variable {pre : List Pred}
theorem PreR.ok (h : PreR FA OW pre) (hw : WOk C ⟨N, SL, BL, OW, FA⟩ w) : ∀ F ∈ pre, Stab F ∧ F (fun b => C.M0 b ∨ b ∈ BL.map (·.g)) w := by
 induction h with
 | nil => simp
 | fact h _ ih =>
  intro F hF;cases hF with
  | head =>
   have h1 := hw.fa _ h;exact ⟨h1.1, h1.1.st _ _ w w h1.2 ⟨Nr, fun _ _ _ => rfl⟩ fun k _ hm => by
    rcases hm with hm | hm
    ·exact .inl hm
    ·exact .inr (List.mem_append_left _ hm)⟩
  | tail _ hF => exact ih F hF
 | own h _ ih =>
  intro F hF;cases hF with
  | head =>
   have ho := hw.ow _ h;refine ⟨inferInstance, ho.rd fun g hg hm => ?_⟩;have hgi : g ∈ OW.filterMap (·.b) := List.mem_filterMap.2 ⟨_, h, hg⟩;rcases hm with hm | hm
   ·rcases (kK hw (b := g) (List.mem_append_right _ hgi)).2 with h2 | h2
    ·have := C.hM g hm; omega
    ·exact (C.hB g h2).2 hm
   ·exact (List.nodup_append.1 hw.nd).2.2 g hm g hgi rfl
  | tail _ hF => exact ih F hF
variable {X : Type} {d : Nat} {f : FuncId} {val : X → Value}
theorem yK {a : Act} {args : List Value} 
  (hS : Does P f args pre val (fun _ => [])) (hx : (execOp a.eval o).run P w = .ok (.enter f args.toArray) w) (hd : o.dst = some d) (hrep : Rep C ⟨N, SL, BL, OW, FA⟩ a w) (hpre : PreR FA OW pre) {K : Act → World → Prop}
  (hK : ∀ x w', WOk C ⟨N, SL, BL, OW, FA⟩ w' → Keeps [] w w' → K (a.put (some d) (val x)) w') : o.wp P a w K noG := by
 unfold Oper.wp;rw [hx, Oper.upon_enter];have h1 := hpre.ok hrep.wo;have := hS.ok ⟨w, fun b => C.M0 b ∨ b ∈ BL.map (·.g), [], fun b hb => by
  rcases hb with hb | hb
  ·exact Nat.lt_of_lt_of_le (C.hM b hb) hrep.wo.be.size
  ·exact (kK hrep.wo (b := b) (List.mem_append_left _ hb)).1, fun b hb => by cases hb⟩ rfl ⟨Blw.refl _ _ _, by simp, by simp, by simp [ids], fun F hF => ⟨(h1 F hF).1, (h1 F hF).1.st _ _ w w (h1 F hF).2 ⟨Nr, fun _ _ _ => rfl⟩ fun k _ hm => by
   rcases hm with hm | hm
   ·exact hm
   ·simp [ids] at hm⟩⟩
 refine this.mono ?_;rintro e w' ⟨x, rfl, hw⟩;simp only [hd];have hb : Below w.heap.size w w' := hw.be.below;exact hK x w' (hrep.wo.grow hb) (Keeps.of_below hb)
variable {ts : Array TypeId} {xs : Array Operand}
theorem nj {g : Bool} 
  (hS : Does P f vs pre val (fun _ => [])) (hfr : Front ops r o D r') (hg : Guard ops SL o true) (hd : o.dst = some d) (hn : Nat.blt d N = true) (ho : o.op = .call ⟨.value (.func f), xs, ts⟩) (hf : T.fnb f = true)
  (he : evs SL xs.toList = some (g, vs)) (hgt : g = true) (hpre : PreR FA OW pre)
  (h : ∀ x, RW P T C ops r' ⟨N, (d, .v (val x)) :: SL, BL, OW, FA⟩ Q) : RW P T C ops r ⟨N, SL, BL, OW, FA⟩ Q :=
 rw_l hfr hg (K := fun s' => ∃ x, s' = ⟨N, (d, .v (val x)) :: SL, BL, OW, FA⟩) (fun hT a w hrep => yK hS (qU hT ho hf hrep.sl he hgt w) hd hrep hpre fun x w' hw hk =>
  ⟨_, ⟨x, rfl⟩, hrep.putv (Nat.le_of_ble_eq_true hn) (x := .v (val x)) (u := val x) rfl ⟨hw.be, hw.bl, hw.ow, hw.nd, hw.fa⟩, hk.mono (by simp)⟩) (fun s' ⟨x, e⟩ => by subst e; exact h x)
theorem v4 {g : Bool} 
  (hS : G = true → Does P f vs pre val (fun _ => [])) (hval : ∀ x, val x = v) (hfr : Front ops r o D r') (hG : Guard ops SL o G) (hd : o.dst = some d) (hn : Nat.blt d N = true) (ho : o.op = .call ⟨.value (.func f), xs, ts⟩) (hf : T.fnb f = true)
  (he : evs SL xs.toList = some (g, vs)) (hgt : G = true → g = true) (hpre : PreR FA OW pre)
  (h : RW P T C ops r' ⟨N, (d, .o G v) :: SL, BL, OW, FA⟩ Q) : RW P T C ops r ⟨N, SL, BL, OW, FA⟩ Q := by
 intro hT a w hrep;have hno : G = false → Rep C ⟨N, (d, .o G v) :: SL, BL, OW, FA⟩ (a.put (some d) undef) w := fun hGv =>
  hrep.putv (Nat.le_of_ble_eq_true hn) (x := .o G v) (u := undef) (by simp [SV.ok, hGv]) hrep.wo
 have hyes : G = true → o.wp P a w (fun a' w' => Rep C ⟨N, (d, .o G v) :: SL, BL, OW, FA⟩ a' w' ∧ Keeps D w w') noG := fun hGv =>
  yK (hS hGv) (qU hT ho hf hrep.sl he (hgt hGv) w) hd hrep hpre fun x w' hw hk => by
   rw [hval];exact ⟨hrep.putv (Nat.le_of_ble_eq_true hn) (x := .o G v) (u := v) (by simp [SV.ok, hGv]) (bl := BL) (ow := OW) (fa := FA) ⟨hw.be, hw.bl, hw.ow, hw.nd, hw.fa⟩, hk.mono (by simp)⟩
 cases hfr with
 | sq =>
  show wpList P ops (lZ C Q) (o :: _) a w;unfold wpList;rw [hG a hrep.sl];cases hGv : G with
  | true =>
   rw [if_pos rfl];have := hyes hGv;rw [hGv] at h this;exact .inl (Oper.wp_mono (fun a' w' ⟨h1, _⟩ => h hT a' w' h1) (Oper.wp_no this))
  | false =>
   rw [if_neg (by simp), hd];exact h hT _ _ (hno hGv)
 | an hi hDD =>
  unfold wpR wpOp;simp only [hi];rw [hG a hrep.sl];cases hGv : G with
  | true =>
   rw [if_pos rfl];have := hyes hGv;rw [hGv] at h this;exact .inl (Oper.wp_mono (fun a' w' ⟨h1, h2⟩ => ⟨by rw [hDD]; exact h2, h hT a' w' h1⟩) this)
  | false =>
   rw [if_neg (by simp), hd];exact ⟨hY.refl _ _, h hT _ _ (hno hGv)⟩
 | lo _ hi hDD =>
  unfold wpR wpOp;simp only [hi];rw [hG a hrep.sl];cases hGv : G with
  | true =>
   rw [if_pos rfl];have := hyes hGv;rw [hGv] at h this;exact .inl (Oper.wp_mono (fun a' w' ⟨h1, h2⟩ => ⟨by rw [hDD]; exact trivial, h hT a' w' h1⟩) this)
  | false =>
   rw [if_neg (by simp), hd];exact ⟨hY.refl _ _, h hT _ _ (hno hGv)⟩
variable {F : Pred}
theorem SubM.skip {l r : List Pred} (h : SubM l r) : SubM (F :: l) r := by
 induction h with
 | nil => exact .nil _
 | cons h _ ih => exact .cons (.tail _ h) ih
theorem SubM.all : ∀ l : List Pred, SubM l l
 | [] => .nil _
 | _ :: l => .cons (.head _) (SubM.skip (SubM.all l))
theorem PreR.skip {l r : List Pred} {OW : List Own} (h : PreR l OW r) : PreR (F :: l) OW r := by
 induction h with
 | nil => exact .nil _ _
 | fact h _ ih => exact .fact (.tail _ h) ih
 | own h _ ih => exact .own h ih
end
section
open Go.ChangeShapes Go.Deep Go.WideShapes
section
variable {P : Program}
structure Opens (P : Program) (t : TypeId) {α A : Type} (cells : α → A → List Value) (facts : α → A → List Pred) : Prop where
 op : ∀ {H : Type} (enc : TypeId × Value → H) (w : World) (fuel : Nat) (cs : List Value) (x : DataW H × List MemPlace), DataW.trod enc P w 0 (fun _ => true) true fuel t cs = some x → (x.1.weights P t).all (· ≤ reachBytes) = true →
  ∃ a s, cs = cells a s ∧ ∀ F ∈ facts a s, F (fun _ => False) w
variable {t : TypeId}
theorem Au (h : P.underlying t = some (.int .i64)) : Opens P t (fun (n : Int) (_ : Unit) => [.int .i64 n]) (fun _ _ => []) := .mk fun enc w fuel cs x hx _ => by
 obtain ⟨n, rfl, _⟩ := DataW.trod_int h hx;exact ⟨n, (), rfl, by simp⟩
theorem zh (h : P.underlying t = some .bool) : Opens P t (fun (b : Bool) (_ : Unit) => [.bool b]) (fun _ _ => []) := .mk fun enc w fuel cs x hx _ => by
 obtain ⟨n, rfl, _⟩ := DataW.trod_bool h hx;exact ⟨n, (), rfl, by simp⟩
variable {α : Type} {ks : List Bool}
theorem zg (E : El α) (hE : Encs ks E.enc) (he : eqK P 20 t = some ks) (hc : P.cellsOf t = ks.length) : Opens P t (fun (a : α) (_ : Unit) => E.enc a) (fun _ _ => []) := .mk fun enc w fuel cs x hx _ => by
 obtain ⟨a, ha⟩ := hE.to cs (qL 20 t ks he hc fuel cs x hx);exact ⟨a, (), ha.symm, by simp⟩
variable {e : TypeId}
theorem s8 (E : El α) (hE : Encs ks E.enc) (ht : P.underlying t = some (.slice e)) (he : eqK P 20 e = some ks) (hc : P.cellsOf e = ks.length) (hpos : Nat.blt 0 ks.length = true) (hby : P.bytesOf e = E.by_) :
  Opens P t (fun (l : List α) (X : SlV) => [X.val l.length]) (fun l X => [RdL E X l]) := .mk fun enc w fuel cs x hx hs => by
 obtain ⟨X, l, h1, h2⟩ := Dy hE rfl ht he hc (Nat.le_of_ble_eq_true hpos) hby hx hs;exact ⟨l, X, h1, fun F hF => by rw [List.mem_singleton] at hF; subst hF; exact h2⟩
theorem ub (E : El Int) (hE : ∀ n, E.enc n = [.int .i64 n]) (hes : E.esz = 1) (ht : P.underlying t = some (.slice e)) (he : P.underlying e = some (.int .i64)) (hc : P.cellsOf e = 1) (hby : P.bytesOf e = E.by_) :
  Opens P t (fun (l : List Int) (X : SlV) => [X.val l.length]) (fun l X => [RdL E X l]) :=
 s8 E (ks := [true]) ⟨fun a => by rw [hE]; rfl, fun cs h => by
  match cs, h with
  | [.int .i64 n], _ => exact ⟨n, hE n⟩⟩ ht (by simp [eqK, he]) hc rfl hby
structure sf (P : Program) (fs : List Field) (off tot : Nat) {α A : Type} (cells : α → A → List Value) (facts : α → A → List Pred) : Prop where
 op : ∀ {H : Type} (enc : TypeId × Value → H) (w : World) (n : Nat) (cs : List Value) (xs : List (DataW H × List MemPlace)), xs.length = fs.length →
  (∀ (i : Nat) (f : Field), fs[i]? = some f → DataW.trod enc P w 0 (fun _ => true) true n f.type ((cs.drop f.offset).take (P.cellsOf f.type)) = xs[i]?) →
  (DataW.weightsEach P (fs.map (·.type)) (xs.map (·.1))).all (· ≤ reachBytes) = true → cs.length = off + tot → ∃ a s, cs.drop off = cells a s ∧ ∀ F ∈ facts a s, F (fun _ => False) w
variable {off : Nat}
theorem zi : sf P [] off 0 (fun (_ : Unit) (_ : Unit) => []) (fun _ _ => [])  := .mk fun _ _ _ cs _ _ _ _ hl => ⟨(), (), List.drop_eq_nil_of_le (by omega), by simp⟩
variable {A B β : Type} {tot : Nat}
theorem xp {f : Field} {fs : List Field} {n1 : Nat} {c1 : α → A → List Value} {f1 : α → A → List Pred} {c2 : β → B → List Value} {f2 : β → B → List Pred} (h : Opens P t c1 f1) (ht : f.type = t) (ho : f.offset = off) (hn : P.cellsOf t = n1)
  (hr : sf P fs (off + n1) tot c2 f2) : sf P (f :: fs) off (n1 + tot) (fun (a : α × β) (s : A × B) => c1 a.1 s.1 ++ c2 a.2 s.2) (fun a s => f1 a.1 s.1 ++ f2 a.2 s.2) := by
 subst ht;refine ⟨?_⟩;intro H enc w n cs xs hxl hf hs hl;cases xs with
 | nil => simp at hxl
 | cons x xs =>
  simp only [List.map_cons, DataW.weightsEach, List.all_append, Bool.and_eq_true] at hs;have h0 := hf 0 f rfl;simp only [List.getElem?_cons_zero] at h0;obtain ⟨a, s, e1, g1⟩ := h.op enc w n _ x h0 hs.1;obtain ⟨b, s', e2, g2⟩ := hr.op enc w n cs xs (by simpa using hxl) (fun i g hg => by simpa using hf (i + 1) g (by simpa using hg)) hs.2 (by rw [hl]; omega);refine ⟨(a, b), (s, s'), ?_, fun F hF => ?_⟩
  ·simp only;rw [← e1, ← e2, ho, hn];have := List.take_append_drop n1 (cs.drop off);rw [List.drop_drop] at this;exact this.symm
  ·rcases List.mem_append.1 hF with hF | hF
   ·exact g1 F hF
   ·exact g2 F hF
variable {c : α → A → List Value} {f : α → A → List Pred} {fs : Array Field}
theorem wh {t : Nat} (hu : P.underlying t = some (.struct fs)) (hc : P.cellsOf t = tot) (hF : sf P fs.toList 0 tot c f) : Opens P t c f := .mk fun enc w fuel cs x hx hs => by
 obtain ⟨xs, n, rfl, rfl, hlen, hxl, hf⟩ := DataW.trod_struct hu hx;simp only [DataW.weights, hu] at hs;obtain ⟨a, s, h1, h2⟩ := hF.op enc w n cs xs (by rw [hxl]; simp) (fun i g hg => hf i g (by rw [← Array.getElem?_toList]; exact hg)) hs (by rw [hlen, hc]; omega);exact ⟨a, s, by simpa using h1, h2⟩
theorem Opens.map (h : Opens P t c f) (c' : β → B → List Value) (f' : β → B → List Pred) (g : α → β) (k : A → B) (hc : ∀ a s, c a s = c' (g a) (k s)) (hf : ∀ a s, f a s = f' (g a) (k s)) : Opens P t c' f' := .mk fun enc w fuel cs x hx hs => by
 obtain ⟨a, s, h1, h2⟩ := h.op enc w fuel cs x hx hs;exact ⟨g a, k s, by rw [h1, hc], by rw [← hf]; exact h2⟩
variable {H : Type} {enc : TypeId × Value → H} {w : World} {b0 : Nat} {v : Value} {d : DataW H} {ps : List MemPlace}
theorem Opens.agg (h : Opens P t c f) (hu : P.underlying t = some (.struct fs)) (hv : Value.okWide P w .any b0 t v) (hd : DataW.Trod enc P w 0 (fun _ => true) true t v d ps)
  (hs : (d.weights P t).all (· ≤ reachBytes) = true) : ∃ a s, v = .agg ⟨c a s⟩ ∧ ∀ F ∈ f a s, F (fun _ => False) w := by
 obtain ⟨fuel, hx⟩ := hd;obtain ⟨a, s, h1, h2⟩ := h.op enc w fuel _ _ hx hs;unfold Value.okWide at hv;rw [hu] at hv;obtain ⟨cs, rfl, _⟩ := hv;refine ⟨a, s, ?_, h2⟩;simp only [Value.cells] at h1;congr 1;exact Array.ext' h1
theorem Opens.one {c : α → A → Value} (h : Opens P t (fun a s => [c a s]) f) (hu : (∃ k, P.underlying t = some (.int k)) ∨ P.underlying t = some .bool ∨ ∃ e, P.underlying t = some (.slice e)) (hv : Value.okWide P w .any b0 t v) (hd : DataW.Trod enc P w 0 (fun _ => true) true t v d ps)
  (hs : (d.weights P t).all (· ≤ reachBytes) = true) : ∃ a s, v = c a s ∧ ∀ F ∈ f a s, F (fun _ => False) w := by
 obtain ⟨fuel, hx⟩ := hd;obtain ⟨a, s, h1, h2⟩ := h.op enc w fuel _ _ hx hs;refine ⟨a, s, ?_, h2⟩;have hcv : v.cells.toList = [v] := by
  rcases hu with ⟨k, hu⟩ | hu | ⟨e, hu⟩
  ·obtain ⟨n, rfl⟩ := okWide_int hu hv; rfl
  ·have hd' : DataW.Trod enc P w 0 (fun _ => true) true t v d ps := ⟨fuel, hx⟩;obtain ⟨b, rfl, _⟩ := open_bool hu hv hd';rfl
  ·obtain ⟨a, l, cp, rfl⟩ := okWide_slice hu hv; rfl
 rw [hcv] at h1;simpa using h1
end
end
section
variable {P : Program} {T : Tab} {C : Cx} {ops : Array Oper} {o : Oper} {r r' : RS} {s : St} {Q : Post} {N : Nat} {SL : Slots} {BL : List Blk} {OW : List Own} {FA : List Pred} {c : Code}
variable {kd : IntKind}
theorem sr {t ti ty e : TypeId} {i : TypeInfo} {z : Value} (ht : P.underlying t = some (.slice e)) (hti : P.underlying ti = some (.int kd)) (hi : P.info? e = some i) (hz : i.zero = some z) (w : World) (n : Nat) (hn : 0 < n) (hsz : 0 < i.size)
  (h63 : n ≤ 9223372036854775807) (h48 : n * i.bytes ≤ 140737488355328) (hfit : Builtin.nextslicecap (0 + n) 0 * i.bytes ≤ 281474976710656) :
  (Builtin.append_ #[t, ti] ty #[.slice none 0 0, .int .i64 (n : Int)]).run P w =
   .ok (.slice (some ⟨w.heap.size, 0, none⟩) (0 + n) (grownCap w (0 + n) 0 e))
    (w.drew.alloc (.cells ((Builtin.zeroCells z.cells n) ++ Builtin.zeroCells z.cells (grownCap w (0 + n) 0 e - (0 + n))) e)) := by
 have hn0 : ¬ (n = 0) := by omega
 have h63' : ¬ (9223372036854775807 < (n : Int)) := by omega
 have h48' : ¬ (281474976710656 < Builtin.nextslicecap n 0 * i.bytes) := by rw [Nat.zero_add] at hfit; omega
 have hw : IntKind.i64.wrap (n : Int) = (n : Int) := uZ _ ⟨by omega, by omega⟩;have h48i : ¬ (281474976710656 < (n : Int) * (i.bytes : Int)) := by
  have h1 : ((n * i.bytes : Nat) : Int) ≤ ((140737488355328 : Nat) : Int) := Int.ofNat_le.2 h48;rw [Int.natCast_mul] at h1;omega
 have hneg : ¬ ((n : Int) < 0) := by omega
 have hns : ¬ (n * i.size = 0) := by have := Nat.mul_pos hn hsz; omega
 simp [Builtin.append_, run_underlying ht, run_underlying hti, sizeOf, typeInfo, zeroValue, hi, hz, asInt, asIntOf, hw, hneg, h48i, hns, hn0, h63', h48', Question.forced, Builtin.firstCells, newRow, grownCap]
variable {D : List Nat} {by_ d e esz n t : Nat} {g0 g1 : Bool} {x y : Operand}
theorem pj {ti kz : Nat} {z : List Value} {agg : Bool} {ow' : SlV → Option Nat → List Value → List Own} (hf : Front ops r o D r') (hg : Guard ops SL o true) (hd : o.dst = some d) (hn : Nat.blt d N = true)
  (ho : o.op = .call ⟨.builtin .append, ⟨[x, y]⟩, ⟨[t, ti]⟩⟩) (hx : ev SL x = some (g0, .slice none 0 kz)) (hkz : kz = 0) (hg0 : g0 = true) (hy : ev SL y = some (g1, .int .i64 (n : Int))) (hg1 : g1 = true)
  (hti : P.underlying ti = some (.int kd)) (hu : ∀ (X : SlV) b' zs, UpdO OW ⟨.slice none 0 0, none, e, esz, by_, 0, []⟩ [⟨X.val n, b', e, esz, by_, n, zs⟩] (ow' X b' zs))
  (ht : T.slc t = some e) (hz : T.siz e = some (esz, agg)) (hzz : T.zer e = some z) (hzl : z.length = esz) (hby : T.byt e = some by_) (hpos : Nat.blt 0 esz = true)
  (hn0 : 0 < n) (hb : n * by_ ≤ 140737488355328) (h63 : n ≤ 9223372036854775807)
  (h : ∀ (X : SlV) (b' : Option Nat) (zs : List Value), RW P T C ops r' ⟨N, (d, .v (X.val n)) :: SL, BL, ow' X b' zs, FA⟩ Q) : RW P T C ops r ⟨N, SL, BL, OW, FA⟩ Q := by
 subst hkz;have key : ∀ D, Loud P T C ⟨N, SL, BL, OW, FA⟩ o D (fun s' => ∃ (X : SlV) (b' : Option Nat) (zs : List Value), s' = ⟨N, (d, .v (X.val n)) :: SL, BL, ow' X b' zs, FA⟩) := by
  intro D hT a w hrep;refine Oper.wp_mono ?_ (qH (D := D) hd hn (K := fun u bl ow fa => ∃ (X : SlV) (b' : Option Nat) (zs : List Value), u = X.val n ∧ bl = BL ∧ ow = ow' X b' zs ∧ fa = FA) ?_ hT a w hrep)
  ·rintro a' w' ⟨s', ⟨u, bl, ow, fa, ⟨X, b', zs, e1, e2, e3, e4⟩, e5⟩, h2, h3⟩;subst e1; subst e2; subst e3; subst e4;exact ⟨s', ⟨X, b', zs, e5⟩, h2, h3⟩
  ·intro hT a w hrep;have hu' := hT.slc _ _ ht;obtain ⟨tt, d', q1, q2, q3, q4⟩ := hT.siz _ _ _ hz;obtain ⟨ti', hi', hby'⟩ := hT.byt _ _ hby;obtain ⟨ti'', zv, hi'', hz'', hzc⟩ := hT.zer _ _ hzz;rw [q1] at hi' hi'';cases hi'; cases hi'';have hpos := Nat.le_of_ble_eq_true hpos;have hzs : zv.cells.size = esz := by rw [← hzl, ← hzc]; simp
   have hr := sr (ty := o.type) hu' hti q1 hz'' w n hn0 (by omega) h63 (by rw [hby']; exact hb) (growslice_fits (by omega) (by rw [hby', Nat.zero_add]; exact hb));have hge := grownCap_ge w (0 + n) 0 e;have hcm : grownCap w (0 + n) 0 e ≤ maxLen := grownCap_le_maxLen w (0 + n) 0 e (by simp only [maxLen]; omega);have ho' : OwnOk C (w.drew.alloc (.cells ((Builtin.zeroCells zv.cells n) ++ Builtin.zeroCells zv.cells (grownCap w (0 + n) 0 e - (0 + n))) e)) ⟨(⟨some ⟨w.heap.size, 0, none⟩, grownCap w (0 + n) 0 e⟩ : SlV).val n, some w.heap.size, e, esz, by_, n, (Builtin.zeroCells zv.cells n).toList⟩ := by
    refine ⟨by simp only [Array.length_toList, size_zeroCells, hzs], ⟨h63, hb⟩, .inl hrep.wo.be.size, _, _, rfl, heap_alloc_new w.drew _, (by show n ≤ grownCap w (0 + n) 0 e; omega), by simpa [maxLen] using hcm, ?_, ?_⟩
    ·simp only [Array.size_append, size_zeroCells, hzs, ← Nat.add_mul];congr 1;omega
    ·simp only [Array.toList_append];have : n * esz = (Builtin.zeroCells zv.cells n).toList.length := by simp only [Array.length_toList, size_zeroCells, hzs]
     rw [this];simp
   refine ⟨_, _, BL, ow' ⟨some ⟨w.heap.size, 0, none⟩, grownCap w (0 + n) 0 e⟩ (some w.heap.size) (Builtin.zeroCells zv.cells n).toList, FA, ?_, hrep.wo.swapO (hu ⟨some ⟨w.heap.size, 0, none⟩, grownCap w (0 + n) 0 e⟩ (some w.heap.size) _) ho' ⟨rfl, rfl, rfl, by simp, fun k hk _ => heap_alloc_old w.drew _ k hk⟩ (.inr (.inr rfl)), ⟨by simp, fun k hk _ => heap_alloc_old w.drew _ k hk⟩, ⟨_, _, _, rfl, rfl, rfl, rfl⟩⟩;have hr' := hr;rw [Nat.zero_add] at hr';simp only [execOp, ho, resolve, invoke, builtin, Sem.run_bind, Sem.run_pure, Result.andThen_ok, List.map_toArray, List.map_cons, List.map_nil, ev_ok hrep.sl hx hg0, ev_ok hrep.sl hy hg1];rw [hr'];simp only [SlV.val, Nat.zero_add, Result.andThen_ok, Sem.run_pure]
 exact rw_l hf hg (key _) (fun s' ⟨X, b', zs, e⟩ => by subst e; exact h X b' zs)
theorem qy {k : Nat} {b : Bool} {iv : Int} {X : SlV} {ob : Option Nat} {xs : List Value} {ow' : List Own} (hf : Front ops r o D r') (hg : Guard ops SL o true) (hd : o.dst = some d) (hn : Nat.blt d N = true)
  (ho : o.op = .slice t x none (some y) none) (hx : ev SL x = some (g0, X.val n)) (hg0 : g0 = true) (hy : ev SL y = some (g1, .int kd iv)) (hg1 : g1 = true) (ht : T.slc t = some e) (hz : T.siz e = some (esz, b))
  (hu : UpdO OW ⟨X.val n, ob, e, esz, by_, n, xs⟩ [⟨X.val k, ob, e, esz, by_, k, xs.take (k * esz)⟩] ow') (hi : iv = (k : Int)) (hk : k ≤ n)
  (h : RW P T C ops r' ⟨N, (d, .v (X.val k)) :: SL, BL, ow', FA⟩ Q) : RW P T C ops r ⟨N, SL, BL, OW, FA⟩ Q := by
 refine uo hf hg hd hn (K := fun u bl ow fa => u = X.val k ∧ bl = BL ∧ ow = ow' ∧ fa = FA) ?_ (fun u bl ow fa ⟨e1, e2, e3, e4⟩ => by subst e1; subst e2; subst e3; subst e4; exact h);intro hT a w hrep;have hm : (⟨X.val n, ob, e, esz, by_, n, xs⟩ : Own) ∈ OW := by obtain ⟨l, r, e, _⟩ := hu.spec; rw [e]; simp
 have hq := hrep.wo.ow _ hm;obtain ⟨h1, h2, h3⟩ := hq;simp only at h1 h2 h3;have hkb : k * by_ ≤ n * by_ := Nat.mul_le_mul_right _ hk;have hke : k * esz ≤ n * esz := Nat.mul_le_mul_right _ hk;have hcn : k ≤ X.c ∧ OwnOk C w ⟨X.val k, ob, e, esz, by_, k, xs.take (k * esz)⟩ := by
  cases ob with
  | none =>
   obtain ⟨h0, A, hA⟩ := h3;simp only [SlV.val, Value.slice.injEq] at hA;have : k = 0 := by omega
   subst this;exact ⟨N0, ⟨by simp, by simp, rfl, X.a, by simp only [SlV.val, hA.2.2]⟩⟩
  | some g =>
   obtain ⟨hg, cap, cur, hv, hh, hnc, hcap, hcs, htake⟩ := h3;simp only [SlV.val, Value.slice.injEq, true_and] at hv;refine ⟨by omega, ⟨by simp only [List.length_take, h1]; omega, ⟨(by show k ≤ _; omega), (by show k * by_ ≤ _; omega)⟩, hg, cap, cur, by simp only [SlV.val, hv.1, hv.2], hh, (by show k ≤ _; omega), hcap, hcs, ?_⟩⟩;simp only;rw [← htake, List.take_take, Nat.min_eq_left hke]
 refine ⟨X.val k, w, BL, ow', FA, ?_, hrep.wo.swapO hu hcn.2 ⟨rfl, rfl, rfl, Nr, fun _ _ _ => rfl⟩ (.inl rfl), Keeps.refl _ _, rfl, rfl, rfl, rfl⟩;have := rR (P := P) (BL := BL) (FA := FA) (T := T) (SL := SL) (G := true) (h := k) (A := X.a) (n := n) (c := X.c) ho hx (fun _ => hg0) hy (fun _ => hg1) ht hz (fun _ => hi) (fun _ => hcn.1) hT rfl a w hrep.sl hrep.wo.wq;exact this
theorem q_cap {cc : Nat} {G : Bool} {A : Option Addr} (ho : o.op = .call ⟨.builtin .cap, ⟨[x]⟩, ⟨[t]⟩⟩) (he : ev SL x = some (g0, .slice A n cc)) (hg0 : G = true → g0 = true) (ht : T.slc t = some e) : Quiet P T SL BL FA o G (.int .i64 (cc : Int)) :=
 fun hT hG a w hsl hw => by
  have h1 := ev_ok hsl he (hg0 hG);have hu := hT.slc _ _ ht;simp [execOp, ho, resolve, invoke, builtin, h1, Builtin.cap_, run_underlying hu, goInt]
end
instance : Inhabited SlV := ⟨⟨none, 0⟩⟩
structure En (α : Type) where
 G : Type
 inh : Inhabited G
 E : El (G × α)
 facts : G × α → List Pred
 stab : ∀ h, StabL (facts h)
instance {α : Type} (EN : En α) : Inhabited EN.G := EN.inh
def zipG {G α : Type} (γ : Nat → G) : Nat → List α → List (G × α)
 | _, [] => []
 | k, a :: r => (γ k, a) :: zipG γ (k + 1) r
theorem dL {G α : Type} (γ : Nat → G) : ∀ (k : Nat) (l : List α), (zipG γ k l).length = l.length
 | _, [] => rfl
 | k, a :: r => by simp [zipG, dL γ (k + 1) r]
theorem xT {G α : Type} (γ : Nat → G) : ∀ (k : Nat) (l : List α) (i : Nat) (h : i < (zipG γ k l).length), (zipG γ k l)[i] = (γ (k + i), l[i]'(by rw [← dL γ k l]; exact h))
 | k, a :: r, 0, h => rfl
 | k, a :: r, i + 1, h => by
  have := xT γ (k + 1) r i (by simpa [zipG] using h);simp only [zipG, List.getElem_cons_succ];rw [this];congr 2;omega
theorem zH {G α : Type} [Inhabited G] : ∀ (hs : List (G × α)) (k : Nat), ∃ γ : Nat → G, hs = zipG γ k (hs.map (·.2)) ∧ ∀ i, i < hs.length → γ (k + i) = (hs.map (·.1)).getD i default
 | [], _ => ⟨fun _ => default, rfl, fun i h => absurd h (by simp)⟩
 | (g, a) :: r, k => by
  obtain ⟨γ, h1, h2⟩ := zH r (k + 1);refine ⟨fun i => if i = k then g else γ i, ?_, ?_⟩
  ·simp only [List.map_cons, zipG, if_pos];congr 1;have key : ∀ (l : List α) (j : Nat), k < j → zipG (fun i => if i = k then g else γ i) j l = zipG γ j l := by
    intro l;induction l with
    | nil => intro j _; rfl
    | cons b r ih => intro j hj; simp only [zipG]; rw [ih (j + 1) (by omega), if_neg (by omega)]
   rw [key _ _ (Nat.lt_succ_self k)];exact h1
  ·intro i hi;cases i with
   | zero => simp
   | succ i =>
    simp only [List.map_cons, List.getD_cons_succ];rw [if_neg (by omega), ← h2 i (by simpa using hi)];congr 1;omega
def FactsG {α : Type} [Inhabited α] (EN : En α) (γ : Nat → EN.G) (l : List α) : Pred := fun M w => ∀ i, i < l.length → AllF (EN.facts (γ i, gt l i)) M w
instance {α : Type} [Inhabited α] (EN : En α) (γ : Nat → EN.G) (l : List α) : Stab (FactsG EN γ l) where
 st M M' w w' h hx hM := fun i hi F hF => ((EN.stab _).st F hF).st M M' w w' (h i hi F hF) hx hM
abbrev RdG {α : Type} (EN : En α) (X : SlV) (γ : Nat → EN.G) (l : List α) : Pred := RdL EN.E X (zipG γ 0 l)
def RdN {α : Type} [Inhabited α] (EN : En α) (X : SlV) (l : List α) : Pred := fun M w => ∃ γ : Nat → EN.G, RdG EN X γ l M w ∧ FactsG EN γ l M w
instance {α : Type} [Inhabited α] (EN : En α) (X : SlV) (l : List α) : Stab (RdN EN X l) where
 st M M' w w' h hx hM := by
  obtain ⟨γ, h1, h2⟩ := h;exact ⟨γ, Stab.st (F := RdG EN X γ l) M M' w w' h1 hx hM, Stab.st (F := FactsG EN γ l) M M' w w' h2 hx hM⟩
variable {α : Type} {EN : En α} {M : Nat → Prop} {l : List α} {w : World} {x : SlV}
theorem RdN.len [Inhabited α] (h : RdN EN x l M w) : l.length * EN.E.by_ ≤ 140737488355328 := by
 obtain ⟨γ, h1, _⟩ := h;have := h1.len
 rwa [dL] at this
theorem RdN.nil_of [Inhabited α] (h : RdN EN x l M w) (hx : x.a.isNone = true) : l = [] := by
 obtain ⟨γ, h1, _⟩ := h;have := congrArg List.length (h1.nil_of hx);rw [dL] at this;exact List.eq_nil_of_length_eq_zero this
section
variable {P : Program} {T : Tab} {C : Cx} {ops : Array Oper} {o : Oper} {r r' : RS} {s : St} {Q : Post} {N : Nat} {SL : Slots} {BL : List Blk} {OW : List Own} {FA : List Pred} {c : Code}
variable {X : SlV} {α : Type} {l : List α}
theorem CN [Inhabited α] (EN : En α) (hm : RdN EN X l ∈ FA) (h : ∀ γ : Nat → EN.G, CW P T C c ⟨N, SL, BL, OW, FactsG EN γ l :: RdG EN X γ l :: FA⟩ Q) : CW P T C c ⟨N, SL, BL, OW, FA⟩ Q := fun hT a w hr => by
 obtain ⟨hs, γ, h1, h2⟩ := hr.wo.fa _ hm;refine h γ hT a w ⟨hr.sz, hr.df, hr.sl, hr.wo.be, hr.wo.bl, hr.wo.ow, hr.wo.nd, fun G hG => ?_⟩;cases hG with
 | head => exact ⟨inferInstance, h2⟩
 | tail _ hG =>
  cases hG with
  | head => exact ⟨inferInstance, h1⟩
  | tail _ hG => exact hr.wo.fa G hG
theorem rw_exN [Inhabited α] (EN : En α) (hm : RdN EN X l ∈ FA) (h : ∀ γ : Nat → EN.G, RW P T C ops r ⟨N, SL, BL, OW, FactsG EN γ l :: RdG EN X γ l :: FA⟩ Q) : RW P T C ops r ⟨N, SL, BL, OW, FA⟩ Q := fun hT a w hr => by
 obtain ⟨hs, γ, h1, h2⟩ := hr.wo.fa _ hm;refine h γ hT a w ⟨hr.sz, hr.df, hr.sl, hr.wo.be, hr.wo.bl, hr.wo.ow, hr.wo.nd, fun G hG => ?_⟩;cases hG with
 | head => exact ⟨inferInstance, h2⟩
 | tail _ hG =>
  cases hG with
  | head => exact ⟨inferInstance, h1⟩
  | tail _ hG => exact hr.wo.fa G hG
variable {i : Nat}
theorem w8 {G : Type} [Inhabited G] [Inhabited α] (γ : Nat → G) (h : i < l.length) : gt (zipG γ 0 l) i = (γ i, gt l i) := by
 rw [gt_eq (by rw [dL]; exact h), gt_eq h, xT];simp
variable {A : Option Addr} {G g0 : Bool} {x : Operand}
theorem nR (EN : En α) (γ : Nat → EN.G) {esz c t e n : Nat} {y : Operand} {g1 b : Bool} {k : IntKind} {iv : Int} (i : Nat) (ho : o.op = .indexAddr t x y)
  (he : ev SL x = some (g0, .slice A n c)) (hg0 : G = true → g0 = true) (hy : ev SL y = some (g1, .int k iv)) (hg1 : G = true → g1 = true)
  (ht : T.slc t = some e) (hz : T.siz e = some (esz, b)) (hes : EN.E.esz = esz) (hm : RdG EN ⟨A, c⟩ γ l ∈ FA) (hn : n = l.length) (hi : G = true → iv = (i : Int)) (hlt : G = true → i < l.length) :
  Quiet P T SL BL FA o G (.pointer (some (epA A i esz 0))) :=
 q_idx EN.E (l := zipG γ 0 l) i ho he hg0 hy hg1 ht hz hes hm (by rw [dL]; exact hn) hi (fun h => by rw [dL]; exact hlt h)
theorem i8 [Inhabited α] (EN : En α) (γ : Nat → EN.G) {esz c t n off : Nat} {v : Value} (ho : o.op = .load t x)
  (he : ev SL x = some (g0, .pointer (some (epA A i esz off)))) (hg0 : G = true → g0 = true) (hs : T.siz t = some (n, false)) (hes : EN.E.esz = esz) (hm : RdG EN ⟨A, c⟩ γ l ∈ FA) (hlt : G = true → i < l.length)
  (hv : (EN.E.enc (γ i, gt l i))[off]? = some v) : Quiet P T SL BL FA o G v :=
 fun hT hG => q_le1 EN.E (l := zipG γ 0 l) (G := true) ho he (fun _ => hg0 hG) hs hes hm (fun _ => by rw [dL]; exact hlt hG) (by rw [w8 γ (hlt hG)]; exact hv) hT rfl
theorem q_leAN [Inhabited α] (EN : En α) (γ : Nat → EN.G) {esz c t : Nat} (ho : o.op = .load t x)
  (he : ev SL x = some (g0, .pointer (some (epA A i esz 0)))) (hg0 : G = true → g0 = true) (hs : T.siz t = some (esz, true)) (hes : EN.E.esz = esz) (hm : RdG EN ⟨A, c⟩ γ l ∈ FA) (hlt : G = true → i < l.length) : Quiet P T SL BL FA o G (.agg ⟨EN.E.enc (γ i, gt l i)⟩) :=
 fun hT hG a w hsl hw => by
  have := q_leA EN.E (l := zipG γ 0 l) (G := true) ho he (fun _ => hg0 hG) hs hes hm (fun _ => by rw [dL]; exact hlt hG) hT rfl a w hsl hw
  rwa [w8 γ (hlt hG)] at this
variable {M : Nat → Prop} {w : World}
theorem RdN.of [Inhabited α] (EN : En α) {hs : List (EN.G × α)} (hl : hs.map (·.2) = l) (h : RdL EN.E X hs M w) (hf : ∀ p ∈ hs, AllF (EN.facts p) M w) : RdN EN X l M w := by
 subst hl;obtain ⟨γ, h1, h2⟩ := zH hs 0;refine ⟨γ, ?_, fun i hi => ?_⟩
 ·unfold RdG; rw [← h1]; exact h
 ·have hi' : i < hs.length := by simpa using hi
  have h3 := h2 i hi';rw [Nat.zero_add] at h3;rw [h3, gt_eq hi];have : ((hs.map (·.1)).getD i default, (hs.map (·.2))[i]) = hs[i] := by simp [List.getD, List.getElem?_map, List.getElem?_eq_getElem hi']
  rw [this];exact hf _ (List.getElem_mem hi')
theorem bn {β : Type} {φ : β → Prop} {a : β} {r : List β} (h : φ a) (hr : ∀ p ∈ r, φ p) : ∀ p ∈ a :: r, φ p := fun p hp => by
 cases hp with
 | head => exact h
 | tail _ hp => exact hr p hp
theorem pD {pre q : List Pred} (hs : SubM pre q) (h : AllF pre M w) : AllF q M w := fun F hF => h F (hs.mem F hF)
theorem RdN.nil [Inhabited α] (EN : En α) (M : Nat → Prop) (w : World) : RdN EN ⟨none, 0⟩ [] M w :=
 RdN.of EN (hs := []) rfl (RdL.nil _ _ _ (by omega) M w) (fun p hp => by cases hp)
end
section
variable {P : Program} {T : Tab} {C : Cx} {ops : Array Oper} {o : Oper} {r r' : RS} {s : St} {Q : Post} {N : Nat} {SL : Slots} {BL : List Blk} {OW : List Own} {FA : List Pred} {c : Code}
variable {w w' : World}
theorem OwnOk.keeps {q : Own} (h : OwnOk C w q) (hk : Keeps [] w w') : OwnOk C w' q := by
 obtain ⟨h1, h2, h3⟩ := h;refine ⟨h1, h2, ?_⟩;cases hb : q.b with
 | none => rw [hb] at h3; exact h3
 | some g =>
  rw [hb] at h3;obtain ⟨hg, cap, cur, hv, hh, hr⟩ := h3;exact ⟨hg, cap, cur, hv, by rw [hk.2 g (ke hh) (by simp)]; exact hh, hr⟩
variable {X : SlV} {b : Option Nat} {e : TypeId} {α : Type} {l : List α}
theorem CB {E : El α} (hm : ownL E e X b l ∈ OW) (h : WOk C ⟨N, SL, BL, OW, FA⟩ w) (hk : Keeps [] w w') : WQ BL (RdL E X l :: FA) w' := by
 have h1 : WQ BL FA w' := qj h (D := some []) ⟨rfl, _, iL.all _, by simp⟩ hk;refine ⟨h1.bl, fun F hF => ?_⟩;cases hF with
 | head => exact ⟨fun _ => False, OwnOk.rd (C := C) (e := e) (b := b) ((h.ow _ hm).keeps hk) (fun _ _ h => h)⟩
 | tail _ hF => exact h1.fa F hF
variable {G : Bool} {d : Nat} {v : Value}
theorem CE (E : El α) (hm : ownL E e X b l ∈ OW) {sv : SV} (hf : jf ops r o (some []) r') (hG : Guard ops SL o G) (hd : o.dst = some d) (hn : Nat.blt d N = true) (hq : Quiet P T SL BL (RdL E X l :: FA) o G v)
  (hsv : sv.ok (some (bif G then v else undef)))
  (h : RW P T C ops r' ⟨N, (d, sv) :: SL, BL, OW, FA⟩ Q) : RW P T C ops r ⟨N, SL, BL, OW, FA⟩ Q := by
 intro hT a w hrep;have hput : ∀ u, u = (bif G then v else undef) → Rep C ⟨N, (d, sv) :: SL, BL, OW, FA⟩ (a.put (some d) u) w := fun u hu => by
  subst hu;exact hrep.putv (Nat.le_of_ble_eq_true hn) hsv hrep.wo
 rcases hf.first with ⟨l, rfl, rfl⟩ | ⟨fp, fuel, listed, i, rfl, rfl, hfirst⟩
 ·show wpList P ops (lZ C Q) (o :: _) a w;unfold wpList;rw [hG a hrep.sl];cases hGv : G with
  | true =>
   rw [if_pos rfl];refine .inl ?_;unfold Oper.wp;rw [hq hT hGv a w hrep.sl (CB hm hrep.wo (Keeps.refl _ _)), Oper.upon_value, hd];exact h hT _ _ (hput _ (by simp [hGv]))
  | false =>
   rw [if_neg (by simp), hd];exact h hT _ _ (hput _ (by simp [hGv]))
 ·have hy : jO P ops (some []) o (bif G then v else undef) a w := by
   cases hGv : G with
   | true => exact .inl ⟨by rw [hG a hrep.sl, hGv], fun w' hk => by simpa using hq hT hGv a w' hrep.sl (CB hm hrep.wo hk)⟩
   | false => exact .inr ⟨by rw [hG a hrep.sl, hGv], rfl⟩
  have hH := h hT _ _ (hput _ rfl);exact hfirst hy (by rw [hd]; exact hH)
theorem rw_qO (E : El α) (hm : ownL E e X b l ∈ OW) (hf : jf ops r o (some []) r') (hg : o.guard = none) (hd : o.dst = some d) (hn : Nat.blt d N = true) (hq : Quiet P T SL BL (RdL E X l :: FA) o true v)
  (h : RW P T C ops r' ⟨N, (d, .v v) :: SL, BL, OW, FA⟩ Q) : RW P T C ops r ⟨N, SL, BL, OW, FA⟩ Q :=
 CE E hm hf (au hg) hd hn hq (by simp [SV.ok]) h
theorem rN (E : El α) (hm : ownL E e X b l ∈ OW) (hf : jf ops r o (some []) r') (hG : Guard ops SL o G) (hd : o.dst = some d) (hn : Nat.blt d N = true) (hq : Quiet P T SL BL (RdL E X l :: FA) o G v)
  (h : RW P T C ops r' ⟨N, (d, .o G v) :: SL, BL, OW, FA⟩ Q) : RW P T C ops r ⟨N, SL, BL, OW, FA⟩ Q :=
 CE E hm hf hG hd hn hq (by simp [SV.ok]) h
theorem zb : ∀ (cs tl : List Value) (off : Nat) (vs : List Value), off + vs.length ≤ cs.length → putAt (cs ++ tl) off vs = putAt cs off vs ++ tl := by
 intro cs tl off vs;induction vs generalizing cs off with
 | nil => intro _; simp [putAt]
 | cons v vs ih =>
  intro h;simp only [List.length_cons] at h;simp only [putAt];rw [List.set_append_left _ _ (by omega)];exact ih (cs.set off v) (off + 1) (by simp; omega)
theorem CD [Inhabited α] (E : El α) (l : List α) (i o2 : Nat) (p : α) {t n : Nat} {x y : Operand} {g0 g1 bb : Bool} {vs : List Value} {ow' : List Own} {D : List Nat} (hf : Front ops r o D r')
  (hgD : (∃ l, r = .sq l) ∨ ∀ g, b = some g → g ∈ D) (hg : Guard ops SL o true) (hd : o.dst = none) (ho : o.op = .store t x y)
  (he : ev SL x = some (g0, .pointer (some (epA X.a i E.esz o2)))) (hg0 : g0 = true) (hev : ev SL y = some (g1, v)) (hg1 : g1 = true) (hs : T.siz t = some (n, bb)) (hvc : v.cells = vs.toArray) (hvn : vs.length = n)
  (hone : vs.all (·.oneCell') = true) (hle : Nat.ble (o2 + n) E.esz = true) (hlt : i < l.length) (hp : E.enc p = putAt (E.enc (gt l i)) o2 vs) (hu : UpdO OW (ownL E e X b l) [ownL E e X b (l.set i p)] ow')
  (h : RW P T C ops r' ⟨N, SL, BL, ow', FA⟩ Q) : RW P T C ops r ⟨N, SL, BL, OW, FA⟩ Q := by
 intro hT a w hrep;have hle := Nat.le_of_ble_eq_true hle;obtain ⟨ll, rr, e1, e2⟩ := hu.spec;have hq := hrep.wo.ow (ownL E e X b l) (by rw [e1]; simp);obtain ⟨h1, h2, h3⟩ := hq;simp only at h1 h2 h3;cases b with
 | none => omega
 | some g =>
  obtain ⟨hmine, cap, cur, hv, hh, hnc, hcap, hcs, htake⟩ := h3;simp only [SlV.val, Value.slice.injEq, true_and] at hv;have hXa := hv.1;have hidp : (ids ⟨N, SL, BL, OW, FA⟩).Perm (g :: (BL.map (·.g) ++ (ll ++ rr).filterMap (·.b))) := by
   subst e1;simp only [ids, List.filterMap_append, List.filterMap_cons];rw [← List.append_assoc];exact List.perm_middle.trans (by simp [List.append_assoc])
  have hMp : ∀ k, k ∈ ids ⟨N, SL, BL, OW, FA⟩ ↔ k ∈ g :: (BL.map (·.g) ++ (ll ++ rr).filterMap (·.b)) := fun k => hidp.mem_iff;have hrep2 : Rep C ⟨N, SL, ⟨g, e, cur.toList⟩ :: BL, ll ++ rr, FA⟩ a w := by
   refine ⟨hrep.sz, hrep.df, hrep.sl, hrep.wo.be, fun k hk => ?_, fun q hq => hrep.wo.ow q (by
    rw [e1];rcases List.mem_append.1 hq with h | h
    ·exact List.mem_append_left _ h
    ·exact List.mem_append_right _ (.tail _ h)), ?_, fun F hF => ?_⟩
   ·cases hk with
    | head => exact ⟨by simpa using hh, hmine⟩
    | tail _ hk => exact hrep.wo.bl k hk
   ·have := hidp.nodup_iff.1 hrep.wo.nd;simpa [ids] using this
   ·have hF' := hrep.wo.fa F hF;refine ⟨hF'.1, hF'.1.st _ _ w w hF'.2 ⟨Nr, fun _ _ _ => rfl⟩ fun k _ hm => ?_⟩;rcases hm with hm | hm
    ·exact .inl hm
    ·exact .inr ((hMp k).2 (by simpa [ids] using hm))
  have hflat : (l.flatMap E.enc).length = l.length * E.esz := eN l fun a _ => E.len a;have hsz : cur.toList.length = cap * E.esz := by rw [Array.length_toList]; exact hcs
  have hii : (i + 1) * E.esz ≤ l.length * E.esz := Nat.mul_le_mul_right _ hlt;have hcc : l.length * E.esz ≤ cap * E.esz := Nat.mul_le_mul_right _ hnc;rw [Nat.add_mul] at hii;have hput : putAt cur.toList (i * E.esz + o2) vs = (l.set i p).flatMap E.enc ++ cur.toList.drop (l.length * E.esz) := by
   have hsplit : cur.toList = l.flatMap E.enc ++ cur.toList.drop (l.length * E.esz) := by rw [← htake, List.take_append_drop]
   conv => lhs; rw [hsplit]
   rw [zb _ _ _ _ (by omega), pp E p o2 vs (by omega) l i hlt hp]
  have hback : Le C ⟨N, SL, ⟨g, e, (l.set i p).flatMap E.enc ++ cur.toList.drop (l.length * E.esz)⟩ :: BL, ll ++ rr, FA⟩ ⟨N, SL, BL, ow', FA⟩ := fun a' w' hr => by
   have hb := hr.wo.bl _ (.head _);have hfl : ((l.set i p).flatMap E.enc).length = l.length * E.esz := by rw [eN _ fun a _ => E.len a]; simp
   have hidp2 : (ids ⟨N, SL, BL, ow', FA⟩).Perm (g :: (BL.map (·.g) ++ (ll ++ rr).filterMap (·.b))) := by
    subst e2;simp only [ids, List.filterMap_append, List.filterMap_cons, List.filterMap_nil, List.nil_append, List.cons_append];rw [← List.append_assoc];exact List.perm_middle.trans (by simp [List.append_assoc])
   refine ⟨hr.sz, hr.df, hr.sl, hr.wo.be, fun k hk => hr.wo.bl k (.tail _ hk), fun q hq => ?_, ?_, fun F hF => ?_⟩
   ·rw [e2] at hq;rcases List.mem_append.1 hq with hq | hq
    ·exact hr.wo.ow q (List.mem_append_left _ hq)
    ·rcases List.mem_append.1 hq with hq | hq
     ·rw [List.mem_singleton] at hq;subst hq;refine ⟨by simp only [List.length_set]; exact hfl, by simpa using h2, hmine, cap, _, ?_, hb.1, by simpa using hnc, hcap, ?_, ?_⟩
      ·simp only [SlV.val, Value.slice.injEq, true_and]; exact hv
      ·simp only [List.size_toArray, List.length_append, hfl, List.length_drop, hsz]; omega
      ·simp only [List.length_set];rw [← hfl];simp
     ·exact hr.wo.ow q (List.mem_append_right _ hq)
   ·refine hidp2.nodup_iff.2 ?_;have := hr.wo.nd;simpa [ids] using this
   ·have hF' := hr.wo.fa F hF;refine ⟨hF'.1, hF'.1.st _ _ w' w' hF'.2 ⟨Nr, fun _ _ _ => rfl⟩ fun k _ hm => ?_⟩;rcases hm with hm | hm
    ·exact .inl hm
    ·exact .inr (by have := hidp2.mem_iff.1 hm; simpa [ids] using this)
  have hptr : epA X.a i E.esz o2 = ⟨g, i * E.esz + o2, none⟩ := by rw [hXa]; simp [epA, Addr.add_lit]
  rw [hptr] at he;refine yb (BL := ⟨g, e, cur.toList⟩ :: BL) (OW := ll ++ rr) (vs := vs) (cs := cur.toList) hf ?_ hg hd ho he hg0 hev hg1 hs hvc hvn hone (.here _ _ _ _ _) (by rw [hsz]; omega) ?_ hT a w hrep2
  ·rcases hgD with h | h
   ·exact .inl h
   ·exact .inr (h g rfl)
  ·rw [hput];exact rw_le hback h
end
end Go.Proofs.YtkjccbdeaflekaaGreatDoor.Fw
