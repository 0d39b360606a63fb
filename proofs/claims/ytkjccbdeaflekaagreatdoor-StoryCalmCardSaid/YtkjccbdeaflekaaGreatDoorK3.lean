/- Part of this claim. No condition. -/
import Derived.Test.YtkjccbdeaflekaaGreatDoorK2
import Derived.KernelRfl
import Derived.Lib.ConvBytes
import Derived.Lib.Strings
import Derived.Lib.AppendStr
import Derived.Laws.IdiomStrings
set_option linter.unusedVariables false
set_option linter.unusedSimpArgs false
namespace Go.Proofs.YtkjccbdeaflekaaGreatDoor.Fw
open Go Go.RowKit
section
variable {P : Program} {T : Tab} {C : Cx} {ops : Array Oper} {o : Oper} {r r' : RS} {s : St} {Q : Post} {N : Nat} {SL : Slots} {BL : List Blk} {OW : List Own} {FA : List Pred} {c : Code}
theorem rM {Q Q' : Post} (h : ∀ e s, Q e s → Q' e s) (hc : CW P T C c s Q) : CW P T C c s Q' := fun hT a w hr => Code.wp_mono (fun e a w => ry h e a w) (hc hT a w hr)
def onceQ (Q : Post) : Post
 | .normal, _ => False
 | e, s => Q e s
theorem xk {b : Code} (h : CW P T C b s (onceQ Q)) : CW P T C (.loop b) s Q :=
 uR (ι := Unit) (fun _ => s) (fun _ => True) (fun _ => 0) () trivial Le.refl fun _ _ => rM (fun e s' hq => by
  cases e with
  | normal => exact hq.elim
  | exit i => exact hq
  | ret => exact hq
  | goto l => exact hq
  | panic c => exact hq
  | outgrown => exact hq) h
theorem PreR.sub {pre : List Pred} (h : SubM FA pre) : PreR FA OW pre := by
 induction h with
 | nil => exact .nil _ _
 | cons h _ ih => exact .fact h ih
theorem wrap_u (n : Int) (h : 0 ≤ n ∧ n ≤ 9223372036854775807) : IntKind.u64.wrap n = n := by
 simp only [IntKind.wrap, IntKind.bits]; simp; omega
theorem pI {t t' : Nat} {x : Operand} {g0 G : Bool} {a : Int} (hd : P.underlying t = some (.int .i64)) (hd' : P.underlying t' = some (.int .u64)) (ho : o.op = .convert t t' x) (he : ev SL x = some (g0, .int .i64 a)) (hg0 : G = true → g0 = true)
  (hb : G = true → 0 ≤ a ∧ a ≤ 9223372036854775807) : Quiet P T SL BL FA o G (.int .u64 a) :=
 fun hT hG a' w hsl hw => by
  have h1 := ev_ok hsl he (hg0 hG)
  have h3 := wrap_u a (hb hG)
  simp only [execOp, ho, h1, Sem.run_bind, convert, run_underlying hd, run_underlying hd', Result.andThen_ok, Conv.intToInt, h3, Sem.run_pure]
theorem pJ {t t' : Nat} {x : Operand} {g0 G : Bool} {a : Int} (hd : P.underlying t = some (.int .u64)) (hd' : P.underlying t' = some (.int .i64)) (ho : o.op = .convert t t' x) (he : ev SL x = some (g0, .int .u64 a)) (hg0 : G = true → g0 = true)
  (hb : G = true → -9223372036854775808 ≤ a ∧ a ≤ 9223372036854775807) : Quiet P T SL BL FA o G (.int .i64 a) :=
 fun hT hG a' w hsl hw => by
  have h1 := ev_ok hsl he (hg0 hG)
  have h3 := pq a (hb hG)
  simp only [execOp, ho, h1, Sem.run_bind, convert, run_underlying hd, run_underlying hd', Result.andThen_ok, Conv.intToInt, h3, Sem.run_pure]
theorem sm {t t' : Nat} {x : Operand} {g0 G : Bool} {a : Int} (ho : o.op = .binOp .shr t x (.const (.int .u64 1)) t') (he : ev SL x = some (g0, .int .u64 a)) (hg0 : G = true → g0 = true) : Quiet P T SL BL FA o G (.int .u64 (a / 2)) :=
 fun hT hG a' w hsl hw => by
  have h1 := ev_ok hsl he (hg0 hG)
  have h3 : (Op.shift .shr .u64 a .u64 1).run P w = .ok (.int .u64 (a / 2)) w := by
   simp [Op.shift, IntKind.bits, Int.fdiv_eq_ediv_of_nonneg]
  simp [execOp, ho, h1, lx, eqGuard, binOp, h3]
theorem sn {α : Type} (E : El α) {l : List α} {X : SlV} {k esz t e : Nat} {x y : Operand} {g0 g1 G b : Bool} {kd : IntKind} {iv : Int} (i : Nat) (ho : o.op = .indexAddr t x y)
  (he : ev SL x = some (g0, (⟨slA X.a X.c k E.esz, X.c - k⟩ : SlV).val (l.drop k).length)) (hg0 : G = true → g0 = true) (hy : ev SL y = some (g1, .int kd iv)) (hg1 : G = true → g1 = true)
  (ht : T.slc t = some e) (hz : T.siz e = some (esz, b)) (hes : E.esz = esz) (hm : RdL E X l ∈ FA) (hi : G = true → iv = (i : Int)) (hlt : G = true → k + i < l.length) :
  Quiet P T SL BL FA o G (.pointer (some (epA X.a (k + i) esz 0))) :=
 fun hT hG a w hsl hw => by
  obtain ⟨ti, d, q1, q2, q3, q4⟩ := hT.siz _ _ _ hz
  have h1 := ev_ok hsl he (hg0 hG)
  have h2 := ev_ok hsl hy (hg1 hG)
  have hlt := hlt hG
  have hi := hi hG
  obtain ⟨_, r1, _, _, h4⟩ := hw.fa _ hm
  obtain ⟨ad, ha, _⟩ := h4 (by omega)
  subst hi; subst hes
  have hu := hT.slc _ _ ht
  have hs : slA X.a X.c k E.esz = some (ad.add (k * E.esz)) := by
   unfold slA
   rw [if_neg (by omega), ha]; rfl
  have hdl : (l.drop k).length = l.length - k := List.length_drop
  rw [SlV.val, hs, hdl] at h1
  simp only [execOp, ho, h1, h2, Instr.indexAt, asIntOf, Sem.run_bind, Sem.run_pure, Result.andThen_ok, run_underlying hu]
  rw [if_pos (by omega)]
  simp [cI q1, q2, epA, ha, gk, Nat.add_mul]
theorem qq {α : Type} (E : El α) (l : List α) (k : Nat) {d t : Nat} {x y : Operand} {g0 g1 b : Bool} {kd : IntKind} {iv : Int} {e : TypeId} {X : SlV} {ob : Option Nat} {ow' : List Own} {D : List Nat} (hf : Front ops r o D r') (hg : Guard ops SL o true) (hd : o.dst = some d) (hn : Nat.blt d N = true)
  (ho : o.op = .slice t x none (some y) none) (hx : ev SL x = some (g0, X.val l.length)) (hg0 : g0 = true) (hy : ev SL y = some (g1, .int kd iv)) (hg1 : g1 = true) (ht : T.slc t = some e) (hz : T.siz e = some (E.esz, b))
  (hu : UpdO OW (ownL E e X ob l) [ownL E e X ob (l.take k)] ow') (hi : iv = (k : Int)) (hk : k ≤ l.length)
  (h : RW P T C ops r' ⟨N, (d, .v (X.val (l.take k).length)) :: SL, BL, ow', FA⟩ Q) : RW P T C ops r ⟨N, SL, BL, OW, FA⟩ Q := by
 have e1 : (l.take k).length = k := by simp; omega
 have e2 : (l.take k).flatMap E.enc = (l.flatMap E.enc).take (k * E.esz) := by
  have hs : l.flatMap E.enc = (l.take k).flatMap E.enc ++ (l.drop k).flatMap E.enc := by rw [← List.flatMap_append, List.take_append_drop]
  have hlk : ((l.take k).flatMap E.enc).length = k * E.esz := by rw [dt _ fun a _ => E.len a, e1]
  rw [hs, ← hlk, List.take_left]
 refine sf (ob := ob) (k := k) (n := l.length) (xs := l.flatMap E.enc) (by_ := E.by_) (ow' := ow') hf hg hd hn ho hx hg0 hy hg1 ht hz ?_ hi hk ?_
 ·have := hu
  unfold ownL at this
  rw [e1, e2] at this
  exact this
 ·have := h
  rw [e1] at this
  exact this
end
end Go.Proofs.YtkjccbdeaflekaaGreatDoor.Fw

namespace Go.Proofs.YtkjccbdeaflekaaGreatDoor.Fw
open Go Go.RowKit
theorem Bt {p : Prop} (h : p := by intro h; first | exact h | (simp only [h, Bool.and_true, Bool.true_and, Bool.and_self]; done) | (simp only [Bool.and_eq_true] at h; simp only [h, Bool.and_true, Bool.and_self]; done) | (clear h; simp only [Bool.true_and, Bool.and_true, Bool.or_not_self, Bool.not_or_self, Bool.not_not, Bool.or_true, Bool.true_or]; done) | (simp only [*, Bool.true_and, Bool.and_true, Bool.or_not_self, Bool.not_or_self, Bool.or_true, Bool.true_or, Bool.not_true, Bool.not_false, Bool.or_false, Bool.false_or, Bool.and_self]; done) | (simp_all; done)) : p := h
theorem Sf {p : Prop} (h : p := by (repeat (first | exact .nil _ | exact SubM.all _ | refine .cons (by repeat (first | exact .head _ | apply List.Mem.tail)) ?_ | apply SubM.skip)); done) : p := h
theorem Sm {p : Prop} (h : p := by (repeat (first | exact .nil _ | refine .cons (by repeat (first | exact .head _ | apply List.Mem.tail)) ?_)); done) : p := h
theorem Sp {p : Prop} (h : p := by (repeat (first | exact .nil _ | refine .cons (by repeat (first | exact .here _ _ | apply Pick.there)) ?_)); done) : p := h
theorem Mm {p : Prop} (h : p := by (repeat (first | exact .head _ | apply List.Mem.tail)); done) : p := h
theorem Ub {p : Prop} (h : p := by (repeat (first | exact .here _ _ _ _ _ | apply UpdB.there)); done) : p := h
theorem Uo {p : Prop} (h : p := by (repeat (first | exact .here _ _ _ | apply UpdO.there)); done) : p := h
theorem Pk {p : Prop} (h : p := by (repeat (first | exact .here _ _ | apply Pick.there)); done) : p := h
theorem wh {b c : Bool} (h : (!b) = c) : b = !c := by cases b <;> cases c <;> simp_all
theorem Kr {p : Prop} (h : p := by kernel_rfl) : p := h
section
variable {P : Program} {T : Tab} {C : Cx} {ops : Array Oper} {o : Oper} {r r' : RS} {s : St} {Q : Post} {N : Nat} {SL : Slots} {BL : List Blk} {OW : List Own} {FA : List Pred} {c : Code}
theorem Rp {d : Nat} {v : Value} {l : List Oper} (hg : o.guard = none) (hd : o.dst = some d) (hn : Nat.blt d N = true) (he : pev T SL o.op = some (true, v))
  (h : RW P T C ops (.sq l) ⟨N, (d, .v v) :: SL, BL, OW, FA⟩ Q) : RW P T C ops (.sq (o :: l)) ⟨N, SL, BL, OW, FA⟩ Q := rw_q hg hd hn (q_pev he (fun _ => rfl)) h
theorem Le4 {s' : St} {C : Cx} (hn : s.n = s'.n := by rfl) (hs : SubS s.sl s'.sl := by repeat (first | exact .nil _ | refine .cons rfl ?_)) (hb : SubP s.bl s'.bl := by repeat (first | exact .nil _ | refine .cons (by repeat (first | exact .here _ _ | apply Pick.there)) ?_)) (ho : SubP s.ow s'.ow := by repeat (first | exact .nil _ | refine .cons (by repeat (first | exact .here _ _ | apply Pick.there)) ?_)) (hf : SubM s.fa s'.fa := by repeat (first | exact .nil _ | refine .cons (by repeat (first | exact .head _ | apply List.Mem.tail)) ?_)) : Le C s s' := Le.of hn hs hb ho hf
theorem Le5 {s' : St} {C : Cx} (hn : s.n = s'.n := by rfl) (hs : SubS s.sl s'.sl := by repeat (first | exact .nil _ | refine .cons rfl ?_)) (hb : SubP s.bl s'.bl := by repeat (first | exact .nil _ | refine .cons (by repeat (first | exact .here _ _ | apply Pick.there)) ?_)) (ho : SubP s.ow s'.ow := by repeat (first | exact .nil _ | refine .cons (by repeat (first | exact .here _ _ | apply Pick.there)) ?_)) (hf : SubM s.fa s'.fa := by repeat (first | exact .nil _ | exact SubM.all _ | refine .cons (by repeat (first | exact .head _ | apply List.Mem.tail)) ?_ | apply SubM.skip)) : Le C s s' := Le.of hn hs hb ho hf
end
end Go.Proofs.YtkjccbdeaflekaaGreatDoor.Fw

namespace Go.Proofs.YtkjccbdeaflekaaGreatDoor.Fw
open Go
variable {P : Program} {T : Tab} {C : Cx} {ops : Array Oper} {Q : Post} {N : Nat} {SL : List (Nat × SV)} {BL : List Blk} {OW : List Own} {FA : List Pred} {o : Oper}
theorem ul {fp : Nat → Option (List Nat)} {fuel : Nat} {listed : Array Bool} {i d : Nat} {v : Value} (hi : ops[i]? = some o) (hg : o.guard = none) (hd : o.dst = some d) (hn : Nat.blt d N = true) (hq : Quiet P T SL BL FA o true v)
  (h : RW P T C ops (.an fp fuel (listed.setIfInBounds i true)) ⟨N, (d, .v v) :: SL, BL, OW, FA⟩ Q) : RW P T C ops (.at_ fp fuel listed i) ⟨N, SL, BL, OW, FA⟩ Q := by
 intro hT a w hrep
 have hs : u9 BL OW FA (some []) BL FA := ⟨rfl, _, fe.all _, by simp⟩
 have hk := lZ hrep.wo hs (eJ.refl _ _)
 have hG := (al (ops := ops) (SL := SL) hg) a hrep.sl
 unfold wpR wpOp
 simp only [hi]
 rw [if_pos hG]
 refine .inl ?_
 unfold Oper.wp
 rw [hq hT rfl a w hrep.sl hk, Oper.upon_value, hd]
 exact ⟨eJ.refl _ _, h hT _ _ (hrep.putv (Nat.le_of_ble_eq_true hn) (by simp [SV.ok]) hrep.wo)⟩
end Go.Proofs.YtkjccbdeaflekaaGreatDoor.Fw

namespace Go.Proofs.YtkjccbdeaflekaaGreatDoor.Fw
open Go Go.RowKit
section
variable {G α : Type}
def updG (γ : Nat → G) (i : Nat) (g : G) : Nat → G := fun j => if j = i then g else γ j
def appG (γ : Nat → G) (n : Nat) (δ : Nat → G) : Nat → G := fun j => if j < n then γ j else δ (j - n)
def dropG (γ : Nat → G) (k : Nat) : Nat → G := fun j => γ (k + j)
theorem lX {γ δ : Nat → G} : ∀ {l : List α} {k m : Nat}, (∀ i, i < l.length → γ (k + i) = δ (m + i)) → zipG γ k l = zipG δ m l
 | [], _, _, _ => rfl
 | a :: r, k, m, h => by
  rw [zipG, zipG]
  have h0 := h 0 (by simp)
  simp only [Nat.add_zero] at h0
  rw [h0, lX (k := k + 1) (m := m + 1) fun i hi => ?_]
  have := h (i + 1) (by simp; omega)
  rwa [show k + 1 + i = k + (i + 1) by omega, show m + 1 + i = m + (i + 1) by omega]
theorem r9 (γ : Nat → G) : ∀ (l m : List α) (k : Nat), zipG γ k (l ++ m) = zipG γ k l ++ zipG γ (k + l.length) m
 | [], m, k => by simp [zipG]
 | a :: r, m, k => by
  simp only [List.cons_append, zipG, List.length_cons]
  rw [r9 γ r m (k + 1), show k + 1 + r.length = k + (r.length + 1) by omega]
theorem nH (γ δ : Nat → G) (l m : List α) : zipG γ 0 l ++ zipG δ 0 m = zipG (appG γ l.length δ) 0 (l ++ m) := by
 rw [r9]
 congr 1
 ·exact lX fun i hi => by simp [appG, hi]
 ·refine lX fun i _ => ?_
  simp only [appG, Nat.zero_add]
  rw [if_neg (by omega)]; congr 1; omega
theorem lW (γ : Nat → G) : ∀ (l : List α) (n k : Nat), (zipG γ k l).take n = zipG γ k (l.take n)
 | [], n, k => by simp [zipG]
 | a :: r, 0, k => by simp [zipG]
 | a :: r, n + 1, k => by simp [zipG, lW γ r n (k + 1)]
theorem oY (γ : Nat → G) : ∀ (l : List α) (n k : Nat), (zipG γ k l).drop n = zipG γ (k + n) (l.drop n)
 | [], n, k => by simp [zipG]
 | a :: r, 0, k => by simp [zipG]
 | a :: r, n + 1, k => by
  simp only [zipG, List.drop_succ_cons]
  rw [oY γ r n (k + 1), show k + 1 + n = k + (n + 1) by omega]
theorem nG (γ : Nat → G) (l : List α) (n : Nat) : (zipG γ 0 l).drop n = zipG (dropG γ n) 0 (l.drop n) := by
 rw [oY]
 exact lX fun i _ => by simp [dropG]
theorem rZ (γ : Nat → G) (g : G) (a : α) : ∀ (l : List α) (i k : Nat), (zipG γ k l).set i (g, a) = zipG (updG γ (k + i) g) k (l.set i a)
 | [], i, k => by simp [zipG]
 | b :: r, 0, k => by
  simp only [zipG, List.set_cons_zero, Nat.add_zero, updG, if_pos]
  congr 1
  exact lX fun i _ => by simp only [updG]; rw [if_neg (by omega)]
 | b :: r, i + 1, k => by
  simp only [zipG, List.set_cons_succ]
  rw [rZ γ g a r i (k + 1), show k + 1 + i = k + (i + 1) by omega]
  congr 1
  simp only [updG]; rw [if_neg (by omega)]
end
section
variable {α : Type} [Inhabited α] (EN : En α)
abbrev ownN (e : TypeId) (X : SlV) (b : Option Nat) (γ : Nat → EN.G) (l : List α) : Own := ownL EN.E e X b (zipG γ 0 l)
theorem FactsG.upd {γ : Nat → EN.G} {l : List α} {i : Nat} {g : EN.G} {a : α} {M : Nat → Prop} {w : World} (h : FactsG EN γ l M w) (hn : AllF (EN.facts (g, a)) M w) : FactsG EN (updG γ i g) (l.set i a) M w := fun j hj => by
 rw [List.length_set] at hj
 by_cases hji : j = i
 ·subst hji
  have h2 : gt (l.set j a) j = a := by simp [gt, List.getD_eq_getElem?_getD, hj]
  rw [h2]
  simp only [updG, if_pos]; exact hn
 ·have h1 : updG γ i g j = γ j := by simp [updG, hji]
  have h2 : gt (l.set i a) j = gt l j := by simp [gt, List.getD_eq_getElem?_getD, List.getElem?_set_ne (fun h : i = j => hji h.symm)]
  rw [h1, h2]; exact h j hj
theorem FactsG.app {γ δ : Nat → EN.G} {l m : List α} {M : Nat → Prop} {w : World} (h : FactsG EN γ l M w) (h' : FactsG EN δ m M w) : FactsG EN (appG γ l.length δ) (l ++ m) M w := fun j hj => by
 rw [List.length_append] at hj
 by_cases hjl : j < l.length
 ·have h1 : appG γ l.length δ j = γ j := by simp [appG, hjl]
  have h2 : gt (l ++ m) j = gt l j := by simp [gt, List.getD_eq_getElem?_getD, List.getElem?_append_left hjl]
  rw [h1, h2]; exact h j hjl
 ·have h1 : appG γ l.length δ j = δ (j - l.length) := by simp [appG, hjl]
  have h2 : gt (l ++ m) j = gt m (j - l.length) := by simp [gt, List.getD_eq_getElem?_getD, List.getElem?_append_right (Nat.le_of_not_lt hjl)]
  rw [h1, h2]; exact h' _ (by omega)
theorem FactsG.take {γ : Nat → EN.G} {l : List α} {M : Nat → Prop} {w : World} (n : Nat) (h : FactsG EN γ l M w) : FactsG EN γ (l.take n) M w := fun j hj => by
 rw [List.length_take] at hj
 have h2 : gt (l.take n) j = gt l j := by simp [gt, List.getD_eq_getElem?_getD, List.getElem?_take, show j < n by omega]
 rw [h2]; exact h j (by omega)
theorem FactsG.drop {γ : Nat → EN.G} {l : List α} {M : Nat → Prop} {w : World} (n : Nat) (h : FactsG EN γ l M w) : FactsG EN (dropG γ n) (l.drop n) M w := fun j hj => by
 rw [List.length_drop] at hj
 have h2 : gt (l.drop n) j = gt l (n + j) := by simp [gt, List.getD_eq_getElem?_getD]
 rw [h2]; exact h _ (by omega)
theorem o3 (γ : Nat → EN.G) (l : List α) : Stab (FactsG EN γ l) := inferInstance
theorem FactsG.nil (γ : Nat → EN.G) (M : Nat → Prop) (w : World) : FactsG EN γ [] M w := fun j hj => absurd hj (by simp)
theorem FactsG.one {g : EN.G} {a : α} {M : Nat → Prop} {w : World} (h : AllF (EN.facts (g, a)) M w) : FactsG EN (fun _ => g) [a] M w := fun j hj => by
 have : j = 0 := by simp at hj; omega
 subst this
 exact h
theorem FactsG.const {g : EN.G} {l : List α} {M : Nat → Prop} {w : World} (h : ∀ a ∈ l, AllF (EN.facts (g, a)) M w) : FactsG EN (fun _ => g) l M w := fun j hj => h _ (eM hj)
theorem RdN.ofG {X : SlV} {γ : Nat → EN.G} {l : List α} {M : Nat → Prop} {w : World} (h : RdG EN X γ l M w) (hf : FactsG EN γ l M w) : RdN EN X l M w := ⟨γ, h, hf⟩
end
section
variable {P : Program} {T : Tab} {C : Cx} {ops : Array Oper} {o : Oper} {r r' : RS} {Q : Post} {N : Nat} {SL : Slots} {BL : List Blk} {OW : List Own} {FA : List Pred}
theorem tY {α : Type} [Inhabited α] (EN : En α) (γ : Nat → EN.G) (l : List α) (i o2 : Nat) (g : EN.G) (p : α) {e : TypeId} {X : SlV} {b : Option Nat} {t n : Nat} {x y : Operand} {g0 g1 bb : Bool} {v : Value} {vs : List Value} {ow' : List Own} {D : List Nat} (hf : Front ops r o D r')
  (hgD : (∃ l, r = .sq l) ∨ ∀ g, b = some g → g ∈ D) (hg : Guard ops SL o true) (hd : o.dst = none) (ho : o.op = .store t x y)
  (he : ev SL x = some (g0, .pointer (some (epA X.a i EN.E.esz o2)))) (hg0 : g0 = true) (hev : ev SL y = some (g1, v)) (hg1 : g1 = true) (hs : T.siz t = some (n, bb)) (hvc : v.cells = vs.toArray) (hvn : vs.length = n)
  (hone : vs.all (·.oneCell') = true) (hle : Nat.ble (o2 + n) EN.E.esz = true) (hlt : i < l.length) (hp : EN.E.enc (g, p) = putAt (EN.E.enc (γ i, gt l i)) o2 vs) (hu : UpdO OW (ownN EN e X b γ l) [ownN EN e X b (updG γ i g) (l.set i p)] ow')
  (h : RW P T C ops r' ⟨N, SL, BL, ow', FA⟩ Q) : RW P T C ops r ⟨N, SL, BL, OW, FA⟩ Q := by
 have hu' : UpdO OW (ownL EN.E e X b (zipG γ 0 l)) [ownL EN.E e X b ((zipG γ 0 l).set i (g, p))] ow' := by
  rw [rZ, Nat.zero_add]; exact hu
 exact wb EN.E (zipG γ 0 l) i o2 (g, p) hf hgD hg hd ho he hg0 hev hg1 hs hvc hvn hone hle (by rw [cv]; exact hlt) (by rw [rj γ hlt]; exact hp) hu' h
theorem sg {α : Type} [Inhabited α] (EN : En α) (γ : Nat → EN.G) (l : List α) (i o2 : Nat) (g0' : EN.G) (p0 : α) (g : EN.G) (p : α) {e : TypeId} {X : SlV} {b : Option Nat} {t n : Nat} {x y : Operand} {g0 g1 bb : Bool} {v : Value} {vs : List Value} {ow' : List Own} {D : List Nat} (hf : Front ops r o D r')
  (hgD : (∃ l, r = .sq l) ∨ ∀ g, b = some g → g ∈ D) (hg : Guard ops SL o true) (hd : o.dst = none) (ho : o.op = .store t x y)
  (he : ev SL x = some (g0, .pointer (some (epA X.a i EN.E.esz o2)))) (hg0 : g0 = true) (hev : ev SL y = some (g1, v)) (hg1 : g1 = true) (hs : T.siz t = some (n, bb)) (hvc : v.cells = vs.toArray) (hvn : vs.length = n)
  (hone : vs.all (·.oneCell') = true) (hle : Nat.ble (o2 + n) EN.E.esz = true) (hlt : i < l.length) (hp : EN.E.enc (g, p) = putAt (EN.E.enc (g0', p0)) o2 vs) (hu : UpdO OW (ownN EN e X b (updG γ i g0') (l.set i p0)) [ownN EN e X b (updG γ i g) (l.set i p)] ow')
  (h : RW P T C ops r' ⟨N, SL, BL, ow', FA⟩ Q) : RW P T C ops r ⟨N, SL, BL, OW, FA⟩ Q := by
 have e1 : gt (l.set i p0) i = p0 := by simp [gt, List.getD_eq_getElem?_getD, hlt]
 have e2 : updG γ i g0' i = g0' := by simp [updG]
 have e3 : updG (updG γ i g0') i g = updG γ i g := by funext j; simp only [updG]; split <;> rfl
 have e4 : (l.set i p0).set i p = l.set i p := List.set_set ..
 refine tY EN (updG γ i g0') (l.set i p0) i o2 g p hf hgD hg hd ho he hg0 hev hg1 hs hvc hvn hone hle (by rw [List.length_set]; exact hlt) (by rw [e1, e2]; exact hp) (by rw [e3, e4]; exact hu) h
theorem mI {α : Type} [Inhabited α] (EN : En α) (γ δ : Nat → EN.G) (l m : List α) {e : TypeId} {X : SlV} {b : Option Nat} {d t : Nat} {x y : Operand} {g0 g1 : Bool} {v : Value} {z : List Value} {agg : Bool} {ow' : SlV → Option Nat → List Own} {D : List Nat} (hf : Front ops r o D r') (hbD : ∀ g, b = some g → (∃ l, r = .sq l) ∨ g ∈ D) (hg : Guard ops SL o true) (hd : o.dst = some d) (hn : Nat.blt d N = true)
  (ho : o.op = .call ⟨.builtin .append, ⟨[x, y]⟩, ⟨[t, t]⟩⟩) (hx : ev SL x = some (g0, X.val l.length)) (hg0 : g0 = true) (hy : ev SL y = some (g1, v)) (hg1 : g1 = true)
  (hu : ∀ (X' : SlV) b', UpdO OW (ownN EN e X b γ l) [ownN EN e X' b' (appG γ l.length δ) (l ++ m)] (ow' X' b'))
  (ht : T.slc t = some e) (hz : T.siz e = some (EN.E.esz, agg)) (hzz : T.zer e = some z) (hzl : z.length = EN.E.esz) (hby : T.byt e = some EN.E.by_) (hpos : Nat.blt 0 EN.E.esz = true) (hbp : Nat.blt 0 EN.E.by_ = true)
  (hr : Reads ⟨N, SL, BL, OW, FA⟩ C EN.E.esz v m.length ((zipG δ 0 m).flatMap EN.E.enc)) (hb : (l.length + m.length) * EN.E.by_ ≤ 140737488355328)
  (h : ∀ (X' : SlV) (b' : Option Nat), RW P T C ops r' ⟨N, (d, .v (X'.val (l ++ m).length)) :: SL, BL, ow' X' b', FA⟩ Q) : RW P T C ops r ⟨N, SL, BL, OW, FA⟩ Q := by
 have e1 := nH γ δ l m
 refine iC EN.E (zipG γ 0 l) (zipG δ 0 m) (ow' := ow') hf hbD hg hd hn ho (by rw [cv]; exact hx) hg0 hy hg1 (fun X' b' => by rw [e1]; exact hu X' b') ht hz hzz hzl hby hpos hbp (by rw [cv]; exact hr) (by rw [cv, cv]; exact hb) fun X' b' => ?_
 rw [e1, cv]
 exact h X' b'
theorem o6 {α : Type} [Inhabited α] {EN : En α} {e : TypeId} {X : SlV} {b : Option Nat} {γ : Nat → EN.G} {l : List α} (hm : ownN EN e X b γ l ∈ OW) : Reads ⟨N, SL, BL, OW, FA⟩ C EN.E.esz (X.val l.length) l.length ((zipG γ 0 l).flatMap EN.E.enc) := by
 have := o7 (N := N) (SL := SL) (BL := BL) (FA := FA) (C := C) hm
 rwa [cv] at this
theorem uh {α : Type} [Inhabited α] {EN : En α} {X : SlV} {γ : Nat → EN.G} {l : List α} (hm : RdG EN X γ l ∈ FA) : Reads ⟨N, SL, BL, OW, FA⟩ C EN.E.esz (X.val l.length) l.length ((zipG γ 0 l).flatMap EN.E.enc) := by
 have := kP (N := N) (SL := SL) (BL := BL) (OW := OW) (C := C) hm
 rwa [cv] at this
end
end Go.Proofs.YtkjccbdeaflekaaGreatDoor.Fw

namespace Go.Proofs.YtkjccbdeaflekaaGreatDoor.Fw
open Go Go.RowKit
section
variable {P : Program} {T : Tab} {C : Cx} {ops : Array Oper} {o : Oper} {r r' : RS} {s : St} {Q : Post} {N : Nat} {SL : Slots} {BL : List Blk} {OW : List Own} {FA : List Pred}
theorem tf {D : List Nat} {d t e esz by_ n : Nat} {b g0 g1 : Bool} {x y : Operand} {z cs : List Value} (hf : Front ops r o D r') (hg : Guard ops SL o true) (hd : o.dst = some d) (hn : Nat.blt d N = true) (ho : o.op = .makeSlice t x y)
  (hx : ev SL x = some (g0, .int .i64 (n : Int))) (hg0 : g0 = true) (hy : ev SL y = some (g1, .int .i64 (n : Int))) (hg1 : g1 = true)
  (ht : T.slc t = some e) (hz : T.siz e = some (esz, b)) (hzz : T.zer e = some z) (hzl : z.length = esz) (hby : T.byt e = some by_) (hnb : Nat.ble (n * by_) 140737488355328 = true) (hpos : Nat.blt 0 esz = true) (hcs : gN z (n * esz) = cs) (hsm : Nat.ble (n * esz) 16777216 = true)
  (h : ∀ (X : SlV) (b' : Option Nat), RW P T C ops r' ⟨N, (d, .v (X.val n)) :: SL, BL, ⟨X.val n, b', e, esz, by_, n, cs⟩ :: OW, FA⟩ Q) : RW P T C ops r ⟨N, SL, BL, OW, FA⟩ Q :=
 qp hf hg hd hn (K := fun u bl ow fa => ∃ (X : SlV) (b' : Option Nat), u = X.val n ∧ bl = BL ∧ ow = ⟨X.val n, b', e, esz, by_, n, cs⟩ :: OW ∧ fa = FA)
  (fun hT a w hrep => by
   obtain ⟨ti, dd, q1, q2, q3, q4⟩ := hT.siz _ _ _ hz
   obtain ⟨ti', zv, p1, p2, p3⟩ := hT.zer _ _ hzz
   obtain ⟨ti2, r1, r2⟩ := hT.byt _ _ hby
   have hsm := Nat.le_of_ble_eq_true hsm
   have hnb := Nat.le_of_ble_eq_true hnb
   have hpos : 0 < esz := Nat.le_of_ble_eq_true hpos
   have hns : n ≤ n * esz := Nat.le_mul_of_pos_right _ hpos
   have hcl : cs.length = n * esz := by rw [← hcs]; simp [gN]
   refine ⟨.slice (some ⟨w.heap.size, 0, none⟩) n n, _, BL, _, FA, ?_, hrep.wo.allocO e esz by_ n cs hcl (by omega) hnb, lr _ _ _, ⟨some ⟨w.heap.size, 0, none⟩, n⟩, some w.heap.size, rfl, rfl, rfl, rfl⟩
   have h1 := ev_ok hrep.sl hx hg0
   have h2 := ev_ok hrep.sl hy hg1
   have hw := pq (n : Int) (by omega)
   have e1 : ti.bytes = by_ := by rw [q1] at r1; cases r1; exact r2
   have e2 : ¬ ((by_ : Int) * (n : Int) > 2 ^ 48) := by
    have : ((n * by_ : Nat) : Int) ≤ 140737488355328 := by omega
    rw [Int.natCast_mul, Int.mul_comm] at this; omega
   have e3 : ¬ n * by_ > roomBytes := by
    show ¬ n * by_ > 2 ^ 47
    omega
   simp only [execOp, ho, Instr.makeSlice, h1, h2, Sem.run_bind, run_underlying (hT.slc _ _ ht), Result.andThen_ok, asInt, asIntOf, Sem.run_pure, jY q1, hw, e1]
   rw [if_neg (by
    simp only [Bool.or_eq_true, decide_eq_true_eq, not_or]
    exact ⟨⟨⟨by omega, e2⟩, by omega⟩, by omega⟩)]
   simp only [Int.toNat_natCast, askRoom, if_neg e3, Sem.run_bind, Sem.run_pure, Result.andThen_ok, cI q1, q2]
   have hz2 : (Array.range (n * esz)).map (fun x => zv.cells[x % zv.cells.size]!) = cs.toArray := by
    apply Array.ext'
    rw [← hcs]
    simp only [Array.toList_map, Array.toList_range, gN]
    refine List.map_congr_left fun i hi => ?_
    have hzs : zv.cells.size = z.length := by rw [← p3]; simp
    have hlt : i % z.length < z.length := Nat.mod_lt _ (by omega)
    rw [hzs, getElem!_pos zv.cells (i % z.length) (by omega)]
    have hlt' : i % z.length < zv.cells.size := by omega
    have hg : zv.cells.toList[i % z.length]? = some (zv.cells[i % z.length]'hlt') := by
     rw [Array.getElem?_toList]
     exact Array.getElem?_eq_getElem hlt'
    rw [p3] at hg
    rw [hg]
    rfl
   by_cases h0 : n * esz = 0
   ·rw [if_pos h0]
    have hc0 : cs = [] := List.length_eq_zero_iff.1 (by omega)
    subst hc0
    simp [h0, newRow]
    rw [show (Array.range 0) = #[] from rfl, Array.map_empty]
   ·rw [if_neg h0]
    simp only [Sem.run_bind, iM p1 p2, Result.andThen_ok, Sem.run_pure, hz2]
    simp [newRow])
  (fun u bl ow fa ⟨X, b', e1, e2, e3, e4⟩ => by subst e1; subst e2; subst e3; subst e4; exact h X b')
theorem lP {α : Type} (E : El α) (l : List α) {D : List Nat} {d t e n : Nat} {b g0 g1 : Bool} {x y : Operand} {z : List Value} (hf : Front ops r o D r') (hg : Guard ops SL o true) (hd : o.dst = some d) (hn : Nat.blt d N = true) (ho : o.op = .makeSlice t x y)
  (hx : ev SL x = some (g0, .int .i64 (n : Int))) (hg0 : g0 = true) (hy : ev SL y = some (g1, .int .i64 (n : Int))) (hg1 : g1 = true) (hnl : n = l.length)
  (ht : T.slc t = some e) (hz : T.siz e = some (E.esz, b)) (hzz : T.zer e = some z) (hzl : z.length = E.esz) (hby : T.byt e = some E.by_) (hnb : Nat.ble (n * E.by_) 140737488355328 = true) (hpos : Nat.blt 0 E.esz = true) (hcs : gN z (n * E.esz) = l.flatMap E.enc) (hsm : Nat.ble (n * E.esz) 16777216 = true)
  (h : ∀ (X : SlV) (b' : Option Nat), RW P T C ops r' ⟨N, (d, .v (X.val l.length)) :: SL, BL, ownL E e X b' l :: OW, FA⟩ Q) : RW P T C ops r ⟨N, SL, BL, OW, FA⟩ Q := by
 subst hnl
 exact tf hf hg hd hn ho hx hg0 hy hg1 ht hz hzz hzl hby hnb hpos hcs hsm h
end
theorem nU : ∀ (l cs : List Value) (n : Nat), cs.length = n + l.length → putAt cs n l = cs.take n ++ l
 | [], cs, n, h => by simp only [putAt, List.append_nil]; rw [List.take_of_length_le (by simp at h; omega)]
 | v :: l, cs, n, h => by
  rw [putAt, nU l _ (n + 1) (by simp at h ⊢; omega)]
  have hn : n < cs.length := by simp at h; omega
  rw [List.take_set, List.take_succ_eq_append_getElem hn, List.set_append_right _ _ (by simp; omega)]
  simp [Nat.min_eq_left (Nat.le_of_lt hn)]
theorem mo {k : Nat} {z : List Value} {v : Value} {l : List Value} (hv : v.cells.toList = l) (hl : l.length = k) : fillL ((List.range 1).map fun i => (i * k, k)) (gN z (1 * k)) [(0, v)] = some l := by
 subst hl
 have h0 : (gN z (1 * l.length)).length = 0 + l.length := by simp [gN]
 simp only [fillL, List.range_one, List.map_cons, List.map_nil, List.getElem?_cons_zero, hv, Nat.beq_refl]
 have h1 : Nat.ble (0 * l.length + l.length) (gN z (1 * l.length)).length = true := by rw [h0]; simp
 rw [h1]
 simp only
 rw [show 0 * l.length = 0 by simp, nU _ _ _ h0]; simp
def mkparts : Nat → List Value → List (Nat × Value)
 | _, [] => []
 | i, v :: r => (i, v) :: mkparts (i + 1) r
theorem qA : ∀ (vs cs : List Value) (n : Nat), (putAt cs n vs).length = cs.length
 | [], _, _ => rfl
 | v :: vs, cs, n => by rw [putAt, qA vs]; simp
theorem nV : ∀ (vs cs : List Value) (n : Nat), n + vs.length ≤ cs.length → (putAt cs n vs).take (n + vs.length) = cs.take n ++ vs
 | [], cs, n, _ => by simp [putAt]
 | v :: vs, cs, n, h => by
  simp only [List.length_cons] at h
  have h1 := nV vs (cs.set n v) (n + 1) (by simp; omega)
  rw [putAt, List.length_cons, show n + (vs.length + 1) = n + 1 + vs.length by omega, h1]
  have hn : n < cs.length := by omega
  rw [List.take_set, List.take_succ_eq_append_getElem hn, List.set_append_right _ _ (by simp; omega)]
  simp [Nat.min_eq_left (Nat.le_of_lt hn)]
theorem qV {k n : Nat} : ∀ (vs : List Value) (i : Nat) (cs : List Value), cs.length = n * k → i + vs.length = n → (∀ v ∈ vs, v.cells.toList.length = k) → fillL ((List.range n).map fun i => (i * k, k)) cs (mkparts i vs) = some (cs.take (i * k) ++ vs.flatMap (fun v => v.cells.toList))
 | [], i, cs, hc, hi, _ => by
  have : cs.length ≤ i * k := by rw [hc, ← hi]; simp
  simp [mkparts, fillL, List.take_of_length_le this]
 | v :: vs, i, cs, hc, hi, hv => by
  simp only [List.length_cons] at hi
  have hvk := hv v (.head _)
  have hle : i * k + k ≤ cs.length := by rw [hc, ← Nat.succ_mul]; exact Nat.mul_le_mul_right k (by omega)
  have hg : ((List.range n).map fun i => (i * k, k))[i]? = some (i * k, k) := by simp [show i < n by omega]
  rw [mkparts, fillL, hg]
  simp only [hvk, Nat.beq_refl]
  have hb : Nat.ble (i * k + k) cs.length = true := Nat.ble_eq_true_of_le hle
  rw [hb]
  simp only
  rw [qV vs (i + 1) _ (by rw [qA]; exact hc) (by omega) fun w hw => hv w (.tail _ hw)]
  have h2 := nV v.cells.toList cs (i * k) (by omega)
  rw [hvk] at h2
  rw [Nat.succ_mul, h2, List.flatMap_cons, List.append_assoc]
theorem tB {k n : Nat} {z l : List Value} {ps : List (Nat × Value)} (vs : List Value) (hp : ps = mkparts 0 vs) (hv : ∀ v ∈ vs, v.cells.toList.length = k) (hn : vs.length = n) (hl : vs.flatMap (fun v => v.cells.toList) = l) : fillL ((List.range n).map fun i => (i * k, k)) (gN z (n * k)) ps = some l := by
 subst hp hl
 rw [qV vs 0 _ (by simp [gN]) (by omega) hv]; simp
end Go.Proofs.YtkjccbdeaflekaaGreatDoor.Fw

namespace Go.Proofs.YtkjccbdeaflekaaGreatDoor.Fw
open Go Go.RowKit
section
variable {P : Program} {T : Tab} {C : Cx} {ops : Array Oper} {o : Oper} {r r' : RS} {s : St} {Q : Post} {N : Nat} {SL : Slots} {BL : List Blk} {OW : List Own} {FA : List Pred} {c : Code}
theorem pM {α : Type} {E : El α} {e : TypeId} {X : SlV} {b : Option Nat} {l : List α} {w : World} (h : OwnOk C w (ownL E e X b l)) : l.length ≤ X.c ∧ X.c ≤ 9223372036854775807 := by
 obtain ⟨h1, h2, h3⟩ := h
 cases b with
 | none =>
  obtain ⟨h0, A, hA⟩ := h3
  simp only [SlV.val, Value.slice.injEq] at hA
  simp only at h0
  omega
 | some g =>
  obtain ⟨_, cap, cur, hv, _, hnc, hcap, _⟩ := h3
  simp only [SlV.val, Value.slice.injEq, true_and] at hv
  simp only at hnc
  omega
theorem xl {α : Type} (E : El α) {e : TypeId} {X : SlV} {b : Option Nat} {l : List α} (hm : ownL E e X b l ∈ OW) (h : l.length ≤ X.c ∧ X.c ≤ 9223372036854775807 → CW P T C c ⟨N, SL, BL, OW, FA⟩ Q) : CW P T C c ⟨N, SL, BL, OW, FA⟩ Q := fun hT a w hr =>
 h (pM (hr.wo.ow _ hm)) hT a w hr
theorem qr {α : Type} (E : El α) (l : List α) (i j : Nat) {e : TypeId} {X : SlV} {b : Option Nat} {d t : Nat} {x y : Operand} {g0 g1 : Bool} {agg : Bool} {ow' : List Own} {D : List Nat} (hf : Front ops r o D r')
  (hgD : (∃ l, r = .sq l) ∨ ∀ g, b = some g → g ∈ D) (hg : Guard ops SL o true) (hd : o.dst = some d) (hn : Nat.blt d N = true)
  (ho : o.op = .call ⟨.builtin .append, ⟨[x, y]⟩, ⟨[t, t]⟩⟩) (hx : ev SL x = some (g0, X.val (l.take i).length)) (hg0 : g0 = true) (hy : ev SL y = some (g1, (⟨slA X.a X.c j E.esz, X.c - j⟩ : SlV).val (l.drop j).length)) (hg1 : g1 = true)
  (ht : T.slc t = some e) (hz : T.siz e = some (E.esz, agg)) (hij : i ≤ j) (hj : j ≤ l.length)
  (hu : UpdO OW (ownL E e X b l) [ownL E e X b (l.take i ++ l.drop j)] ow')
  (h : RW P T C ops r' ⟨N, (d, .v (X.val (l.take i ++ l.drop j).length)) :: SL, BL, ow', FA⟩ Q) : RW P T C ops r ⟨N, SL, BL, OW, FA⟩ Q := by
 have key : Loud P T C ⟨N, SL, BL, OW, FA⟩ o b.toList (fun s' => s' = ⟨N, (d, .v (X.val (l.take i ++ l.drop j).length)) :: SL, BL, ow', FA⟩) := by
  intro hT a w hrep
  refine Oper.wp_mono ?_ (mb (D := b.toList) hd hn (K := fun u bl ow fa => u = X.val (l.take i ++ l.drop j).length ∧ bl = BL ∧ ow = ow' ∧ fa = FA) ?_ hT a w hrep)
  ·rintro a' w' ⟨s', ⟨u, bl, ow, fa, ⟨e1, e2, e3, e4⟩, e5⟩, h2, h3⟩
   subst e1; subst e2; subst e3; subst e4
   exact ⟨s', e5, h2, h3⟩
  ·intro hT a w hrep
   obtain ⟨ll, rr, e1, e2⟩ := hu.spec
   have e2 : ow' = ll ++ (ownL E e X b (l.take i ++ l.drop j) :: rr) := by rw [e2]; rfl
   have hq := hrep.wo.ow (ownL E e X b l) (by rw [e1]; simp)
   have hcap0 := pM hq
   obtain ⟨h1, h2, h3⟩ := hq
   simp only at h1 h2 h3
   have hu' := hT.slc _ _ ht
   obtain ⟨ti, d', q1, q2, q3, q4⟩ := hT.siz _ _ _ hz
   have hti : (l.take i).length = i := by simp; omega
   have hdj : (l.drop j).length = l.length - j := by simp
   have hlen : (l.take i ++ l.drop j).length = i + (l.length - j) := by rw [List.length_append, hti, hdj]
   have hfl : ((l.take i).flatMap E.enc).length = i * E.esz := by rw [dt _ fun a _ => E.len a, hti]
   have hfd : ((l.drop j).flatMap E.enc).length = (l.length - j) * E.esz := by rw [dt _ fun a _ => E.len a, hdj]
   have hft : (l.take i).flatMap E.enc = (l.flatMap E.enc).take (i * E.esz) := by
    have hs : l.flatMap E.enc = (l.take i).flatMap E.enc ++ (l.drop i).flatMap E.enc := by rw [← List.flatMap_append, List.take_append_drop]
    rw [hs, ← hfl, List.take_left]
   have hfdr : (l.drop j).flatMap E.enc = (l.flatMap E.enc).drop (j * E.esz) := by
    have hs : l.flatMap E.enc = (l.take j).flatMap E.enc ++ (l.drop j).flatMap E.enc := by rw [← List.flatMap_append, List.take_append_drop]
    have hl2 : ((l.take j).flatMap E.enc).length = j * E.esz := by rw [dt _ fun a _ => E.len a]; simp [Nat.min_eq_left hj]
    rw [hs, ← hl2, List.drop_left]
   have hnb : (i + (l.length - j)) * E.by_ ≤ l.length * E.by_ := Nat.mul_le_mul_right _ (by omega)
   have hrun0 : ∀ {u w'}, (Builtin.append_ #[t, t] o.type #[X.val (l.take i).length, (⟨slA X.a X.c j E.esz, X.c - j⟩ : SlV).val (l.drop j).length]).run P w = .ok u w' → (execOp a.eval o).run P w = .ok (.value u) w' := fun hr => by
    simp only [execOp, ho, resolve, invoke, builtin, Sem.run_bind, Sem.run_pure, Result.andThen_ok, List.map_toArray, List.map_cons, List.map_nil, ev_ok hrep.sl hx hg0, ev_ok hrep.sl hy hg1, hr]
   cases b with
   | none =>
    obtain ⟨h0, A, hA⟩ := h3
    have hl0 : l = [] := List.length_eq_zero_iff.1 h0
    subst hl0
    have hi0 : i = 0 := by simp at hj; omega
    have hj0 : j = 0 := by simpa using hj
    subst hi0; subst hj0
    refine ⟨X.val 0, w, BL, ow', FA, hrun0 ?_, ?_, Keeps.refl _ _, rfl, rfl, rfl, rfl⟩
    ·simp only [SlV.val]
     exact iw hu' q1 w (Nat.zero_le _)
    ·have e3 : ow' = OW := by rw [e2, e1]; rfl
     rw [e3]; exact hrep.wo
   | some g =>
    obtain ⟨hmine, cap, cur, hv, hh, hnc, hcap, hcs, htake⟩ := h3
    simp only [SlV.val, Value.slice.injEq, true_and] at hv
    have hsz : cur.toList.length = cap * E.esz := by rw [Array.length_toList]; exact hcs
    have hcc : l.length * E.esz ≤ cap * E.esz := Nat.mul_le_mul_right _ hnc
    have hie : i * E.esz ≤ l.length * E.esz := Nat.mul_le_mul_right _ (by omega)
    have hje : j * E.esz ≤ l.length * E.esz := Nat.mul_le_mul_right _ hj
    have hadd : i * E.esz + (l.length - j) * E.esz = (i + (l.length - j)) * E.esz := (Nat.add_mul _ _ _).symm
    have hadd2 : j * E.esz + (l.length - j) * E.esz = l.length * E.esz := by rw [← Nat.add_mul]; congr 1; omega
    have hadd3 : (i + (l.length - j)) * E.esz ≤ l.length * E.esz := Nat.mul_le_mul_right _ (by omega)
    have hrep2 := mJ (q := ownL E e X (some g) l) (g := g) (cur := cur) rfl (by rw [e1] at hrep; exact hrep) hmine hh
    have hct : cur.toList.take (i * E.esz) = (l.take i).flatMap E.enc := by
     rw [hft, ← htake, List.take_take, Nat.min_eq_left hie]
    have hok : ∀ cs : List Value, cs.length = cap * E.esz → cs.take ((i + (l.length - j)) * E.esz) = (l.take i ++ l.drop j).flatMap E.enc → ∀ w' : World, w'.heap[g]? = some (.cells cs.toArray e (0, 0)) → C.mine g → OwnOk C w' (ownL E e X (some g) (l.take i ++ l.drop j)) := fun cs hc1 hc2 w' hh' hm' => by
     refine ⟨(by show ((l.take i ++ l.drop j).flatMap E.enc).length = (l.take i ++ l.drop j).length * E.esz; rw [dt _ fun a _ => E.len a]), ⟨(by show (l.take i ++ l.drop j).length ≤ _; rw [hlen]; omega), (by show (l.take i ++ l.drop j).length * E.by_ ≤ _; rw [hlen]; omega)⟩, hm', cap, _, ?_, hh', (by show (l.take i ++ l.drop j).length ≤ cap; rw [hlen]; omega), hcap, ?_, ?_⟩
     ·simp only [SlV.val, Value.slice.injEq, true_and]; exact hv
     ·simpa using hc1
     ·show List.take ((l.take i ++ l.drop j).length * E.esz) _ = _
      rw [hlen]; exact hc2
    by_cases hm0 : l.length = j
    ·refine ⟨X.val (l.take i ++ l.drop j).length, w, BL, ow', FA, hrun0 ?_, ?_, Keeps.refl _ _, rfl, rfl, rfl, rfl⟩
     ·have : (l.drop j).length = 0 := by rw [hdj]; omega
      have h6 : (l.take i ++ l.drop j).length = (l.take i).length := by rw [List.length_append, this]; rfl
      rw [h6, this]
      simp only [SlV.val]
      exact iw hu' q1 w (by rw [hti]; omega)
     ·rw [e2]
      refine (md (q := ownL E e X (some g) (l.take i ++ l.drop j)) (g := g) (cs := cur.toList) rfl (hok _ hsz ?_) _ _ hrep2).wo
      have : l.drop j = [] := List.drop_of_length_le (by omega)
      rw [this, List.append_nil, ← hct]
      congr 1
      rw [show l.length - j = 0 by omega]; rfl
    ·obtain ⟨w', hr, hS⟩ := fX (P := P) ((l.drop j).flatMap E.enc) w cur.toList 0 (i * E.esz) (hrep2.wo.bl _ (.head _)).1 (by rw [hfd, hsz]; omega) (fun v hv => by
      obtain ⟨a, _, ha⟩ := List.mem_flatMap.1 hv
      exact E.one a v ha)
     have hsl : slA X.a X.c j E.esz = some ⟨g, j * E.esz, none⟩ := by
      rw [hv.1, hv.2]
      unfold slA
      have : ¬ cap = j := by omega
      simp [this, Addr.add_lit]
      try omega
     have hcell : ∀ k v, ((l.drop j).flatMap E.enc)[k]? = some v → w.cell? ((⟨g, j * E.esz, none⟩ : Addr).add k) = some v := fun k v hk => by
      have hk1 : k < (l.length - j) * E.esz := by
       obtain ⟨hlt, _⟩ := List.getElem?_eq_some_iff.1 hk
       rw [hfd] at hlt; exact hlt
      rw [gM, jh (hrep2.wo.bl _ (.head _)).1]
      rw [hfdr, List.getElem?_drop, ← htake, List.getElem?_take] at hk
      split at hk
      ·exact hk
      ·cases hk
     have hfc : (Builtin.firstCells E.esz (l.length - j) (.slice (some ⟨g, j * E.esz, none⟩) (l.length - j) (X.c - j))).run P w = .ok ((l.drop j).flatMap E.enc).toArray w := by
      simp only [Builtin.firstCells]
      exact l8 hfd hcell
     have hroom : i + (l.length - j) ≤ X.c := by omega
     have huniq : ∀ t'', (⟨g, t'', cur.toList⟩ : Blk) ∈ (⟨g, e, cur.toList⟩ :: BL : List Blk) → t'' = e := by
      intro t'' hm''
      have h1 := (hrep2.wo.bl _ hm'').1
      have h2 := (hrep2.wo.bl _ (.head _)).1
      simp only at h1 h2
      rw [h1] at h2
      simp at h2
      exact h2
     have hwo := hrep2.wo.store (t := e) (UpdB.here _ _ _ _ _) huniq hS
     refine ⟨X.val (l.take i ++ l.drop j).length, w', BL, ow', FA, hrun0 ?_, ?_, ⟨by rw [hS.size]; exact Nat.le_refl _, fun k' _ hk' => hS.far k' fun e' => hk' (by simp [e'])⟩, rfl, rfl, rfl, rfl⟩
     ·rw [hlen, hti, hdj]
      simp only [SlV.val, hsl]
      rw [hv.1]
      simp [Builtin.append_, run_underlying hu', sizeOf, typeInfo, q1, q2, Builtin.lenOf, hroom, hfc, Addr.add_lit, hr]
     ·rw [e2]
      refine (md (q := ownL E e X (some g) (l.take i ++ l.drop j)) (g := g) (cs := putAt cur.toList (i * E.esz + 0) ((l.drop j).flatMap E.enc)) rfl (hok _ (by rw [jb]; exact hsz) ?_) a w' ⟨hrep.sz, hrep.df, hrep.sl, hwo⟩).wo
      rw [Nat.add_zero, ← hadd, ← hfd, nV _ _ _ (by rw [hfd, hsz]; omega), hct, List.flatMap_append]
 have h' : ∀ s', s' = (⟨N, (d, .v (X.val (l.take i ++ l.drop j).length)) :: SL, BL, ow', FA⟩ : St) → RW P T C ops r' s' Q := fun s' e => by subst e; exact h
 cases hf with
 | sq => exact m4 hg key h'
 | lo _ hi hDD => exact rw_l (.lo b.toList hi hDD) hg key h'
 | an hi hDD =>
  refine rw_l (.an hi hDD) hg (fun hT a w hrep => Oper.wp_mono (fun a' w' ⟨s', h1, h2, h3⟩ => ⟨s', h1, h2, h3.mono fun k hk => ?_⟩) (key hT a w hrep)) h'
  rcases hgD with ⟨_, e⟩ | e
  ·cases e
  ·exact e k (by simpa using hk)
theorem t6 {α : Type} (E : El α) (l : List α) (h : Nat) {e : TypeId} {X : SlV} {b : Option Nat} {t : Nat} {x : Operand} {g0 agg : Bool} {z : List Value} {D : List Nat} (hf : Front ops r o D r')
  (hgD : (∃ l, r = .sq l) ∨ ∀ g, b = some g → g ∈ D) (hg : Guard ops SL o true) (hd : o.dst = none) (ho : o.op = .call ⟨.builtin .clear, ⟨[x]⟩, ⟨[t]⟩⟩)
  (he : ev SL x = some (g0, .slice (slA X.a X.c l.length E.esz) (h - l.length) (X.c - l.length))) (hg0 : g0 = true) (ht : T.slc t = some e) (hz : T.siz e = some (E.esz, agg)) (hzz : T.zer e = some z) (hzl : z.length = E.esz) (hz1 : z.all (·.oneCell') = true) (hpos : Nat.blt 0 E.esz = true)
  (hlh : l.length ≤ h) (hhc : h ≤ X.c) (hm : ownL E e X b l ∈ OW)
  (hk : RW P T C ops r' ⟨N, SL, BL, OW, FA⟩ Q) : RW P T C ops r ⟨N, SL, BL, OW, FA⟩ Q := by
 have key : Loud P T C ⟨N, SL, BL, OW, FA⟩ o b.toList (fun s' => s' = ⟨N, SL, BL, OW, FA⟩) := by
  intro hT a w hrep
  have hpos := Nat.le_of_ble_eq_true hpos
  obtain ⟨ll, rr, e1⟩ := List.append_of_mem hm
  have hq := hrep.wo.ow (ownL E e X b l) hm
  have hcap0 := pM hq
  obtain ⟨h1, h2, h3⟩ := hq
  simp only at h1 h2 h3
  have hu' := hT.slc _ _ ht
  obtain ⟨tt, d', q1, q2, q3, q4⟩ := hT.siz _ _ _ hz
  obtain ⟨ti'', zv, hi'', hz'', hzc⟩ := hT.zer _ _ hzz
  rw [q1] at hi''
  cases hi''
  by_cases hz0 : h - l.length = 0
  ·have hrun : (execOp a.eval o).run P w = .ok (.value (.tuple #[])) w := by
    simp only [execOp, ho, resolve, invoke, builtin, Sem.run_bind, Sem.run_pure, Result.andThen_ok, List.map_toArray, List.map_cons, List.map_nil, ev_ok hrep.sl he hg0, hz0]
    simp only [Builtin.clear_, List.getElem?_toArray, List.getElem?_cons_zero, run_underlying hu', Sem.run_bind, Result.andThen_ok]
    cases slA X.a X.c l.length E.esz <;> simp
   unfold Oper.wp
   rw [hrun, Oper.upon_value, hd]
   exact ⟨_, rfl, ⟨hrep.sz, hrep.df, hrep.sl, hrep.wo⟩, Keeps.refl _ _⟩
  ·cases b with
   | none =>
    obtain ⟨h0, A, hA⟩ := h3
    simp only [SlV.val, Value.slice.injEq] at hA
    omega
   | some g =>
    obtain ⟨hmine, cap, cur, hv, hh, hnc, hcap, hcs, htake⟩ := h3
    simp only [SlV.val, Value.slice.injEq, true_and] at hv
    have hsz : cur.toList.length = cap * E.esz := by rw [Array.length_toList]; exact hcs
    have hhe : h * E.esz ≤ cap * E.esz := Nat.mul_le_mul_right _ (by omega)
    have hzs : zv.cells.size = E.esz := by rw [← hzl, ← hzc]; simp
    have hzz1 : (Builtin.zeroCells zv.cells (h - l.length)).toList.all (·.oneCell') = true := lY (by rw [← hzc] at hz1; exact hz1) (by omega) _
    have hzlen : (Builtin.zeroCells zv.cells (h - l.length)).toList.length = (h - l.length) * E.esz := by rw [Array.length_toList, size_zeroCells, hzs]
    have hadd : l.length * E.esz + (h - l.length) * E.esz = h * E.esz := by rw [← Nat.add_mul]; congr 1; omega
    have hrep2 := mJ (q := ownL E e X (some g) l) (g := g) (cur := cur) rfl (by rw [e1] at hrep; exact hrep) hmine hh
    obtain ⟨w', hr, hS⟩ := fX (P := P) (Builtin.zeroCells zv.cells (h - l.length)).toList w cur.toList 0 (l.length * E.esz) (hrep2.wo.bl _ (.head _)).1 (by rw [hzlen, hsz]; omega) (fun v hv => List.all_eq_true.1 hzz1 v hv)
    have hsl : slA X.a X.c l.length E.esz = some ⟨g, l.length * E.esz, none⟩ := by
     rw [hv.1, hv.2]
     unfold slA
     have : ¬ cap = l.length := by omega
     simp [this, Addr.add_lit]
     try omega
    have hrun : (execOp a.eval o).run P w = .ok (.value (.tuple #[])) w' := by
     simp only [execOp, ho, resolve, invoke, builtin, Sem.run_bind, Sem.run_pure, Result.andThen_ok, List.map_toArray, List.map_cons, List.map_nil, ev_ok hrep.sl he hg0, hsl]
     obtain ⟨m, hm'⟩ : ∃ m, h - l.length = m + 1 := ⟨h - l.length - 1, by omega⟩
     rw [hm'] at hr ⊢
     simp only [Builtin.clear_, List.getElem?_toArray, List.getElem?_cons_zero, run_underlying hu', Sem.run_bind, Result.andThen_ok, iM q1 hz'', hr, Sem.run_pure]
    unfold Oper.wp
    rw [hrun, Oper.upon_value, hd]
    have huniq : ∀ t'', (⟨g, t'', cur.toList⟩ : Blk) ∈ (⟨g, e, cur.toList⟩ :: BL : List Blk) → t'' = e := by
     intro t'' hm''
     have h1 := (hrep2.wo.bl _ hm'').1
     have h2 := (hrep2.wo.bl _ (.head _)).1
     simp only at h1 h2
     rw [h1] at h2
     simp at h2
     exact h2
    have hwo := hrep2.wo.store (t := e) (UpdB.here _ _ _ _ _) huniq hS
    refine ⟨_, rfl, ?_, by rw [hS.size]; exact Nat.le_refl _, fun k' _ hk' => hS.far k' fun e' => hk' (by simp [e'])⟩
    rw [e1]
    refine md (q := ownL E e X (some g) l) (g := g) rfl (fun w'' hh'' hmine'' => ?_) _ _ ⟨hrep.sz, hrep.df, hrep.sl, hwo⟩
    refine ⟨h1, h2, hmine'', cap, _, ?_, hh'', hnc, hcap, ?_, ?_⟩
    ·simp only [SlV.val, Value.slice.injEq, true_and]; exact hv
    ·simp only [List.size_toArray]; rw [jb]; exact hsz
    ·show List.take (l.length * E.esz) _ = l.flatMap E.enc
     rw [Nat.add_zero, o9]
     exact htake
 have h' : ∀ s', s' = (⟨N, SL, BL, OW, FA⟩ : St) → RW P T C ops r' s' Q := fun s' e => by subst e; exact hk
 cases hf with
 | sq => exact m4 hg key h'
 | lo _ hi hDD => exact rw_l (.lo b.toList hi hDD) hg key h'
 | an hi hDD =>
  refine rw_l (.an hi hDD) hg (fun hT a w hrep => Oper.wp_mono (fun a' w' ⟨s', h1, h2, h3⟩ => ⟨s', h1, h2, h3.mono fun k hk => ?_⟩) (key hT a w hrep)) h'
  rcases hgD with ⟨_, e⟩ | e
  ·cases e
  ·exact e k (by simpa using hk)
end
section
variable {G α : Type}
theorem vl (γ : Nat → G) (l : List α) (i j : Nat) (hi : i ≤ l.length) : (zipG γ 0 l).take i ++ (zipG γ 0 l).drop j = zipG (appG γ i (dropG γ j)) 0 (l.take i ++ l.drop j) := by
 rw [lW, nG, nH]
 congr 2
 simp [Nat.min_eq_left hi]
end
section
variable {α : Type} [Inhabited α] (EN : En α)
theorem FactsG.del {γ : Nat → EN.G} {l : List α} {M : Nat → Prop} {w : World} (i j : Nat) (hi : i ≤ l.length) (h : FactsG EN γ l M w) : FactsG EN (appG γ i (dropG γ j)) (l.take i ++ l.drop j) M w := by
 have h1 := FactsG.app EN (FactsG.take EN i h) (FactsG.drop EN j h)
 have e : (l.take i).length = i := by simp [Nat.min_eq_left hi]
 rwa [e] at h1
end
end Go.Proofs.YtkjccbdeaflekaaGreatDoor.Fw
namespace Go.Proofs.YtkjccbdeaflekaaGreatDoor.Fw
open Go Go.RowKit
section
variable {P : Program} {T : Tab} {C : Cx} {ops : Array Oper} {o : Oper} {r r' : RS} {s : St} {Q : Post} {N : Nat} {SL : Slots} {BL : List Blk} {OW : List Own} {FA : List Pred} {c : Code}
theorem q_sl3 {t e n c k0 h m esz : Nat} {x y y' y2 : Operand} {g0 g1 g2 g3 G b : Bool} {A : Option Addr} {k k' k2 : IntKind} {iv iv' iv2 : Int} (ho : o.op = .slice t x (some y) (some y') (some y2)) (he : ev SL x = some (g0, .slice A n c)) (hg0 : G = true → g0 = true)
  (hy : ev SL y = some (g1, .int k iv)) (hg1 : G = true → g1 = true) (hy' : ev SL y' = some (g2, .int k' iv')) (hg2 : G = true → g2 = true) (hy2 : ev SL y2 = some (g3, .int k2 iv2)) (hg3 : G = true → g3 = true) (ht : T.slc t = some e) (hz : T.siz e = some (esz, b)) (hi : G = true → iv = (k0 : Int)) (hi' : G = true → iv' = (h : Int)) (hi2 : G = true → iv2 = (m : Int)) (hle : G = true → k0 ≤ h) (hlm : G = true → h ≤ m) (hmc : G = true → m ≤ c) :
  Quiet P T SL BL FA o G (.slice (slA A m k0 esz) (h - k0) (m - k0)) :=
 fun hT hG a w hsl _ => by
  have hx := ev_ok hsl he (hg0 hG)
  have hy := ev_ok hsl hy (hg1 hG)
  have hy' := ev_ok hsl hy' (hg2 hG)
  have hy2 := ev_ok hsl hy2 (hg3 hG)
  have hu := hT.slc _ _ ht
  obtain ⟨ti, d, q1, q2, q3, q4⟩ := hT.siz _ _ _ hz
  have hi := hi hG
  have hi' := hi' hG
  have hi2 := hi2 hG
  have hle := hle hG
  have hlm := hlm hG
  have hmc := hmc hG
  subst hi; subst hi'; subst hi2
  simp only [execOp, ho, hx, Option.map_none, Option.map_some, hy, hy', hy2, Instr.sliceAt, Sem.run_bind, run_underlying hu, Result.andThen_ok, Instr.slice, Instr.sliceBounds, Instr.sliceBound, asIntOf, Sem.run_pure]
  rw [if_pos (by omega)]
  simp only [Sem.run_pure, Result.andThen_ok, Int.toNat_natCast]
  rw [if_pos (by omega)]
  simp only [Sem.run_pure, Result.andThen_ok, Int.toNat_natCast]
  rw [if_pos (by omega)]
  simp only [Sem.run_pure, Result.andThen_ok, cI q1, q2, Int.toNat_natCast, slA]
theorem tk {α : Type} {E : El α} {e : TypeId} {X : SlV} {b : Option Nat} {l : List α} {k h : Nat} (hk : k ≤ h) (hh : h ≤ l.length) (hm : ownL E e X b l ∈ OW) : Reads ⟨N, SL, BL, OW, FA⟩ C E.esz (.slice (slA X.a X.c k E.esz) (h - k) (X.c - k)) (h - k) (((l.drop k).take (h - k)).flatMap E.enc) := by
 intro w hw
 have hq := hw.ow _ hm
 have hrd : RdL E X l (fun _ => False) w := OwnOk.rd (C := C) (e := e) (b := b) hq (fun _ _ h => h)
 have h1 := (RdL.drop hrd k (by omega)).take (h - k)
 have hl1 : ((l.drop k).take (h - k)).length = h - k := by simp; omega
 have h3 : ∀ e ∈ (l.drop k).take (h - k), (E.enc e).length = E.esz := fun e _ => E.len e
 obtain ⟨_, _, _, h4⟩ := h1
 refine ⟨_, _, rfl, by rw [dt _ h3, hl1], fun u hu => ?_, fun hl => ?_⟩
 ·obtain ⟨e, he, hu⟩ := List.mem_flatMap.1 hu
  exact E.one e u hu
 ·obtain ⟨ad, ha, _, _, hc⟩ := h4 (by omega)
  refine ⟨ad, ha, fun j u hj => ?_⟩
  obtain ⟨i, q, hi, rfl, h2⟩ := lT _ h3 j u hj
  exact hc i hi q u h2
theorem vI {α : Type} (E : El α) {e : TypeId} {X : SlV} {b : Option Nat} {l : List α} (hm : ownL E e X b l ∈ OW) (hl : 0 < l.length) (h : X.a.isNone = false → CW P T C c ⟨N, SL, BL, OW, FA⟩ Q) : CW P T C c ⟨N, SL, BL, OW, FA⟩ Q := fun hT a w hr => by
 refine h ?_ hT a w hr
 obtain ⟨_, _, h3⟩ := hr.wo.ow _ hm
 cases b with
 | none => simp only at h3; omega
 | some g =>
  obtain ⟨_, cap, cur, hv, _⟩ := h3
  simp only [SlV.val, Value.slice.injEq, true_and] at hv
  rw [hv.1]; rfl
theorem vt {A : Option Addr} {c k esz : Nat} (h : A.isNone = false) : (slA A c k esz).isNone = false := by
 unfold slA
 split
 ·exact h
 ·cases A with
  | none => cases h
  | some a => rfl
theorem vm {G α : Type} (γ : Nat → G) (l : List α) (k n : Nat) : ((zipG γ 0 l).drop k).take n = zipG (dropG γ k) 0 ((l.drop k).take n) := by
 rw [nG, lW]
theorem wO {α : Type} (E : El α) {e : TypeId} {X : SlV} {b : Option Nat} {l : List α} (hm : ownL E e X b l ∈ OW) (h : l.length ≤ X.c ∧ X.c ≤ 9223372036854775807 → RW P T C ops r ⟨N, SL, BL, OW, FA⟩ Q) : RW P T C ops r ⟨N, SL, BL, OW, FA⟩ Q := fun hT a w hr =>
 h (pM (hr.wo.ow _ hm)) hT a w hr
theorem RdN.take {α : Type} [Inhabited α] {EN : En α} {X : SlV} {l : List α} {M : Nat → Prop} {w : World} (h : RdN EN X l M w) (n : Nat) : RdN EN X (l.take n) M w := by
 obtain ⟨γ, h1, h2⟩ := h
 refine ⟨γ, ?_, FactsG.take EN n h2⟩
 have := RdL.take h1 n
 rwa [lW] at this
theorem RdN.drop {α : Type} [Inhabited α] {EN : En α} {X : SlV} {l : List α} {M : Nat → Prop} {w : World} (h : RdN EN X l M w) (k : Nat) (hk : k ≤ l.length) : RdN EN ⟨slA X.a X.c k EN.E.esz, X.c - k⟩ (l.drop k) M w := by
 obtain ⟨γ, h1, h2⟩ := h
 refine ⟨dropG γ k, ?_, FactsG.drop EN k h2⟩
 have := RdL.drop h1 k (by rw [cv]; exact hk)
 rwa [nG] at this
theorem rv {α : Type} [Inhabited α] (EN : En α) {l : List α} {X : SlV} (h : Nat) {t e esz : Nat} {x y : Operand} {g0 g1 G b : Bool} {k : IntKind} {iv : Int} (ho : o.op = .slice t x none (some y) none) (he : ev SL x = some (g0, X.val l.length)) (hg0 : G = true → g0 = true)
  (hy : ev SL y = some (g1, .int k iv)) (hg1 : G = true → g1 = true) (ht : T.slc t = some e) (hz : T.siz e = some (esz, b)) (hm : RdN EN X l ∈ FA) (hi : G = true → iv = (h : Int)) (hle : G = true → h ≤ l.length) : Quiet P T SL BL FA o G (X.val (l.take h).length) :=
 fun hT hG a w hsl hw => by
  obtain ⟨_, γ, hrd, _⟩ := hw.fa _ hm
  have h1 := hrd.1
  rw [cv] at h1
  have h2 := hle hG
  have e1 : (l.take h).length = h := by simp; omega
  rw [e1]
  exact qu (P := P) (BL := BL) (FA := FA) ho he hg0 hy hg1 ht hz hi (fun _ => by omega) hT hG a w hsl hw
end
end Go.Proofs.YtkjccbdeaflekaaGreatDoor.Fw

namespace Go.Proofs.YtkjccbdeaflekaaGreatDoor.Fw
open Go Go.RowKit
abbrev Str := List UInt8
abbrev sV (l : Str) : Value := .string ⟨l.toArray⟩
abbrev yV (b : UInt8) : Value := .int .u8 (b.toNat : Int)
abbrev eV (b : Bool) (tp : TypeId) (p : Value) : Value := bif b then .iface tp p else .nilIface
def EByte : El UInt8 := ⟨fun b => [yV b], 1, 1, fun _ => rfl, fun _ u hu => by simp only [List.mem_singleton] at hu; subst hu; rfl⟩
def EStr : El Str := ⟨fun l => [sV l], 1, 16, fun _ => rfl, fun _ u hu => by simp only [List.mem_singleton] at hu; subst hu; rfl⟩
theorem qj (l : Str) : (ByteArray.mk l.toArray).toList = l := by rw [ByteArray.toList_eq]
theorem mH (l : Str) : (ByteArray.mk l.toArray).size = l.length := by rw [Lib.size_eq]
theorem app_sV (a b : Str) : (ByteArray.mk a.toArray) ++ (ByteArray.mk b.toArray) = ByteArray.mk (a ++ b).toArray := by
 apply ByteArray.ext
 simp
section
variable {P : Program} {T : Tab} {C : Cx} {ops : Array Oper} {o : Oper} {r r' : RS} {s : St} {Q : Post} {N : Nat} {SL : Slots} {BL : List Blk} {OW : List Own} {FA : List Pred} {c : Code}
theorem q_eqS {t t' : Nat} {x y : Operand} {g0 g1 G : Bool} {a b : Str} (ho : o.op = .binOp .eql t x y t') (he : ev SL x = some (g0, sV a)) (hg0 : G = true → g0 = true)
  (hy : ev SL y = some (g1, sV b)) (hg1 : G = true → g1 = true) : Quiet P T SL BL FA o G (.bool (a == b)) :=
 fun _ hG a' w hsl _ => by
  have h1 := ev_ok hsl he (hg0 hG)
  have h2 := ev_ok hsl hy (hg1 hG)
  simp only [execOp, ho, h1, h2, eqGuard, binOp, Op.stringOp, qj]
  simp
theorem q_neS {t t' : Nat} {x y : Operand} {g0 g1 G : Bool} {a b : Str} (ho : o.op = .binOp .neq t x y t') (he : ev SL x = some (g0, sV a)) (hg0 : G = true → g0 = true)
  (hy : ev SL y = some (g1, sV b)) (hg1 : G = true → g1 = true) : Quiet P T SL BL FA o G (.bool (a != b)) :=
 fun _ hG a' w hsl _ => by
  have h1 := ev_ok hsl he (hg0 hG)
  have h2 := ev_ok hsl hy (hg1 hG)
  simp only [execOp, ho, h1, h2, eqGuard, binOp, Op.stringOp, qj]
  simp [bne]
theorem wg {t t' : Nat} {x y : Operand} {g0 g1 G : Bool} {a b : Str} (ho : o.op = .binOp .add t x y t') (he : ev SL x = some (g0, sV a)) (hg0 : G = true → g0 = true)
  (hy : ev SL y = some (g1, sV b)) (hg1 : G = true → g1 = true) (hb : G = true → a.length + b.length ≤ 9223372036854775807) : Quiet P T SL BL FA o G (sV (a ++ b)) :=
 fun _ hG a' w hsl _ => by
  have h1 := ev_ok hsl he (hg0 hG)
  have h2 := ev_ok hsl hy (hg1 hG)
  have hb := hb hG
  have hm : ¬ (((a.length + b.length : Nat) : Int) > IntKind.i64.max) := by simp only [IntKind.max, IntKind.signed, IntKind.bits]; simp; omega
  simp only [execOp, ho, h1, h2, eqGuard, binOp, Op.stringOp, mH, app_sV, if_neg hm]
  simp
theorem o8 {t : Nat} {x : Operand} {g0 G : Bool} {a : Str} (ho : o.op = .call ⟨.builtin .len, ⟨[x]⟩, ⟨[t]⟩⟩) (he : ev SL x = some (g0, sV a)) (hg0 : G = true → g0 = true) (ht : P.underlying t = some .string) : Quiet P T SL BL FA o G (.int .i64 (a.length : Int)) :=
 fun _ hG a' w hsl _ => by
  have h1 := ev_ok hsl he (hg0 hG)
  have h2 := mH a
  simp only [execOp, ho, resolve, invoke, builtin, List.map_toArray, List.map_cons, List.map_nil, h1]
  simp [Builtin.len_, run_underlying ht, goInt, h2]
theorem um {t t' e : Nat} {x : Operand} {g0 G : Bool} {X : SlV} {l : Str} (ht : P.underlying t = some (.slice e)) (he' : P.underlying e = some (.int .u8)) (ht' : P.underlying t' = some .string) (ho : o.op = .convert t t' x) (he : ev SL x = some (g0, X.val l.length)) (hg0 : G = true → g0 = true)
  (hm : RdL EByte X l ∈ FA) : Quiet P T SL BL FA o G (sV l) :=
 fun hT hG a' w hsl hw => by
  have h1 := ev_ok hsl he (hg0 hG)
  obtain ⟨_, _, _, _, h4⟩ := hw.fa _ hm
  simp only [execOp, ho, h1, SlV.val]
  cases hA : X.a with
  | none =>
   have h0 : l = [] := by
    cases l with
    | nil => rfl
    | cons b r => obtain ⟨ad, ha, _⟩ := h4 (by simp); rw [hA] at ha; cases ha
   subst h0
   have : (convert t t' (.slice none ([] : Str).length X.c)).run P w = .ok (.string .empty) w := by
    simp [convert, run_underlying ht, run_underlying ht', run_underlying he', Conv.bytesToString]
   rw [Sem.run_bind, this]
   rfl
  | some ad =>
   have := run_convert_bytes_back (P := P) w t t' e ad X.c l ht he' ht' (fun j hj => by
    obtain ⟨ad', ha, _, _, hc⟩ := h4 (by omega)
    rw [hA] at ha
    cases ha
    have := hc j hj 0 (yV l[j]) rfl
    simpa [EByte] using this)
   rw [Sem.run_bind, this]
   rfl
theorem wS {t : Nat} {ms : Array (String × TypeId)} (hu : P.underlying t = some (.interface ms)) (d : Nat) (tp : TypeId) (p : Value) (w : World) : (Op.equalIn (d + 1) t (.iface tp p) .nilIface).run P w = .ok false w := by
 simp [Op.equalIn, run_underlying hu]
theorem vx {t : Nat} {ms : Array (String × TypeId)} (hu : P.underlying t = some (.interface ms)) (d : Nat) (w : World) : (Op.equalIn (d + 1) t .nilIface .nilIface).run P w = .ok true w := by
 simp [Op.equalIn, run_underlying hu]
theorem wW {t t' : Nat} {x : Operand} {g0 G b : Bool} {tp : TypeId} {p : Value} {ms : Array (String × TypeId)} (ho : o.op = .binOp .neq t x (.const .nilIface) t') (he : ev SL x = some (g0, eV b tp p)) (hg0 : G = true → g0 = true) (hu : P.underlying t = some (.interface ms)) : Quiet P T SL BL FA o G (.bool b) :=
 fun _ hG a' w hsl _ => by
  have h1 := ev_ok hsl he (hg0 hG)
  have h2 : a'.eval (.const .nilIface) = .nilIface := rfl
  cases b with
  | true =>
   have h3 : (Op.equal t (.iface tp p) .nilIface).run P w = .ok false w := wS hu 9999 tp p w
   have h1 : a'.eval x = .iface tp p := h1
   simp [execOp, ho, h1, h2, eqGuard, binOp, h3]
  | false =>
   have h3 : (Op.equal t .nilIface .nilIface).run P w = .ok true w := vx hu 9999 w
   have h1 : a'.eval x = .nilIface := h1
   simp [execOp, ho, h1, h2, eqGuard, binOp, h3]
theorem gY {D : List Nat} {d : Nat} {f : FuncId} {x : Operand} {xs : Array Operand} {ts : Array TypeId} {g0 g : Bool} {vs caps args : List Value} {pre : List Pred} {L : Lent} {X : Type} {val : X → Value} {post : X → List Pred} {L' : X → Lent} {RB : List Blk} {RO : List Own}
  (hS : DoesG P f args pre L val post L') (hfr : Front ops r o D r') (hD : (∃ l, r = .sq l) ∨ ∀ g ∈ L.ids, g ∈ D) (hg : Guard ops SL o true) (hd : o.dst = some d) (hn : Nat.blt d N = true) (ho : o.op = .call ⟨.value x, xs, ts⟩) (hx : ev SL x = some (g0, .func (.func f) #[] ⟨caps⟩)) (hg0 : g0 = true) (hf : T.fnb f = true)
  (he : evs SL xs.toList = some (g, vs)) (hgt : g = true) (ha : args = vs ++ caps) (hpre : SubM FA pre) (hb : Take BL L.bl RB) (hw : Take OW L.ow RO)
  (h : ∀ x, RW P T C ops r' ⟨N, (d, .v (val x)) :: SL, (L' x).bl ++ RB, (L' x).ow ++ RO, post x ++ FA⟩ Q) : RW P T C ops r ⟨N, SL, BL, OW, FA⟩ Q := by
 have key : Loud P T C ⟨N, SL, BL, OW, FA⟩ o L.ids (fun s' => ∃ x, s' = ⟨N, (d, .v (val x)) :: SL, (L' x).bl ++ RB, (L' x).ow ++ RO, post x ++ FA⟩) := by
  intro hT a w hrep
  subst ha
  refine p5 hS (pk hT ho hf hrep.sl hx hg0 he hgt w) hd hrep hpre.mem hb.perm hw.perm fun x w' hw hk => ?_
  exact ⟨_, ⟨x, rfl⟩, hrep.putv (Nat.le_of_ble_eq_true hn) (x := .v (val x)) (u := val x) rfl ⟨hw.be, hw.bl, hw.ow, hw.nd, hw.fa⟩, hk⟩
 cases hfr with
 | sq => exact m4 hg key (fun s' ⟨x, e⟩ => by subst e; exact h x)
 | lo _ hi hDD => exact rw_l (.lo L.ids hi hDD) hg key (fun s' ⟨x, e⟩ => by subst e; exact h x)
 | an hi hDD =>
  refine rw_l (.an hi hDD) hg (key.wide fun g hg => ?_) (fun s' ⟨x, e⟩ => by subst e; exact h x)
  rcases hD with ⟨_, e⟩ | e
  ·cases e
  ·exact e g hg
end
end Go.Proofs.YtkjccbdeaflekaaGreatDoor.Fw

namespace Go.Proofs.YtkjccbdeaflekaaGreatDoor
open Go Go.Proofs.YtkjccbdeaflekaaGreatDoor.Fw Go.Proofs
structure Place where
 node : Int
 parent : Int
 name : Int
  deriving DecidableEq
instance : Inhabited Place := ⟨⟨0, 0, 0⟩⟩
structure Stamp where
 time : Int
 who : Int
  deriving DecidableEq
instance : Inhabited Stamp := ⟨⟨0, 0⟩⟩
structure Op where
 time : Int
 who : Int
 node : Int
 parent : Int
 name : Int
 life : Int
 seq : Int
  deriving DecidableEq
instance : Inhabited Op := ⟨⟨0, 0, 0, 0, 0, 0, 0⟩⟩
structure Step where
 o : Op
 did : Bool
 was : Place
  deriving DecidableEq
instance : Inhabited Step := ⟨⟨default, false, default⟩⟩
structure History where
 l : List Step
 t : List Place
  deriving DecidableEq
instance : Inhabited History := ⟨⟨[], []⟩⟩
structure View where
 roots : List Int
 known : List Place
 way : List Place
  deriving DecidableEq
instance : Inhabited View := ⟨⟨[], [], []⟩⟩
structure Delta where
 gone : List Int
 here : List Place
 wayGone : List Int
 wayHere : List Place
  deriving DecidableEq
instance : Inhabited Delta := ⟨⟨[], [], [], []⟩⟩
structure Rec where
 kind : Int
 who : Int
 life : Int
 roots : List Int
 o : Op
  deriving DecidableEq
instance : Inhabited Rec := ⟨⟨0, 0, 0, [], default⟩⟩
structure Peer where
 life : Int
 seq : Int
 roots : List Int
  deriving DecidableEq
instance : Inhabited Peer := ⟨⟨0, 0, []⟩⟩
structure Hub where
 h : History
 version : Int
 peers : List Peer
  deriving DecidableEq
instance : Inhabited Hub := ⟨⟨default, 0, []⟩⟩
structure Client where
 life : Int
 time : Int
 seq : Int
 pending : List Op
 version : Int
 v : View
  deriving DecidableEq
instance : Inhabited Client := ⟨⟨0, 0, 0, [], 0, default⟩⟩
structure Mail where
 kind : Int
 who : Int
 life : Int
 seq : Int
 time : Int
 version : Int
 frm : Int
 o : Op
 v : View
 d : Delta
  deriving DecidableEq
instance : Inhabited Mail := ⟨⟨0, 0, 0, 0, 0, 0, 0, default, default, default⟩⟩
structure Disk where
 safe : List UInt8
 wait : List UInt8
  deriving DecidableEq
instance : Inhabited Disk := ⟨⟨[], []⟩⟩
structure Wld where
 h : Hub
 d : Disk
 up : Bool
 c : List Client
 mail : List Mail
  deriving DecidableEq
instance : Inhabited Wld := ⟨⟨default, default, false, [], []⟩⟩
structure Happening where
 kind : Int
 who : Int
 n : Int
 node : Int
 parent : Int
 name : Int
 roots : List Int
  deriving DecidableEq
instance : Inhabited Happening := ⟨⟨0, 0, 0, 0, 0, 0, []⟩⟩
def EInt : El Int := ⟨fun n => [.int .i64 n], 1, 8, fun _ => rfl, fun a u hu => iT (ks := [true]) (l := [.int .i64 a]) rfl u hu⟩
def EPlace : El Place := ⟨fun p => [.int .i64 p.node, .int .i64 p.parent, .int .i64 p.name], 3, 24, fun _ => rfl, fun p u hu => iT (ks := [true, true, true]) (l := [.int .i64 p.node, .int .i64 p.parent, .int .i64 p.name]) rfl u hu⟩
theorem jf (a b : Place) : d9 (EPlace.enc a) (EPlace.enc b) = decide (a = b) := by
 obtain ⟨_, _, _⟩ := a; obtain ⟨_, _, _⟩ := b
 rw [Bool.eq_iff_iff]; simp [d9, EPlace, and_assoc]
theorem mp : EqT Tryz.prog 99 [true, true, true] := ⟨by kernel_rfl, by kernel_rfl⟩
def EStamp : El Stamp := ⟨fun p => [.int .i64 p.time, .int .i64 p.who], 2, 16, fun _ => rfl, fun p u hu => iT (ks := [true, true]) (l := [.int .i64 p.time, .int .i64 p.who]) rfl u hu⟩
theorem nb (a b : Stamp) : d9 (EStamp.enc a) (EStamp.enc b) = decide (a = b) := by
 obtain ⟨_, _⟩ := a; obtain ⟨_, _⟩ := b
 rw [Bool.eq_iff_iff]; simp [d9, EStamp, and_assoc]
theorem qX : EqT Tryz.prog 74 [true, true] := ⟨by kernel_rfl, by kernel_rfl⟩
def EOp : El Op := ⟨fun p => [.int .i64 p.time, .int .i64 p.who, .int .i64 p.node, .int .i64 p.parent, .int .i64 p.name, .int .i64 p.life, .int .i64 p.seq], 7, 56, fun _ => rfl, fun p u hu => iT (ks := [true, true, true, true, true, true, true]) (l := [.int .i64 p.time, .int .i64 p.who, .int .i64 p.node, .int .i64 p.parent, .int .i64 p.name, .int .i64 p.life, .int .i64 p.seq]) rfl u hu⟩
theorem qT (a b : Op) : d9 (EOp.enc a) (EOp.enc b) = decide (a = b) := by
 obtain ⟨_, _, _, _, _, _, _⟩ := a; obtain ⟨_, _, _, _, _, _, _⟩ := b
 rw [Bool.eq_iff_iff]; simp [d9, EOp, and_assoc]
theorem wm : EqT Tryz.prog 76 [true, true, true, true, true, true, true] := ⟨by kernel_rfl, by kernel_rfl⟩
def EStep : El Step := ⟨fun p => [.int .i64 p.o.time, .int .i64 p.o.who, .int .i64 p.o.node, .int .i64 p.o.parent, .int .i64 p.o.name, .int .i64 p.o.life, .int .i64 p.o.seq, .bool p.did, .int .i64 p.was.node, .int .i64 p.was.parent, .int .i64 p.was.name], 11, 88, fun _ => rfl, fun p u hu => iT (ks := [true, true, true, true, true, true, true, false, true, true, true]) (l := [.int .i64 p.o.time, .int .i64 p.o.who, .int .i64 p.o.node, .int .i64 p.o.parent, .int .i64 p.o.name, .int .i64 p.o.life, .int .i64 p.o.seq, .bool p.did, .int .i64 p.was.node, .int .i64 p.was.parent, .int .i64 p.was.name]) rfl u hu⟩
theorem rK (a b : Step) : d9 (EStep.enc a) (EStep.enc b) = decide (a = b) := by
 obtain ⟨⟨_, _, _, _, _, _, _⟩, _, ⟨_, _, _⟩⟩ := a; obtain ⟨⟨_, _, _, _, _, _, _⟩, _, ⟨_, _, _⟩⟩ := b
 rw [Bool.eq_iff_iff]; simp [d9, EStep, and_assoc]
theorem vG : EqT Tryz.prog 157 [true, true, true, true, true, true, true, false, true, true, true] := ⟨by kernel_rfl, by kernel_rfl⟩
def NBytes : En (List UInt8) := ⟨SlV, inferInstance, ⟨fun h => [h.1.val h.2.length], 1, 24, fun _ => rfl, fun h => (aF rfl (fun _ h => by cases h))⟩, fun h => [RdL EByte h.1 h.2], fun _ => inferInstance⟩
def NPeer : En Peer := ⟨SlV, inferInstance, ⟨fun h => [.int .i64 h.2.life, .int .i64 h.2.seq, h.1.val h.2.roots.length], 3, 40, fun _ => rfl, fun h => (aF rfl (aF rfl (aF rfl (fun _ h => by cases h))))⟩, fun h => [RdL EInt h.1 h.2.roots], fun _ => inferInstance⟩
def NMail : En Mail := ⟨SlV × SlV × SlV × SlV × SlV × SlV × SlV, inferInstance, ⟨fun h => [.int .i64 h.2.kind, .int .i64 h.2.who, .int .i64 h.2.life, .int .i64 h.2.seq, .int .i64 h.2.time, .int .i64 h.2.version, .int .i64 h.2.frm, .int .i64 h.2.o.time, .int .i64 h.2.o.who, .int .i64 h.2.o.node, .int .i64 h.2.o.parent, .int .i64 h.2.o.name, .int .i64 h.2.o.life, .int .i64 h.2.o.seq, h.1.1.val h.2.v.roots.length, h.1.2.1.val h.2.v.known.length, h.1.2.2.1.val h.2.v.way.length, h.1.2.2.2.1.val h.2.d.gone.length, h.1.2.2.2.2.1.val h.2.d.here.length, h.1.2.2.2.2.2.1.val h.2.d.wayGone.length, h.1.2.2.2.2.2.2.val h.2.d.wayHere.length], 21, 280, fun _ => rfl, fun h => (aF rfl (aF rfl (aF rfl (aF rfl (aF rfl (aF rfl (aF rfl (aF rfl (aF rfl (aF rfl (aF rfl (aF rfl (aF rfl (aF rfl (aF rfl (aF rfl (aF rfl (aF rfl (aF rfl (aF rfl (aF rfl (fun _ h => by cases h))))))))))))))))))))))⟩, fun h => [RdL EInt h.1.1 h.2.v.roots, RdL EPlace h.1.2.1 h.2.v.known, RdL EPlace h.1.2.2.1 h.2.v.way, RdL EInt h.1.2.2.2.1 h.2.d.gone, RdL EPlace h.1.2.2.2.2.1 h.2.d.here, RdL EInt h.1.2.2.2.2.2.1 h.2.d.wayGone, RdL EPlace h.1.2.2.2.2.2.2 h.2.d.wayHere], fun _ => inferInstance⟩
def NRec : En Rec := ⟨SlV, inferInstance, ⟨fun h => [.int .i64 h.2.kind, .int .i64 h.2.who, .int .i64 h.2.life, h.1.val h.2.roots.length, .int .i64 h.2.o.time, .int .i64 h.2.o.who, .int .i64 h.2.o.node, .int .i64 h.2.o.parent, .int .i64 h.2.o.name, .int .i64 h.2.o.life, .int .i64 h.2.o.seq], 11, 104, fun _ => rfl, fun h => (aF rfl (aF rfl (aF rfl (aF rfl (aF rfl (aF rfl (aF rfl (aF rfl (aF rfl (aF rfl (aF rfl (fun _ h => by cases h))))))))))))⟩, fun h => [RdL EInt h.1 h.2.roots], fun _ => inferInstance⟩
def NClient : En Client := ⟨SlV × SlV × SlV × SlV, inferInstance, ⟨fun h => [.int .i64 h.2.life, .int .i64 h.2.time, .int .i64 h.2.seq, h.1.1.val h.2.pending.length, .int .i64 h.2.version, h.1.2.1.val h.2.v.roots.length, h.1.2.2.1.val h.2.v.known.length, h.1.2.2.2.val h.2.v.way.length], 8, 128, fun _ => rfl, fun h => (aF rfl (aF rfl (aF rfl (aF rfl (aF rfl (aF rfl (aF rfl (aF rfl (fun _ h => by cases h)))))))))⟩, fun h => [RdL EOp h.1.1 h.2.pending, RdL EInt h.1.2.1 h.2.v.roots, RdL EPlace h.1.2.2.1 h.2.v.known, RdL EPlace h.1.2.2.2 h.2.v.way], fun _ => inferInstance⟩
def NHap : En Happening := ⟨SlV, inferInstance, ⟨fun h => [.int .i64 h.2.kind, .int .i64 h.2.who, .int .i64 h.2.n, .int .i64 h.2.node, .int .i64 h.2.parent, .int .i64 h.2.name, h.1.val h.2.roots.length], 7, 72, fun _ => rfl, fun h => (aF rfl (aF rfl (aF rfl (aF rfl (aF rfl (aF rfl (aF rfl (fun _ h => by cases h))))))))⟩, fun h => [RdL EInt h.1 h.2.roots], fun _ => inferInstance⟩
theorem und_3 : Tryz.prog.underlying 3 = some (.int .i64) := by kernel_rfl
theorem und_4 : Tryz.prog.underlying 4 = some .bool := by kernel_rfl
theorem kK : Tryz.prog.underlying 269 = some (.int .u64) := by kernel_rfl
theorem und_5 : Tryz.prog.underlying 5 = some (.int .u8) := by kernel_rfl
theorem und_9 : Tryz.prog.underlying 9 = some .string := by kernel_rfl
theorem tR : Tryz.prog.underlying 31 = some (.slice 5) := by kernel_rfl
theorem ro : Tryz.prog.underlying 215 = some (.interface #[("Error", 237)]) := by kernel_rfl
instance (γ : Nat → SlV) (l : List (List UInt8)) : Stab (FactsG NBytes γ l) := o3 NBytes γ l
instance (γ : Nat → SlV) (l : List Peer) : Stab (FactsG NPeer γ l) := o3 NPeer γ l
instance (γ : Nat → SlV × SlV × SlV × SlV × SlV × SlV × SlV) (l : List Mail) : Stab (FactsG NMail γ l) := o3 NMail γ l
instance (γ : Nat → SlV) (l : List Rec) : Stab (FactsG NRec γ l) := o3 NRec γ l
instance (γ : Nat → SlV × SlV × SlV × SlV) (l : List Client) : Stab (FactsG NClient γ l) := o3 NClient γ l
instance (γ : Nat → SlV) (l : List Happening) : Stab (FactsG NHap γ l) := o3 NHap γ l
end Go.Proofs.YtkjccbdeaflekaaGreatDoor

namespace Go.Proofs.YtkjccbdeaflekaaGreatDoor.Fw
open Go Go.RowKit
section
variable {P : Program} {T : Tab} {C : Cx} {ops : Array Oper} {o : Oper} {r r' : RS} {s : St} {Q : Post} {N : Nat} {SL : Slots} {BL : List Blk} {OW : List Own} {FA : List Pred} {c : Code}
theorem isR {l : List Oper} (h : RW P T C ops (.sq l) s Q) : RW P T C ops (.sq l) s Q := h
theorem isG {l : List Oper} {j : Nat × Bool} (_ : o.guard = some j) (h : RW P T C ops (.sq (o :: l)) s Q) : RW P T C ops (.sq (o :: l)) s Q := h
theorem isL {l : List Oper} {t : TypeId} {x : Operand} (_ : o.op = .load t x) (h : RW P T C ops (.sq (o :: l)) s Q) : RW P T C ops (.sq (o :: l)) s Q := h
theorem isS {l : List Oper} {t : TypeId} {x y : Operand} (_ : o.op = .store t x y) (h : RW P T C ops (.sq (o :: l)) s Q) : RW P T C ops (.sq (o :: l)) s Q := h
theorem isC (h : CW P T C c s Q) : CW P T C c s Q := h
theorem Tx {p q : Prop} (h : q) (f : q → p := by
  intro hq_
  repeat (first
   | refine Rp rfl rfl rfl rfl ?_
   | (refine isR ?_; first
     | refine dD ?_
     | (refine isG rfl ?_; first
       | refine rw_qg (dR rfl rfl rfl) rfl rfl (q_pev rfl Bt) ?_
       | refine rw_qg (ci rfl rfl rfl) rfl rfl (q_pev rfl Bt) ?_
       | refine rw_qg (dm rfl rfl rfl) rfl rfl (q_pev rfl Bt) ?_
       | refine rw_qg (ej rfl rfl rfl) rfl rfl (q_pev rfl Bt) ?_
       | (refine isL rfl ?_; first
         | refine rw_qg (dR rfl rfl rfl) rfl rfl (q_ld1 rfl rfl Bt rfl Mm rfl) ?_
         | refine rw_qg (ci rfl rfl rfl) rfl rfl (q_ld1 rfl rfl Bt rfl Mm rfl) ?_
         | refine rw_qg (dm rfl rfl rfl) rfl rfl (q_ld1 rfl rfl Bt rfl Mm rfl) ?_
         | refine rw_qg (ej rfl rfl rfl) rfl rfl (q_ld1 rfl rfl Bt rfl Mm rfl) ?_
         | refine rw_qg (dR rfl rfl rfl) rfl rfl (q_ldA rfl rfl Bt rfl Mm rfl) ?_
         | refine rw_qg (ci rfl rfl rfl) rfl rfl (q_ldA rfl rfl Bt rfl Mm rfl) ?_
         | refine rw_qg (dm rfl rfl rfl) rfl rfl (q_ldA rfl rfl Bt rfl Mm rfl) ?_
         | refine rw_qg (ej rfl rfl rfl) rfl rfl (q_ldA rfl rfl Bt rfl Mm rfl) ?_
         | refine rw_qg (dR rfl rfl rfl) rfl rfl (q_ldP rfl rfl Bt rfl Mm rfl) ?_
         | refine rw_qg (ci rfl rfl rfl) rfl rfl (q_ldP rfl rfl Bt rfl Mm rfl) ?_
         | refine rw_qg (dm rfl rfl rfl) rfl rfl (q_ldP rfl rfl Bt rfl Mm rfl) ?_
         | refine rw_qg (ej rfl rfl rfl) rfl rfl (q_ldP rfl rfl Bt rfl Mm rfl) ?_))
     | (refine isL rfl ?_; first
       | refine rw_q rfl rfl rfl (q_ld1 rfl rfl (fun _ => rfl) rfl Mm rfl) ?_
       | refine rw_q rfl rfl rfl (q_ldA rfl rfl (fun _ => rfl) rfl Mm rfl) ?_
       | refine rw_q rfl rfl rfl (q_ldP rfl rfl (fun _ => rfl) rfl Mm rfl) ?_
       | refine rw_q rfl rfl rfl (q_lf1 rfl rfl (fun _ => rfl) rfl Mm rfl) ?_
       | refine rw_q rfl rfl rfl (q_lfA rfl rfl (fun _ => rfl) rfl Mm rfl) ?_
       | refine rw_q rfl rfl rfl (q_lfP rfl rfl (fun _ => rfl) rfl Mm rfl) ?_)
     | (refine isS rfl ?_; first
       | refine sh .sq (.inl ⟨_, rfl⟩) (al rfl) rfl rfl rfl rfl rfl rfl rfl rfl rfl Ub rfl ?_
       | refine si .sq (.inl ⟨_, rfl⟩) (al rfl) rfl rfl rfl rfl rfl rfl rfl rfl rfl Ub rfl ?_)
     | refine rw_q rfl rfl rfl (q_pev rfl Bt) ?_)
   | (refine isC ?_; first
     | refine aD ?_
     | refine mv ?_
     | refine pU ?_
     | refine nB ?_
     | refine uT ?_))
  exact hq_) : p := f h
theorem Ty {p q : Prop} (h : q) (f : q → p := by
  intro hq_
  repeat (first
   | refine Rp rfl rfl rfl rfl ?_
   | (refine isR ?_; first
     | refine dD ?_
     | (refine isG rfl ?_; first
       | refine rw_qg (dR rfl rfl rfl) rfl rfl (q_pev rfl Bt) ?_
       | refine rw_qg (ci rfl rfl rfl) rfl rfl (q_pev rfl Bt) ?_)
     | (refine isL rfl ?_; first
       | refine rw_q rfl rfl rfl (q_ld1 rfl rfl (fun _ => rfl) rfl Mm rfl) ?_
       | refine rw_q rfl rfl rfl (q_ldA rfl rfl (fun _ => rfl) rfl Mm rfl) ?_
       | refine rw_q rfl rfl rfl (q_ldP rfl rfl (fun _ => rfl) rfl Mm rfl) ?_)
     | (refine isS rfl ?_; first
       | refine sh .sq (.inl ⟨_, rfl⟩) (al rfl) rfl rfl rfl rfl rfl rfl rfl rfl rfl Ub rfl ?_
       | refine si .sq (.inl ⟨_, rfl⟩) (al rfl) rfl rfl rfl rfl rfl rfl rfl rfl rfl Ub rfl ?_)
     | refine rw_q rfl rfl rfl (q_pev rfl Bt) ?_)
   | (refine isC ?_; first
     | refine aD ?_
     | refine mv ?_
     | refine pU ?_))
  exact hq_) : p := f h
theorem Tk {p : Prop} (h : p := by refine .cons (by repeat (first | exact .here _ _ | apply Pick.there)) (.nil _)) : p := h
theorem Cf.{u} {α : Sort u} : (∀ a b : α, cond true a b = a) ∧ (∀ a b : α, cond false a b = b) := ⟨fun _ _ => rfl, fun _ _ => rfl⟩
theorem Cb : (∀ b : Bool, (true && b) = b) ∧ (∀ b : Bool, (b && true) = b) ∧ (∀ b : Bool, (false || b) = b) ∧ (∀ b : Bool, (b || false) = b) ∧ (∀ b : Bool, (false && b) = false) ∧ (∀ b : Bool, (b && false) = false) ∧ (∀ b : Bool, (true || b) = true) ∧ (∀ b : Bool, (b || true) = true) ∧ (!true) = false ∧ (!false) = true := by
 refine ⟨?_, ?_, ?_, ?_, ?_, ?_, ?_, ?_, rfl, rfl⟩ <;> intro b <;> cases b <;> rfl
theorem Zf.{u, v} {p : Sort u} {α : Sort v} {a : α} : p → a = a := fun _ => rfl
theorem Zo {p q : Prop} (h : q := by omega) : p → q := fun _ => h
theorem Za {p q : Prop} (h : q := by first | assumption | omega | (simp only [List.length_set]; omega)) : p → q := fun _ => h
theorem Zb {p : Prop} (h : p := by first | assumption | omega | (simp only [List.length_set]; omega)) : p := h
theorem Zc {p : Prop} (h : p := by first | assumption | omega) : p := h
theorem Zl {p : Prop} (h : p := by simp only [List.length_append, List.length_cons, List.length_nil]; omega) : p := h
def behinds (ops : Array Oper) (listed : Array Bool) (i : Nat) : List Nat :=
 (List.range ops.size).foldl (fun B j => if !(listed.getD j true) && (match ops[j]? with | some oj => oj.after.any fun e => Region.binds .any e && (e.on == i || B.contains e.on) | none => false) then B ++ [j] else B) []
theorem Pc {α : Type} (E : El α) (X : SlV) (l : List α) (n : Nat) (h : l.length * n ≤ 140737488355328 → CW P T C c ⟨N, SL, BL, OW, FA⟩ Q) (hm : RdL E X l ∈ FA := by exact Mm) (hn : E.by_ = n := by rfl) : CW P T C c ⟨N, SL, BL, OW, FA⟩ Q :=
 dx [RdL E X l] (.cons hm (.nil _)) (fun M w h => by have := (allF1 h).len; rwa [hn] at this) h
theorem Pn {α : Type} [Inhabited α] (E : En α) (X : SlV) (l : List α) (n : Nat) (h : l.length * n ≤ 140737488355328 → CW P T C c ⟨N, SL, BL, OW, FA⟩ Q) (hm : RdN E X l ∈ FA := by exact Mm) (hn : E.E.by_ = n := by rfl) : CW P T C c ⟨N, SL, BL, OW, FA⟩ Q :=
 dx [RdN E X l] (.cons hm (.nil _)) (fun M w h => by have := (allF1 h).len; rwa [hn] at this) h
theorem Pr {α : Type} (E : El α) (X : SlV) (l : List α) (n : Nat) (h : l.length * n ≤ 140737488355328 → RW P T C ops r ⟨N, SL, BL, OW, FA⟩ Q) (hm : RdL E X l ∈ FA := by exact Mm) (hn : E.by_ = n := by rfl) : RW P T C ops r ⟨N, SL, BL, OW, FA⟩ Q :=
 tZ [RdL E X l] (.cons hm (.nil _)) (fun M w h => by have := (allF1 h).len; rwa [hn] at this) h
theorem Pm {α : Type} [Inhabited α] (E : En α) (X : SlV) (l : List α) (n : Nat) (h : l.length * n ≤ 140737488355328 → RW P T C ops r ⟨N, SL, BL, OW, FA⟩ Q) (hm : RdN E X l ∈ FA := by exact Mm) (hn : E.E.by_ = n := by rfl) : RW P T C ops r ⟨N, SL, BL, OW, FA⟩ Q :=
 tZ [RdN E X l] (.cons hm (.nil _)) (fun M w h => by have := (allF1 h).len; rwa [hn] at this) h
theorem Fc {α : Type} (E : El α) (h : CW P T C c ⟨N, SL, BL, OW, RdL E ⟨none, 0⟩ [] :: FA⟩ Q) : CW P T C c ⟨N, SL, BL, OW, FA⟩ Q :=
 pW [] (.nil _) (fun M w _ => RdL.nil _ _ _ (by omega) M w) h
theorem Fr {α : Type} (E : El α) (h : RW P T C ops r ⟨N, SL, BL, OW, RdL E ⟨none, 0⟩ [] :: FA⟩ Q) : RW P T C ops r ⟨N, SL, BL, OW, FA⟩ Q :=
 dU [] (.nil _) (fun M w _ => RdL.nil _ _ _ (by omega) M w) h
theorem Sb {α : Type} {l r : List α} (h : SubP l r := by repeat (first | exact .nil _ | refine .cons (by repeat (first | exact .here _ _ | apply Pick.there)) ?_)) : SubP l r := h
theorem Vn : ResVs T s [] [] := .nil
theorem Vt {t : Nat} {v : Value} {rs : List ResultVar} {vs : List Value} (hr : ResVs T s rs vs) (h : getS s.sl t = some (.v v) := by rfl) : ResVs T s (.tmp t :: rs) (v :: vs) := .cons (.tmp h) hr
theorem Va {t g n ty ty' : Nat} {cs : List Value} {rs : List ResultVar} {vs : List Value} (hr : ResVs T s rs vs) (h : getS s.sl t = some (.v (.pointer (some ⟨g, 0, none⟩))) := by rfl) (hs : T.siz ty = some (n, true) := by rfl) (hm : ⟨g, ty', cs⟩ ∈ s.bl := by exact Mm) (hl : cs.length = n := by rfl) : ResVs T s (.cell t ty :: rs) (.agg ⟨cs⟩ :: vs) := .cons (.agg h hs hm hl) hr
theorem Re {X : Type} {rs : List ResultVar} {val : X → Value} {post : X → List Pred} {L' : X → Lent} (x : X) {vs : List Value} (h1 : ResVs T s rs vs) (h2 : val x = ug vs := by rfl) (h3 : SubM s.fa (post x) := by exact Sm) (h4 : SubP s.bl (L' x).bl := by exact Sb) (h5 : SubP s.ow (L' x).ow := by exact Sb) : finQ T rs val post L' .ret s := ⟨x, vs, h1, h2, h3, h4, h5⟩
theorem Ra {d : Nat} {v : Value} {fp : Nat → Option (List Nat)} {fuel : Nat} {listed : Array Bool} (i : Nat) (hi : ops[i]? = some o) (hq : Quiet P T SL BL FA o true v) (h : RW P T C ops (.an fp fuel (listed.setIfInBounds i true)) ⟨N, (d, .v v) :: SL, BL, OW, FA⟩ Q) (hg : o.guard = none := by rfl) (hd : o.dst = some d := by rfl) (hn : Nat.blt d N = true := by rfl)
  (hs : Region.noSelect ops = true := by kernel_rfl) (hf : Region.free .any ops listed i = true := by kernel_rfl) (hr : (Region.ready .any ops listed).contains i = true := by kernel_rfl) (hD : sumO fp (others ops listed i) = some [] := by kernel_rfl) : RW P T C ops (.an fp (fuel + 1) listed) ⟨N, SL, BL, OW, FA⟩ Q :=
 ra_q (D := []) (hD ▸ fP.an hi hs hf hr rfl) (fe.all _) (by simp) hg hd hn hq h
theorem Rb {d : Nat} {v : Value} {fp : Nat → Option (List Nat)} {fuel : Nat} {listed : Array Bool} (i : Nat) (hi : ops[i]? = some o) (hq : Quiet P T SL BL FA o true v) (h : RW P T C ops (.an fp fuel (listed.setIfInBounds i true)) ⟨N, (d, .v v) :: SL, BL, OW, FA⟩ Q) (hg : o.guard = none := by rfl) (hd : o.dst = some d := by rfl) (hn : Nat.blt d N = true := by rfl)
  (hs : Region.noSelect ops = true := by kernel_rfl) (hf : Region.free .any ops listed i = true := by kernel_rfl) (hr : (Region.ready .any ops listed).contains i = true := by kernel_rfl) (hB : ji ops listed i (behinds ops listed i) = true := by kernel_rfl) (hD : sumO fp ((others ops listed i).filter fun j => !(behinds ops listed i).contains j) = some [] := by kernel_rfl) : RW P T C ops (.an fp (fuel + 1) listed) ⟨N, SL, BL, OW, FA⟩ Q :=
 ra_q (D := []) (hD ▸ fP.ab _ hi hs hf hr hB rfl) (fe.all _) (by simp) hg hd hn hq h
theorem Ga {d : Nat} {v : Value} {G : Bool} {fp : Nat → Option (List Nat)} {fuel : Nat} {listed : Array Bool} (i : Nat) (hi : ops[i]? = some o) (hG : Guard ops SL o G) (hq : Quiet P T SL BL FA o G v) (h : RW P T C ops (.an fp fuel (listed.setIfInBounds i true)) ⟨N, (d, .o G v) :: SL, BL, OW, FA⟩ Q) (hd : o.dst = some d := by rfl) (hn : Nat.blt d N = true := by rfl)
  (hs : Region.noSelect ops = true := by kernel_rfl) (hf : Region.free .any ops listed i = true := by kernel_rfl) (hr : (Region.ready .any ops listed).contains i = true := by kernel_rfl) (hD : sumO fp (others ops listed i) = some [] := by kernel_rfl) : RW P T C ops (.an fp (fuel + 1) listed) ⟨N, SL, BL, OW, FA⟩ Q :=
 ra_qg (D := []) (hD ▸ fP.an hi hs hf hr rfl) (fe.all _) (by simp) hG hd hn hq h
theorem Gb {d : Nat} {v : Value} {G : Bool} {fp : Nat → Option (List Nat)} {fuel : Nat} {listed : Array Bool} (i : Nat) (hi : ops[i]? = some o) (hG : Guard ops SL o G) (hq : Quiet P T SL BL FA o G v) (h : RW P T C ops (.an fp fuel (listed.setIfInBounds i true)) ⟨N, (d, .o G v) :: SL, BL, OW, FA⟩ Q) (hd : o.dst = some d := by rfl) (hn : Nat.blt d N = true := by rfl)
  (hs : Region.noSelect ops = true := by kernel_rfl) (hf : Region.free .any ops listed i = true := by kernel_rfl) (hr : (Region.ready .any ops listed).contains i = true := by kernel_rfl) (hB : ji ops listed i (behinds ops listed i) = true := by kernel_rfl) (hD : sumO fp ((others ops listed i).filter fun j => !(behinds ops listed i).contains j) = some [] := by kernel_rfl) : RW P T C ops (.an fp (fuel + 1) listed) ⟨N, SL, BL, OW, FA⟩ Q :=
 ra_qg (D := []) (hD ▸ fP.ab _ hi hs hf hr hB rfl) (fe.all _) (by simp) hG hd hn hq h
theorem Qp {g G : Bool} {v : Value} (he : pev T SL o.op = some (g, v) := by rfl) (hgt : G = true → g = true := by exact fun _ => rfl) : Quiet P T SL BL FA o G v := q_pev he hgt
structure Ls where
 sl : Slots
 bl : List Blk
 ow : List Own
 fa : List Pred
 inv : Prop
 mu : Nat
def loopD {ι : Type} (C : Cx) (N : Nat) (d : ι → Ls) (SL' : Slots) (BL' : List Blk) (FA : List Pred) (i : ι) (Q : Post) : Post
 | .normal, s' => ∃ j, (d j).inv ∧ (d j).mu < (d i).mu ∧ Le C s' ⟨N, (d j).sl ++ SL', (d j).bl ++ BL', (d j).ow, (d j).fa ++ FA⟩
 | e, s' => Q e s'
theorem Sn : Sel SL [] [] := .nil _
theorem Sc {n : Nat} {x : SV} {r : List Nat} {s' : Slots} (hr : Sel SL r s') (h : getS SL n = some x := by rfl) : Sel SL (n :: r) ((n, x) :: s') := .cons h hr
theorem Lp {ι : Type} (keep : List Nat) (mask : List Bool) (d : ι → Ls) (i0 : ι) {b : Code} {SL' : Slots} {BL' : List Blk} (hsel : Sel SL keep SL') (hB : SelB BL mask BL') (h0 : (d i0).inv) (hs : Le C ⟨N, SL, BL, OW, FA⟩ ⟨N, (d i0).sl ++ SL', (d i0).bl ++ BL', (d i0).ow, (d i0).fa ++ FA⟩)
  (h : ∀ i, (d i).inv → CW P T C b ⟨N, (d i).sl ++ SL', (d i).bl ++ BL', (d i).ow, (d i).fa ++ FA⟩ (loopD C N d SL' BL' FA i Q)) : CW P T C (.loop b) ⟨N, SL, BL, OW, FA⟩ Q :=
 vJ keep mask (fun i => (d i).sl) (fun i => (d i).bl) (fun i => (d i).ow) (fun i => (d i).fa) (fun i => (d i).inv) (fun i => (d i).mu) i0 hsel hB h0 hs fun i hi => rM (fun e s' hq => by
  cases e with
  | normal => exact hq
  | exit i => exact hq
  | ret => exact hq
  | goto l => exact hq
  | panic c => exact hq
  | outgrown => exact hq) (h i hi)
end
end Go.Proofs.YtkjccbdeaflekaaGreatDoor.Fw

namespace Go.Proofs.YtkjccbdeaflekaaGreatDoor.Fw
open Go Go.RowKit
abbrev Z0 : SlV := ⟨none, 0⟩
def Rs {A : Type} (R U : A) : Prop := R = U
theorem Rs.to {A : Type} {R U : A} (h : Rs R U) : R = U := h
theorem Rs.symm {A : Type} {R U : A} (h : Rs R U) : U = R := Eq.symm h
theorem Ri {A : Type} {R U : A} (h : R = U) : Rs R U := h
section
variable {P : Program} {T : Tab} {C : Cx} {ops : Array Oper} {o : Oper} {r r' : RS} {s : St} {Q : Post} {N : Nat} {SL : Slots} {BL : List Blk} {OW : List Own} {FA : List Pred} {c : Code}
theorem isB {l : List Oper} {b : BinOp} {t t' : Nat} {x y : Operand} (_ : o.op = .binOp b t x y t') (h : RW P T C ops (.sq (o :: l)) s Q) : RW P T C ops (.sq (o :: l)) s Q := h
theorem Zg {b : Bool} {A : Prop} (h : b = true → A := by first | (intro _; omega) | (intro h; simp at h; omega) | (intro _; decide)) : b = true → A := h
theorem Tz {q p : Prop} (f : q → p := by
  intro hq_
  repeat (first
   | refine Rp rfl rfl rfl rfl ?_
   | (refine isR ?_; first
     | refine dD ?_
     | (refine isG rfl ?_; first
       | refine rw_qg (dR rfl rfl rfl) rfl rfl (q_pev rfl Bt) ?_
       | refine rw_qg (ci rfl rfl rfl) rfl rfl (q_pev rfl Bt) ?_
       | refine rw_qg (dm rfl rfl rfl) rfl rfl (q_pev rfl Bt) ?_
       | refine rw_qg (ej rfl rfl rfl) rfl rfl (q_pev rfl Bt) ?_
       | (refine isL rfl ?_; first
         | refine rw_qg (dR rfl rfl rfl) rfl rfl (q_ld1 rfl rfl Bt rfl Mm rfl) ?_
         | refine rw_qg (ci rfl rfl rfl) rfl rfl (q_ld1 rfl rfl Bt rfl Mm rfl) ?_
         | refine rw_qg (dm rfl rfl rfl) rfl rfl (q_ld1 rfl rfl Bt rfl Mm rfl) ?_
         | refine rw_qg (ej rfl rfl rfl) rfl rfl (q_ld1 rfl rfl Bt rfl Mm rfl) ?_
         | refine rw_qg (dR rfl rfl rfl) rfl rfl (q_ldA rfl rfl Bt rfl Mm rfl) ?_
         | refine rw_qg (ci rfl rfl rfl) rfl rfl (q_ldA rfl rfl Bt rfl Mm rfl) ?_
         | refine rw_qg (dm rfl rfl rfl) rfl rfl (q_ldA rfl rfl Bt rfl Mm rfl) ?_
         | refine rw_qg (ej rfl rfl rfl) rfl rfl (q_ldA rfl rfl Bt rfl Mm rfl) ?_
         | refine rw_qg (dR rfl rfl rfl) rfl rfl (q_ldP rfl rfl Bt rfl Mm rfl) ?_
         | refine rw_qg (ci rfl rfl rfl) rfl rfl (q_ldP rfl rfl Bt rfl Mm rfl) ?_
         | refine rw_qg (dm rfl rfl rfl) rfl rfl (q_ldP rfl rfl Bt rfl Mm rfl) ?_
         | refine rw_qg (ej rfl rfl rfl) rfl rfl (q_ldP rfl rfl Bt rfl Mm rfl) ?_)
       | (refine isB rfl ?_; first
         | refine rw_qg (dR rfl rfl rfl) rfl rfl (q_add rfl rfl Bt rfl Bt Zg) ?_
         | refine rw_qg (ci rfl rfl rfl) rfl rfl (q_add rfl rfl Bt rfl Bt Zg) ?_
         | refine rw_qg (dm rfl rfl rfl) rfl rfl (q_add rfl rfl Bt rfl Bt Zg) ?_
         | refine rw_qg (ej rfl rfl rfl) rfl rfl (q_add rfl rfl Bt rfl Bt Zg) ?_
         | refine rw_qg (dR rfl rfl rfl) rfl rfl (q_sub rfl rfl Bt rfl Bt Zg) ?_
         | refine rw_qg (ci rfl rfl rfl) rfl rfl (q_sub rfl rfl Bt rfl Bt Zg) ?_
         | refine rw_qg (dm rfl rfl rfl) rfl rfl (q_sub rfl rfl Bt rfl Bt Zg) ?_
         | refine rw_qg (ej rfl rfl rfl) rfl rfl (q_sub rfl rfl Bt rfl Bt Zg) ?_))
     | (refine isL rfl ?_; first
       | refine rw_q rfl rfl rfl (q_ld1 rfl rfl (fun _ => rfl) rfl Mm rfl) ?_
       | refine rw_q rfl rfl rfl (q_ldA rfl rfl (fun _ => rfl) rfl Mm rfl) ?_
       | refine rw_q rfl rfl rfl (q_ldP rfl rfl (fun _ => rfl) rfl Mm rfl) ?_
       | refine rw_q rfl rfl rfl (q_lf1 rfl rfl (fun _ => rfl) rfl Mm rfl) ?_
       | refine rw_q rfl rfl rfl (q_lfA rfl rfl (fun _ => rfl) rfl Mm rfl) ?_
       | refine rw_q rfl rfl rfl (q_lfP rfl rfl (fun _ => rfl) rfl Mm rfl) ?_)
     | (refine isS rfl ?_; first
       | refine sh .sq (.inl ⟨_, rfl⟩) (al rfl) rfl rfl rfl rfl rfl rfl rfl rfl rfl Ub rfl ?_
       | refine si .sq (.inl ⟨_, rfl⟩) (al rfl) rfl rfl rfl rfl rfl rfl rfl rfl rfl Ub rfl ?_)
     | (refine isB rfl ?_; first
       | refine rw_q rfl rfl rfl (q_add rfl rfl (fun _ => rfl) rfl (fun _ => rfl) Zg) ?_
       | refine rw_q rfl rfl rfl (q_sub rfl rfl (fun _ => rfl) rfl (fun _ => rfl) Zg) ?_)
     | refine rw_q rfl rfl rfl (q_pev rfl Bt) ?_)
   | (refine isC ?_; first
     | refine aD ?_
     | refine mv ?_
     | refine pU ?_
     | refine nB ?_
     | refine uT ?_))
  exact hq_) : q → p := f
theorem Cd' {p : Prop} {k : Operand} {x y : Code} {g0 b : Bool} (ht : b = true → CW P T C x ⟨N, SL, BL, OW, FA⟩ Q) (hf : b = false → CW P T C y ⟨N, SL, BL, OW, FA⟩ Q) (f : CW P T C (.cond k x y) ⟨N, SL, BL, OW, FA⟩ Q → p := by exact Tz) (he : ev SL k = some (g0, .bool b) := by rfl) (hg : g0 = true := by rfl) : p := f (ij he hg ht hf)
section
variable {A : Type} {R U V : A} {p : Prop} {k : Operand} {x y : Code} {g0 : Bool}
theorem Ch {b : Bool} (hR : Rs R (bif b then U else V)) (ht : b = true → Rs R U → CW P T C x ⟨N, SL, BL, OW, FA⟩ Q) (hf : b = false → Rs R V → CW P T C y ⟨N, SL, BL, OW, FA⟩ Q) (f : CW P T C (.cond k x y) ⟨N, SL, BL, OW, FA⟩ Q → p := by exact Tz) (he : ev SL k = some (g0, .bool b) := by rfl) (hg : g0 = true := by rfl) : p :=
 f (ij he hg (fun h => ht h (hR.to.trans (by rw [h]; rfl))) (fun h => hf h (hR.to.trans (by rw [h]; rfl))))
theorem Cp {B : Prop} [Decidable B] (hR : Rs R (bif decide B then U else V)) (ht : decide B = true → B → Rs R U → CW P T C x ⟨N, SL, BL, OW, FA⟩ Q) (hf : decide B = false → ¬B → Rs R V → CW P T C y ⟨N, SL, BL, OW, FA⟩ Q) (f : CW P T C (.cond k x y) ⟨N, SL, BL, OW, FA⟩ Q → p := by exact Tz) (he : ev SL k = some (g0, .bool (decide B)) := by rfl) (hg : g0 = true := by rfl) : p :=
 Ch hR (fun h => ht h (of_decide_eq_true h)) (fun h => hf h (of_decide_eq_false h)) f he hg
theorem Cn {B : Type} [BEq B] [LawfulBEq B] {a b : B} (hR : Rs R (bif (a != b) then U else V)) (ht : (a != b) = true → a ≠ b → Rs R U → CW P T C x ⟨N, SL, BL, OW, FA⟩ Q) (hf : (a != b) = false → a = b → Rs R V → CW P T C y ⟨N, SL, BL, OW, FA⟩ Q) (f : CW P T C (.cond k x y) ⟨N, SL, BL, OW, FA⟩ Q → p := by exact Tz) (he : ev SL k = some (g0, .bool (a != b)) := by rfl) (hg : g0 = true := by rfl) : p :=
 Ch hR (fun h => ht h (bne_iff_ne.1 h)) (fun h => hf h (ai h)) f he hg
theorem Ce {B : Type} [BEq B] [LawfulBEq B] {a b : B} (hR : Rs R (bif (a == b) then U else V)) (ht : (a == b) = true → a = b → Rs R U → CW P T C x ⟨N, SL, BL, OW, FA⟩ Q) (hf : (a == b) = false → a ≠ b → Rs R V → CW P T C y ⟨N, SL, BL, OW, FA⟩ Q) (f : CW P T C (.cond k x y) ⟨N, SL, BL, OW, FA⟩ Q → p := by exact Tz) (he : ev SL k = some (g0, .bool (a == b)) := by rfl) (hg : g0 = true := by rfl) : p :=
 Ch hR (fun h => ht h (eq_of_beq h)) (fun h => hf h (ne_of_beq_false h)) f he hg
theorem Cu {n m : Nat} (ht : n < m → CW P T C x ⟨N, SL, BL, OW, FA⟩ Q) (hf : m ≤ n → CW P T C y ⟨N, SL, BL, OW, FA⟩ Q) (f : CW P T C (.cond k x y) ⟨N, SL, BL, OW, FA⟩ Q → p := by exact Tz) (he : ev SL k = some (g0, .bool (decide ((n : Int) < (m : Int)))) := by rfl) (hg : g0 = true := by rfl) : p :=
 f (ij he hg (fun h => ht (Int.ofNat_lt.1 (of_decide_eq_true h))) (fun h => hf (by have := of_decide_eq_false h; omega)))
theorem Bt_ {b : Bool} (h : Rs R (bif b then U else V)) (hb : b = true) : Rs R U := h.to.trans (by rw [hb]; rfl)
theorem Bf_ {b : Bool} (h : Rs R (bif b then U else V)) (hb : b = false) : Rs R V := h.to.trans (by rw [hb]; rfl)
end
theorem Tr {p : Prop} (h : Q .ret s) (f : CW P T C .ret s Q → p := by exact Tz) : p := f (di h)
theorem Rv {rs : List ResultVar} {vs : List Value} (h : ResVs T s rs vs := by first | exact Vt Vn | exact Va (Vt Vn) | exact Va Vn | exact Vt (Vt Vn) | exact Vt (Vt (Vt Vn)) | exact Va (Va (Vt Vn)) | exact Va (Vt (Vt Vn)) | exact Vt (Va (Vt Vn)) | exact Vt (Va Vn)) : ResVs T s rs vs := h
def Mk (q : Prop) : Prop := q
theorem Mk.of {q : Prop} (h : Mk q) : q := h
theorem Ru {p : Prop} (h : p := by refine Tr ?_; rw [hf.to]; exact Re () Rv) : p := h
theorem Rx {p q : Prop} (h : q) (f : Mk q → p := by intro hq_; refine Tr ?_; rw [hf.to]; exact hq_) : p := f h
inductive Fy (ops : Array Oper) : RS → Oper → RS → (List Nat → Prop) → Prop
 | sq {o : Oper} {l : List Oper} : Fy ops (.sq (o :: l)) o (.sq l) (fun _ => True)
 | an {fp : Nat → Option (List Nat)} {fuel : Nat} {listed : Array Bool} {i : Nat} {o : Oper} {D : List Nat} (hi : ops[i]? = some o) (hD : fp i = some D) : Fy ops (.at_ fp fuel listed i) o (.an fp fuel (listed.setIfInBounds i true)) (fun ids => ∀ g ∈ ids, g ∈ D)
 | lo {fp : Nat → Option (List Nat)} {fuel : Nat} {listed : Array Bool} {i : Nat} {o : Oper} (hi : ops[i]? = some o) (hD : fp i = none) : Fy ops (.at_ fp fuel listed i) o (.an fp fuel (listed.setIfInBounds i true)) (fun _ => True)
theorem Fy.to {ids : List Nat} {K : List Nat → Prop} (h : Fy ops r o r' K) (hk : K ids) : ∃ D, Front ops r o D r' ∧ ((∃ l, r = .sq l) ∨ ∀ g ∈ ids, g ∈ D) := by
 cases h with
 | sq => exact ⟨_, .sq, .inl ⟨_, rfl⟩⟩
 | an hi hD => exact ⟨_, .an hi hD, .inr hk⟩
 | lo hi hD => exact ⟨ids, .lo ids hi hD, .inr fun _ h => h⟩
theorem Fo {K : List Nat → Prop} (h : Fy ops r o r' K := by first | exact .sq | exact .an rfl rfl | exact .lo rfl rfl) : Fy ops r o r' K := h
theorem Fp {p : Prop} (h : p := by first | exact trivial | exact fun _ h => h | exact fun _ h => nomatch h | (simp [Lent.ids]; done) | (intro g h; simp [Lent.ids] at h; simp [h]; done)) : p := h
theorem Tt {p q : Prop} (h : q) (f : Mk q → p := by exact Tz) : p := f h
def An (P : Program) (T : Tab) (C : Cx) (ops : Array Oper) (_ : List Nat) (r : RS) (s : St) (Q : Post) : Prop := RW P T C ops r s Q
theorem An.nil (h : RW P T C ops r s Q) : An P T C ops [] r s Q := h
theorem agG {i : Nat} {is : List Nat} {j : Nat × Bool} (_ : ops[i]? = some o) (_ : o.guard = some j) (h : An P T C ops (i :: is) r s Q) : An P T C ops (i :: is) r s Q := h
theorem Db {d : Nat} {v : Value} {fp : Nat → Option (List Nat)} {fuel : Nat} {listed : Array Bool} {i : Nat} {is : List Nat} (hi : ops[i]? = some o) (hq : Quiet P T SL BL FA o true v) (h : An P T C ops is (.an fp fuel (listed.setIfInBounds i true)) ⟨N, (d, .v v) :: SL, BL, OW, FA⟩ Q) (hg : o.guard = none := by rfl) (hd : o.dst = some d := by rfl) (hn : Nat.blt d N = true := by rfl)
  (hs : Region.noSelect ops = true := by kernel_rfl) (hf : Region.free .any ops listed i = true := by kernel_rfl) (hr : (Region.ready .any ops listed).contains i = true := by kernel_rfl) (hB : ji ops listed i (behinds ops listed i) = true := by kernel_rfl) (hD : sumO fp ((others ops listed i).filter fun j => !(behinds ops listed i).contains j) = some [] := by kernel_rfl) : An P T C ops (i :: is) (.an fp (fuel + 1) listed) ⟨N, SL, BL, OW, FA⟩ Q := Rb i hi hq h hg hd hn hs hf hr hB hD
theorem Dg {d : Nat} {v : Value} {G : Bool} {fp : Nat → Option (List Nat)} {fuel : Nat} {listed : Array Bool} {i : Nat} {is : List Nat} (hi : ops[i]? = some o) (hG : Guard ops SL o G) (hq : Quiet P T SL BL FA o G v) (h : An P T C ops is (.an fp fuel (listed.setIfInBounds i true)) ⟨N, (d, .o G v) :: SL, BL, OW, FA⟩ Q) (hd : o.dst = some d := by rfl) (hn : Nat.blt d N = true := by rfl)
  (hs : Region.noSelect ops = true := by kernel_rfl) (hf : Region.free .any ops listed i = true := by kernel_rfl) (hr : (Region.ready .any ops listed).contains i = true := by kernel_rfl) (hB : ji ops listed i (behinds ops listed i) = true := by kernel_rfl) (hD : sumO fp ((others ops listed i).filter fun j => !(behinds ops listed i).contains j) = some [] := by kernel_rfl) : An P T C ops (i :: is) (.an fp (fuel + 1) listed) ⟨N, SL, BL, OW, FA⟩ Q := Gb i hi hG hq h hd hn hs hf hr hB hD
theorem Dx (is : List Nat) {q : Prop} (h : q) (f : Mk q → An P T C ops is r s Q := by
  intro hq_
  repeat (first
   | (refine agG rfl rfl ?_; first
     | refine Dg rfl (dR rfl rfl rfl) (q_pev rfl Bt) ?_
     | refine Dg rfl (ci rfl rfl rfl) (q_pev rfl Bt) ?_
     | refine Dg rfl (dm rfl rfl rfl) (q_pev rfl Bt) ?_
     | refine Dg rfl (ej rfl rfl rfl) (q_pev rfl Bt) ?_
     | refine Dg rfl (dR rfl rfl rfl) (q_ld1 rfl rfl Bt rfl Mm rfl) ?_
     | refine Dg rfl (ci rfl rfl rfl) (q_ld1 rfl rfl Bt rfl Mm rfl) ?_
     | refine Dg rfl (dm rfl rfl rfl) (q_ld1 rfl rfl Bt rfl Mm rfl) ?_
     | refine Dg rfl (ej rfl rfl rfl) (q_ld1 rfl rfl Bt rfl Mm rfl) ?_
     | refine Dg rfl (dR rfl rfl rfl) (q_ldA rfl rfl Bt rfl Mm rfl) ?_
     | refine Dg rfl (ci rfl rfl rfl) (q_ldA rfl rfl Bt rfl Mm rfl) ?_
     | refine Dg rfl (dm rfl rfl rfl) (q_ldA rfl rfl Bt rfl Mm rfl) ?_
     | refine Dg rfl (ej rfl rfl rfl) (q_ldA rfl rfl Bt rfl Mm rfl) ?_
     | refine Dg rfl (dR rfl rfl rfl) (q_ldP rfl rfl Bt rfl Mm rfl) ?_
     | refine Dg rfl (ci rfl rfl rfl) (q_ldP rfl rfl Bt rfl Mm rfl) ?_
     | refine Dg rfl (dm rfl rfl rfl) (q_ldP rfl rfl Bt rfl Mm rfl) ?_
     | refine Dg rfl (ej rfl rfl rfl) (q_ldP rfl rfl Bt rfl Mm rfl) ?_
     | refine Dg rfl (dR rfl rfl rfl) (q_fae rfl rfl Bt rfl rfl) ?_
     | refine Dg rfl (ci rfl rfl rfl) (q_fae rfl rfl Bt rfl rfl) ?_
     | refine Dg rfl (dm rfl rfl rfl) (q_fae rfl rfl Bt rfl rfl) ?_
     | refine Dg rfl (ej rfl rfl rfl) (q_fae rfl rfl Bt rfl rfl) ?_
     | refine Dg rfl (dR rfl rfl rfl) (q_add rfl rfl Bt rfl Bt Zg) ?_
     | refine Dg rfl (ci rfl rfl rfl) (q_add rfl rfl Bt rfl Bt Zg) ?_
     | refine Dg rfl (dm rfl rfl rfl) (q_add rfl rfl Bt rfl Bt Zg) ?_
     | refine Dg rfl (ej rfl rfl rfl) (q_add rfl rfl Bt rfl Bt Zg) ?_
     | refine Dg rfl (dR rfl rfl rfl) (q_sub rfl rfl Bt rfl Bt Zg) ?_
     | refine Dg rfl (ci rfl rfl rfl) (q_sub rfl rfl Bt rfl Bt Zg) ?_
     | refine Dg rfl (dm rfl rfl rfl) (q_sub rfl rfl Bt rfl Bt Zg) ?_
     | refine Dg rfl (ej rfl rfl rfl) (q_sub rfl rfl Bt rfl Bt Zg) ?_)
   | (first
    | refine Db rfl (q_pev rfl (fun _ => rfl)) ?_
    | refine Db rfl (q_ld1 rfl rfl (fun _ => rfl) rfl Mm rfl) ?_
    | refine Db rfl (q_ldA rfl rfl (fun _ => rfl) rfl Mm rfl) ?_
    | refine Db rfl (q_ldP rfl rfl (fun _ => rfl) rfl Mm rfl) ?_
    | refine Db rfl (q_fae rfl rfl (fun _ => rfl) rfl rfl) ?_
    | refine Db rfl (q_add rfl rfl (fun _ => rfl) rfl (fun _ => rfl) Zg) ?_
    | refine Db rfl (q_sub rfl rfl (fun _ => rfl) rfl (fun _ => rfl) Zg) ?_
    | refine Db rfl (q_pev rfl Bt) ?_))
  exact An.nil (Mk.of hq_)) : RW P T C ops r s Q := f h
theorem Rn {fp : Nat → Option (List Nat)} {fuel : Nat} {listed : Array Bool} (i : Nat) (h : RW P T C ops (.at_ fp fuel listed i) s Q) (hr : Region.ready .any ops listed = [i] := by kernel_rfl) : RW P T C ops (.an fp (fuel + 1) listed) s Q := ra_one i hr h
theorem Rw {fp : Nat → Option (List Nat)} {fuel : Nat} {listed : Array Bool} (i j : Nat) (h : RW P T C ops (.at_ fp fuel listed i) s Q) (h' : RW P T C ops (.at_ fp fuel listed j) s Q) (hr : Region.ready .any ops listed = [i, j] := by kernel_rfl) : RW P T C ops (.an fp (fuel + 1) listed) s Q := ra_two i j hr h h'
theorem Re0 {fp : Nat → Option (List Nat)} {fuel : Nat} {listed : Array Bool} (h : Q .normal s) (hr : Region.ready .any ops listed = [] := by kernel_rfl) : RW P T C ops (.an fp fuel listed) s Q := ra_nil hr h
theorem Fa {fp : Nat → Option (List Nat)} {fuel : Nat} {listed : Array Bool} (i : Nat) (js : List Nat) (hi : ops[i]? = some o := by rfl)
  (hs : Region.noSelect ops = true := by kernel_rfl) (hf : Region.free .any ops listed i = true := by kernel_rfl) (hr : (Region.ready .any ops listed).contains i = true := by kernel_rfl) (hj : others ops listed i = js := by kernel_rfl) : fP ops (.an fp (fuel + 1) listed) o (sumO fp js) (.an fp fuel (listed.setIfInBounds i true)) := fP.an hi hs hf hr hj
theorem Fb {fp : Nat → Option (List Nat)} {fuel : Nat} {listed : Array Bool} (i : Nat) (js : List Nat) (hi : ops[i]? = some o := by rfl)
  (hs : Region.noSelect ops = true := by kernel_rfl) (hf : Region.free .any ops listed i = true := by kernel_rfl) (hr : (Region.ready .any ops listed).contains i = true := by kernel_rfl) (hB : ji ops listed i (behinds ops listed i) = true := by kernel_rfl) (hj : ((others ops listed i).filter fun j => !(behinds ops listed i).contains j) = js := by kernel_rfl) : fP ops (.an fp (fuel + 1) listed) o (sumO fp js) (.an fp fuel (listed.setIfInBounds i true)) := fP.ab _ hi hs hf hr hB hj
theorem Sa {l : List Blk} : fe l l [] := fe.all l
theorem Bz {G g : Bool} (h : G = true → g = true := by first | exact fun _ => rfl | exact Bt) : G = true → g = true := h
theorem Zi {G : Bool} {A : Prop} (h : G = true → A := by first | exact fun _ => rfl | (intro _; first | assumption | omega) | (intro h; first | omega | rfl | (simp at h; omega))) : G = true → A := h
theorem Zk {G : Bool} {A : Prop} (h : G = true → A := by first | (intro _; first | assumption | omega | (simp only [List.length_set]; omega)) | (intro h; simp at h; omega)) : G = true → A := h
theorem Xi {α : Type} (E : El α) {esz c t e n : Nat} {x y : Operand} {g0 g1 G b : Bool} {k : IntKind} {A : Option Addr} {l : List α} {iv : Int} (i : Nat) (ho : o.op = .indexAddr t x y := by rfl)
  (he : ev SL x = some (g0, .slice A n c) := by rfl) (hg0 : G = true → g0 = true := by exact Bz) (hy : ev SL y = some (g1, .int k iv) := by rfl) (hg1 : G = true → g1 = true := by exact Bz)
  (ht : T.slc t = some e := by rfl) (hz : T.siz e = some (esz, b) := by rfl) (hes : E.esz = esz := by rfl) (hm : RdL E ⟨A, c⟩ l ∈ FA := by exact Mm) (hn : n = l.length := by rfl) (hi : G = true → iv = (i : Int) := by exact Zi) (hlt : G = true → i < l.length := by exact Zk) :
  Quiet P T SL BL FA o G (.pointer (some (epA A i esz 0))) := q_idx E i ho he hg0 hy hg1 ht hz hes hm hn hi hlt
theorem Xn {α : Type} (EN : En α) {γ : Nat → EN.G} {esz c t e n : Nat} {x y : Operand} {g0 g1 G b : Bool} {k : IntKind} {A : Option Addr} {l : List α} {iv : Int} (i : Nat) (ho : o.op = .indexAddr t x y := by rfl)
  (he : ev SL x = some (g0, .slice A n c) := by rfl) (hg0 : G = true → g0 = true := by exact Bz) (hy : ev SL y = some (g1, .int k iv) := by rfl) (hg1 : G = true → g1 = true := by exact Bz)
  (ht : T.slc t = some e := by rfl) (hz : T.siz e = some (esz, b) := by rfl) (hes : EN.E.esz = esz := by rfl) (hm : RdG EN ⟨A, c⟩ γ l ∈ FA := by exact Mm) (hn : n = l.length := by rfl) (hi : G = true → iv = (i : Int) := by exact Zi) (hlt : G = true → i < l.length := by exact Zk) :
  Quiet P T SL BL FA o G (.pointer (some (epA A i esz 0))) := fm EN γ i ho he hg0 hy hg1 ht hz hes hm hn hi hlt
theorem Xa {α : Type} [Inhabited α] (E : El α) {esz c t : Nat} {x : Operand} {g0 G : Bool} {A : Option Addr} {l : List α} {i : Nat} (ho : o.op = .load t x := by rfl)
  (he : ev SL x = some (g0, .pointer (some (epA A i esz 0))) := by rfl) (hg0 : G = true → g0 = true := by exact Bz) (hs : T.siz t = some (esz, true) := by rfl) (hes : E.esz = esz := by rfl) (hm : RdL E ⟨A, c⟩ l ∈ FA := by exact Mm) (hlt : G = true → i < l.length := by exact Zk) : Quiet P T SL BL FA o G (.agg ⟨E.enc (gt l i)⟩) := q_leA E ho he hg0 hs hes hm hlt
theorem X1 {α : Type} [Inhabited α] (E : El α) {esz c t n off : Nat} {x : Operand} {g0 G : Bool} {A : Option Addr} {l : List α} {i : Nat} {v : Value} (ho : o.op = .load t x := by rfl)
  (he : ev SL x = some (g0, .pointer (some (epA A i esz off))) := by rfl) (hg0 : G = true → g0 = true := by exact Bz) (hs : T.siz t = some (n, false) := by rfl) (hes : E.esz = esz := by rfl) (hm : RdL E ⟨A, c⟩ l ∈ FA := by exact Mm) (hlt : G = true → i < l.length := by exact Zk)
  (hv : (E.enc (gt l i))[off]? = some v := by rfl) : Quiet P T SL BL FA o G v := q_le1 E ho he hg0 hs hes hm hlt hv
theorem Xf {t f g0n o' ft : Nat} {x : Operand} {g0 G : Bool} {A : Option Addr} {i esz off : Nat} {b : Bool} (ho : o.op = .fieldAddr t x f := by rfl) (he : ev SL x = some (g0, .pointer (some (epA A i esz off))) := by rfl) (hg0 : G = true → g0 = true := by exact Bz)
  (hf : T.fld t f = some (o', ft) := by rfl) (hz : T.siz ft = some (g0n + 1, b) := by rfl) : Quiet P T SL BL FA o G (.pointer (some (epA A i esz (off + o')))) := q_fae ho he hg0 hf hz
theorem Xp {t t' : Nat} {x y : Operand} {g0 g1 G : Bool} {a b : Int} (ho : o.op = .binOp .add t x y t' := by rfl) (he : ev SL x = some (g0, .int .i64 a) := by rfl) (hg0 : G = true → g0 = true := by exact Bz)
  (hy : ev SL y = some (g1, .int .i64 b) := by rfl) (hg1 : G = true → g1 = true := by exact Bz) (hb : G = true → -9223372036854775808 ≤ a + b ∧ a + b ≤ 9223372036854775807 := by exact Zg) : Quiet P T SL BL FA o G (.int .i64 (a + b)) := q_add ho he hg0 hy hg1 hb
theorem Xm {t t' : Nat} {x y : Operand} {g0 g1 G : Bool} {a b : Int} (ho : o.op = .binOp .sub t x y t' := by rfl) (he : ev SL x = some (g0, .int .i64 a) := by rfl) (hg0 : G = true → g0 = true := by exact Bz)
  (hy : ev SL y = some (g1, .int .i64 b) := by rfl) (hg1 : G = true → g1 = true := by exact Bz) (hb : G = true → -9223372036854775808 ≤ a - b ∧ a - b ≤ 9223372036854775807 := by exact Zg) : Quiet P T SL BL FA o G (.int .i64 (a - b)) := q_sub ho he hg0 hy hg1 hb
theorem Xv {g G : Bool} {v : Value} (he : pev T SL o.op = some (g, v) := by rfl) (hgt : G = true → g = true := by exact Bz) : Quiet P T SL BL FA o G v := q_pev he hgt
theorem XA {t : Nat} {x : Operand} {g0 G : Bool} {g n t' : Nat} {cs : List Value} (ho : o.op = .load t x := by rfl) (he : ev SL x = some (g0, .pointer (some ⟨g, 0, none⟩)) := by rfl) (hg0 : G = true → g0 = true := by exact Bz) (hs : T.siz t = some (n, true) := by rfl) (hm : ⟨g, t', cs⟩ ∈ BL := by exact Mm) (hl : cs.length = n := by rfl) : Quiet P T SL BL FA o G (.agg ⟨cs⟩) := q_ldA ho he hg0 hs hm hl
theorem Sq {d : Nat} {v : Value} {l : List Oper} (hq : Quiet P T SL BL FA o true v) (h : RW P T C ops (.sq l) ⟨N, (d, .v v) :: SL, BL, OW, FA⟩ Q) (hg : o.guard = none := by rfl) (hd : o.dst = some d := by rfl) (hn : Nat.blt d N = true := by rfl) : RW P T C ops (.sq (o :: l)) ⟨N, SL, BL, OW, FA⟩ Q := rw_q hg hd hn hq h
theorem Sy {p : Prop} {d : Nat} {v : Value} {l : List Oper} (f : RW P T C ops (.sq (o :: l)) ⟨N, SL, BL, OW, FA⟩ Q → p) (hq : Quiet P T SL BL FA o true v) (h : RW P T C ops (.sq l) ⟨N, (d, .v v) :: SL, BL, OW, FA⟩ Q) (hg : o.guard = none := by rfl) (hd : o.dst = some d := by rfl) (hn : Nat.blt d N = true := by rfl) : p := f (rw_q hg hd hn hq h)
theorem Gz {p : Prop} (h : p := by first | exact dR rfl rfl rfl | exact ci rfl rfl rfl | exact dm rfl rfl rfl | exact ej rfl rfl rfl) : p := h
theorem Sg {d : Nat} {v : Value} {G : Bool} {l : List Oper} (hG : Guard ops SL o G) (hq : Quiet P T SL BL FA o G v) (h : RW P T C ops (.sq l) ⟨N, (d, .o G v) :: SL, BL, OW, FA⟩ Q) (hd : o.dst = some d := by rfl) (hn : Nat.blt d N = true := by rfl) : RW P T C ops (.sq (o :: l)) ⟨N, SL, BL, OW, FA⟩ Q := rw_qg hG hd hn hq h
theorem Oq {α : Type} (E : El α) {e : TypeId} (X : SlV) {b : Option Nat} (l : List α) {d : Nat} {v : Value} (hf : fP ops r o (some []) r') (hq : Quiet P T SL BL (RdL E X l :: FA) o true v) (h : RW P T C ops r' ⟨N, (d, .v v) :: SL, BL, OW, FA⟩ Q) (hm : ownL E e X b l ∈ OW := by exact Mm) (hg : o.guard = none := by rfl) (hd : o.dst = some d := by rfl) (hn : Nat.blt d N = true := by rfl) : RW P T C ops r ⟨N, SL, BL, OW, FA⟩ Q := rw_qO E hm hf hg hd hn hq h
theorem Rq {d : Nat} {v : Value} {D D' : List Nat} {BL' : List Blk} (hf : fP ops r o (some D) r') (hs : fe BL BL' D') (hq : Quiet P T SL BL' FA o true v) (h : RW P T C ops r' ⟨N, (d, .v v) :: SL, BL, OW, FA⟩ Q)
  (hD : ∀ g ∈ D, g ∈ D' ∨ ∃ q ∈ OW, q.b = some g := by first | (intro g hg; simp at hg; simp [hg]; done) | (intro g hg; simp only [List.mem_append, List.mem_singleton, List.not_mem_nil, or_false, false_or, Option.mem_toList, Option.mem_def, List.append_nil] at hg; first | exact .inr ⟨_, .head _, hg⟩ | exact .inr ⟨_, .tail _ (.head _), hg⟩ | exact .inr ⟨_, .tail _ (.tail _ (.head _)), hg⟩)) (hg : o.guard = none := by rfl) (hd : o.dst = some d := by rfl) (hn : Nat.blt d N = true := by rfl) : RW P T C ops r ⟨N, SL, BL, OW, FA⟩ Q := ra_q hf hs hD hg hd hn hq h
theorem Bl {K : List Nat → Prop} {α : Type} (E : El α) (l : List α) {p : Prop} {d t e n : Nat} {b g : Bool} {parts : List (Nat × Operand)} {vs : List (Nat × Value)} {z : List Value}
  (h : ∀ (X : SlV) (b' : Option Nat), RW P T C ops r' ⟨N, (d, .v (X.val l.length)) :: SL, BL, ownL E e X b' l :: OW, FA⟩ Q) (f : RW P T C ops r ⟨N, SL, BL, OW, FA⟩ Q → p := by exact Tz)
  (hf : Fy ops r o r' K := by exact Fo) (hg : o.guard = none := by rfl) (hd : o.dst = some d := by rfl) (hn : Nat.blt d N = true := by rfl) (ho : o.op = .buildSlice t n ⟨parts⟩ := by rfl)
  (ht : T.slc t = some e := by rfl) (hz : T.siz e = some (E.esz, b) := by rfl) (hzz : T.zer e = some z := by rfl) (hzl : z.length = E.esz := by rfl) (hby : T.byt e = some E.by_ := by rfl) (hnb : Nat.ble (n * E.by_) 140737488355328 = true := by rfl) (hpos : Nat.blt 0 E.esz = true := by rfl) (he : evp SL parts = some (g, vs) := by rfl) (hgt : g = true := by rfl) (hnl : n = l.length := by rfl)
  (hfill : fillL ((List.range n).map fun i => (i * E.esz, E.esz)) (gN z (n * E.esz)) vs = some (l.flatMap E.enc) := by rfl) (hsm : Nat.ble (n * E.esz) 16777216 = true := by rfl) (hk : K [] := by exact Fp) : p :=
 have ⟨_, h1, _⟩ := hf.to hk
 f (o5 E l h1 (al hg) hd hn ho ht hz hzz hzl hby hnb hpos he hgt hnl hfill hsm h)
theorem Ap {K : List Nat → Prop} {α : Type} (E : El α) (k : Nat) (l m : List α) {p : Prop} {e : TypeId} {X : SlV} (b : Option Nat) {d t : Nat} {x y : Operand} {g0 g1 : Bool} {v : Value} {z : List Value} {agg : Bool} {ow' : SlV → Option Nat → List Own}
  (h : ∀ (X' : SlV) (b' : Option Nat), RW P T C ops r' ⟨N, (d, .v (X'.val (l ++ m).length)) :: SL, BL, ow' X' b', FA⟩ Q) (f : RW P T C ops r ⟨N, SL, BL, OW, FA⟩ Q → p := by exact Tz)
  (hf : Fy ops r o r' K := by exact Fo) (hg : o.guard = none := by rfl) (hd : o.dst = some d := by rfl) (hn : Nat.blt d N = true := by rfl) (ho : o.op = .call ⟨.builtin .append, ⟨[x, y]⟩, ⟨[t, t]⟩⟩ := by rfl) (hx : ev SL x = some (g0, X.val l.length) := by rfl) (hg0 : g0 = true := by rfl) (hy : ev SL y = some (g1, v) := by rfl) (hg1 : g1 = true := by rfl)
  (hu : ∀ (X' : SlV) b', UpdO OW (ownL E e X b l) [ownL E e X' b' (l ++ m)] (ow' X' b') := by exact fun _ _ => Uo)
  (ht : T.slc t = some e := by rfl) (hz : T.siz e = some (E.esz, agg) := by rfl) (hzz : T.zer e = some z := by rfl) (hzl : z.length = E.esz := by rfl) (hby : T.byt e = some E.by_ := by rfl) (hpos : Nat.blt 0 E.esz = true := by rfl) (hbp : Nat.blt 0 E.by_ = true := by rfl)
  (hr : Reads ⟨N, SL, BL, OW, FA⟩ C E.esz v m.length (m.flatMap E.enc) := by first | (apply kP; (repeat (first | exact .head _ | apply List.Mem.tail)); done) | (apply o7; (repeat (first | exact .head _ | apply List.Mem.tail)); done)) (hkk : E.by_ = k := by rfl) (hb : (l.length + m.length) * k ≤ 140737488355328 := by (try simp only [List.length_append, List.length_cons, List.length_nil]); omega) (hk : K b.toList := by exact Fp) : p :=
 have ⟨_, h1, h2⟩ := hf.to hk
 f (iC E l m h1 (fun g hg => h2.imp id fun h => h g (by simp [hg])) (al hg) hd hn ho hx hg0 hy hg1 hu ht hz hzz hzl hby hpos hbp hr (by rw [hkk]; exact hb) h)
theorem Fg {α : Type} [Inhabited α] (EN : En α) (γ : Nat → EN.G) (l : List α) (i k : Nat) {F : Pred} (h : RW P T C ops r ⟨N, SL, BL, OW, F :: FA⟩ Q) (hm : FactsG EN γ l ∈ FA := by exact Mm) (hi : i < l.length := by first | assumption | omega) (hF : (EN.facts (γ i, gt l i))[k]? = some F := by rfl) : RW P T C ops r ⟨N, SL, BL, OW, FA⟩ Q :=
 have hF' : F ∈ EN.facts (γ i, gt l i) := List.mem_of_getElem? hF
 haveI : Stab F := (EN.stab _).st F hF'
 dU [FactsG EN γ l] (.cons hm (.nil _)) (fun M w h => (allF1 h) i hi _ hF') h
theorem Ft {α : Type} [Inhabited α] (E : En α) (h : CW P T C c ⟨N, SL, BL, OW, RdN E ⟨none, 0⟩ [] :: FA⟩ Q) : CW P T C c ⟨N, SL, BL, OW, FA⟩ Q :=
 pW [] (.nil _) (fun M w _ => RdN.nil _ M w) h
theorem Fm {α : Type} [Inhabited α] (E : En α) (h : RW P T C ops r ⟨N, SL, BL, OW, RdN E ⟨none, 0⟩ [] :: FA⟩ Q) : RW P T C ops r ⟨N, SL, BL, OW, FA⟩ Q :=
 dU [] (.nil _) (fun M w _ => RdN.nil _ M w) h
theorem Fu {α : Type} [Inhabited α] (EN : En α) (γ : Nat → EN.G) (l : List α) (i : Nat) (g : EN.G) (a : α) (h : RW P T C ops r ⟨N, SL, BL, OW, FactsG EN (updG γ i g) (l.set i a) :: FA⟩ Q) (hm : FactsG EN γ l ∈ FA := by exact Mm) (hs : SubM FA (EN.facts (g, a)) := by exact Sm) : RW P T C ops r ⟨N, SL, BL, OW, FA⟩ Q :=
 dU (FactsG EN γ l :: EN.facts (g, a)) (.cons hm hs) (fun M w h => FactsG.upd EN (h _ (.head _)) fun F hF => h F (.tail _ hF)) h
theorem Fj {α : Type} [Inhabited α] (EN : En α) (X : SlV) (γ : Nat → EN.G) (l : List α) (h : CW P T C c ⟨N, SL, BL, OW, RdN EN X l :: FA⟩ Q) (h1 : RdG EN X γ l ∈ FA := by exact Mm) (h2 : FactsG EN γ l ∈ FA := by exact Mm) : CW P T C c ⟨N, SL, BL, OW, FA⟩ Q :=
 pW [RdG EN X γ l, FactsG EN γ l] (.cons h1 (.cons h2 (.nil _))) (fun M w h => RdN.ofG EN (h _ (.head _)) (h _ (.tail _ (.head _)))) h
theorem Fk {α : Type} [Inhabited α] (EN : En α) (X : SlV) (γ : Nat → EN.G) (l : List α) (h : RW P T C ops r ⟨N, SL, BL, OW, RdN EN X l :: FA⟩ Q) (h1 : RdG EN X γ l ∈ FA := by exact Mm) (h2 : FactsG EN γ l ∈ FA := by exact Mm) : RW P T C ops r ⟨N, SL, BL, OW, FA⟩ Q :=
 dU [RdG EN X γ l, FactsG EN γ l] (.cons h1 (.cons h2 (.nil _))) (fun M w h => RdN.ofG EN (h _ (.head _)) (h _ (.tail _ (.head _)))) h
theorem Sz {p : Prop} (h : p := by exact Sf) : p := h
theorem Tn {α : Type} {l a r : List α} (h : Take l a r := by first | exact .nil _ | exact .cons (by repeat (first | exact .here _ _ | apply Pick.there)) (.nil _) | exact .cons (by repeat (first | exact .here _ _ | apply Pick.there)) (.cons (by repeat (first | exact .here _ _ | apply Pick.there)) (.nil _))) : Take l a r := h
theorem Ck {K : List Nat → Prop} {p : Prop} {d : Nat} {f : FuncId} {xs : Array Operand} {ts : Array TypeId} {g : Bool} {vs : List Value} {pre : List Pred} {X : Type} {val : X → Value} {post : X → List Pred}
  (hS : Does P f vs pre val post) (h : ∀ x, RW P T C ops r' ⟨N, (d, .v (val x)) :: SL, BL, OW, post x ++ FA⟩ Q) (fz : RW P T C ops r ⟨N, SL, BL, OW, FA⟩ Q → p := by exact Tz) (hfr : Fy ops r o r' K := by exact Fo) (hg : o.guard = none := by rfl) (hd : o.dst = some d := by rfl) (hn : Nat.blt d N = true := by rfl) (ho : o.op = .call ⟨.value (.func f), xs, ts⟩ := by rfl) (hf : T.fnb f = true := by kernel_rfl)
  (he : evs SL xs.toList = some (g, vs) := by rfl) (hgt : g = true := by rfl) (hpre : SubM FA pre := by exact Sz) (hk : K [] := by exact Fp) : p :=
 have ⟨_, h1, _⟩ := hfr.to hk
 fz (wP hS h1 (al hg) hd hn ho hf he hgt hpre h)
theorem Cm {K : List Nat → Prop} {p : Prop} {d : Nat} {f : FuncId} {xs : Array Operand} {ts : Array TypeId} {g : Bool} {vs : List Value} {pre : List Pred} {L : Lent} {X : Type} {val : X → Value} {post : X → List Pred} {L' : X → Lent} {RB : List Blk} {RO : List Own}
  (hS : DoesG P f vs pre L val post L') (h : ∀ x, RW P T C ops r' ⟨N, (d, .v (val x)) :: SL, (L' x).bl ++ RB, (L' x).ow ++ RO, post x ++ FA⟩ Q) (fz : RW P T C ops r ⟨N, SL, BL, OW, FA⟩ Q → p := by exact Tz) (hfr : Fy ops r o r' K := by exact Fo) (hg : o.guard = none := by rfl) (hd : o.dst = some d := by rfl) (hn : Nat.blt d N = true := by rfl) (ho : o.op = .call ⟨.value (.func f), xs, ts⟩ := by rfl) (hf : T.fnb f = true := by kernel_rfl)
  (he : evs SL xs.toList = some (g, vs) := by rfl) (hgt : g = true := by rfl) (hpre : SubM FA pre := by exact Sz) (hb : Take BL L.bl RB := by exact Tn) (hw : Take OW L.ow RO := by exact Tn) (hk : K L.ids := by exact Fp) : p :=
 have ⟨_, h1, h2⟩ := hfr.to hk
 fz (pG hS h1 h2 (al hg) hd hn ho hf he hgt hpre hb hw h)
theorem Cy {K : List Nat → Prop} {p : Prop} {d : Nat} {f : FuncId} {xs : Array Operand} {ts : Array TypeId} {g G : Bool} {vs : List Value} {pre : List Pred} {X : Type} {val : X → Value} {post : X → List Pred} {v : Value}
  (hS : G = true → Does P f vs pre val post) (h : RW P T C ops r' ⟨N, (d, .o G v) :: SL, BL, OW, FA⟩ Q) (fz : RW P T C ops r ⟨N, SL, BL, OW, FA⟩ Q → p := by exact Tz) (hfr : Fy ops r o r' K := by exact Fo) (hG : Guard ops SL o G := by exact Gz) (hval : ∀ x, val x = v := by exact fun _ => rfl) (hd : o.dst = some d := by rfl) (hn : Nat.blt d N = true := by rfl) (ho : o.op = .call ⟨.value (.func f), xs, ts⟩ := by rfl) (hf : T.fnb f = true := by kernel_rfl)
  (he : evs SL xs.toList = some (g, vs) := by rfl) (hgt : G = true → g = true := by exact Bz) (hpre : SubM FA pre := by exact Sz) (hk : K [] := by exact Fp) : p :=
 have ⟨_, h1, _⟩ := hfr.to hk
 fz (vw hS hval h1 hG hd hn ho hf he hgt hpre h)
theorem Wa {K : List Nat → Prop} {t : Nat} {x y : Operand} {g0 g1 : Bool} {g n : Nat} {cs vs : List Value} {bl' : List Blk} (h : RW P T C ops r' ⟨N, SL, bl', OW, FA⟩ Q) (hf : Fy ops r o r' K := by exact Fo) (hg : o.guard = none := by rfl) (hd : o.dst = none := by rfl) (ho : o.op = .store t x y := by rfl)
  (he : ev SL x = some (g0, .pointer (some ⟨g, 0, none⟩)) := by rfl) (hg0 : g0 = true := by rfl) (hev : ev SL y = some (g1, .agg ⟨vs⟩) := by rfl) (hg1 : g1 = true := by rfl) (hs : T.siz t = some (n, true) := by rfl) (hvn : vs.length = n := by rfl)
  (hone : vs.all (·.oneCell') = true := by rfl) (hu : UpdB BL g cs vs bl' := by exact Ub) (hle : cs.length = n := by rfl) (hk : K [g] := by exact Fp) : RW P T C ops r ⟨N, SL, BL, OW, FA⟩ Q :=
 have ⟨_, h1, h2⟩ := hf.to hk
 sh h1 (h2.imp id fun h => h g (.head _)) (al hg) hd ho he hg0 hev hg1 hs hvn hone hu hle h
theorem W1 {K : List Nat → Prop} {t : Nat} {x y : Operand} {g0 g1 : Bool} {g n off : Nat} {cs : List Value} {v : Value} {bl' : List Blk} (h : RW P T C ops r' ⟨N, SL, bl', OW, FA⟩ Q) (hf : Fy ops r o r' K := by exact Fo) (hg : o.guard = none := by rfl) (hd : o.dst = none := by rfl) (ho : o.op = .store t x y := by rfl)
  (he : ev SL x = some (g0, .pointer (some ⟨g, off, none⟩)) := by rfl) (hg0 : g0 = true := by rfl) (hev : ev SL y = some (g1, v) := by rfl) (hg1 : g1 = true := by rfl) (hs : T.siz t = some (n, false) := by rfl) (hn1 : n = 1 := by rfl) (hvc : v.oneCell' = true := by rfl)
  (hu : UpdB BL g cs (cs.set off v) bl' := by exact Ub) (hle : Nat.blt off cs.length = true := by rfl) (hk : K [g] := by exact Fp) : RW P T C ops r ⟨N, SL, BL, OW, FA⟩ Q :=
 have ⟨_, h1, h2⟩ := hf.to hk
 si h1 (h2.imp id fun h => h g (.head _)) (al hg) hd ho he hg0 hev hg1 hs hn1 hvc hu hle h
theorem Wp {K : List Nat → Prop} {t : Nat} {x y : Operand} {g0 g1 : Bool} {g n off : Nat} {cs vs : List Value} {bl' : List Blk} (h : RW P T C ops r' ⟨N, SL, bl', OW, FA⟩ Q) (hf : Fy ops r o r' K := by exact Fo) (hg : o.guard = none := by rfl) (hd : o.dst = none := by rfl) (ho : o.op = .store t x y := by rfl)
  (he : ev SL x = some (g0, .pointer (some ⟨g, off, none⟩)) := by rfl) (hg0 : g0 = true := by rfl) (hev : ev SL y = some (g1, .agg ⟨vs⟩) := by rfl) (hg1 : g1 = true := by rfl) (hs : T.siz t = some (n, true) := by rfl) (hvn : vs.length = n := by rfl)
  (hone : vs.all (·.oneCell') = true := by rfl) (hu : UpdB BL g cs (putAt cs off vs) bl' := by exact Ub) (hle : Nat.ble (off + n) cs.length = true := by rfl) (hk : K [g] := by exact Fp) : RW P T C ops r ⟨N, SL, BL, OW, FA⟩ Q :=
 have ⟨_, h1, h2⟩ := hf.to hk
 rw_stP h1 (h2.imp id fun h => h g (.head _)) (al hg) hd ho he hg0 hev hg1 hs hvn hone hu hle h
theorem Wo {K : List Nat → Prop} {α : Type} [Inhabited α] (E : El α) (l : List α) (i o2 : Nat) (p : α) {e : TypeId} {X : SlV} (b : Option Nat) {t n : Nat} {x y : Operand} {g0 g1 bb : Bool} {v : Value} {vs : List Value} {ow' : List Own} (h : RW P T C ops r' ⟨N, SL, BL, ow', FA⟩ Q) (hf : Fy ops r o r' K := by exact Fo) (hg : o.guard = none := by rfl) (hd : o.dst = none := by rfl) (ho : o.op = .store t x y := by rfl)
  (he : ev SL x = some (g0, .pointer (some (epA X.a i E.esz o2))) := by rfl) (hg0 : g0 = true := by rfl) (hev : ev SL y = some (g1, v) := by rfl) (hg1 : g1 = true := by rfl) (hs : T.siz t = some (n, bb) := by rfl) (hvc : v.cells = vs.toArray := by rfl) (hvn : vs.length = n := by rfl)
  (hone : vs.all (·.oneCell') = true := by rfl) (hle : Nat.ble (o2 + n) E.esz = true := by rfl) (hlt : i < l.length := by exact Zb) (hp : E.enc p = putAt (E.enc (gt l i)) o2 vs := by rfl) (hu : UpdO OW (ownL E e X b l) [ownL E e X b (l.set i p)] ow' := by exact Uo) (hk : K b.toList := by exact Fp) : RW P T C ops r ⟨N, SL, BL, OW, FA⟩ Q :=
 have ⟨_, h1, h2⟩ := hf.to hk
 wb E l i o2 p h1 (h2.imp id fun h g hg => h g (by simp [hg])) (al hg) hd ho he hg0 hev hg1 hs hvc hvn hone hle hlt hp hu h
theorem Wn {K : List Nat → Prop} {α : Type} [Inhabited α] (EN : En α) (γ : Nat → EN.G) (l : List α) (i o2 : Nat) (g : EN.G) (p : α) {e : TypeId} {X : SlV} (b : Option Nat) {t n : Nat} {x y : Operand} {g0 g1 bb : Bool} {v : Value} {vs : List Value} {ow' : List Own} (h : RW P T C ops r' ⟨N, SL, BL, ow', FA⟩ Q) (hf : Fy ops r o r' K := by exact Fo) (hg : o.guard = none := by rfl) (hd : o.dst = none := by rfl) (ho : o.op = .store t x y := by rfl)
  (he : ev SL x = some (g0, .pointer (some (epA X.a i EN.E.esz o2))) := by rfl) (hg0 : g0 = true := by rfl) (hev : ev SL y = some (g1, v) := by rfl) (hg1 : g1 = true := by rfl) (hs : T.siz t = some (n, bb) := by rfl) (hvc : v.cells = vs.toArray := by rfl) (hvn : vs.length = n := by rfl)
  (hone : vs.all (·.oneCell') = true := by rfl) (hle : Nat.ble (o2 + n) EN.E.esz = true := by rfl) (hlt : i < l.length := by exact Zb) (hp : EN.E.enc (g, p) = putAt (EN.E.enc (γ i, gt l i)) o2 vs := by rfl) (hu : UpdO OW (ownN EN e X b γ l) [ownN EN e X b (updG γ i g) (l.set i p)] ow' := by exact Uo) (hk : K b.toList := by exact Fp) : RW P T C ops r ⟨N, SL, BL, OW, FA⟩ Q :=
 have ⟨_, h1, h2⟩ := hf.to hk
 tY EN γ l i o2 g p h1 (h2.imp id fun h g hg => h g (by simp [hg])) (al hg) hd ho he hg0 hev hg1 hs hvc hvn hone hle hlt hp hu h
def selS (SL : Slots) : List Nat → Option Slots
 | [] => some []
 | n :: r => match getS SL n, selS SL r with
  | some x, some l => some ((n, x) :: l)
  | _, _ => none
theorem rt : ∀ {l : List Nat} {SL' : Slots}, selS SL l = some SL' → Sel SL l SL'
 | [], SL', h => by cases h; exact .nil _
 | n :: r, SL', h => by
  simp only [selS] at h
  split at h
  ·cases h; rename_i h1 h2; exact .cons h1 (rt h2)
  ·cases h
def selB : List Blk → List Bool → Option (List Blk)
 | [], [] => some []
 | k :: l, b :: m => match b, selB l m with
  | true, some l' => some (k :: l')
  | false, some l' => some l'
  | _, none => none
 | _, _ => none
theorem pC : ∀ {BL : List Blk} {m : List Bool} {BL' : List Blk}, selB BL m = some BL' → SelB BL m BL'
 | [], [], _, h => by cases h; exact .nil
 | k :: l, b :: m, BL', h => by
  simp only [selB] at h
  split at h
  ·cases h; rename_i h2; exact .keep (pC h2)
  ·cases h; rename_i h2; exact .drop (pC h2)
  ·cases h
 | [], _ :: _, _, h => by cases h
 | _ :: _, [], _, h => by cases h
theorem Oo {p : Prop} (h : p := by simp only []; omega) : p := h
theorem Lc {α : Type} : (∀ (a : α) (l r : List α), a :: l ++ r = a :: (l ++ r)) ∧ (∀ l : List α, [] ++ l = l) := ⟨fun _ _ _ => rfl, fun _ => rfl⟩
theorem Nz {p : Prop} (h : p := by first | exact Nat.le_refl _ | exact Nat.zero_le _ | omega) : p := h
theorem Lq {p : Prop} (ι : Type) (keep : List Nat) (mask : List Bool) (d : ι → Ls) (i0 : ι) {b : Code} {SL' : Slots} {BL' : List Blk} (h0 : (d i0).inv) (h : ∀ i, (d i).inv → CW P T C b ⟨N, (d i).sl ++ SL', (d i).bl ++ BL', (d i).ow, (d i).fa ++ FA⟩ (loopD C N d SL' BL' FA i Q))
  (f : CW P T C (.loop b) ⟨N, SL, BL, OW, FA⟩ Q → p := by exact Tz) (hsel : selS SL keep = some SL' := by rfl) (hB : selB BL mask = some BL' := by rfl) (hs : Le C ⟨N, SL, BL, OW, FA⟩ ⟨N, (d i0).sl ++ SL', (d i0).bl ++ BL', (d i0).ow, (d i0).fa ++ FA⟩ := by exact Le5) : p := f (Lp keep mask d i0 (rt hsel) (pC hB) h0 hs h)
def joinD {ι : Type} (C : Cx) (N : Nat) (d : ι → Ls) (SL' : Slots) (BL' : List Blk) (FA : List Pred) (Q : Post) : Post
 | .normal, s' => ∃ i, (d i).inv ∧ Le C s' ⟨N, (d i).sl ++ SL', (d i).bl ++ BL', (d i).ow, (d i).fa ++ FA⟩
 | e, s' => Q e s'
theorem Jn (ι : Type) (keep : List Nat) (mask : List Bool) (d : ι → Ls) {y : Code} {SL' : Slots} {BL' : List Blk}
  (h : CW P T C c ⟨N, SL, BL, OW, FA⟩ (joinD C N d SL' BL' FA Q)) (hj : ∀ i, (d i).inv → CW P T C y ⟨N, (d i).sl ++ SL', (d i).bl ++ BL', (d i).ow, (d i).fa ++ FA⟩ Q)
  (hsel : selS SL keep = some SL' := by rfl) (hB : selB BL mask = some BL' := by rfl) : CW P T C c ⟨N, SL, BL, OW, FA⟩ (thenQ P T C y Q) :=
 pV keep mask (fun i => (d i).sl) (fun i => (d i).bl) (fun i => (d i).ow) (fun i => (d i).fa) (fun i => (d i).inv) (rt hsel) (pC hB) (rM (fun e s' hq => by
  cases e with
  | normal => exact hq
  | exit i => exact hq
  | ret => exact hq
  | goto l => exact hq
  | panic c => exact hq
  | outgrown => exact hq) h) hj
theorem Dp {f : FuncId} {fn : Func} {c : Code} {N : Nat} {args : List Value} {pre : List Pred} {X : Type} {val : X → Value} {post : X → List Pred} {rs : List ResultVar} (hT : TabOk T P)
  (hf : P.funcs[f]? = some fn) (hN : fn.ntmps = N) (hrs : fn.results = ⟨rs⟩) (h : ∀ C : Cx, CW P T C c ⟨N, argS 0 args, [], [], pre⟩ (finQ T rs val post (fun _ => ⟨[], []⟩))) (hb : fn.body = some c := by rfl) (hle : Nat.ble args.length N = true := by rfl) (hpre : StabL pre := by infer_instance) (hpost : ∀ x, StabL (post x) := by exact fun _ => inferInstance) : Does P f args pre val post :=
 xj hT hf hb hN hrs hle hpre hpost h
theorem Dq {f : FuncId} {fn : Func} {c : Code} {N : Nat} {args : List Value} {pre : List Pred} {L : Lent} {X : Type} {val : X → Value} {post : X → List Pred} {L' : X → Lent} {rs : List ResultVar} (hT : TabOk T P)
  (hf : P.funcs[f]? = some fn) (hN : fn.ntmps = N) (hrs : fn.results = ⟨rs⟩) (h : ∀ C : Cx, CW P T C c ⟨N, argS 0 args, L.bl, L.ow, pre⟩ (finQ T rs val post L')) (hb : fn.body = some c := by rfl) (hle : Nat.ble args.length N = true := by rfl) (hpre : StabL pre := by infer_instance) (hpost : ∀ x, StabL (post x) := by exact fun _ => inferInstance) : DoesG P f args pre L val post L' :=
 sL hT hf hb hN hrs hle hpre hpost h
theorem AlT {K : List Nat → Prop} {p : Prop} {d t : Nat} {z : List Value} (h : ∀ g, RW P T C ops r' ⟨N, (d, .v (.pointer (some ⟨g, 0, none⟩))) :: SL, ⟨g, t, z⟩ :: BL, OW, FA⟩ Q) (f : RW P T C ops r ⟨N, SL, BL, OW, FA⟩ Q → p := by exact Tz) (hf : Fy ops r o r' K := by exact Fo) (hg : o.guard = none := by rfl) (hd : o.dst = some d := by rfl) (hn : Nat.blt d N = true := by rfl) (ho : o.op = .alloc t := by rfl) (hz : T.zer t = some z := by rfl) (hk : K [] := by exact Fp) : p :=
 have ⟨_, h1, _⟩ := hf.to hk
 f (cw h1 (al hg) hd hn ho hz h)
theorem BxT {p : Prop} {d t : Nat} {x : Operand} {g0 : Bool} {cs : List Value} {l : List Oper} (h : ∀ g, RW P T C ops (.sq l) ⟨N, (d, .v (.pointer (some ⟨g, 0, none⟩))) :: SL, ⟨g, t, cs⟩ :: BL, OW, FA⟩ Q) (f : RW P T C ops (.sq (o :: l)) ⟨N, SL, BL, OW, FA⟩ Q → p := by exact Tz) (hg : o.guard = none := by rfl) (hd : o.dst = some d := by rfl) (hn : Nat.blt d N = true := by rfl) (ho : o.op = .box t x := by rfl)
  (he : ev SL x = some (g0, .agg ⟨cs⟩) := by rfl) (hg0 : g0 = true := by rfl) : p := f (tg .sq (al hg) hd hn ho he hg0 h)
end
end Go.Proofs.YtkjccbdeaflekaaGreatDoor.Fw

namespace Go.Proofs.YtkjccbdeaflekaaGreatDoor
open Go Go.Proofs.YtkjccbdeaflekaaGreatDoor.Fw Go.Proofs
abbrev cP (x : Place) : List Value := [.int .i64 x.node, .int .i64 x.parent, .int .i64 x.name]
abbrev cT (x : Stamp) : List Value := [.int .i64 x.time, .int .i64 x.who]
abbrev cO (x : Op) : List Value := [.int .i64 x.time, .int .i64 x.who, .int .i64 x.node, .int .i64 x.parent, .int .i64 x.name, .int .i64 x.life, .int .i64 x.seq]
abbrev cV (a0 a1 a2 : SlV) (x : View) : List Value := [a0.val x.roots.length, a1.val x.known.length, a2.val x.way.length]
abbrev cD (a0 a1 a2 a3 : SlV) (x : Delta) : List Value := [a0.val x.gone.length, a1.val x.here.length, a2.val x.wayGone.length, a3.val x.wayHere.length]
abbrev cH (a0 a1 : SlV) (x : History) : List Value := [a0.val x.l.length, a1.val x.t.length]
abbrev cK (a0 a1 : SlV) (x : Disk) : List Value := [a0.val x.safe.length, a1.val x.wait.length]
abbrev cE (a0 : SlV) (x : Peer) : List Value := [.int .i64 x.life, .int .i64 x.seq, a0.val x.roots.length]
abbrev cA (a0 : SlV) (x : Happening) : List Value := [.int .i64 x.kind, .int .i64 x.who, .int .i64 x.n, .int .i64 x.node, .int .i64 x.parent, .int .i64 x.name, a0.val x.roots.length]
abbrev cS (x : Step) : List Value := [.int .i64 x.o.time, .int .i64 x.o.who, .int .i64 x.o.node, .int .i64 x.o.parent, .int .i64 x.o.name, .int .i64 x.o.life, .int .i64 x.o.seq, .bool x.did, .int .i64 x.was.node, .int .i64 x.was.parent, .int .i64 x.was.name]
abbrev cR (a0 : SlV) (x : Rec) : List Value := [.int .i64 x.kind, .int .i64 x.who, .int .i64 x.life, a0.val x.roots.length, .int .i64 x.o.time, .int .i64 x.o.who, .int .i64 x.o.node, .int .i64 x.o.parent, .int .i64 x.o.name, .int .i64 x.o.life, .int .i64 x.o.seq]
abbrev cB (a0 a1 a2 : SlV) (x : Hub) : List Value := [a0.val x.h.l.length, a1.val x.h.t.length, .int .i64 x.version, a2.val x.peers.length]
abbrev cC (a0 a1 a2 a3 : SlV) (x : Client) : List Value := [.int .i64 x.life, .int .i64 x.time, .int .i64 x.seq, a0.val x.pending.length, .int .i64 x.version, a1.val x.v.roots.length, a2.val x.v.known.length, a3.val x.v.way.length]
abbrev cM (a0 a1 a2 a3 a4 a5 a6 : SlV) (x : Mail) : List Value := [.int .i64 x.kind, .int .i64 x.who, .int .i64 x.life, .int .i64 x.seq, .int .i64 x.time, .int .i64 x.version, .int .i64 x.frm, .int .i64 x.o.time, .int .i64 x.o.who, .int .i64 x.o.node, .int .i64 x.o.parent, .int .i64 x.o.name, .int .i64 x.o.life, .int .i64 x.o.seq, a0.val x.v.roots.length, a1.val x.v.known.length, a2.val x.v.way.length, a3.val x.d.gone.length, a4.val x.d.here.length, a5.val x.d.wayGone.length, a6.val x.d.wayHere.length]
abbrev cW (a0 a1 a2 a3 a4 a5 a6 : SlV) (x : Wld) : List Value := [a0.val x.h.h.l.length, a1.val x.h.h.t.length, .int .i64 x.h.version, a2.val x.h.peers.length, a3.val x.d.safe.length, a4.val x.d.wait.length, .bool x.up, a5.val x.c.length, a6.val x.mail.length]
end Go.Proofs.YtkjccbdeaflekaaGreatDoor
