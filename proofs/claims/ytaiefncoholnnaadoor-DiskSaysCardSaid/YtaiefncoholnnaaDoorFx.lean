/- The rules by which the walks of this claim are typed: what a state of a walk knows, and what each operation makes of it. No condition. -/
import Derived.Test.YtaiefncoholnnaaDoorFw
import Derived.KernelRfl
import Derived.Lib.ConvBytes
import Derived.Lib.Strings
import Derived.Lib.AppendStr
import Derived.Laws.IdiomStrings
set_option linter.unusedVariables false
set_option linter.unusedSimpArgs false
namespace Go.Proofs.YtaiefncoholnnaaDoor.Fw
open Go Go.RowKit

section
variable {P : Program} {T : Tab} {C : Cx} {ops : Array Oper} {o : Oper} {r r' : RS} {s : St} {Q : Post} {N : Nat} {SL : Slots} {BL : List Blk} {OW : List Own} {FA : List Pred} {c : Code}

/-! ### append(nil, make(..)...): a new row of zeros -/
theorem run_append_zeros {t ti ty e : TypeId} {i : TypeInfo} {z : Value} {kd : IntKind} (ht : P.underlying t = some (.slice e)) (hti : P.underlying ti = some (.int kd)) (hi : P.info? e = some i) (hz : i.zero = some z) (w : World) (n : Nat) (hn : 0 < n) (hsz : 0 < i.size)
    (h63 : n ≤ 9223372036854775807) (h48 : n * i.bytes ≤ 140737488355328) (hfit : Builtin.nextslicecap (0 + n) 0 * i.bytes ≤ 281474976710656) :
    (Builtin.append_ #[t, ti] ty #[.slice none 0 0, .int .i64 (n : Int)]).run P w =
      .ok (.slice (some ⟨w.heap.size, 0, none⟩) (0 + n) (grownCap w (0 + n) 0 e))
        (w.drew.alloc (.cells ((Builtin.zeroCells z.cells n) ++ Builtin.zeroCells z.cells (grownCap w (0 + n) 0 e - (0 + n))) e)) := by
  have hn0 : ¬ (n = 0) := by omega
  have h63' : ¬ (9223372036854775807 < (n : Int)) := by omega
  have h48' : ¬ (281474976710656 < Builtin.nextslicecap n 0 * i.bytes) := by rw [Nat.zero_add] at hfit; omega
  have hw : IntKind.i64.wrap (n : Int) = (n : Int) := wrap_in _ ⟨by omega, by omega⟩
  have h48i : ¬ (281474976710656 < (n : Int) * (i.bytes : Int)) := by
    have h1 : ((n * i.bytes : Nat) : Int) ≤ ((140737488355328 : Nat) : Int) := Int.ofNat_le.2 h48
    rw [Int.natCast_mul] at h1
    omega
  have hneg : ¬ ((n : Int) < 0) := by omega
  have hns : ¬ (n * i.size = 0) := by have := Nat.mul_pos hn hsz; omega
  simp [Builtin.append_, run_underlying ht, run_underlying hti, sizeOf, typeInfo, zeroValue, hi, hz, asInt, asIntOf, hw, hneg, h48i, hns, hn0, h63', h48', Question.forced, Builtin.firstCells, newRow, grownCap]

theorem rw_appendZ {d t ti n kz : Nat} {x y : Operand} {g0 g1 : Bool} {e esz by_ : Nat} {z : List Value} {agg : Bool} {kd : IntKind} {ow' : SlV → Option Nat → List Value → List Own} {D : List Nat} (hf : Front ops r o D r') (hg : Guard ops SL o true) (hd : o.dst = some d) (hn : Nat.blt d N = true)
    (ho : o.op = .call ⟨.builtin .append, ⟨[x, y]⟩, ⟨[t, ti]⟩⟩) (hx : ev SL x = some (g0, .slice none 0 kz)) (hkz : kz = 0) (hg0 : g0 = true) (hy : ev SL y = some (g1, .int .i64 (n : Int))) (hg1 : g1 = true)
    (hti : P.underlying ti = some (.int kd)) (hu : ∀ (X : SlV) b' zs, UpdO OW ⟨.slice none 0 0, none, e, esz, by_, 0, []⟩ [⟨X.val n, b', e, esz, by_, n, zs⟩] (ow' X b' zs))
    (ht : T.slc t = some e) (hz : T.siz e = some (esz, agg)) (hzz : T.zer e = some z) (hzl : z.length = esz) (hby : T.byt e = some by_) (hpos : Nat.blt 0 esz = true)
    (hn0 : 0 < n) (hb : n * by_ ≤ 140737488355328) (h63 : n ≤ 9223372036854775807)
    (h : ∀ (X : SlV) (b' : Option Nat) (zs : List Value), RW P T C ops r' ⟨N, (d, .v (X.val n)) :: SL, BL, ow' X b' zs, FA⟩ Q) : RW P T C ops r ⟨N, SL, BL, OW, FA⟩ Q := by
  subst hkz
  have key : ∀ D, Loud P T C ⟨N, SL, BL, OW, FA⟩ o D (fun s' => ∃ (X : SlV) (b' : Option Nat) (zs : List Value), s' = ⟨N, (d, .v (X.val n)) :: SL, BL, ow' X b' zs, FA⟩) := by
    intro D hT a w hrep
    refine Oper.wp_mono ?_ (loud_val (D := D) hd hn (K := fun u bl ow fa => ∃ (X : SlV) (b' : Option Nat) (zs : List Value), u = X.val n ∧ bl = BL ∧ ow = ow' X b' zs ∧ fa = FA) ?_ hT a w hrep)
    · rintro a' w' ⟨s', ⟨u, bl, ow, fa, ⟨X, b', zs, e1, e2, e3, e4⟩, e5⟩, h2, h3⟩
      subst e1; subst e2; subst e3; subst e4
      exact ⟨s', ⟨X, b', zs, e5⟩, h2, h3⟩
    · intro hT a w hrep
      have hu' := hT.slc _ _ ht
      obtain ⟨tt, d', q1, q2, q3, q4⟩ := hT.siz _ _ _ hz
      obtain ⟨ti', hi', hby'⟩ := hT.byt _ _ hby
      obtain ⟨ti'', zv, hi'', hz'', hzc⟩ := hT.zer _ _ hzz
      rw [q1] at hi' hi''
      cases hi'; cases hi''
      have hpos := Nat.le_of_ble_eq_true hpos
      have hzs : zv.cells.size = esz := by rw [← hzl, ← hzc]; simp
      have hr := run_append_zeros (ty := o.type) hu' hti q1 hz'' w n hn0 (by omega) h63 (by rw [hby']; exact hb) (growslice_fits (by omega) (by rw [hby', Nat.zero_add]; exact hb))
      have hge := grownCap_ge w (0 + n) 0 e
      have hcm : grownCap w (0 + n) 0 e ≤ maxLen := grownCap_le_maxLen w (0 + n) 0 e (by simp only [maxLen]; omega)
      have ho' : OwnOk C (w.drew.alloc (.cells ((Builtin.zeroCells zv.cells n) ++ Builtin.zeroCells zv.cells (grownCap w (0 + n) 0 e - (0 + n))) e)) ⟨(⟨some ⟨w.heap.size, 0, none⟩, grownCap w (0 + n) 0 e⟩ : SlV).val n, some w.heap.size, e, esz, by_, n, (Builtin.zeroCells zv.cells n).toList⟩ := by
        refine ⟨by simp only [Array.length_toList, size_zeroCells, hzs], ⟨h63, hb⟩, .inl hrep.wo.be.size, _, _, rfl, heap_alloc_new w.drew _, (by show n ≤ grownCap w (0 + n) 0 e; omega), by simpa [maxLen] using hcm, ?_, ?_⟩
        · simp only [Array.size_append, size_zeroCells, hzs, ← Nat.add_mul]
          congr 1
          omega
        · simp only [Array.toList_append]
          have : n * esz = (Builtin.zeroCells zv.cells n).toList.length := by simp only [Array.length_toList, size_zeroCells, hzs]
          rw [this]
          simp
      refine ⟨_, _, BL, ow' ⟨some ⟨w.heap.size, 0, none⟩, grownCap w (0 + n) 0 e⟩ (some w.heap.size) (Builtin.zeroCells zv.cells n).toList, FA, ?_, hrep.wo.swapO (hu ⟨some ⟨w.heap.size, 0, none⟩, grownCap w (0 + n) 0 e⟩ (some w.heap.size) _) ho' ⟨rfl, rfl, rfl, by simp, fun k hk _ => heap_alloc_old w.drew _ k hk⟩ (.inr (.inr rfl)), ⟨by simp, fun k hk _ => heap_alloc_old w.drew _ k hk⟩, ⟨_, _, _, rfl, rfl, rfl, rfl⟩⟩
      have hr' := hr
      rw [Nat.zero_add] at hr'
      simp only [execOp, ho, resolve, invoke, builtin, Sem.run_bind, Sem.run_pure, Result.andThen_ok, List.map_toArray, List.map_cons, List.map_nil, ev_ok hrep.sl hx hg0, ev_ok hrep.sl hy hg1]
      rw [hr']
      simp only [SlV.val, Nat.zero_add, Result.andThen_ok, Sem.run_pure]
  exact rw_l hf hg (key _) (fun s' ⟨X, b', zs, e⟩ => by subst e; exact h X b' zs)

/-- A cut of what is owned, to its first cells. -/
theorem rw_takeO {d t k : Nat} {x y : Operand} {g0 g1 b : Bool} {kd : IntKind} {iv : Int} {e esz by_ n : Nat} {X : SlV} {ob : Option Nat} {xs : List Value} {ow' : List Own} {D : List Nat} (hf : Front ops r o D r') (hg : Guard ops SL o true) (hd : o.dst = some d) (hn : Nat.blt d N = true)
    (ho : o.op = .slice t x none (some y) none) (hx : ev SL x = some (g0, X.val n)) (hg0 : g0 = true) (hy : ev SL y = some (g1, .int kd iv)) (hg1 : g1 = true) (ht : T.slc t = some e) (hz : T.siz e = some (esz, b))
    (hu : UpdO OW ⟨X.val n, ob, e, esz, by_, n, xs⟩ [⟨X.val k, ob, e, esz, by_, k, xs.take (k * esz)⟩] ow') (hi : iv = (k : Int)) (hk : k ≤ n)
    (h : RW P T C ops r' ⟨N, (d, .v (X.val k)) :: SL, BL, ow', FA⟩ Q) : RW P T C ops r ⟨N, SL, BL, OW, FA⟩ Q := by
  refine rw_val hf hg hd hn (K := fun u bl ow fa => u = X.val k ∧ bl = BL ∧ ow = ow' ∧ fa = FA) ?_ (fun u bl ow fa ⟨e1, e2, e3, e4⟩ => by subst e1; subst e2; subst e3; subst e4; exact h)
  intro hT a w hrep
  have hm : (⟨X.val n, ob, e, esz, by_, n, xs⟩ : Own) ∈ OW := by obtain ⟨l, r, e, _⟩ := hu.spec; rw [e]; simp
  have hq := hrep.wo.ow _ hm
  obtain ⟨h1, h2, h3⟩ := hq
  simp only at h1 h2 h3
  have hkb : k * by_ ≤ n * by_ := Nat.mul_le_mul_right _ hk
  have hke : k * esz ≤ n * esz := Nat.mul_le_mul_right _ hk
  have hcn : k ≤ X.c ∧ OwnOk C w ⟨X.val k, ob, e, esz, by_, k, xs.take (k * esz)⟩ := by
    cases ob with
    | none =>
      obtain ⟨h0, A, hA⟩ := h3
      simp only [SlV.val, Value.slice.injEq] at hA
      have : k = 0 := by omega
      subst this
      exact ⟨Nat.zero_le _, ⟨by simp, by simp, rfl, X.a, by simp only [SlV.val, hA.2.2]⟩⟩
    | some g =>
      obtain ⟨hg, cap, cur, hv, hh, hnc, hcap, hcs, htake⟩ := h3
      simp only [SlV.val, Value.slice.injEq, true_and] at hv
      refine ⟨by omega, ⟨by simp only [List.length_take, h1]; omega, ⟨(by show k ≤ _; omega), (by show k * by_ ≤ _; omega)⟩, hg, cap, cur, by simp only [SlV.val, hv.1, hv.2], hh, (by show k ≤ _; omega), hcap, hcs, ?_⟩⟩
      simp only
      rw [← htake, List.take_take, Nat.min_eq_left hke]
  refine ⟨X.val k, w, BL, ow', FA, ?_, hrep.wo.swapO hu hcn.2 ⟨rfl, rfl, rfl, Nat.le_refl _, fun _ _ _ => rfl⟩ (.inl rfl), Keeps.refl _ _, rfl, rfl, rfl, rfl⟩
  have := q_slhi (P := P) (BL := BL) (FA := FA) (T := T) (SL := SL) (G := true) (h := k) (A := X.a) (n := n) (c := X.c) ho hx (fun _ => hg0) hy (fun _ => hg1) ht hz (fun _ => hi) (fun _ => hcn.1) hT rfl a w hrep.sl hrep.wo.wq
  exact this

/-- capacity of the nil slice -/
theorem q_cap {t e n cc : Nat} {x : Operand} {g0 G : Bool} {A : Option Addr} (ho : o.op = .call ⟨.builtin .cap, ⟨[x]⟩, ⟨[t]⟩⟩) (he : ev SL x = some (g0, .slice A n cc)) (hg0 : G = true → g0 = true) (ht : T.slc t = some e) : Quiet P T SL BL FA o G (.int .i64 (cc : Int)) :=
  fun hT hG a w hsl hw => by
    have h1 := ev_ok hsl he (hg0 hG)
    have hu := hT.slc _ _ ht
    simp [execOp, ho, resolve, invoke, builtin, h1, Builtin.cap_, run_underlying hu, goInt]
end
end Go.Proofs.YtaiefncoholnnaaDoor.Fw

namespace Go.Proofs.YtaiefncoholnnaaDoor.Fw
open Go Go.RowKit

/-! ### Slices of what has slices in it -/
instance : Inhabited SlV := ⟨⟨none, 0⟩⟩
structure En (α : Type) where
  G : Type
  inh : Inhabited G
  E : El (G × α)
  facts : G × α → List Pred
  stab : ∀ h, StabL (facts h)

instance {α : Type} (EN : En α) : Inhabited EN.G := EN.inh

def zipG {G α : Type} (γ : Nat → G) : Nat → List α → List (G × α)
  | _, [] => []
  | k, a :: r => (γ k, a) :: zipG γ (k + 1) r

theorem zipG_len {G α : Type} (γ : Nat → G) : ∀ (k : Nat) (l : List α), (zipG γ k l).length = l.length
  | _, [] => rfl
  | k, a :: r => by simp [zipG, zipG_len γ (k + 1) r]

theorem zipG_get {G α : Type} (γ : Nat → G) : ∀ (k : Nat) (l : List α) (i : Nat) (h : i < (zipG γ k l).length), (zipG γ k l)[i] = (γ (k + i), l[i]'(by rw [← zipG_len γ k l]; exact h))
  | k, a :: r, 0, h => rfl
  | k, a :: r, i + 1, h => by
    have := zipG_get γ (k + 1) r i (by simpa [zipG] using h)
    simp only [zipG, List.getElem_cons_succ]
    rw [this]
    congr 2
    omega

/-- Whatever list of pairs is such a one. -/
theorem zipG_of {G α : Type} [Inhabited G] : ∀ (hs : List (G × α)) (k : Nat), ∃ γ : Nat → G, hs = zipG γ k (hs.map (·.2)) ∧ ∀ i, i < hs.length → γ (k + i) = (hs.map (·.1)).getD i default
  | [], _ => ⟨fun _ => default, rfl, fun i h => absurd h (by simp)⟩
  | (g, a) :: r, k => by
    obtain ⟨γ, h1, h2⟩ := zipG_of r (k + 1)
    refine ⟨fun i => if i = k then g else γ i, ?_, ?_⟩
    · simp only [List.map_cons, zipG, if_pos]
      congr 1
      have key : ∀ (l : List α) (j : Nat), k < j → zipG (fun i => if i = k then g else γ i) j l = zipG γ j l := by
        intro l
        induction l with
        | nil => intro j _; rfl
        | cons b r ih => intro j hj; simp only [zipG]; rw [ih (j + 1) (by omega), if_neg (by omega)]
      rw [key _ _ (Nat.lt_succ_self k)]
      exact h1
    · intro i hi
      cases i with
      | zero => simp
      | succ i =>
        simp only [List.map_cons, List.getD_cons_succ]
        rw [if_neg (by omega), ← h2 i (by simpa using hi)]
        congr 1
        omega

def FactsG {α : Type} [Inhabited α] (EN : En α) (γ : Nat → EN.G) (l : List α) : Pred := fun M w => ∀ i, i < l.length → AllF (EN.facts (γ i, gt l i)) M w
instance {α : Type} [Inhabited α] (EN : En α) (γ : Nat → EN.G) (l : List α) : Stab (FactsG EN γ l) where
  st M M' w w' h hx hM := fun i hi F hF => ((EN.stab _).st F hF).st M M' w w' (h i hi F hF) hx hM

abbrev RdG {α : Type} (EN : En α) (X : SlV) (γ : Nat → EN.G) (l : List α) : Pred := RdL EN.E X (zipG γ 0 l)

/-- It reads as this list, and so does what is in it. -/
def RdN {α : Type} [Inhabited α] (EN : En α) (X : SlV) (l : List α) : Pred := fun M w => ∃ γ : Nat → EN.G, RdG EN X γ l M w ∧ FactsG EN γ l M w
instance {α : Type} [Inhabited α] (EN : En α) (X : SlV) (l : List α) : Stab (RdN EN X l) where
  st M M' w w' h hx hM := by
    obtain ⟨γ, h1, h2⟩ := h
    exact ⟨γ, Stab.st (F := RdG EN X γ l) M M' w w' h1 hx hM, Stab.st (F := FactsG EN γ l) M M' w w' h2 hx hM⟩

theorem RdN.len {α : Type} [Inhabited α] {EN : En α} {x : SlV} {l : List α} {M : Nat → Prop} {w : World} (h : RdN EN x l M w) : l.length * EN.E.by_ ≤ 140737488355328 := by
  obtain ⟨γ, h1, _⟩ := h
  have := h1.len
  rwa [zipG_len] at this

theorem RdN.nil_of {α : Type} [Inhabited α] {EN : En α} {x : SlV} {l : List α} {M : Nat → Prop} {w : World} (h : RdN EN x l M w) (hx : x.a.isNone = true) : l = [] := by
  obtain ⟨γ, h1, _⟩ := h
  have := congrArg List.length (h1.nil_of hx)
  rw [zipG_len] at this
  exact List.eq_nil_of_length_eq_zero this

section
variable {P : Program} {T : Tab} {C : Cx} {ops : Array Oper} {o : Oper} {r r' : RS} {s : St} {Q : Post} {N : Nat} {SL : Slots} {BL : List Blk} {OW : List Own} {FA : List Pred} {c : Code}

theorem cw_exN {α : Type} [Inhabited α] (EN : En α) {X : SlV} {l : List α} (hm : RdN EN X l ∈ FA) (h : ∀ γ : Nat → EN.G, CW P T C c ⟨N, SL, BL, OW, FactsG EN γ l :: RdG EN X γ l :: FA⟩ Q) : CW P T C c ⟨N, SL, BL, OW, FA⟩ Q := fun hT a w hr => by
  obtain ⟨hs, γ, h1, h2⟩ := hr.wo.fa _ hm
  refine h γ hT a w ⟨hr.sz, hr.df, hr.sl, hr.wo.be, hr.wo.bl, hr.wo.ow, hr.wo.nd, fun G hG => ?_⟩
  cases hG with
  | head => exact ⟨inferInstance, h2⟩
  | tail _ hG =>
    cases hG with
    | head => exact ⟨inferInstance, h1⟩
    | tail _ hG => exact hr.wo.fa G hG

theorem rw_exN {α : Type} [Inhabited α] (EN : En α) {X : SlV} {l : List α} (hm : RdN EN X l ∈ FA) (h : ∀ γ : Nat → EN.G, RW P T C ops r ⟨N, SL, BL, OW, FactsG EN γ l :: RdG EN X γ l :: FA⟩ Q) : RW P T C ops r ⟨N, SL, BL, OW, FA⟩ Q := fun hT a w hr => by
  obtain ⟨hs, γ, h1, h2⟩ := hr.wo.fa _ hm
  refine h γ hT a w ⟨hr.sz, hr.df, hr.sl, hr.wo.be, hr.wo.bl, hr.wo.ow, hr.wo.nd, fun G hG => ?_⟩
  cases hG with
  | head => exact ⟨inferInstance, h2⟩
  | tail _ hG =>
    cases hG with
    | head => exact ⟨inferInstance, h1⟩
    | tail _ hG => exact hr.wo.fa G hG

theorem zipG_gt {G α : Type} [Inhabited G] [Inhabited α] (γ : Nat → G) {l : List α} {i : Nat} (h : i < l.length) : gt (zipG γ 0 l) i = (γ i, gt l i) := by
  rw [gt_eq (by rw [zipG_len]; exact h), gt_eq h, zipG_get]
  simp

theorem q_idxN {α : Type} (EN : En α) (γ : Nat → EN.G) {esz c t e n : Nat} {x y : Operand} {g0 g1 G b : Bool} {k : IntKind} {A : Option Addr} {l : List α} {iv : Int} (i : Nat) (ho : o.op = .indexAddr t x y)
    (he : ev SL x = some (g0, .slice A n c)) (hg0 : G = true → g0 = true) (hy : ev SL y = some (g1, .int k iv)) (hg1 : G = true → g1 = true)
    (ht : T.slc t = some e) (hz : T.siz e = some (esz, b)) (hes : EN.E.esz = esz) (hm : RdG EN ⟨A, c⟩ γ l ∈ FA) (hn : n = l.length) (hi : G = true → iv = (i : Int)) (hlt : G = true → i < l.length) :
    Quiet P T SL BL FA o G (.pointer (some (epA A i esz 0))) :=
  q_idx EN.E (l := zipG γ 0 l) i ho he hg0 hy hg1 ht hz hes hm (by rw [zipG_len]; exact hn) hi (fun h => by rw [zipG_len]; exact hlt h)

theorem q_le1N {α : Type} [Inhabited α] (EN : En α) (γ : Nat → EN.G) {esz c t n off : Nat} {x : Operand} {g0 G : Bool} {A : Option Addr} {l : List α} {i : Nat} {v : Value} (ho : o.op = .load t x)
    (he : ev SL x = some (g0, .pointer (some (epA A i esz off)))) (hg0 : G = true → g0 = true) (hs : T.siz t = some (n, false)) (hes : EN.E.esz = esz) (hm : RdG EN ⟨A, c⟩ γ l ∈ FA) (hlt : G = true → i < l.length)
    (hv : (EN.E.enc (γ i, gt l i))[off]? = some v) : Quiet P T SL BL FA o G v :=
  fun hT hG => q_le1 EN.E (l := zipG γ 0 l) (G := true) ho he (fun _ => hg0 hG) hs hes hm (fun _ => by rw [zipG_len]; exact hlt hG) (by rw [zipG_gt γ (hlt hG)]; exact hv) hT rfl

theorem q_leAN {α : Type} [Inhabited α] (EN : En α) (γ : Nat → EN.G) {esz c t : Nat} {x : Operand} {g0 G : Bool} {A : Option Addr} {l : List α} {i : Nat} (ho : o.op = .load t x)
    (he : ev SL x = some (g0, .pointer (some (epA A i esz 0)))) (hg0 : G = true → g0 = true) (hs : T.siz t = some (esz, true)) (hes : EN.E.esz = esz) (hm : RdG EN ⟨A, c⟩ γ l ∈ FA) (hlt : G = true → i < l.length) : Quiet P T SL BL FA o G (.agg ⟨EN.E.enc (γ i, gt l i)⟩) :=
  fun hT hG a w hsl hw => by
    have := q_leA EN.E (l := zipG γ 0 l) (G := true) ho he (fun _ => hg0 hG) hs hes hm (fun _ => by rw [zipG_len]; exact hlt hG) hT rfl a w hsl hw
    rwa [zipG_gt γ (hlt hG)] at this

theorem q_lePN {α : Type} [Inhabited α] (EN : En α) (γ : Nat → EN.G) {esz c t n off : Nat} {x : Operand} {g0 G : Bool} {A : Option Addr} {l : List α} {i : Nat} (ho : o.op = .load t x)
    (he : ev SL x = some (g0, .pointer (some (epA A i esz off)))) (hg0 : G = true → g0 = true) (hs : T.siz t = some (n, true)) (hes : EN.E.esz = esz) (hm : RdG EN ⟨A, c⟩ γ l ∈ FA) (hlt : G = true → i < l.length)
    (hl : Nat.ble (off + n) esz = true) : Quiet P T SL BL FA o G (.agg ⟨subL (EN.E.enc (γ i, gt l i)) off n⟩) :=
  fun hT hG a w hsl hw => by
    have := q_leP EN.E (l := zipG γ 0 l) (G := true) ho he (fun _ => hg0 hG) hs hes hm (fun _ => by rw [zipG_len]; exact hlt hG) hl hT rfl a w hsl hw
    rwa [zipG_gt γ (hlt hG)] at this

/-- What pairs read as, with what is in them. -/
theorem RdN.of {α : Type} [Inhabited α] (EN : En α) {X : SlV} {hs : List (EN.G × α)} {l : List α} (hl : hs.map (·.2) = l) {M : Nat → Prop} {w : World} (h : RdL EN.E X hs M w) (hf : ∀ p ∈ hs, AllF (EN.facts p) M w) : RdN EN X l M w := by
  subst hl
  obtain ⟨γ, h1, h2⟩ := zipG_of hs 0
  refine ⟨γ, ?_, fun i hi => ?_⟩
  · unfold RdG; rw [← h1]; exact h
  · have hi' : i < hs.length := by simpa using hi
    have h3 := h2 i hi'
    rw [Nat.zero_add] at h3
    rw [h3, gt_eq hi]
    have : ((hs.map (·.1)).getD i default, (hs.map (·.2))[i]) = hs[i] := by simp [List.getD, List.getElem?_map, List.getElem?_eq_getElem hi']
    rw [this]
    exact hf _ (List.getElem_mem hi')
theorem allP_cons {β : Type} {φ : β → Prop} {a : β} {r : List β} (h : φ a) (hr : ∀ p ∈ r, φ p) : ∀ p ∈ a :: r, φ p := fun p hp => by
  cases hp with
  | head => exact h
  | tail _ hp => exact hr p hp
theorem allF_sub {pre q : List Pred} (hs : SubM pre q) {M : Nat → Prop} {w : World} (h : AllF pre M w) : AllF q M w := fun F hF => h F (hs.mem F hF)
theorem RdN.nil {α : Type} [Inhabited α] (EN : En α) (M : Nat → Prop) (w : World) : RdN EN ⟨none, 0⟩ [] M w :=
  RdN.of EN (hs := []) rfl (RdL.nil _ _ _ (by omega) M w) (fun p hp => by cases hp)

end
end Go.Proofs.YtaiefncoholnnaaDoor.Fw

namespace Go.Proofs.YtaiefncoholnnaaDoor.Fw
open Go Go.RowKit

section
variable {P : Program} {T : Tab} {C : Cx} {ops : Array Oper} {o : Oper} {r r' : RS} {s : St} {Q : Post} {N : Nat} {SL : Slots} {BL : List Blk} {OW : List Own} {FA : List Pred} {c : Code}

/-! ### What is owned, read by a quiet operation -/
theorem OwnOk.keeps {q : Own} {w w' : World} (h : OwnOk C w q) (hk : Keeps [] w w') : OwnOk C w' q := by
  obtain ⟨h1, h2, h3⟩ := h
  refine ⟨h1, h2, ?_⟩
  cases hb : q.b with
  | none => rw [hb] at h3; exact h3
  | some g =>
    rw [hb] at h3
    obtain ⟨hg, cap, cur, hv, hh, hr⟩ := h3
    exact ⟨hg, cap, cur, hv, by rw [hk.2 g (heap_lt hh) (by simp)]; exact hh, hr⟩

theorem wq_own {α : Type} {E : El α} {e : TypeId} {X : SlV} {b : Option Nat} {l : List α} (hm : ownL E e X b l ∈ OW) {w w' : World} (h : WOk C ⟨N, SL, BL, OW, FA⟩ w) (hk : Keeps [] w w') : WQ BL (RdL E X l :: FA) w' := by
  have h1 : WQ BL FA w' := wq_keepsO h (D := some []) ⟨rfl, _, SplitB.all _, by simp⟩ hk
  refine ⟨h1.bl, fun F hF => ?_⟩
  cases hF with
  | head => exact ⟨fun _ => False, OwnOk.rd (C := C) (e := e) (b := b) ((h.ow _ hm).keeps hk) (fun _ _ h => h)⟩
  | tail _ hF => exact h1.fa F hF

theorem rw_qGO {α : Type} (E : El α) {e : TypeId} {X : SlV} {b : Option Nat} {l : List α} (hm : ownL E e X b l ∈ OW) {d : Nat} {G : Bool} {v : Value} {sv : SV} (hf : FrontQ ops r o (some []) r') (hG : Guard ops SL o G) (hd : o.dst = some d) (hn : Nat.blt d N = true) (hq : Quiet P T SL BL (RdL E X l :: FA) o G v)
    (hsv : sv.ok (some (bif G then v else undef)))
    (h : RW P T C ops r' ⟨N, (d, sv) :: SL, BL, OW, FA⟩ Q) : RW P T C ops r ⟨N, SL, BL, OW, FA⟩ Q := by
  intro hT a w hrep
  have hput : ∀ u, u = (bif G then v else undef) → Rep C ⟨N, (d, sv) :: SL, BL, OW, FA⟩ (a.put (some d) u) w := fun u hu => by
    subst hu
    exact hrep.putv (Nat.le_of_ble_eq_true hn) hsv hrep.wo
  rcases hf.first with ⟨l, rfl, rfl⟩ | ⟨fp, fuel, listed, i, rfl, rfl, hfirst⟩
  · show wpList P ops (postOf C Q) (o :: _) a w
    unfold wpList
    rw [hG a hrep.sl]
    cases hGv : G with
    | true =>
      rw [if_pos rfl]
      refine .inl ?_
      unfold Oper.wp
      rw [hq hT hGv a w hrep.sl (wq_own hm hrep.wo (Keeps.refl _ _)), Oper.upon_value, hd]
      exact h hT _ _ (hput _ (by simp [hGv]))
    | false =>
      rw [if_neg (by simp), hd]
      exact h hT _ _ (hput _ (by simp [hGv]))
  · have hy : YieldsF P ops (some []) o (bif G then v else undef) a w := by
      cases hGv : G with
      | true => exact .inl ⟨by rw [hG a hrep.sl, hGv], fun w' hk => by simpa using hq hT hGv a w' hrep.sl (wq_own hm hrep.wo hk)⟩
      | false => exact .inr ⟨by rw [hG a hrep.sl, hGv], rfl⟩
    have hH := h hT _ _ (hput _ rfl)
    exact hfirst hy (by rw [hd]; exact hH)

theorem rw_qO {α : Type} (E : El α) {e : TypeId} {X : SlV} {b : Option Nat} {l : List α} (hm : ownL E e X b l ∈ OW) {d : Nat} {v : Value} (hf : FrontQ ops r o (some []) r') (hg : o.guard = none) (hd : o.dst = some d) (hn : Nat.blt d N = true) (hq : Quiet P T SL BL (RdL E X l :: FA) o true v)
    (h : RW P T C ops r' ⟨N, (d, .v v) :: SL, BL, OW, FA⟩ Q) : RW P T C ops r ⟨N, SL, BL, OW, FA⟩ Q :=
  rw_qGO E hm hf (guard_none hg) hd hn hq (by simp [SV.ok]) h
theorem rw_qgO {α : Type} (E : El α) {e : TypeId} {X : SlV} {b : Option Nat} {l : List α} (hm : ownL E e X b l ∈ OW) {d : Nat} {G : Bool} {v : Value} (hf : FrontQ ops r o (some []) r') (hG : Guard ops SL o G) (hd : o.dst = some d) (hn : Nat.blt d N = true) (hq : Quiet P T SL BL (RdL E X l :: FA) o G v)
    (h : RW P T C ops r' ⟨N, (d, .o G v) :: SL, BL, OW, FA⟩ Q) : RW P T C ops r ⟨N, SL, BL, OW, FA⟩ Q :=
  rw_qGO E hm hf hG hd hn hq (by simp [SV.ok]) h

/-! ### A cell of what is owned is written -/
theorem putAt_appL : ∀ (cs tl : List Value) (off : Nat) (vs : List Value), off + vs.length ≤ cs.length → putAt (cs ++ tl) off vs = putAt cs off vs ++ tl := by
  intro cs tl off vs
  induction vs generalizing cs off with
  | nil => intro _; simp [putAt]
  | cons v vs ih =>
    intro h
    simp only [List.length_cons] at h
    simp only [putAt]
    rw [List.set_append_left _ _ (by omega)]
    exact ih (cs.set off v) (off + 1) (by simp; omega)
theorem rw_stO {α : Type} [Inhabited α] (E : El α) (l : List α) (i o2 : Nat) (p : α) {e : TypeId} {X : SlV} {b : Option Nat} {t n : Nat} {x y : Operand} {g0 g1 bb : Bool} {v : Value} {vs : List Value} {ow' : List Own} {D : List Nat} (hf : Front ops r o D r')
    (hgD : (∃ l, r = .sq l) ∨ ∀ g, b = some g → g ∈ D) (hg : Guard ops SL o true) (hd : o.dst = none) (ho : o.op = .store t x y)
    (he : ev SL x = some (g0, .pointer (some (epA X.a i E.esz o2)))) (hg0 : g0 = true) (hev : ev SL y = some (g1, v)) (hg1 : g1 = true) (hs : T.siz t = some (n, bb)) (hvc : v.cells = vs.toArray) (hvn : vs.length = n)
    (hone : vs.all (·.oneCell') = true) (hle : Nat.ble (o2 + n) E.esz = true) (hlt : i < l.length) (hp : E.enc p = putAt (E.enc (gt l i)) o2 vs) (hu : UpdO OW (ownL E e X b l) [ownL E e X b (l.set i p)] ow')
    (h : RW P T C ops r' ⟨N, SL, BL, ow', FA⟩ Q) : RW P T C ops r ⟨N, SL, BL, OW, FA⟩ Q := by
  intro hT a w hrep
  have hle := Nat.le_of_ble_eq_true hle
  obtain ⟨ll, rr, e1, e2⟩ := hu.spec
  have hq := hrep.wo.ow (ownL E e X b l) (by rw [e1]; simp)
  obtain ⟨h1, h2, h3⟩ := hq
  simp only at h1 h2 h3
  cases b with
  | none => omega
  | some g =>
    obtain ⟨hmine, cap, cur, hv, hh, hnc, hcap, hcs, htake⟩ := h3
    simp only [SlV.val, Value.slice.injEq, true_and] at hv
    have hXa := hv.1
    have hidp : (ids ⟨N, SL, BL, OW, FA⟩).Perm (g :: (BL.map (·.g) ++ (ll ++ rr).filterMap (·.b))) := by
      subst e1
      simp only [ids, List.filterMap_append, List.filterMap_cons]
      rw [← List.append_assoc]
      exact (List.perm_middle).trans (by simp [List.append_assoc])
    have hMp : ∀ k, k ∈ ids ⟨N, SL, BL, OW, FA⟩ ↔ k ∈ g :: (BL.map (·.g) ++ (ll ++ rr).filterMap (·.b)) := fun k => hidp.mem_iff
    have hrep2 : Rep C ⟨N, SL, ⟨g, e, cur.toList⟩ :: BL, ll ++ rr, FA⟩ a w := by
      refine ⟨hrep.sz, hrep.df, hrep.sl, hrep.wo.be, fun k hk => ?_, fun q hq => hrep.wo.ow q (by
        rw [e1]
        rcases List.mem_append.1 hq with h | h
        · exact List.mem_append_left _ h
        · exact List.mem_append_right _ (.tail _ h)), ?_, fun F hF => ?_⟩
      · cases hk with
        | head => exact ⟨by simpa using hh, hmine⟩
        | tail _ hk => exact hrep.wo.bl k hk
      · have := hidp.nodup_iff.1 hrep.wo.nd
        simpa [ids] using this
      · have hF' := hrep.wo.fa F hF
        refine ⟨hF'.1, hF'.1.st _ _ w w hF'.2 ⟨Nat.le_refl _, fun _ _ _ => rfl⟩ fun k _ hm => ?_⟩
        rcases hm with hm | hm
        · exact .inl hm
        · exact .inr ((hMp k).2 (by simpa [ids] using hm))
    have hflat : (l.flatMap E.enc).length = l.length * E.esz := flatMap_len l fun a _ => E.len a
    have hsz : cur.toList.length = cap * E.esz := by rw [Array.length_toList]; exact hcs
    have hii : (i + 1) * E.esz ≤ l.length * E.esz := Nat.mul_le_mul_right _ hlt
    have hcc : l.length * E.esz ≤ cap * E.esz := Nat.mul_le_mul_right _ hnc
    rw [Nat.add_mul] at hii
    have hput : putAt cur.toList (i * E.esz + o2) vs = (l.set i p).flatMap E.enc ++ cur.toList.drop (l.length * E.esz) := by
      have hsplit : cur.toList = l.flatMap E.enc ++ cur.toList.drop (l.length * E.esz) := by rw [← htake, List.take_append_drop]
      conv => lhs; rw [hsplit]
      rw [putAt_appL _ _ _ _ (by omega), putAt_flat E p o2 vs (by omega) l i hlt hp]
    have hback : Le C ⟨N, SL, ⟨g, e, (l.set i p).flatMap E.enc ++ cur.toList.drop (l.length * E.esz)⟩ :: BL, ll ++ rr, FA⟩ ⟨N, SL, BL, ow', FA⟩ := fun a' w' hr => by
      have hb := hr.wo.bl _ (.head _)
      have hfl : ((l.set i p).flatMap E.enc).length = l.length * E.esz := by rw [flatMap_len _ fun a _ => E.len a]; simp
      have hidp2 : (ids ⟨N, SL, BL, ow', FA⟩).Perm (g :: (BL.map (·.g) ++ (ll ++ rr).filterMap (·.b))) := by
        subst e2
        simp only [ids, List.filterMap_append, List.filterMap_cons, List.filterMap_nil, List.nil_append, List.cons_append]
        rw [← List.append_assoc]
        exact (List.perm_middle).trans (by simp [List.append_assoc])
      refine ⟨hr.sz, hr.df, hr.sl, hr.wo.be, fun k hk => hr.wo.bl k (.tail _ hk), fun q hq => ?_, ?_, fun F hF => ?_⟩
      · rw [e2] at hq
        rcases List.mem_append.1 hq with hq | hq
        · exact hr.wo.ow q (List.mem_append_left _ hq)
        · rcases List.mem_append.1 hq with hq | hq
          · rw [List.mem_singleton] at hq
            subst hq
            refine ⟨by simp only [List.length_set]; exact hfl, by simpa using h2, hmine, cap, _, ?_, hb.1, by simpa using hnc, hcap, ?_, ?_⟩
            · simp only [SlV.val, Value.slice.injEq, true_and]; exact hv
            · simp only [List.size_toArray, List.length_append, hfl, List.length_drop, hsz]; omega
            · simp only [List.length_set]
              rw [← hfl]
              simp
          · exact hr.wo.ow q (List.mem_append_right _ hq)
      · refine hidp2.nodup_iff.2 ?_
        have := hr.wo.nd
        simpa [ids] using this
      · have hF' := hr.wo.fa F hF
        refine ⟨hF'.1, hF'.1.st _ _ w' w' hF'.2 ⟨Nat.le_refl _, fun _ _ _ => rfl⟩ fun k _ hm => ?_⟩
        rcases hm with hm | hm
        · exact .inl hm
        · exact .inr (by have := hidp2.mem_iff.1 hm; simpa [ids] using this)
    have hptr : epA X.a i E.esz o2 = ⟨g, i * E.esz + o2, none⟩ := by rw [hXa]; simp [epA, Addr.add_lit]
    rw [hptr] at he
    refine rw_stS (BL := ⟨g, e, cur.toList⟩ :: BL) (OW := ll ++ rr) (vs := vs) (cs := cur.toList) hf ?_ hg hd ho he hg0 hev hg1 hs hvc hvn hone (.here _ _ _ _ _) (by rw [hsz]; omega) ?_ hT a w hrep2
    · rcases hgD with h | h
      · exact .inl h
      · exact .inr (h g rfl)
    · rw [hput]
      exact rw_le hback h
end
end Go.Proofs.YtaiefncoholnnaaDoor.Fw

namespace Go.Proofs.YtaiefncoholnnaaDoor.Fw
open Go Go.RowKit

section
variable {P : Program} {T : Tab} {C : Cx} {ops : Array Oper} {o : Oper} {r r' : RS} {s : St} {Q : Post} {N : Nat} {SL : Slots} {BL : List Blk} {OW : List Own} {FA : List Pred} {c : Code}

/-! ### What is owned, as a block -/
theorem ids_mid {SL : Slots} {ll rr : List Own} {q : Own} {g : Nat} (hb : q.b = some g) : (ids ⟨N, SL, BL, ll ++ q :: rr, FA⟩).Perm (g :: (BL.map (·.g) ++ (ll ++ rr).filterMap (·.b))) := by
  simp only [ids, List.filterMap_append, List.filterMap_cons, hb]
  rw [← List.append_assoc]
  exact (List.perm_middle).trans (by simp [List.append_assoc])

theorem rep_ownblk {ll rr : List Own} {q : Own} {g : Nat} {cur : Array Value} {a : Act} {w : World} (hb : q.b = some g) (hrep : Rep C ⟨N, SL, BL, ll ++ q :: rr, FA⟩ a w) (hmine : C.mine g) (hh : w.heap[g]? = some (.cells cur q.e (0, 0))) :
    Rep C ⟨N, SL, ⟨g, q.e, cur.toList⟩ :: BL, ll ++ rr, FA⟩ a w := by
  have hidp := ids_mid (N := N) (SL := SL) (BL := BL) (FA := FA) (ll := ll) (rr := rr) hb
  refine ⟨hrep.sz, hrep.df, hrep.sl, hrep.wo.be, fun k hk => ?_, fun q' hq => hrep.wo.ow q' (by
      rcases List.mem_append.1 hq with h | h
      · exact List.mem_append_left _ h
      · exact List.mem_append_right _ (.tail _ h)), ?_, fun F hF => ?_⟩
  · cases hk with
    | head => exact ⟨by simpa using hh, hmine⟩
    | tail _ hk => exact hrep.wo.bl k hk
  · have := hidp.nodup_iff.1 hrep.wo.nd
    simpa [ids] using this
  · have hF' := hrep.wo.fa F hF
    refine ⟨hF'.1, hF'.1.st _ _ w w hF'.2 ⟨Nat.le_refl _, fun _ _ _ => rfl⟩ fun k _ hm => ?_⟩
    rcases hm with hm | hm
    · exact .inl hm
    · exact .inr (hidp.mem_iff.2 (by simpa [ids] using hm))

theorem le_blkown {ll rr : List Own} {q : Own} {g : Nat} {cs : List Value} (hb : q.b = some g) (hok : ∀ w : World, w.heap[g]? = some (.cells cs.toArray q.e (0, 0)) → C.mine g → OwnOk C w q) :
    Le C ⟨N, SL, ⟨g, q.e, cs⟩ :: BL, ll ++ rr, FA⟩ ⟨N, SL, BL, ll ++ q :: rr, FA⟩ := fun a w hr => by
  have hbk := hr.wo.bl _ (.head _)
  have hidp := ids_mid (N := N) (SL := SL) (BL := BL) (FA := FA) (ll := ll) (rr := rr) hb
  refine ⟨hr.sz, hr.df, hr.sl, hr.wo.be, fun k hk => hr.wo.bl k (.tail _ hk), fun q' hq => ?_, ?_, fun F hF => ?_⟩
  · rcases List.mem_append.1 hq with hq | hq
    · exact hr.wo.ow q' (List.mem_append_left _ hq)
    · cases hq with
      | head => exact hok w hbk.1 hbk.2
      | tail _ hq => exact hr.wo.ow q' (List.mem_append_right _ hq)
  · refine hidp.nodup_iff.2 ?_
    have := hr.wo.nd
    simpa [ids] using this
  · have hF' := hr.wo.fa F hF
    refine ⟨hF'.1, hF'.1.st _ _ w w hF'.2 ⟨Nat.le_refl _, fun _ _ _ => rfl⟩ fun k _ hm => ?_⟩
    rcases hm with hm | hm
    · exact .inl hm
    · exact .inr (by have := hidp.mem_iff.1 hm; simpa [ids] using this)

theorem zeroCells_one {z : Array Value} (hz : z.toList.all (·.oneCell') = true) (h0 : 0 < z.size) (n : Nat) : (Builtin.zeroCells z n).toList.all (·.oneCell') = true := by
  rw [List.all_eq_true] at hz ⊢
  intro u hu
  simp only [Builtin.zeroCells, Array.toList_map, List.mem_map] at hu
  obtain ⟨i, _, rfl⟩ := hu
  have hlt : i % z.size < z.size := Nat.mod_lt _ h0
  rw [getElem!_pos z _ hlt]
  exact hz _ (by simp)

theorem putAt_take : ∀ (vs cs : List Value) (off : Nat), (putAt cs off vs).take off = cs.take off := by
  intro vs
  induction vs with
  | nil => intro cs off; simp [putAt]
  | cons v vs ih =>
    intro cs off
    simp only [putAt]
    have h1 := ih (cs.set off v) (off + 1)
    have h2 : (putAt (cs.set off v) (off + 1) vs).take off = ((putAt (cs.set off v) (off + 1) vs).take (off + 1)).take off := by rw [List.take_take]; congr 1; omega
    rw [h2, h1, List.take_take, show min off (off + 1) = off by omega, List.take_set_of_le (by omega)]

/-- clear(s[k:]): what is owned are the first k from now on. -/
theorem rw_clearO {α : Type} (E : El α) (l : List α) (k : Nat) {e : TypeId} {X : SlV} {b : Option Nat} {t : Nat} {x : Operand} {g0 agg : Bool} {z : List Value} {ow' : List Own} {D : List Nat} (hf : Front ops r o D r')
    (hgD : (∃ l, r = .sq l) ∨ ∀ g, b = some g → g ∈ D) (hg : Guard ops SL o true) (hd : o.dst = none) (ho : o.op = .call ⟨.builtin .clear, ⟨[x]⟩, ⟨[t]⟩⟩)
    (he : ev SL x = some (g0, (⟨slA X.a X.c k E.esz, X.c - k⟩ : SlV).val (l.drop k).length)) (hg0 : g0 = true) (ht : T.slc t = some e) (hz : T.siz e = some (E.esz, agg)) (hzz : T.zer e = some z) (hzl : z.length = E.esz) (hz1 : z.all (·.oneCell') = true) (hpos : Nat.blt 0 E.esz = true)
    (hk : k ≤ l.length) (hu : UpdO OW (ownL E e X b l) [ownL E e X b (l.take k)] ow')
    (h : RW P T C ops r' ⟨N, SL, BL, ow', FA⟩ Q) : RW P T C ops r ⟨N, SL, BL, OW, FA⟩ Q := by
  have key : Loud P T C ⟨N, SL, BL, OW, FA⟩ o b.toList (fun s' => s' = ⟨N, SL, BL, ow', FA⟩) := by
    intro hT a w hrep
    have hpos := Nat.le_of_ble_eq_true hpos
    obtain ⟨ll, rr, e1, e2⟩ := hu.spec
    have e2 : ow' = ll ++ (ownL E e X b (l.take k) :: rr) := by rw [e2]; rfl
    have hq := hrep.wo.ow (ownL E e X b l) (by rw [e1]; simp)
    obtain ⟨h1, h2, h3⟩ := hq
    simp only at h1 h2 h3
    have hu' := hT.slc _ _ ht
    obtain ⟨tt, d', q1, q2, q3, q4⟩ := hT.siz _ _ _ hz
    obtain ⟨ti'', zv, hi'', hz'', hzc⟩ := hT.zer _ _ hzz
    rw [q1] at hi''
    cases hi''
    have hlt : (l.take k).length = k := by simp; omega
    have hkb : k * E.by_ ≤ l.length * E.by_ := Nat.mul_le_mul_right _ hk
    have hke : k * E.esz ≤ l.length * E.esz := Nat.mul_le_mul_right _ hk
    have hflat : (l.flatMap E.enc).length = l.length * E.esz := flatMap_len l fun a _ => E.len a
    have hs : l.flatMap E.enc = (l.take k).flatMap E.enc ++ (l.drop k).flatMap E.enc := by rw [← List.flatMap_append, List.take_append_drop]
    have hlk' : ((l.take k).flatMap E.enc).length = k * E.esz := by rw [flatMap_len _ fun a _ => E.len a, hlt]
    have hflk : ((l.take k).flatMap E.enc) = (l.flatMap E.enc).take (k * E.esz) := by
      rw [hs, ← hlk', List.take_left]
    by_cases hz0 : l.length = k
    · -- nothing to clear
      have hrun : (execOp a.eval o).run P w = .ok (.value (.tuple #[])) w := by
        have hm : (l.drop k).length = 0 := by simp; omega
        simp only [execOp, ho, resolve, invoke, builtin, Sem.run_bind, Sem.run_pure, Result.andThen_ok, List.map_toArray, List.map_cons, List.map_nil, ev_ok hrep.sl he hg0, SlV.val, hm]
        simp only [Builtin.clear_, List.getElem?_toArray, List.getElem?_cons_zero, run_underlying hu', Sem.run_bind, Result.andThen_ok]
        cases slA X.a X.c k E.esz <;> simp
      unfold Oper.wp
      rw [hrun, Oper.upon_value, hd]
      have hlk : l.take k = l := List.take_of_length_le (by omega)
      refine ⟨_, rfl, ?_, Keeps.refl _ _⟩
      rw [e2, hlk, ← e1]
      exact ⟨hrep.sz, hrep.df, hrep.sl, hrep.wo⟩
    · cases b with
      | none => omega
      | some g =>
        obtain ⟨hmine, cap, cur, hv, hh, hnc, hcap, hcs, htake⟩ := h3
        simp only [SlV.val, Value.slice.injEq, true_and] at hv
        have hsz : cur.toList.length = cap * E.esz := by rw [Array.length_toList]; exact hcs
        have hcc : l.length * E.esz ≤ cap * E.esz := Nat.mul_le_mul_right _ hnc
        have hm : (l.drop k).length = l.length - k := by simp
        have hzs : zv.cells.size = E.esz := by rw [← hzl, ← hzc]; simp
        have hzz1 : (Builtin.zeroCells zv.cells (l.length - k)).toList.all (·.oneCell') = true := zeroCells_one (by rw [← hzc] at hz1; exact hz1) (by omega) _
        have hzlen : (Builtin.zeroCells zv.cells (l.length - k)).toList.length = (l.length - k) * E.esz := by rw [Array.length_toList, size_zeroCells, hzs]
        have hadd : k * E.esz + (l.length - k) * E.esz = l.length * E.esz := by rw [← Nat.add_mul]; congr 1; omega
        have hrep2 := rep_ownblk (q := ownL E e X (some g) l) (g := g) (cur := cur) rfl (by rw [e1] at hrep; exact hrep) hmine hh
        obtain ⟨w', hr, hS⟩ := run_storeCells (P := P) (Builtin.zeroCells zv.cells (l.length - k)).toList w cur.toList 0 (k * E.esz) (hrep2.wo.bl _ (.head _)).1 (by rw [hzlen, hsz]; omega) (fun v hv => List.all_eq_true.1 hzz1 v hv)
        have hsl : slA X.a X.c k E.esz = some ⟨g, k * E.esz, none⟩ := by
          rw [hv.1, hv.2]
          unfold slA
          have : ¬ cap = k := by omega
          simp [this, Addr.add_lit]
          try omega
        have hrun : (execOp a.eval o).run P w = .ok (.value (.tuple #[])) w' := by
          simp only [execOp, ho, resolve, invoke, builtin, Sem.run_bind, Sem.run_pure, Result.andThen_ok, List.map_toArray, List.map_cons, List.map_nil, ev_ok hrep.sl he hg0, SlV.val, hm, hsl]
          have hne : l.length - k ≠ 0 := by omega
          obtain ⟨m, hm'⟩ : ∃ m, l.length - k = m + 1 := ⟨l.length - k - 1, by omega⟩
          rw [hm'] at hr ⊢
          simp only [Builtin.clear_, List.getElem?_toArray, List.getElem?_cons_zero, run_underlying hu', Sem.run_bind, Result.andThen_ok, run_zero' q1 hz'', hr, Sem.run_pure]
        unfold Oper.wp
        rw [hrun, Oper.upon_value, hd]
        have huniq : ∀ t'', (⟨g, t'', cur.toList⟩ : Blk) ∈ (⟨g, e, cur.toList⟩ :: BL : List Blk) → t'' = e := by
          intro t'' hm''
          have h1 := (hrep2.wo.bl _ hm'').1
          have h2 := (hrep2.wo.bl _ (.head _)).1
          simp only at h1 h2
          rw [h1] at h2
          simp at h2
          exact h2
        have hwo := hrep2.wo.store (t := e) (UpdB.here _ _ _ _ _) huniq hS
        refine ⟨_, rfl, ?_, by rw [hS.size]; exact Nat.le_refl _, fun k' _ hk' => hS.far k' fun e' => hk' (by simp [e'])⟩
        rw [e2]
        refine le_blkown (q := ownL E e X (some g) (l.take k)) (g := g) rfl (fun w'' hh'' hmine'' => ?_) _ _ ⟨hrep.sz, hrep.df, hrep.sl, hwo⟩
        refine ⟨(by show ((l.take k).flatMap E.enc).length = (l.take k).length * E.esz; rw [hlk', hlt]), ⟨(by show (l.take k).length ≤ _; rw [hlt]; omega), (by show (l.take k).length * E.by_ ≤ _; rw [hlt]; omega)⟩, hmine'', cap, _, ?_, hh'', (by show (l.take k).length ≤ cap; rw [hlt]; omega), hcap, ?_, ?_⟩
        · simp only [SlV.val, Value.slice.injEq, true_and]; exact hv
        · simp only [List.size_toArray]; rw [putAt_length]; exact hsz
        · show List.take ((l.take k).length * E.esz) _ = (l.take k).flatMap E.enc
          rw [hlt, hflk, ← htake, List.take_take, Nat.min_eq_left hke]
          exact putAt_take _ _ _
  have h' : ∀ s', s' = (⟨N, SL, BL, ow', FA⟩ : St) → RW P T C ops r' s' Q := fun s' e => by subst e; exact h
  cases hf with
  | sq => exact rw_lsq hg key h'
  | lo _ hi hDD => exact rw_l (.lo b.toList hi hDD) hg key h'
  | an hi hDD =>
    refine rw_l (.an hi hDD) hg (fun hT a w hrep => Oper.wp_mono (fun a' w' ⟨s', h1, h2, h3⟩ => ⟨s', h1, h2, h3.mono fun k hk => ?_⟩) (key hT a w hrep)) h'
    rcases hgD with ⟨_, e⟩ | e
    · cases e
    · exact e k (by simpa using hk)

/-- A cut s[:i] of a slice whose own are the first i. -/
theorem q_takeS {α : Type} (E : El α) {l : List α} {X : SlV} {h n t e esz : Nat} {x y : Operand} {g0 g1 G b : Bool} {k : IntKind} {iv : Int} (ho : o.op = .slice t x none (some y) none) (he : ev SL x = some (g0, X.val n)) (hg0 : G = true → g0 = true)
    (hy : ev SL y = some (g1, .int k iv)) (hg1 : G = true → g1 = true) (ht : T.slc t = some e) (hz : T.siz e = some (esz, b)) (hm : RdL E X l ∈ FA) (hi : G = true → iv = (h : Int)) (hle : G = true → h = l.length) : Quiet P T SL BL FA o G (X.val l.length) :=
  fun hT hG a w hsl hw => by
    obtain ⟨_, hrd⟩ := hw.fa _ hm
    have h1 := hrd.1
    have h2 := hle hG
    subst h2
    exact q_slhi (P := P) (BL := BL) (FA := FA) ho he hg0 hy hg1 ht hz hi (fun _ => h1) hT hG a w hsl hw

theorem cw_lenO {α : Type} (E : El α) {e : TypeId} {X : SlV} {b : Option Nat} {l : List α} (hm : ownL E e X b l ∈ OW) (h : l.length ≤ 9223372036854775807 → l.length * E.by_ ≤ 140737488355328 → CW P T C c ⟨N, SL, BL, OW, FA⟩ Q) : CW P T C c ⟨N, SL, BL, OW, FA⟩ Q := fun hT a w hr =>
  h (hr.wo.ow _ hm).2.1.1 (hr.wo.ow _ hm).2.1.2 hT a w hr
theorem rw_lenO {α : Type} (E : El α) {e : TypeId} {X : SlV} {b : Option Nat} {l : List α} (hm : ownL E e X b l ∈ OW) (h : l.length ≤ 9223372036854775807 → l.length * E.by_ ≤ 140737488355328 → RW P T C ops r ⟨N, SL, BL, OW, FA⟩ Q) : RW P T C ops r ⟨N, SL, BL, OW, FA⟩ Q := fun hT a w hr =>
  h (hr.wo.ow _ hm).2.1.1 (hr.wo.ow _ hm).2.1.2 hT a w hr

/-- Ways that meet again, at the end of a code. -/
theorem cw_joinB {ι : Type} (keep : List Nat) (mask : List Bool) (mS : ι → Slots) (mB : ι → List Blk) (mO : ι → List Own) (mF : ι → List Pred) (inv : ι → Prop) {SL' : Slots} {BL' : List Blk}
    (_hsel : Sel SL keep SL') (_hB : SelB BL mask BL')
    (h : CW P T C c ⟨N, SL, BL, OW, FA⟩ (joinQ C (fun i => ⟨N, mS i ++ SL', mB i ++ BL', mO i, mF i ++ FA⟩) inv Q))
    (hj : ∀ i, inv i → Q .normal ⟨N, mS i ++ SL', mB i ++ BL', mO i, mF i ++ FA⟩) : CW P T C c ⟨N, SL, BL, OW, FA⟩ Q := fun hT a w hr =>
  Code.wp_mono (fun e a w hq => by
    cases e with
    | normal => obtain ⟨s', ⟨i, h1, h2⟩, h3⟩ := hq; exact ⟨_, hj i h1, h2 a w h3⟩
    | exit i => exact hq
    | ret => exact hq
    | goto l => exact hq
    | panic c => exact hq
    | outgrown => exact hq) (h hT a w hr)
end
end Go.Proofs.YtaiefncoholnnaaDoor.Fw

namespace Go.Proofs.YtaiefncoholnnaaDoor.Fw
open Go Go.RowKit

section
variable {P : Program} {T : Tab} {C : Cx} {ops : Array Oper} {o : Oper} {r r' : RS} {s : St} {Q : Post} {N : Nat} {SL : Slots} {BL : List Blk} {OW : List Own} {FA : List Pred} {c : Code}

theorem cw_mono {Q Q' : Post} (h : ∀ e s, Q e s → Q' e s) (hc : CW P T C c s Q) : CW P T C c s Q' := fun hT a w hr => Code.wp_mono (fun e a w => postOf_mono h e a w) (hc hT a w hr)

/-! ### A loop that goes round no second time -/
def onceQ (Q : Post) : Post
  | .normal, _ => False
  | e, s => Q e s

theorem cw_once {b : Code} (h : CW P T C b s (onceQ Q)) : CW P T C (.loop b) s Q :=
  cw_loop (ι := Unit) (fun _ => s) (fun _ => True) (fun _ => 0) () trivial Le.refl fun _ _ => cw_mono (fun e s' hq => by
    cases e with
    | normal => exact hq.elim
    | exit i => exact hq
    | ret => exact hq
    | goto l => exact hq
    | panic c => exact hq
    | outgrown => exact hq) h

theorem PreR.sub {pre : List Pred} (h : SubM FA pre) : PreR FA OW pre := by
  induction h with
  | nil => exact .nil _ _
  | cons h _ ih => exact .fact h ih

theorem rw_callgv {D : List Nat} {d : Nat} {f : FuncId} {x : Operand} {xs : Array Operand} {ts : Array TypeId} {g0 g G : Bool} {vs caps args : List Value} {pre : List Pred} {X : Type} {val : X → Value} {post : X → List Pred} {v : Value}
    (hS : G = true → Does P f args pre val post) (hval : ∀ x, val x = v) (hfr : Front ops r o D r') (hG : Guard ops SL o G) (hd : o.dst = some d) (hn : Nat.blt d N = true) (ho : o.op = .call ⟨.value x, xs, ts⟩) (hx : ev SL x = some (g0, .func (.func f) #[] ⟨caps⟩)) (hg0 : G = true → g0 = true) (hf : T.fnb f = true)
    (he : evs SL xs.toList = some (g, vs)) (hgt : G = true → g = true) (ha : args = vs ++ caps) (hpre : SubM FA pre)
    (h : RW P T C ops r' ⟨N, (d, .o G v) :: SL, BL, OW, FA⟩ Q) : RW P T C ops r ⟨N, SL, BL, OW, FA⟩ Q := by
  intro hT a w hrep
  subst ha
  have hno : G = false → Rep C ⟨N, (d, .o G v) :: SL, BL, OW, FA⟩ (a.put (some d) undef) w := fun hGv =>
    hrep.putv (Nat.le_of_ble_eq_true hn) (x := .o G v) (u := undef) (by simp [SV.ok, hGv]) hrep.wo
  have hyes : G = true → o.wp P a w (fun a' w' => Rep C ⟨N, (d, .o G v) :: SL, BL, OW, FA⟩ a' w' ∧ Keeps D w w') noG := fun hGv => by
    refine call_wp (hS hGv) (exec_callv hT ho hf hrep.sl hx (hg0 hGv) he (hgt hGv) w) hd hrep hpre.mem (RB := BL) (RO := OW) (.refl _) (.refl _) fun x w' hw hk => ?_
    rw [hval]
    exact ⟨hrep.putv (Nat.le_of_ble_eq_true hn) (x := .o G v) (u := v) (by simp [SV.ok, hGv]) (bl := BL) (ow := OW) (fa := FA) ⟨hw.be, hw.bl, hw.ow, hw.nd, fun F hF => hw.fa F (List.mem_append_right _ hF)⟩, hk.mono (by simp [Lent.ids])⟩
  cases hfr with
  | sq =>
    show wpList P ops (postOf C Q) (o :: _) a w
    unfold wpList
    rw [hG a hrep.sl]
    cases hGv : G with
    | true =>
      rw [if_pos rfl]
      have := hyes hGv
      rw [hGv] at h this
      exact .inl (Oper.wp_mono (fun a' w' ⟨h1, _⟩ => h hT a' w' h1) (Oper.wp_no this))
    | false =>
      rw [if_neg (by simp), hd]
      exact h hT _ _ (hno hGv)
  | an hi hDD =>
    unfold wpR wpOp
    simp only [hi]
    rw [hG a hrep.sl]
    cases hGv : G with
    | true =>
      rw [if_pos rfl]
      have := hyes hGv
      rw [hGv] at h this
      exact .inl (Oper.wp_mono (fun a' w' ⟨h1, h2⟩ => ⟨by rw [hDD]; exact h2, h hT a' w' h1⟩) this)
    | false =>
      rw [if_neg (by simp), hd]
      exact ⟨KeepsO.refl _ _, h hT _ _ (hno hGv)⟩
  | lo _ hi hDD =>
    unfold wpR wpOp
    simp only [hi]
    rw [hG a hrep.sl]
    cases hGv : G with
    | true =>
      rw [if_pos rfl]
      have := hyes hGv
      rw [hGv] at h this
      exact .inl (Oper.wp_mono (fun a' w' ⟨h1, h2⟩ => ⟨by rw [hDD]; exact trivial, h hT a' w' h1⟩) this)
    | false =>
      rw [if_neg (by simp), hd]
      exact ⟨KeepsO.refl _ _, h hT _ _ (hno hGv)⟩

/-! ### Words without a sign: the middle of two numbers -/
theorem wrap_u (n : Int) (h : 0 ≤ n ∧ n ≤ 9223372036854775807) : IntKind.u64.wrap n = n := by
  simp only [IntKind.wrap, IntKind.bits]; simp; omega
theorem q_convU {t t' : Nat} {x : Operand} {g0 G : Bool} {a : Int} (hd : P.underlying t = some (.int .i64)) (hd' : P.underlying t' = some (.int .u64)) (ho : o.op = .convert t t' x) (he : ev SL x = some (g0, .int .i64 a)) (hg0 : G = true → g0 = true)
    (hb : G = true → 0 ≤ a ∧ a ≤ 9223372036854775807) : Quiet P T SL BL FA o G (.int .u64 a) :=
  fun hT hG a' w hsl hw => by
    have h1 := ev_ok hsl he (hg0 hG)
    have h3 := wrap_u a (hb hG)
    simp only [execOp, ho, h1, Sem.run_bind, convert, run_underlying hd, run_underlying hd', Result.andThen_ok, Conv.intToInt, h3, Sem.run_pure]
theorem q_convI {t t' : Nat} {x : Operand} {g0 G : Bool} {a : Int} (hd : P.underlying t = some (.int .u64)) (hd' : P.underlying t' = some (.int .i64)) (ho : o.op = .convert t t' x) (he : ev SL x = some (g0, .int .u64 a)) (hg0 : G = true → g0 = true)
    (hb : G = true → -9223372036854775808 ≤ a ∧ a ≤ 9223372036854775807) : Quiet P T SL BL FA o G (.int .i64 a) :=
  fun hT hG a' w hsl hw => by
    have h1 := ev_ok hsl he (hg0 hG)
    have h3 := wrap_in a (hb hG)
    simp only [execOp, ho, h1, Sem.run_bind, convert, run_underlying hd, run_underlying hd', Result.andThen_ok, Conv.intToInt, h3, Sem.run_pure]
theorem q_shr1 {t t' : Nat} {x : Operand} {g0 G : Bool} {a : Int} (ho : o.op = .binOp .shr t x (.const (.int .u64 1)) t') (he : ev SL x = some (g0, .int .u64 a)) (hg0 : G = true → g0 = true) : Quiet P T SL BL FA o G (.int .u64 (a / 2)) :=
  fun hT hG a' w hsl hw => by
    have h1 := ev_ok hsl he (hg0 hG)
    have h3 : (Op.shift .shr .u64 a .u64 1).run P w = .ok (.int .u64 (a / 2)) w := by
      simp [Op.shift, IntKind.bits, Int.fdiv_eq_ediv_of_nonneg]
    simp [execOp, ho, h1, eval_const, eqGuard, binOp, h3]

/-- An element of a cut s[k:] of what is owned, as one of s. -/
theorem q_idxK {α : Type} (E : El α) {l : List α} {X : SlV} {k esz t e : Nat} {x y : Operand} {g0 g1 G b : Bool} {kd : IntKind} {iv : Int} (i : Nat) (ho : o.op = .indexAddr t x y)
    (he : ev SL x = some (g0, (⟨slA X.a X.c k E.esz, X.c - k⟩ : SlV).val (l.drop k).length)) (hg0 : G = true → g0 = true) (hy : ev SL y = some (g1, .int kd iv)) (hg1 : G = true → g1 = true)
    (ht : T.slc t = some e) (hz : T.siz e = some (esz, b)) (hes : E.esz = esz) (hm : RdL E X l ∈ FA) (hi : G = true → iv = (i : Int)) (hlt : G = true → k + i < l.length) :
    Quiet P T SL BL FA o G (.pointer (some (epA X.a (k + i) esz 0))) :=
  fun hT hG a w hsl hw => by
    obtain ⟨ti, d, q1, q2, q3, q4⟩ := hT.siz _ _ _ hz
    have h1 := ev_ok hsl he (hg0 hG)
    have h2 := ev_ok hsl hy (hg1 hG)
    have hlt := hlt hG
    have hi := hi hG
    obtain ⟨_, r1, _, _, h4⟩ := hw.fa _ hm
    obtain ⟨ad, ha, _⟩ := h4 (by omega)
    subst hi; subst hes
    have hu := hT.slc _ _ ht
    have hs : slA X.a X.c k E.esz = some (ad.add (k * E.esz)) := by
      unfold slA
      rw [if_neg (by omega), ha]; rfl
    have hdl : (l.drop k).length = l.length - k := List.length_drop
    rw [SlV.val, hs, hdl] at h1
    simp only [execOp, ho, h1, h2, Instr.indexAt, asIntOf, Sem.run_bind, Sem.run_pure, Result.andThen_ok, run_underlying hu]
    rw [if_pos (by omega)]
    simp [run_sizeOf' q1, q2, epA, ha, addr_add_add, Nat.add_mul]

/-- A difference, as it comes round. -/
def wsub (a b : Int) : Int := IntKind.i64.wrap (a - b)
theorem wsub_eq {a b : Int} (h : -9223372036854775808 ≤ a - b ∧ a - b ≤ 9223372036854775807) : wsub a b = a - b := wrap_in _ h
theorem q_subW {t t' : Nat} {x y : Operand} {g0 g1 G : Bool} {a b : Int} (ho : o.op = .binOp .sub t x y t') (he : ev SL x = some (g0, .int .i64 a)) (hg0 : G = true → g0 = true)
    (hy : ev SL y = some (g1, .int .i64 b)) (hg1 : G = true → g1 = true) : Quiet P T SL BL FA o G (.int .i64 (wsub a b)) :=
  fun _ hG a' w hsl _ => by
    have h1 := ev_ok hsl he (hg0 hG)
    have h2 := ev_ok hsl hy (hg1 hG)
    simp [execOp, ho, h1, h2, eqGuard, binOp, Op.intArith, wsub]

/-- A cut s[:k] of what is owned. -/
theorem rw_takeOL {α : Type} (E : El α) (l : List α) (k : Nat) {d t : Nat} {x y : Operand} {g0 g1 b : Bool} {kd : IntKind} {iv : Int} {e : TypeId} {X : SlV} {ob : Option Nat} {ow' : List Own} {D : List Nat} (hf : Front ops r o D r') (hg : Guard ops SL o true) (hd : o.dst = some d) (hn : Nat.blt d N = true)
    (ho : o.op = .slice t x none (some y) none) (hx : ev SL x = some (g0, X.val l.length)) (hg0 : g0 = true) (hy : ev SL y = some (g1, .int kd iv)) (hg1 : g1 = true) (ht : T.slc t = some e) (hz : T.siz e = some (E.esz, b))
    (hu : UpdO OW (ownL E e X ob l) [ownL E e X ob (l.take k)] ow') (hi : iv = (k : Int)) (hk : k ≤ l.length)
    (h : RW P T C ops r' ⟨N, (d, .v (X.val (l.take k).length)) :: SL, BL, ow', FA⟩ Q) : RW P T C ops r ⟨N, SL, BL, OW, FA⟩ Q := by
  have e1 : (l.take k).length = k := by simp; omega
  have e2 : (l.take k).flatMap E.enc = (l.flatMap E.enc).take (k * E.esz) := by
    have hs : l.flatMap E.enc = (l.take k).flatMap E.enc ++ (l.drop k).flatMap E.enc := by rw [← List.flatMap_append, List.take_append_drop]
    have hlk : ((l.take k).flatMap E.enc).length = k * E.esz := by rw [flatMap_len _ fun a _ => E.len a, e1]
    rw [hs, ← hlk, List.take_left]
  refine rw_takeO (ob := ob) (k := k) (n := l.length) (xs := l.flatMap E.enc) (by_ := E.by_) (ow' := ow') hf hg hd hn ho hx hg0 hy hg1 ht hz ?_ hi hk ?_
  · have := hu
    unfold ownL at this
    rw [e1, e2] at this
    exact this
  · have := h
    rw [e1] at this
    exact this
end
end Go.Proofs.YtaiefncoholnnaaDoor.Fw

namespace Go.Proofs.YtaiefncoholnnaaDoor.Fw
open Go
variable {P : Program} {T : Tab} {C : Cx} {ops : Array Oper} {Q : Post} {N : Nat} {SL : List (Nat × SV)} {BL : List Blk} {OW : List Own} {FA : List Pred} {o : Oper}
/-- A quiet one that is the one taken next. -/
theorem ra_now {fp : Nat → Option (List Nat)} {fuel : Nat} {listed : Array Bool} {i d : Nat} {v : Value} (hi : ops[i]? = some o) (hg : o.guard = none) (hd : o.dst = some d) (hn : Nat.blt d N = true) (hq : Quiet P T SL BL FA o true v)
    (h : RW P T C ops (.an fp fuel (listed.setIfInBounds i true)) ⟨N, (d, .v v) :: SL, BL, OW, FA⟩ Q) : RW P T C ops (.at_ fp fuel listed i) ⟨N, SL, BL, OW, FA⟩ Q := by
  intro hT a w hrep
  have hs : ReadsQ BL OW FA (some []) BL FA := ⟨rfl, _, SplitB.all _, by simp⟩
  have hk := wq_keepsO hrep.wo hs (KeepsO.refl _ _)
  have hG := (guard_none (ops := ops) (SL := SL) hg) a hrep.sl
  unfold wpR wpOp
  simp only [hi]
  rw [if_pos hG]
  refine .inl ?_
  unfold Oper.wp
  rw [hq hT rfl a w hrep.sl hk, Oper.upon_value, hd]
  exact ⟨KeepsO.refl _ _, h hT _ _ (hrep.putv (Nat.le_of_ble_eq_true hn) (by simp [SV.ok]) hrep.wo)⟩
end Go.Proofs.YtaiefncoholnnaaDoor.Fw

namespace Go.Proofs.YtaiefncoholnnaaDoor.Fw
open Go Go.RowKit

/-! ### What is owned and has slices in its elements -/
section
variable {G α : Type}
def updG (γ : Nat → G) (i : Nat) (g : G) : Nat → G := fun j => if j = i then g else γ j
def appG (γ : Nat → G) (n : Nat) (δ : Nat → G) : Nat → G := fun j => if j < n then γ j else δ (j - n)
def dropG (γ : Nat → G) (k : Nat) : Nat → G := fun j => γ (k + j)
theorem zipG_ext {γ δ : Nat → G} : ∀ {l : List α} {k m : Nat}, (∀ i, i < l.length → γ (k + i) = δ (m + i)) → zipG γ k l = zipG δ m l
  | [], _, _, _ => rfl
  | a :: r, k, m, h => by
    rw [zipG, zipG]
    have h0 := h 0 (by simp)
    simp only [Nat.add_zero] at h0
    rw [h0, zipG_ext (k := k + 1) (m := m + 1) fun i hi => ?_]
    have := h (i + 1) (by simp; omega)
    rwa [show k + 1 + i = k + (i + 1) by omega, show m + 1 + i = m + (i + 1) by omega]
theorem zipG_app (γ : Nat → G) : ∀ (l m : List α) (k : Nat), zipG γ k (l ++ m) = zipG γ k l ++ zipG γ (k + l.length) m
  | [], m, k => by simp [zipG]
  | a :: r, m, k => by
    simp only [List.cons_append, zipG, List.length_cons]
    rw [zipG_app γ r m (k + 1), show k + 1 + r.length = k + (r.length + 1) by omega]
theorem zipG_append (γ δ : Nat → G) (l m : List α) : zipG γ 0 l ++ zipG δ 0 m = zipG (appG γ l.length δ) 0 (l ++ m) := by
  rw [zipG_app]
  congr 1
  · exact zipG_ext fun i hi => by simp [appG, hi]
  · refine zipG_ext fun i _ => ?_
    simp only [appG, Nat.zero_add]
    rw [if_neg (by omega)]; congr 1; omega
theorem zipG_take (γ : Nat → G) : ∀ (l : List α) (n k : Nat), (zipG γ k l).take n = zipG γ k (l.take n)
  | [], n, k => by simp [zipG]
  | a :: r, 0, k => by simp [zipG]
  | a :: r, n + 1, k => by simp [zipG, zipG_take γ r n (k + 1)]
theorem zipG_drop0 (γ : Nat → G) : ∀ (l : List α) (n k : Nat), (zipG γ k l).drop n = zipG γ (k + n) (l.drop n)
  | [], n, k => by simp [zipG]
  | a :: r, 0, k => by simp [zipG]
  | a :: r, n + 1, k => by
    simp only [zipG, List.drop_succ_cons]
    rw [zipG_drop0 γ r n (k + 1), show k + 1 + n = k + (n + 1) by omega]
theorem zipG_drop (γ : Nat → G) (l : List α) (n : Nat) : (zipG γ 0 l).drop n = zipG (dropG γ n) 0 (l.drop n) := by
  rw [zipG_drop0]
  exact zipG_ext fun i _ => by simp [dropG]
theorem zipG_set (γ : Nat → G) (g : G) (a : α) : ∀ (l : List α) (i k : Nat), (zipG γ k l).set i (g, a) = zipG (updG γ (k + i) g) k (l.set i a)
  | [], i, k => by simp [zipG]
  | b :: r, 0, k => by
    simp only [zipG, List.set_cons_zero, Nat.add_zero, updG, if_pos]
    congr 1
    exact zipG_ext fun i _ => by simp only [updG]; rw [if_neg (by omega)]
  | b :: r, i + 1, k => by
    simp only [zipG, List.set_cons_succ]
    rw [zipG_set γ g a r i (k + 1), show k + 1 + i = k + (i + 1) by omega]
    congr 1
    simp only [updG]; rw [if_neg (by omega)]
theorem zipG_map (γ : Nat → G) : ∀ (l : List α) (k : Nat), (zipG γ k l).map (·.2) = l
  | [], _ => rfl
  | a :: r, k => by simp [zipG, zipG_map γ r (k + 1)]
end

section
variable {α : Type} [Inhabited α] (EN : En α)
/-- Owned; what is in its elements is read only. -/
abbrev ownN (e : TypeId) (X : SlV) (b : Option Nat) (γ : Nat → EN.G) (l : List α) : Own := ownL EN.E e X b (zipG γ 0 l)
theorem FactsG.upd {γ : Nat → EN.G} {l : List α} {i : Nat} {g : EN.G} {a : α} {M : Nat → Prop} {w : World} (h : FactsG EN γ l M w) (hn : AllF (EN.facts (g, a)) M w) : FactsG EN (updG γ i g) (l.set i a) M w := fun j hj => by
  rw [List.length_set] at hj
  by_cases hji : j = i
  · subst hji
    have h2 : gt (l.set j a) j = a := by simp [gt, List.getD_eq_getElem?_getD, hj]
    rw [h2]
    simp only [updG, if_pos]; exact hn
  · have h1 : updG γ i g j = γ j := by simp [updG, hji]
    have h2 : gt (l.set i a) j = gt l j := by simp [gt, List.getD_eq_getElem?_getD, List.getElem?_set_ne (fun h : i = j => hji h.symm)]
    rw [h1, h2]; exact h j hj
theorem FactsG.app {γ δ : Nat → EN.G} {l m : List α} {M : Nat → Prop} {w : World} (h : FactsG EN γ l M w) (h' : FactsG EN δ m M w) : FactsG EN (appG γ l.length δ) (l ++ m) M w := fun j hj => by
  rw [List.length_append] at hj
  by_cases hjl : j < l.length
  · have h1 : appG γ l.length δ j = γ j := by simp [appG, hjl]
    have h2 : gt (l ++ m) j = gt l j := by simp [gt, List.getD_eq_getElem?_getD, List.getElem?_append_left hjl]
    rw [h1, h2]; exact h j hjl
  · have h1 : appG γ l.length δ j = δ (j - l.length) := by simp [appG, hjl]
    have h2 : gt (l ++ m) j = gt m (j - l.length) := by simp [gt, List.getD_eq_getElem?_getD, List.getElem?_append_right (Nat.le_of_not_lt hjl)]
    rw [h1, h2]; exact h' _ (by omega)
theorem FactsG.take {γ : Nat → EN.G} {l : List α} {M : Nat → Prop} {w : World} (n : Nat) (h : FactsG EN γ l M w) : FactsG EN γ (l.take n) M w := fun j hj => by
  rw [List.length_take] at hj
  have h2 : gt (l.take n) j = gt l j := by simp [gt, List.getD_eq_getElem?_getD, List.getElem?_take, show j < n by omega]
  rw [h2]; exact h j (by omega)
theorem FactsG.drop {γ : Nat → EN.G} {l : List α} {M : Nat → Prop} {w : World} (n : Nat) (h : FactsG EN γ l M w) : FactsG EN (dropG γ n) (l.drop n) M w := fun j hj => by
  rw [List.length_drop] at hj
  have h2 : gt (l.drop n) j = gt l (n + j) := by simp [gt, List.getD_eq_getElem?_getD]
  rw [h2]; exact h _ (by omega)
theorem stabFG (γ : Nat → EN.G) (l : List α) : Stab (FactsG EN γ l) := inferInstance
theorem FactsG.nil (γ : Nat → EN.G) (M : Nat → Prop) (w : World) : FactsG EN γ [] M w := fun j hj => absurd hj (by simp)
theorem FactsG.one {g : EN.G} {a : α} {M : Nat → Prop} {w : World} (h : AllF (EN.facts (g, a)) M w) : FactsG EN (fun _ => g) [a] M w := fun j hj => by
  have : j = 0 := by simp at hj; omega
  subst this
  exact h
theorem FactsG.const {g : EN.G} {l : List α} {M : Nat → Prop} {w : World} (h : ∀ a ∈ l, AllF (EN.facts (g, a)) M w) : FactsG EN (fun _ => g) l M w := fun j hj => h _ (gt_mem hj)
theorem RdN.ofG {X : SlV} {γ : Nat → EN.G} {l : List α} {M : Nat → Prop} {w : World} (h : RdG EN X γ l M w) (hf : FactsG EN γ l M w) : RdN EN X l M w := ⟨γ, h, hf⟩
end
section
variable {P : Program} {T : Tab} {C : Cx} {ops : Array Oper} {o : Oper} {r r' : RS} {Q : Post} {N : Nat} {SL : Slots} {BL : List Blk} {OW : List Own} {FA : List Pred}
/-- Cells of an element of what is owned, and has slices in it, are written. -/
theorem rw_stON {α : Type} [Inhabited α] (EN : En α) (γ : Nat → EN.G) (l : List α) (i o2 : Nat) (g : EN.G) (p : α) {e : TypeId} {X : SlV} {b : Option Nat} {t n : Nat} {x y : Operand} {g0 g1 bb : Bool} {v : Value} {vs : List Value} {ow' : List Own} {D : List Nat} (hf : Front ops r o D r')
    (hgD : (∃ l, r = .sq l) ∨ ∀ g, b = some g → g ∈ D) (hg : Guard ops SL o true) (hd : o.dst = none) (ho : o.op = .store t x y)
    (he : ev SL x = some (g0, .pointer (some (epA X.a i EN.E.esz o2)))) (hg0 : g0 = true) (hev : ev SL y = some (g1, v)) (hg1 : g1 = true) (hs : T.siz t = some (n, bb)) (hvc : v.cells = vs.toArray) (hvn : vs.length = n)
    (hone : vs.all (·.oneCell') = true) (hle : Nat.ble (o2 + n) EN.E.esz = true) (hlt : i < l.length) (hp : EN.E.enc (g, p) = putAt (EN.E.enc (γ i, gt l i)) o2 vs) (hu : UpdO OW (ownN EN e X b γ l) [ownN EN e X b (updG γ i g) (l.set i p)] ow')
    (h : RW P T C ops r' ⟨N, SL, BL, ow', FA⟩ Q) : RW P T C ops r ⟨N, SL, BL, OW, FA⟩ Q := by
  have hu' : UpdO OW (ownL EN.E e X b (zipG γ 0 l)) [ownL EN.E e X b ((zipG γ 0 l).set i (g, p))] ow' := by
    rw [zipG_set, Nat.zero_add]; exact hu
  exact rw_stO EN.E (zipG γ 0 l) i o2 (g, p) hf hgD hg hd ho he hg0 hev hg1 hs hvc hvn hone hle (by rw [zipG_len]; exact hlt) (by rw [zipG_gt γ hlt]; exact hp) hu' h
/-- The same element again. -/
theorem rw_stON2 {α : Type} [Inhabited α] (EN : En α) (γ : Nat → EN.G) (l : List α) (i o2 : Nat) (g0' : EN.G) (p0 : α) (g : EN.G) (p : α) {e : TypeId} {X : SlV} {b : Option Nat} {t n : Nat} {x y : Operand} {g0 g1 bb : Bool} {v : Value} {vs : List Value} {ow' : List Own} {D : List Nat} (hf : Front ops r o D r')
    (hgD : (∃ l, r = .sq l) ∨ ∀ g, b = some g → g ∈ D) (hg : Guard ops SL o true) (hd : o.dst = none) (ho : o.op = .store t x y)
    (he : ev SL x = some (g0, .pointer (some (epA X.a i EN.E.esz o2)))) (hg0 : g0 = true) (hev : ev SL y = some (g1, v)) (hg1 : g1 = true) (hs : T.siz t = some (n, bb)) (hvc : v.cells = vs.toArray) (hvn : vs.length = n)
    (hone : vs.all (·.oneCell') = true) (hle : Nat.ble (o2 + n) EN.E.esz = true) (hlt : i < l.length) (hp : EN.E.enc (g, p) = putAt (EN.E.enc (g0', p0)) o2 vs) (hu : UpdO OW (ownN EN e X b (updG γ i g0') (l.set i p0)) [ownN EN e X b (updG γ i g) (l.set i p)] ow')
    (h : RW P T C ops r' ⟨N, SL, BL, ow', FA⟩ Q) : RW P T C ops r ⟨N, SL, BL, OW, FA⟩ Q := by
  have e1 : gt (l.set i p0) i = p0 := by simp [gt, List.getD_eq_getElem?_getD, hlt]
  have e2 : updG γ i g0' i = g0' := by simp [updG]
  have e3 : updG (updG γ i g0') i g = updG γ i g := by funext j; simp only [updG]; split <;> rfl
  have e4 : (l.set i p0).set i p = l.set i p := List.set_set ..
  refine rw_stON EN (updG γ i g0') (l.set i p0) i o2 g p hf hgD hg hd ho he hg0 hev hg1 hs hvc hvn hone hle (by rw [List.length_set]; exact hlt) (by rw [e1, e2]; exact hp) (by rw [e3, e4]; exact hu) h

theorem rw_appendN {α : Type} [Inhabited α] (EN : En α) (γ δ : Nat → EN.G) (l m : List α) {e : TypeId} {X : SlV} {b : Option Nat} {d t : Nat} {x y : Operand} {g0 g1 : Bool} {v : Value} {z : List Value} {agg : Bool} {ow' : SlV → Option Nat → List Own} {D : List Nat} (hf : Front ops r o D r') (hbD : ∀ g, b = some g → (∃ l, r = .sq l) ∨ g ∈ D) (hg : Guard ops SL o true) (hd : o.dst = some d) (hn : Nat.blt d N = true)
    (ho : o.op = .call ⟨.builtin .append, ⟨[x, y]⟩, ⟨[t, t]⟩⟩) (hx : ev SL x = some (g0, X.val l.length)) (hg0 : g0 = true) (hy : ev SL y = some (g1, v)) (hg1 : g1 = true)
    (hu : ∀ (X' : SlV) b', UpdO OW (ownN EN e X b γ l) [ownN EN e X' b' (appG γ l.length δ) (l ++ m)] (ow' X' b'))
    (ht : T.slc t = some e) (hz : T.siz e = some (EN.E.esz, agg)) (hzz : T.zer e = some z) (hzl : z.length = EN.E.esz) (hby : T.byt e = some EN.E.by_) (hpos : Nat.blt 0 EN.E.esz = true) (hbp : Nat.blt 0 EN.E.by_ = true)
    (hr : Reads ⟨N, SL, BL, OW, FA⟩ C EN.E.esz v m.length ((zipG δ 0 m).flatMap EN.E.enc)) (hb : (l.length + m.length) * EN.E.by_ ≤ 140737488355328)
    (h : ∀ (X' : SlV) (b' : Option Nat), RW P T C ops r' ⟨N, (d, .v (X'.val (l ++ m).length)) :: SL, BL, ow' X' b', FA⟩ Q) : RW P T C ops r ⟨N, SL, BL, OW, FA⟩ Q := by
  have e1 := zipG_append γ δ l m
  refine rw_appendL EN.E (zipG γ 0 l) (zipG δ 0 m) (ow' := ow') hf hbD hg hd hn ho (by rw [zipG_len]; exact hx) hg0 hy hg1 (fun X' b' => by rw [e1]; exact hu X' b') ht hz hzz hzl hby hpos hbp (by rw [zipG_len]; exact hr) (by rw [zipG_len, zipG_len]; exact hb) fun X' b' => ?_
  rw [e1, zipG_len]
  exact h X' b'
theorem reads_ownN {α : Type} [Inhabited α] {EN : En α} {e : TypeId} {X : SlV} {b : Option Nat} {γ : Nat → EN.G} {l : List α} (hm : ownN EN e X b γ l ∈ OW) : Reads ⟨N, SL, BL, OW, FA⟩ C EN.E.esz (X.val l.length) l.length ((zipG γ 0 l).flatMap EN.E.enc) := by
  have := reads_ownL (N := N) (SL := SL) (BL := BL) (FA := FA) (C := C) hm
  rwa [zipG_len] at this
theorem reads_rdN {α : Type} [Inhabited α] {EN : En α} {X : SlV} {γ : Nat → EN.G} {l : List α} (hm : RdG EN X γ l ∈ FA) : Reads ⟨N, SL, BL, OW, FA⟩ C EN.E.esz (X.val l.length) l.length ((zipG γ 0 l).flatMap EN.E.enc) := by
  have := reads_rdL (N := N) (SL := SL) (BL := BL) (OW := OW) (C := C) hm
  rwa [zipG_len] at this
end
end Go.Proofs.YtaiefncoholnnaaDoor.Fw

namespace Go.Proofs.YtaiefncoholnnaaDoor.Fw
open Go Go.RowKit

section
variable {P : Program} {T : Tab} {C : Cx} {ops : Array Oper} {o : Oper} {r r' : RS} {s : St} {Q : Post} {N : Nat} {SL : Slots} {BL : List Blk} {OW : List Own} {FA : List Pred}
/-- A slice of so many, all zero. -/
theorem rw_mkslice {D : List Nat} {d t e esz by_ n : Nat} {b g0 g1 : Bool} {x y : Operand} {z cs : List Value} (hf : Front ops r o D r') (hg : Guard ops SL o true) (hd : o.dst = some d) (hn : Nat.blt d N = true) (ho : o.op = .makeSlice t x y)
    (hx : ev SL x = some (g0, .int .i64 (n : Int))) (hg0 : g0 = true) (hy : ev SL y = some (g1, .int .i64 (n : Int))) (hg1 : g1 = true)
    (ht : T.slc t = some e) (hz : T.siz e = some (esz, b)) (hzz : T.zer e = some z) (hzl : z.length = esz) (hby : T.byt e = some by_) (hnb : Nat.ble (n * by_) 140737488355328 = true) (hpos : Nat.blt 0 esz = true) (hcs : zerosL z (n * esz) = cs) (hsm : Nat.ble (n * esz) 16777216 = true)
    (h : ∀ (X : SlV) (b' : Option Nat), RW P T C ops r' ⟨N, (d, .v (X.val n)) :: SL, BL, ⟨X.val n, b', e, esz, by_, n, cs⟩ :: OW, FA⟩ Q) : RW P T C ops r ⟨N, SL, BL, OW, FA⟩ Q :=
  rw_val hf hg hd hn (K := fun u bl ow fa => ∃ (X : SlV) (b' : Option Nat), u = X.val n ∧ bl = BL ∧ ow = ⟨X.val n, b', e, esz, by_, n, cs⟩ :: OW ∧ fa = FA)
    (fun hT a w hrep => by
      obtain ⟨ti, dd, q1, q2, q3, q4⟩ := hT.siz _ _ _ hz
      obtain ⟨ti', zv, p1, p2, p3⟩ := hT.zer _ _ hzz
      obtain ⟨ti2, r1, r2⟩ := hT.byt _ _ hby
      have hsm := Nat.le_of_ble_eq_true hsm
      have hnb := Nat.le_of_ble_eq_true hnb
      have hpos : 0 < esz := Nat.le_of_ble_eq_true hpos
      have hns : n ≤ n * esz := Nat.le_mul_of_pos_right _ hpos
      have hcl : cs.length = n * esz := by rw [← hcs]; simp [zerosL]
      refine ⟨.slice (some ⟨w.heap.size, 0, none⟩) n n, _, BL, _, FA, ?_, hrep.wo.allocO e esz by_ n cs hcl (by omega) hnb, keeps_push _ _ _, ⟨some ⟨w.heap.size, 0, none⟩, n⟩, some w.heap.size, rfl, rfl, rfl, rfl⟩
      have h1 := ev_ok hrep.sl hx hg0
      have h2 := ev_ok hrep.sl hy hg1
      have hw := wrap_in (n : Int) (by omega)
      have e1 : ti.bytes = by_ := by rw [q1] at r1; cases r1; exact r2
      have e2 : ¬ ((by_ : Int) * (n : Int) > 2 ^ 48) := by
        have : ((n * by_ : Nat) : Int) ≤ 140737488355328 := by omega
        rw [Int.natCast_mul, Int.mul_comm] at this; omega
      have e3 : ¬ n * by_ > roomBytes := by
        show ¬ n * by_ > 2 ^ 47
        omega
      simp only [execOp, ho, Instr.makeSlice, h1, h2, Sem.run_bind, run_underlying (hT.slc _ _ ht), Result.andThen_ok, asInt, asIntOf, Sem.run_pure, run_typeInfo' q1, hw, e1]
      rw [if_neg (by
        simp only [Bool.or_eq_true, decide_eq_true_eq, not_or]
        exact ⟨⟨⟨by omega, e2⟩, by omega⟩, by omega⟩)]
      simp only [Int.toNat_natCast, askRoom, if_neg e3, Sem.run_bind, Sem.run_pure, Result.andThen_ok, run_sizeOf' q1, q2]
      have hz2 : (Array.range (n * esz)).map (fun x => zv.cells[x % zv.cells.size]!) = cs.toArray := by
        apply Array.ext'
        rw [← hcs]
        simp only [Array.toList_map, Array.toList_range, zerosL]
        refine List.map_congr_left fun i hi => ?_
        have hzs : zv.cells.size = z.length := by rw [← p3]; simp
        have hlt : i % z.length < z.length := Nat.mod_lt _ (by omega)
        rw [hzs, getElem!_pos zv.cells (i % z.length) (by omega)]
        have hlt' : i % z.length < zv.cells.size := by omega
        have hg : zv.cells.toList[i % z.length]? = some (zv.cells[i % z.length]'hlt') := by
          rw [Array.getElem?_toList]
          exact Array.getElem?_eq_getElem hlt'
        rw [p3] at hg
        rw [hg]
        rfl
      by_cases h0 : n * esz = 0
      · rw [if_pos h0]
        have hc0 : cs = [] := List.length_eq_zero_iff.1 (by omega)
        subst hc0
        simp [h0, newRow]
        rw [show (Array.range 0) = #[] from rfl, Array.map_empty]
      · rw [if_neg h0]
        simp only [Sem.run_bind, run_zero' p1 p2, Result.andThen_ok, Sem.run_pure, hz2]
        simp [newRow])
    (fun u bl ow fa ⟨X, b', e1, e2, e3, e4⟩ => by subst e1; subst e2; subst e3; subst e4; exact h X b')
theorem rw_mksliceL {α : Type} (E : El α) (l : List α) {D : List Nat} {d t e n : Nat} {b g0 g1 : Bool} {x y : Operand} {z : List Value} (hf : Front ops r o D r') (hg : Guard ops SL o true) (hd : o.dst = some d) (hn : Nat.blt d N = true) (ho : o.op = .makeSlice t x y)
    (hx : ev SL x = some (g0, .int .i64 (n : Int))) (hg0 : g0 = true) (hy : ev SL y = some (g1, .int .i64 (n : Int))) (hg1 : g1 = true) (hnl : n = l.length)
    (ht : T.slc t = some e) (hz : T.siz e = some (E.esz, b)) (hzz : T.zer e = some z) (hzl : z.length = E.esz) (hby : T.byt e = some E.by_) (hnb : Nat.ble (n * E.by_) 140737488355328 = true) (hpos : Nat.blt 0 E.esz = true) (hcs : zerosL z (n * E.esz) = l.flatMap E.enc) (hsm : Nat.ble (n * E.esz) 16777216 = true)
    (h : ∀ (X : SlV) (b' : Option Nat), RW P T C ops r' ⟨N, (d, .v (X.val l.length)) :: SL, BL, ownL E e X b' l :: OW, FA⟩ Q) : RW P T C ops r ⟨N, SL, BL, OW, FA⟩ Q := by
  subst hnl
  exact rw_mkslice hf hg hd hn ho hx hg0 hy hg1 ht hz hzz hzl hby hnb hpos hcs hsm h
end
theorem putAt_whole : ∀ (l cs : List Value) (n : Nat), cs.length = n + l.length → putAt cs n l = cs.take n ++ l
  | [], cs, n, h => by simp only [putAt, List.append_nil]; rw [List.take_of_length_le (by simp at h; omega)]
  | v :: l, cs, n, h => by
    rw [putAt, putAt_whole l _ (n + 1) (by simp at h ⊢; omega)]
    have hn : n < cs.length := by simp at h; omega
    rw [List.take_set, List.take_succ_eq_append_getElem hn, List.set_append_right _ _ (by simp; omega)]
    simp [Nat.min_eq_left (Nat.le_of_lt hn)]
theorem fillL_one {k : Nat} {z : List Value} {v : Value} {l : List Value} (hv : v.cells.toList = l) (hl : l.length = k) : fillL ((List.range 1).map fun i => (i * k, k)) (zerosL z (1 * k)) [(0, v)] = some l := by
  subst hl
  have h0 : (zerosL z (1 * l.length)).length = 0 + l.length := by simp [zerosL]
  simp only [fillL, List.range_one, List.map_cons, List.map_nil, List.getElem?_cons_zero, hv, Nat.beq_refl]
  have h1 : Nat.ble (0 * l.length + l.length) (zerosL z (1 * l.length)).length = true := by rw [h0]; simp
  rw [h1]
  simp only
  rw [show 0 * l.length = 0 by simp, putAt_whole _ _ _ h0]; simp
def mkparts : Nat → List Value → List (Nat × Value)
  | _, [] => []
  | i, v :: r => (i, v) :: mkparts (i + 1) r
theorem putAt_len : ∀ (vs cs : List Value) (n : Nat), (putAt cs n vs).length = cs.length
  | [], _, _ => rfl
  | v :: vs, cs, n => by rw [putAt, putAt_len vs]; simp
theorem putAt_mid : ∀ (vs cs : List Value) (n : Nat), n + vs.length ≤ cs.length → (putAt cs n vs).take (n + vs.length) = cs.take n ++ vs
  | [], cs, n, _ => by simp [putAt]
  | v :: vs, cs, n, h => by
    simp only [List.length_cons] at h
    have h1 := putAt_mid vs (cs.set n v) (n + 1) (by simp; omega)
    rw [putAt, List.length_cons, show n + (vs.length + 1) = n + 1 + vs.length by omega, h1]
    have hn : n < cs.length := by omega
    rw [List.take_set, List.take_succ_eq_append_getElem hn, List.set_append_right _ _ (by simp; omega)]
    simp [Nat.min_eq_left (Nat.le_of_lt hn)]
theorem fillL_seq {k n : Nat} : ∀ (vs : List Value) (i : Nat) (cs : List Value), cs.length = n * k → i + vs.length = n → (∀ v ∈ vs, v.cells.toList.length = k) → fillL ((List.range n).map fun i => (i * k, k)) cs (mkparts i vs) = some (cs.take (i * k) ++ vs.flatMap (fun v => v.cells.toList))
  | [], i, cs, hc, hi, _ => by
    have : cs.length ≤ i * k := by rw [hc, ← hi]; simp
    simp [mkparts, fillL, List.take_of_length_le this]
  | v :: vs, i, cs, hc, hi, hv => by
    simp only [List.length_cons] at hi
    have hvk := hv v (.head _)
    have hle : i * k + k ≤ cs.length := by rw [hc, ← Nat.succ_mul]; exact Nat.mul_le_mul_right k (by omega)
    have hg : ((List.range n).map fun i => (i * k, k))[i]? = some (i * k, k) := by simp [show i < n by omega]
    rw [mkparts, fillL, hg]
    simp only [hvk, Nat.beq_refl]
    have hb : Nat.ble (i * k + k) cs.length = true := Nat.ble_eq_true_of_le hle
    rw [hb]
    simp only
    rw [fillL_seq vs (i + 1) _ (by rw [putAt_len]; exact hc) (by omega) fun w hw => hv w (.tail _ hw)]
    have h2 := putAt_mid v.cells.toList cs (i * k) (by omega)
    rw [hvk] at h2
    rw [Nat.succ_mul, h2, List.flatMap_cons, List.append_assoc]
theorem fillL_many {k n : Nat} {z l : List Value} {ps : List (Nat × Value)} (vs : List Value) (hp : ps = mkparts 0 vs) (hv : ∀ v ∈ vs, v.cells.toList.length = k) (hn : vs.length = n) (hl : vs.flatMap (fun v => v.cells.toList) = l) : fillL ((List.range n).map fun i => (i * k, k)) (zerosL z (n * k)) ps = some l := by
  subst hp hl
  rw [fillL_seq vs 0 _ (by simp [zerosL]) (by omega) hv]; simp
end Go.Proofs.YtaiefncoholnnaaDoor.Fw

namespace Go.Proofs.YtaiefncoholnnaaDoor.Fw
open Go Go.RowKit Go.ChangeShapes Go.WideShapes Go.Deep

/-! ### A slice whose elements hold slices, opened -/
section
variable {P : Program} {H : Type}
theorem weightsAll_mem {e : TypeId} : ∀ {ds : List (DataW H)} {d : DataW H}, d ∈ ds → ∀ {n : Nat}, n ∈ d.weights P e → n ∈ DataW.weightsAll P e ds
  | a :: r, d, h, n, hn => by
    rw [DataW.weightsAll, List.mem_append]
    rcases List.mem_cons.1 h with rfl | h
    · exact .inl hn
    · exact .inr (weightsAll_mem h hn)
theorem opens_nslice {α : Type} [Inhabited α] (EN : En α) {t e : TypeId} (ht : P.underlying t = some (.slice e)) (hO : Opens P e (fun (a : α) (g : EN.G) => EN.E.enc (g, a)) (fun a g => EN.facts (g, a))) (hc : P.cellsOf e = EN.E.esz) (hpos : Nat.blt 0 EN.E.esz = true) (hby : P.bytesOf e = EN.E.by_) :
    Opens P t (fun (l : List α) (X : SlV) => [X.val l.length]) (fun l X => [RdN EN X l]) := .mk fun {H} enc w fuel cs x hx hsz => by
  have hpos := Nat.le_of_ble_eq_true hpos
  rcases open_slice ht hx with ⟨rfl, _⟩ | ⟨a, len, cap, m, n, D, Pl, rfl, _, hlc, hcm, hm, hx, hi⟩
  · exact ⟨[], ⟨none, 0⟩, rfl, fun F hF => by rw [List.mem_singleton] at hF; subst hF; exact RdN.nil EN _ _⟩
  · simp only [if_true] at hm
    subst hx
    rw [List.all_eq_true] at hsz
    have hrow : ∀ i, i < len → ∃ p : EN.G × α, (∀ (j : Nat) (v : Value), (EN.E.enc p)[j]? = some v → w.cell? (a.add (i * EN.E.esz + j)) = some v) ∧ ∀ F ∈ EN.facts p, F (fun _ => False) w := by
      intro i hil
      obtain ⟨cs', hcs, htr⟩ := hi i (by omega)
      have hw : ((D i).weights P e).all (· ≤ reachBytes) = true := by
        rw [List.all_eq_true]
        intro k hk
        refine hsz k ?_
        simp only [DataW.weights, ht, List.mem_cons, List.mem_append]
        exact .inr (.inl (weightsAll_mem (List.mem_map.2 ⟨i, List.mem_range.2 hil, rfl⟩) hk))
      obtain ⟨a0, g0, rfl, hf⟩ := hO.op enc w n cs' (D i, Pl i) htr hw
      obtain ⟨_, hl, hat⟩ := World.cells?_some hcs
      refine ⟨(g0, a0), fun j v hv => ?_, hf⟩
      obtain ⟨hlt, _⟩ := List.getElem?_eq_some_iff.1 hv
      have := hat j (by omega)
      rw [hc, addr_add_add] at this
      rw [this, hv]
    obtain ⟨hs, hl, hp⟩ := choose_list hrow
    have hbound : hs.length * EN.E.by_ ≤ 140737488355328 := by
      have := hsz ((len + (m - len)) * EN.E.by_) (by simp [DataW.weights, ht, hby])
      have h2 : hs.length * EN.E.by_ ≤ (len + (m - len)) * EN.E.by_ := Nat.mul_le_mul_right _ (by omega)
      have h3 : reachBytes ≤ 140737488355328 := by decide
      simp at this
      omega
    have hrd : RdL EN.E ⟨some a, cap⟩ hs (fun _ => False) w := ⟨by rw [hl]; exact hlc, by simpa [maxLen] using hcm, hbound, fun hpl => ⟨a, rfl, by
      have h0 := (hp 0 hpl).1
      have hle : (EN.E.enc hs[0]).length = EN.E.esz := EN.E.len _
      have hcell := h0 0 _ (List.getElem?_eq_getElem (by omega))
      unfold World.cell? at hcell
      rw [addr_block] at hcell
      cases hh : w.heap[a.block]? with
      | none => simp [hh] at hcell
      | some ob => exact heap_lt hh, fun h => h, fun i hi j v hv => (hp i hi).1 j v hv⟩⟩
    refine ⟨hs.map (·.2), ⟨some a, cap⟩, by rw [List.length_map, hl]; rfl, fun F hF => ?_⟩
    rw [List.mem_singleton] at hF
    subst hF
    exact RdN.of EN rfl hrd fun p hp' => by
      obtain ⟨i, hi', rfl⟩ := List.getElem_of_mem hp'
      exact (hp i hi').2
end
end Go.Proofs.YtaiefncoholnnaaDoor.Fw

namespace Go.Proofs.YtaiefncoholnnaaDoor.Fw
open Go Go.RowKit

section
variable {P : Program} {T : Tab} {C : Cx} {ops : Array Oper} {o : Oper} {r r' : RS} {s : St} {Q : Post} {N : Nat} {SL : Slots} {BL : List Blk} {OW : List Own} {FA : List Pred} {c : Code}

/-! ### Elements deleted out of what is owned, in place -/
theorem own_cap {α : Type} {E : El α} {e : TypeId} {X : SlV} {b : Option Nat} {l : List α} {w : World} (h : OwnOk C w (ownL E e X b l)) : l.length ≤ X.c ∧ X.c ≤ 9223372036854775807 := by
  obtain ⟨h1, h2, h3⟩ := h
  cases b with
  | none =>
    obtain ⟨h0, A, hA⟩ := h3
    simp only [SlV.val, Value.slice.injEq] at hA
    simp only at h0
    omega
  | some g =>
    obtain ⟨_, cap, cur, hv, _, hnc, hcap, _⟩ := h3
    simp only [SlV.val, Value.slice.injEq, true_and] at hv
    simp only at hnc
    omega
theorem cw_capO {α : Type} (E : El α) {e : TypeId} {X : SlV} {b : Option Nat} {l : List α} (hm : ownL E e X b l ∈ OW) (h : l.length ≤ X.c ∧ X.c ≤ 9223372036854775807 → CW P T C c ⟨N, SL, BL, OW, FA⟩ Q) : CW P T C c ⟨N, SL, BL, OW, FA⟩ Q := fun hT a w hr =>
  h (own_cap (hr.wo.ow _ hm)) hT a w hr

/-- append(s[:i], s[j:]...) of what is owned: within its own block. -/
theorem rw_appendCut {α : Type} (E : El α) (l : List α) (i j : Nat) {e : TypeId} {X : SlV} {b : Option Nat} {d t : Nat} {x y : Operand} {g0 g1 : Bool} {agg : Bool} {ow' : List Own} {D : List Nat} (hf : Front ops r o D r')
    (hgD : (∃ l, r = .sq l) ∨ ∀ g, b = some g → g ∈ D) (hg : Guard ops SL o true) (hd : o.dst = some d) (hn : Nat.blt d N = true)
    (ho : o.op = .call ⟨.builtin .append, ⟨[x, y]⟩, ⟨[t, t]⟩⟩) (hx : ev SL x = some (g0, X.val (l.take i).length)) (hg0 : g0 = true) (hy : ev SL y = some (g1, (⟨slA X.a X.c j E.esz, X.c - j⟩ : SlV).val (l.drop j).length)) (hg1 : g1 = true)
    (ht : T.slc t = some e) (hz : T.siz e = some (E.esz, agg)) (hij : i ≤ j) (hj : j ≤ l.length)
    (hu : UpdO OW (ownL E e X b l) [ownL E e X b (l.take i ++ l.drop j)] ow')
    (h : RW P T C ops r' ⟨N, (d, .v (X.val (l.take i ++ l.drop j).length)) :: SL, BL, ow', FA⟩ Q) : RW P T C ops r ⟨N, SL, BL, OW, FA⟩ Q := by
  have key : Loud P T C ⟨N, SL, BL, OW, FA⟩ o b.toList (fun s' => s' = ⟨N, (d, .v (X.val (l.take i ++ l.drop j).length)) :: SL, BL, ow', FA⟩) := by
    intro hT a w hrep
    refine Oper.wp_mono ?_ (loud_val (D := b.toList) hd hn (K := fun u bl ow fa => u = X.val (l.take i ++ l.drop j).length ∧ bl = BL ∧ ow = ow' ∧ fa = FA) ?_ hT a w hrep)
    · rintro a' w' ⟨s', ⟨u, bl, ow, fa, ⟨e1, e2, e3, e4⟩, e5⟩, h2, h3⟩
      subst e1; subst e2; subst e3; subst e4
      exact ⟨s', e5, h2, h3⟩
    · intro hT a w hrep
      obtain ⟨ll, rr, e1, e2⟩ := hu.spec
      have e2 : ow' = ll ++ (ownL E e X b (l.take i ++ l.drop j) :: rr) := by rw [e2]; rfl
      have hq := hrep.wo.ow (ownL E e X b l) (by rw [e1]; simp)
      have hcap0 := own_cap hq
      obtain ⟨h1, h2, h3⟩ := hq
      simp only at h1 h2 h3
      have hu' := hT.slc _ _ ht
      obtain ⟨ti, d', q1, q2, q3, q4⟩ := hT.siz _ _ _ hz
      have hti : (l.take i).length = i := by simp; omega
      have hdj : (l.drop j).length = l.length - j := by simp
      have hlen : (l.take i ++ l.drop j).length = i + (l.length - j) := by rw [List.length_append, hti, hdj]
      have hfl : ((l.take i).flatMap E.enc).length = i * E.esz := by rw [flatMap_len _ fun a _ => E.len a, hti]
      have hfd : ((l.drop j).flatMap E.enc).length = (l.length - j) * E.esz := by rw [flatMap_len _ fun a _ => E.len a, hdj]
      have hft : (l.take i).flatMap E.enc = (l.flatMap E.enc).take (i * E.esz) := by
        have hs : l.flatMap E.enc = (l.take i).flatMap E.enc ++ (l.drop i).flatMap E.enc := by rw [← List.flatMap_append, List.take_append_drop]
        rw [hs, ← hfl, List.take_left]
      have hfdr : (l.drop j).flatMap E.enc = (l.flatMap E.enc).drop (j * E.esz) := by
        have hs : l.flatMap E.enc = (l.take j).flatMap E.enc ++ (l.drop j).flatMap E.enc := by rw [← List.flatMap_append, List.take_append_drop]
        have hl2 : ((l.take j).flatMap E.enc).length = j * E.esz := by rw [flatMap_len _ fun a _ => E.len a]; simp [Nat.min_eq_left hj]
        rw [hs, ← hl2, List.drop_left]
      have hnb : (i + (l.length - j)) * E.by_ ≤ l.length * E.by_ := Nat.mul_le_mul_right _ (by omega)
      have hrun0 : ∀ {u w'}, (Builtin.append_ #[t, t] o.type #[X.val (l.take i).length, (⟨slA X.a X.c j E.esz, X.c - j⟩ : SlV).val (l.drop j).length]).run P w = .ok u w' → (execOp a.eval o).run P w = .ok (.value u) w' := fun hr => by
        simp only [execOp, ho, resolve, invoke, builtin, Sem.run_bind, Sem.run_pure, Result.andThen_ok, List.map_toArray, List.map_cons, List.map_nil, ev_ok hrep.sl hx hg0, ev_ok hrep.sl hy hg1, hr]
      cases b with
      | none =>
        obtain ⟨h0, A, hA⟩ := h3
        have hl0 : l = [] := List.length_eq_zero_iff.1 h0
        subst hl0
        have hi0 : i = 0 := by simp at hj; omega
        have hj0 : j = 0 := by simpa using hj
        subst hi0; subst hj0
        refine ⟨X.val 0, w, BL, ow', FA, hrun0 ?_, ?_, Keeps.refl _ _, rfl, rfl, rfl, rfl⟩
        · simp only [SlV.val]
          exact run_append_m0 hu' q1 w (Nat.zero_le _)
        · have e3 : ow' = OW := by rw [e2, e1]; rfl
          rw [e3]; exact hrep.wo
      | some g =>
        obtain ⟨hmine, cap, cur, hv, hh, hnc, hcap, hcs, htake⟩ := h3
        simp only [SlV.val, Value.slice.injEq, true_and] at hv
        have hsz : cur.toList.length = cap * E.esz := by rw [Array.length_toList]; exact hcs
        have hcc : l.length * E.esz ≤ cap * E.esz := Nat.mul_le_mul_right _ hnc
        have hie : i * E.esz ≤ l.length * E.esz := Nat.mul_le_mul_right _ (by omega)
        have hje : j * E.esz ≤ l.length * E.esz := Nat.mul_le_mul_right _ hj
        have hadd : i * E.esz + (l.length - j) * E.esz = (i + (l.length - j)) * E.esz := (Nat.add_mul _ _ _).symm
        have hadd2 : j * E.esz + (l.length - j) * E.esz = l.length * E.esz := by rw [← Nat.add_mul]; congr 1; omega
        have hadd3 : (i + (l.length - j)) * E.esz ≤ l.length * E.esz := Nat.mul_le_mul_right _ (by omega)
        have hrep2 := rep_ownblk (q := ownL E e X (some g) l) (g := g) (cur := cur) rfl (by rw [e1] at hrep; exact hrep) hmine hh
        have hct : cur.toList.take (i * E.esz) = (l.take i).flatMap E.enc := by
          rw [hft, ← htake, List.take_take, Nat.min_eq_left hie]
        have hok : ∀ cs : List Value, cs.length = cap * E.esz → cs.take ((i + (l.length - j)) * E.esz) = (l.take i ++ l.drop j).flatMap E.enc → ∀ w' : World, w'.heap[g]? = some (.cells cs.toArray e (0, 0)) → C.mine g → OwnOk C w' (ownL E e X (some g) (l.take i ++ l.drop j)) := fun cs hc1 hc2 w' hh' hm' => by
          refine ⟨(by show ((l.take i ++ l.drop j).flatMap E.enc).length = (l.take i ++ l.drop j).length * E.esz; rw [flatMap_len _ fun a _ => E.len a]), ⟨(by show (l.take i ++ l.drop j).length ≤ _; rw [hlen]; omega), (by show (l.take i ++ l.drop j).length * E.by_ ≤ _; rw [hlen]; omega)⟩, hm', cap, _, ?_, hh', (by show (l.take i ++ l.drop j).length ≤ cap; rw [hlen]; omega), hcap, ?_, ?_⟩
          · simp only [SlV.val, Value.slice.injEq, true_and]; exact hv
          · simpa using hc1
          · show List.take ((l.take i ++ l.drop j).length * E.esz) _ = _
            rw [hlen]; exact hc2
        by_cases hm0 : l.length = j
        · refine ⟨X.val (l.take i ++ l.drop j).length, w, BL, ow', FA, hrun0 ?_, ?_, Keeps.refl _ _, rfl, rfl, rfl, rfl⟩
          · have : (l.drop j).length = 0 := by rw [hdj]; omega
            have h6 : (l.take i ++ l.drop j).length = (l.take i).length := by rw [List.length_append, this]; rfl
            rw [h6, this]
            simp only [SlV.val]
            exact run_append_m0 hu' q1 w (by rw [hti]; omega)
          · rw [e2]
            refine (le_blkown (q := ownL E e X (some g) (l.take i ++ l.drop j)) (g := g) (cs := cur.toList) rfl (hok _ hsz ?_) _ _ hrep2).wo
            have : l.drop j = [] := List.drop_of_length_le (by omega)
            rw [this, List.append_nil, ← hct]
            congr 1
            rw [show l.length - j = 0 by omega]; rfl
        · obtain ⟨w', hr, hS⟩ := run_storeCells (P := P) ((l.drop j).flatMap E.enc) w cur.toList 0 (i * E.esz) (hrep2.wo.bl _ (.head _)).1 (by rw [hfd, hsz]; omega) (fun v hv => by
            obtain ⟨a, _, ha⟩ := List.mem_flatMap.1 hv
            exact E.one a v ha)
          have hsl : slA X.a X.c j E.esz = some ⟨g, j * E.esz, none⟩ := by
            rw [hv.1, hv.2]
            unfold slA
            have : ¬ cap = j := by omega
            simp [this, Addr.add_lit]
            try omega
          have hcell : ∀ k v, ((l.drop j).flatMap E.enc)[k]? = some v → w.cell? ((⟨g, j * E.esz, none⟩ : Addr).add k) = some v := fun k v hk => by
            have hk1 : k < (l.length - j) * E.esz := by
              obtain ⟨hlt, _⟩ := List.getElem?_eq_some_iff.1 hk
              rw [hfd] at hlt; exact hlt
            rw [add_none, blk_cell (hrep2.wo.bl _ (.head _)).1]
            rw [hfdr, List.getElem?_drop, ← htake, List.getElem?_take] at hk
            split at hk
            · exact hk
            · cases hk
          have hfc : (Builtin.firstCells E.esz (l.length - j) (.slice (some ⟨g, j * E.esz, none⟩) (l.length - j) (X.c - j))).run P w = .ok ((l.drop j).flatMap E.enc).toArray w := by
            simp only [Builtin.firstCells]
            exact run_loadCells hfd hcell
          have hroom : i + (l.length - j) ≤ X.c := by omega
          have huniq : ∀ t'', (⟨g, t'', cur.toList⟩ : Blk) ∈ (⟨g, e, cur.toList⟩ :: BL : List Blk) → t'' = e := by
            intro t'' hm''
            have h1 := (hrep2.wo.bl _ hm'').1
            have h2 := (hrep2.wo.bl _ (.head _)).1
            simp only at h1 h2
            rw [h1] at h2
            simp at h2
            exact h2
          have hwo := hrep2.wo.store (t := e) (UpdB.here _ _ _ _ _) huniq hS
          refine ⟨X.val (l.take i ++ l.drop j).length, w', BL, ow', FA, hrun0 ?_, ?_, ⟨by rw [hS.size]; exact Nat.le_refl _, fun k' _ hk' => hS.far k' fun e' => hk' (by simp [e'])⟩, rfl, rfl, rfl, rfl⟩
          · rw [hlen, hti, hdj]
            simp only [SlV.val, hsl]
            rw [hv.1]
            simp [Builtin.append_, run_underlying hu', sizeOf, typeInfo, q1, q2, Builtin.lenOf, hroom, hfc, Addr.add_lit, hr]
          · rw [e2]
            refine (le_blkown (q := ownL E e X (some g) (l.take i ++ l.drop j)) (g := g) (cs := putAt cur.toList (i * E.esz + 0) ((l.drop j).flatMap E.enc)) rfl (hok _ (by rw [putAt_length]; exact hsz) ?_) a w' ⟨hrep.sz, hrep.df, hrep.sl, hwo⟩).wo
            rw [Nat.add_zero, ← hadd, ← hfd, putAt_mid _ _ _ (by rw [hfd, hsz]; omega), hct, List.flatMap_append]
  have h' : ∀ s', s' = (⟨N, (d, .v (X.val (l.take i ++ l.drop j).length)) :: SL, BL, ow', FA⟩ : St) → RW P T C ops r' s' Q := fun s' e => by subst e; exact h
  cases hf with
  | sq => exact rw_lsq hg key h'
  | lo _ hi hDD => exact rw_l (.lo b.toList hi hDD) hg key h'
  | an hi hDD =>
    refine rw_l (.an hi hDD) hg (fun hT a w hrep => Oper.wp_mono (fun a' w' ⟨s', h1, h2, h3⟩ => ⟨s', h1, h2, h3.mono fun k hk => ?_⟩) (key hT a w hrep)) h'
    rcases hgD with ⟨_, e⟩ | e
    · cases e
    · exact e k (by simpa using hk)

/-- clear(s[n:h]) where the first n are owned: what is behind these is of no use. -/
theorem rw_clearT {α : Type} (E : El α) (l : List α) (h : Nat) {e : TypeId} {X : SlV} {b : Option Nat} {t : Nat} {x : Operand} {g0 agg : Bool} {z : List Value} {D : List Nat} (hf : Front ops r o D r')
    (hgD : (∃ l, r = .sq l) ∨ ∀ g, b = some g → g ∈ D) (hg : Guard ops SL o true) (hd : o.dst = none) (ho : o.op = .call ⟨.builtin .clear, ⟨[x]⟩, ⟨[t]⟩⟩)
    (he : ev SL x = some (g0, .slice (slA X.a X.c l.length E.esz) (h - l.length) (X.c - l.length))) (hg0 : g0 = true) (ht : T.slc t = some e) (hz : T.siz e = some (E.esz, agg)) (hzz : T.zer e = some z) (hzl : z.length = E.esz) (hz1 : z.all (·.oneCell') = true) (hpos : Nat.blt 0 E.esz = true)
    (hlh : l.length ≤ h) (hhc : h ≤ X.c) (hm : ownL E e X b l ∈ OW)
    (hk : RW P T C ops r' ⟨N, SL, BL, OW, FA⟩ Q) : RW P T C ops r ⟨N, SL, BL, OW, FA⟩ Q := by
  have key : Loud P T C ⟨N, SL, BL, OW, FA⟩ o b.toList (fun s' => s' = ⟨N, SL, BL, OW, FA⟩) := by
    intro hT a w hrep
    have hpos := Nat.le_of_ble_eq_true hpos
    obtain ⟨ll, rr, e1⟩ := List.append_of_mem hm
    have hq := hrep.wo.ow (ownL E e X b l) hm
    have hcap0 := own_cap hq
    obtain ⟨h1, h2, h3⟩ := hq
    simp only at h1 h2 h3
    have hu' := hT.slc _ _ ht
    obtain ⟨tt, d', q1, q2, q3, q4⟩ := hT.siz _ _ _ hz
    obtain ⟨ti'', zv, hi'', hz'', hzc⟩ := hT.zer _ _ hzz
    rw [q1] at hi''
    cases hi''
    by_cases hz0 : h - l.length = 0
    · have hrun : (execOp a.eval o).run P w = .ok (.value (.tuple #[])) w := by
        simp only [execOp, ho, resolve, invoke, builtin, Sem.run_bind, Sem.run_pure, Result.andThen_ok, List.map_toArray, List.map_cons, List.map_nil, ev_ok hrep.sl he hg0, hz0]
        simp only [Builtin.clear_, List.getElem?_toArray, List.getElem?_cons_zero, run_underlying hu', Sem.run_bind, Result.andThen_ok]
        cases slA X.a X.c l.length E.esz <;> simp
      unfold Oper.wp
      rw [hrun, Oper.upon_value, hd]
      exact ⟨_, rfl, ⟨hrep.sz, hrep.df, hrep.sl, hrep.wo⟩, Keeps.refl _ _⟩
    · cases b with
      | none =>
        obtain ⟨h0, A, hA⟩ := h3
        simp only [SlV.val, Value.slice.injEq] at hA
        omega
      | some g =>
        obtain ⟨hmine, cap, cur, hv, hh, hnc, hcap, hcs, htake⟩ := h3
        simp only [SlV.val, Value.slice.injEq, true_and] at hv
        have hsz : cur.toList.length = cap * E.esz := by rw [Array.length_toList]; exact hcs
        have hhe : h * E.esz ≤ cap * E.esz := Nat.mul_le_mul_right _ (by omega)
        have hzs : zv.cells.size = E.esz := by rw [← hzl, ← hzc]; simp
        have hzz1 : (Builtin.zeroCells zv.cells (h - l.length)).toList.all (·.oneCell') = true := zeroCells_one (by rw [← hzc] at hz1; exact hz1) (by omega) _
        have hzlen : (Builtin.zeroCells zv.cells (h - l.length)).toList.length = (h - l.length) * E.esz := by rw [Array.length_toList, size_zeroCells, hzs]
        have hadd : l.length * E.esz + (h - l.length) * E.esz = h * E.esz := by rw [← Nat.add_mul]; congr 1; omega
        have hrep2 := rep_ownblk (q := ownL E e X (some g) l) (g := g) (cur := cur) rfl (by rw [e1] at hrep; exact hrep) hmine hh
        obtain ⟨w', hr, hS⟩ := run_storeCells (P := P) (Builtin.zeroCells zv.cells (h - l.length)).toList w cur.toList 0 (l.length * E.esz) (hrep2.wo.bl _ (.head _)).1 (by rw [hzlen, hsz]; omega) (fun v hv => List.all_eq_true.1 hzz1 v hv)
        have hsl : slA X.a X.c l.length E.esz = some ⟨g, l.length * E.esz, none⟩ := by
          rw [hv.1, hv.2]
          unfold slA
          have : ¬ cap = l.length := by omega
          simp [this, Addr.add_lit]
          try omega
        have hrun : (execOp a.eval o).run P w = .ok (.value (.tuple #[])) w' := by
          simp only [execOp, ho, resolve, invoke, builtin, Sem.run_bind, Sem.run_pure, Result.andThen_ok, List.map_toArray, List.map_cons, List.map_nil, ev_ok hrep.sl he hg0, hsl]
          obtain ⟨m, hm'⟩ : ∃ m, h - l.length = m + 1 := ⟨h - l.length - 1, by omega⟩
          rw [hm'] at hr ⊢
          simp only [Builtin.clear_, List.getElem?_toArray, List.getElem?_cons_zero, run_underlying hu', Sem.run_bind, Result.andThen_ok, run_zero' q1 hz'', hr, Sem.run_pure]
        unfold Oper.wp
        rw [hrun, Oper.upon_value, hd]
        have huniq : ∀ t'', (⟨g, t'', cur.toList⟩ : Blk) ∈ (⟨g, e, cur.toList⟩ :: BL : List Blk) → t'' = e := by
          intro t'' hm''
          have h1 := (hrep2.wo.bl _ hm'').1
          have h2 := (hrep2.wo.bl _ (.head _)).1
          simp only at h1 h2
          rw [h1] at h2
          simp at h2
          exact h2
        have hwo := hrep2.wo.store (t := e) (UpdB.here _ _ _ _ _) huniq hS
        refine ⟨_, rfl, ?_, by rw [hS.size]; exact Nat.le_refl _, fun k' _ hk' => hS.far k' fun e' => hk' (by simp [e'])⟩
        rw [e1]
        refine le_blkown (q := ownL E e X (some g) l) (g := g) rfl (fun w'' hh'' hmine'' => ?_) _ _ ⟨hrep.sz, hrep.df, hrep.sl, hwo⟩
        refine ⟨h1, h2, hmine'', cap, _, ?_, hh'', hnc, hcap, ?_, ?_⟩
        · simp only [SlV.val, Value.slice.injEq, true_and]; exact hv
        · simp only [List.size_toArray]; rw [putAt_length]; exact hsz
        · show List.take (l.length * E.esz) _ = l.flatMap E.enc
          rw [Nat.add_zero, putAt_take]
          exact htake
  have h' : ∀ s', s' = (⟨N, SL, BL, OW, FA⟩ : St) → RW P T C ops r' s' Q := fun s' e => by subst e; exact hk
  cases hf with
  | sq => exact rw_lsq hg key h'
  | lo _ hi hDD => exact rw_l (.lo b.toList hi hDD) hg key h'
  | an hi hDD =>
    refine rw_l (.an hi hDD) hg (fun hT a w hrep => Oper.wp_mono (fun a' w' ⟨s', h1, h2, h3⟩ => ⟨s', h1, h2, h3.mono fun k hk => ?_⟩) (key hT a w hrep)) h'
    rcases hgD with ⟨_, e⟩ | e
    · cases e
    · exact e k (by simpa using hk)
end
section
variable {G α : Type}
theorem zipG_del (γ : Nat → G) (l : List α) (i j : Nat) (hi : i ≤ l.length) : (zipG γ 0 l).take i ++ (zipG γ 0 l).drop j = zipG (appG γ i (dropG γ j)) 0 (l.take i ++ l.drop j) := by
  rw [zipG_take, zipG_drop, zipG_append]
  congr 2
  simp [Nat.min_eq_left hi]
end
section
variable {α : Type} [Inhabited α] (EN : En α)
theorem FactsG.del {γ : Nat → EN.G} {l : List α} {M : Nat → Prop} {w : World} (i j : Nat) (hi : i ≤ l.length) (h : FactsG EN γ l M w) : FactsG EN (appG γ i (dropG γ j)) (l.take i ++ l.drop j) M w := by
  have h1 := FactsG.app EN (FactsG.take EN i h) (FactsG.drop EN j h)
  have e : (l.take i).length = i := by simp [Nat.min_eq_left hi]
  rwa [e] at h1
end
end Go.Proofs.YtaiefncoholnnaaDoor.Fw
namespace Go.Proofs.YtaiefncoholnnaaDoor.Fw
open Go Go.RowKit
section
variable {P : Program} {T : Tab} {C : Cx} {ops : Array Oper} {o : Oper} {r r' : RS} {s : St} {Q : Post} {N : Nat} {SL : Slots} {BL : List Blk} {OW : List Own} {FA : List Pred} {c : Code}
theorem q_sl3 {t e n c k0 h m esz : Nat} {x y y' y2 : Operand} {g0 g1 g2 g3 G b : Bool} {A : Option Addr} {k k' k2 : IntKind} {iv iv' iv2 : Int} (ho : o.op = .slice t x (some y) (some y') (some y2)) (he : ev SL x = some (g0, .slice A n c)) (hg0 : G = true → g0 = true)
    (hy : ev SL y = some (g1, .int k iv)) (hg1 : G = true → g1 = true) (hy' : ev SL y' = some (g2, .int k' iv')) (hg2 : G = true → g2 = true) (hy2 : ev SL y2 = some (g3, .int k2 iv2)) (hg3 : G = true → g3 = true) (ht : T.slc t = some e) (hz : T.siz e = some (esz, b)) (hi : G = true → iv = (k0 : Int)) (hi' : G = true → iv' = (h : Int)) (hi2 : G = true → iv2 = (m : Int)) (hle : G = true → k0 ≤ h) (hlm : G = true → h ≤ m) (hmc : G = true → m ≤ c) :
    Quiet P T SL BL FA o G (.slice (slA A m k0 esz) (h - k0) (m - k0)) :=
  fun hT hG a w hsl _ => by
    have hx := ev_ok hsl he (hg0 hG)
    have hy := ev_ok hsl hy (hg1 hG)
    have hy' := ev_ok hsl hy' (hg2 hG)
    have hy2 := ev_ok hsl hy2 (hg3 hG)
    have hu := hT.slc _ _ ht
    obtain ⟨ti, d, q1, q2, q3, q4⟩ := hT.siz _ _ _ hz
    have hi := hi hG
    have hi' := hi' hG
    have hi2 := hi2 hG
    have hle := hle hG
    have hlm := hlm hG
    have hmc := hmc hG
    subst hi; subst hi'; subst hi2
    simp only [execOp, ho, hx, Option.map_none, Option.map_some, hy, hy', hy2, Instr.sliceAt, Sem.run_bind, run_underlying hu, Result.andThen_ok, Instr.slice, Instr.sliceBounds, Instr.sliceBound, asIntOf, Sem.run_pure]
    rw [if_pos (by omega)]
    simp only [Sem.run_pure, Result.andThen_ok, Int.toNat_natCast]
    rw [if_pos (by omega)]
    simp only [Sem.run_pure, Result.andThen_ok, Int.toNat_natCast]
    rw [if_pos (by omega)]
    simp only [Sem.run_pure, Result.andThen_ok, run_sizeOf' q1, q2, Int.toNat_natCast, slA]

/-- A cut s[k:h] of what is owned, as a source. -/
theorem reads_ownC {α : Type} {E : El α} {e : TypeId} {X : SlV} {b : Option Nat} {l : List α} {k h : Nat} (hk : k ≤ h) (hh : h ≤ l.length) (hm : ownL E e X b l ∈ OW) : Reads ⟨N, SL, BL, OW, FA⟩ C E.esz (.slice (slA X.a X.c k E.esz) (h - k) (X.c - k)) (h - k) (((l.drop k).take (h - k)).flatMap E.enc) := by
  intro w hw
  have hq := hw.ow _ hm
  have hrd : RdL E X l (fun _ => False) w := OwnOk.rd (C := C) (e := e) (b := b) hq (fun _ _ h => h)
  have h1 := (RdL.drop hrd k (by omega)).take (h - k)
  have hl1 : ((l.drop k).take (h - k)).length = h - k := by simp; omega
  have h3 : ∀ e ∈ (l.drop k).take (h - k), (E.enc e).length = E.esz := fun e _ => E.len e
  obtain ⟨_, _, _, h4⟩ := h1
  refine ⟨_, _, rfl, by rw [flatMap_len _ h3, hl1], fun u hu => ?_, fun hl => ?_⟩
  · obtain ⟨e, he, hu⟩ := List.mem_flatMap.1 hu
    exact E.one e u hu
  · obtain ⟨ad, ha, _, _, hc⟩ := h4 (by omega)
    refine ⟨ad, ha, fun j u hj => ?_⟩
    obtain ⟨i, q, hi, rfl, h2⟩ := flatMap_get _ h3 j u hj
    exact hc i hi q u h2
theorem cw_someO {α : Type} (E : El α) {e : TypeId} {X : SlV} {b : Option Nat} {l : List α} (hm : ownL E e X b l ∈ OW) (hl : 0 < l.length) (h : X.a.isNone = false → CW P T C c ⟨N, SL, BL, OW, FA⟩ Q) : CW P T C c ⟨N, SL, BL, OW, FA⟩ Q := fun hT a w hr => by
  refine h ?_ hT a w hr
  obtain ⟨_, _, h3⟩ := hr.wo.ow _ hm
  cases b with
  | none => simp only at h3; omega
  | some g =>
    obtain ⟨_, cap, cur, hv, _⟩ := h3
    simp only [SlV.val, Value.slice.injEq, true_and] at hv
    rw [hv.1]; rfl
theorem slA_some {A : Option Addr} {c k esz : Nat} (h : A.isNone = false) : (slA A c k esz).isNone = false := by
  unfold slA
  split
  · exact h
  · cases A with
    | none => cases h
    | some a => rfl
theorem zipG_cut {G α : Type} (γ : Nat → G) (l : List α) (k n : Nat) : ((zipG γ 0 l).drop k).take n = zipG (dropG γ k) 0 ((l.drop k).take n) := by
  rw [zipG_drop, zipG_take]
theorem rw_capO {α : Type} (E : El α) {e : TypeId} {X : SlV} {b : Option Nat} {l : List α} (hm : ownL E e X b l ∈ OW) (h : l.length ≤ X.c ∧ X.c ≤ 9223372036854775807 → RW P T C ops r ⟨N, SL, BL, OW, FA⟩ Q) : RW P T C ops r ⟨N, SL, BL, OW, FA⟩ Q := fun hT a w hr =>
  h (own_cap (hr.wo.ow _ hm)) hT a w hr
theorem RdN.take {α : Type} [Inhabited α] {EN : En α} {X : SlV} {l : List α} {M : Nat → Prop} {w : World} (h : RdN EN X l M w) (n : Nat) : RdN EN X (l.take n) M w := by
  obtain ⟨γ, h1, h2⟩ := h
  refine ⟨γ, ?_, FactsG.take EN n h2⟩
  have := RdL.take h1 n
  rwa [zipG_take] at this
theorem RdN.drop {α : Type} [Inhabited α] {EN : En α} {X : SlV} {l : List α} {M : Nat → Prop} {w : World} (h : RdN EN X l M w) (k : Nat) (hk : k ≤ l.length) : RdN EN ⟨slA X.a X.c k EN.E.esz, X.c - k⟩ (l.drop k) M w := by
  obtain ⟨γ, h1, h2⟩ := h
  refine ⟨dropG γ k, ?_, FactsG.drop EN k h2⟩
  have := RdL.drop h1 k (by rw [zipG_len]; exact hk)
  rwa [zipG_drop] at this
theorem q_cut {α : Type} (E : El α) {l : List α} {X : SlV} (k0 h : Nat) {t e esz : Nat} {x y y' : Operand} {g0 g1 g2 G b : Bool} {k k' : IntKind} {iv iv' : Int} (ho : o.op = .slice t x (some y) (some y') none) (he : ev SL x = some (g0, X.val l.length)) (hg0 : G = true → g0 = true)
    (hy : ev SL y = some (g1, .int k iv)) (hg1 : G = true → g1 = true) (hy' : ev SL y' = some (g2, .int k' iv')) (hg2 : G = true → g2 = true) (ht : T.slc t = some e) (hz : T.siz e = some (esz, b)) (hm : RdL E X l ∈ FA) (hi : G = true → iv = (k0 : Int)) (hi' : G = true → iv' = (h : Int)) (hle : G = true → k0 ≤ h) (hlc : G = true → h ≤ l.length) :
    Quiet P T SL BL FA o G ((⟨slA X.a X.c k0 esz, X.c - k0⟩ : SlV).val ((l.drop k0).take (h - k0)).length) :=
  fun hT hG a w hsl hw => by
    obtain ⟨_, hrd⟩ := hw.fa _ hm
    have h1 := hrd.1
    have h2 := hle hG
    have h3 := hlc hG
    have e1 : ((l.drop k0).take (h - k0)).length = h - k0 := by simp; omega
    rw [e1]
    exact q_sllh (P := P) (BL := BL) (FA := FA) ho he hg0 hy hg1 hy' hg2 ht hz hi hi' hle (fun _ => by omega) hT hG a w hsl hw
theorem q_cutN {α : Type} [Inhabited α] (EN : En α) {l : List α} {X : SlV} (k0 h : Nat) {t e esz : Nat} {x y y' : Operand} {g0 g1 g2 G b : Bool} {k k' : IntKind} {iv iv' : Int} (ho : o.op = .slice t x (some y) (some y') none) (he : ev SL x = some (g0, X.val l.length)) (hg0 : G = true → g0 = true)
    (hy : ev SL y = some (g1, .int k iv)) (hg1 : G = true → g1 = true) (hy' : ev SL y' = some (g2, .int k' iv')) (hg2 : G = true → g2 = true) (ht : T.slc t = some e) (hz : T.siz e = some (esz, b)) (hm : RdN EN X l ∈ FA) (hi : G = true → iv = (k0 : Int)) (hi' : G = true → iv' = (h : Int)) (hle : G = true → k0 ≤ h) (hlc : G = true → h ≤ l.length) :
    Quiet P T SL BL FA o G ((⟨slA X.a X.c k0 esz, X.c - k0⟩ : SlV).val ((l.drop k0).take (h - k0)).length) :=
  fun hT hG a w hsl hw => by
    obtain ⟨_, γ, hrd, _⟩ := hw.fa _ hm
    have h1 := hrd.1
    rw [zipG_len] at h1
    have h2 := hle hG
    have h3 := hlc hG
    have e1 : ((l.drop k0).take (h - k0)).length = h - k0 := by simp; omega
    rw [e1]
    exact q_sllh (P := P) (BL := BL) (FA := FA) ho he hg0 hy hg1 hy' hg2 ht hz hi hi' hle (fun _ => by omega) hT hG a w hsl hw
theorem q_takeN {α : Type} [Inhabited α] (EN : En α) {l : List α} {X : SlV} (h : Nat) {t e esz : Nat} {x y : Operand} {g0 g1 G b : Bool} {k : IntKind} {iv : Int} (ho : o.op = .slice t x none (some y) none) (he : ev SL x = some (g0, X.val l.length)) (hg0 : G = true → g0 = true)
    (hy : ev SL y = some (g1, .int k iv)) (hg1 : G = true → g1 = true) (ht : T.slc t = some e) (hz : T.siz e = some (esz, b)) (hm : RdN EN X l ∈ FA) (hi : G = true → iv = (h : Int)) (hle : G = true → h ≤ l.length) : Quiet P T SL BL FA o G (X.val (l.take h).length) :=
  fun hT hG a w hsl hw => by
    obtain ⟨_, γ, hrd, _⟩ := hw.fa _ hm
    have h1 := hrd.1
    rw [zipG_len] at h1
    have h2 := hle hG
    have e1 : (l.take h).length = h := by simp; omega
    rw [e1]
    exact q_slhi (P := P) (BL := BL) (FA := FA) ho he hg0 hy hg1 ht hz hi (fun _ => by omega) hT hG a w hsl hw
/-- append([]T{}, x...) where the elements hold slices. -/
theorem rw_appendN0 {α : Type} [Inhabited α] (EN : En α) (δ : Nat → EN.G) (m : List α) {e : TypeId} {X : SlV} {b : Option Nat} {d t : Nat} {x y : Operand} {g0 g1 : Bool} {v : Value} {z : List Value} {agg : Bool} {ow' : SlV → Option Nat → List Own} {D : List Nat} (hf : Front ops r o D r') (hbD : ∀ g, b = some g → (∃ l, r = .sq l) ∨ g ∈ D) (hg : Guard ops SL o true) (hd : o.dst = some d) (hn : Nat.blt d N = true)
    (ho : o.op = .call ⟨.builtin .append, ⟨[x, y]⟩, ⟨[t, t]⟩⟩) (hx : ev SL x = some (g0, X.val ([] : List α).length)) (hg0 : g0 = true) (hy : ev SL y = some (g1, v)) (hg1 : g1 = true)
    (hu : ∀ (X' : SlV) b', UpdO OW (ownL EN.E e X b []) [ownN EN e X' b' δ m] (ow' X' b'))
    (ht : T.slc t = some e) (hz : T.siz e = some (EN.E.esz, agg)) (hzz : T.zer e = some z) (hzl : z.length = EN.E.esz) (hby : T.byt e = some EN.E.by_) (hpos : Nat.blt 0 EN.E.esz = true) (hbp : Nat.blt 0 EN.E.by_ = true)
    (hr : Reads ⟨N, SL, BL, OW, FA⟩ C EN.E.esz v m.length ((zipG δ 0 m).flatMap EN.E.enc)) (hb : m.length * EN.E.by_ ≤ 140737488355328)
    (h : ∀ (X' : SlV) (b' : Option Nat), RW P T C ops r' ⟨N, (d, .v (X'.val m.length)) :: SL, BL, ow' X' b', FA⟩ Q) : RW P T C ops r ⟨N, SL, BL, OW, FA⟩ Q := by
  refine rw_appendL EN.E [] (zipG δ 0 m) (ow' := ow') hf hbD hg hd hn ho hx hg0 hy hg1 hu ht hz hzz hzl hby hpos hbp (by rw [zipG_len]; exact hr) (by rw [zipG_len]; simpa using hb) fun X' b' => ?_
  have e : ([] ++ zipG δ 0 m).length = m.length := by rw [List.nil_append, zipG_len]
  rw [e]; exact h X' b'
theorem q_quo {t t' : Nat} {x y : Operand} {g0 g1 G : Bool} {a b : Int} (ho : o.op = .binOp .quo t x y t') (he : ev SL x = some (g0, .int .i64 a)) (hg0 : G = true → g0 = true)
    (hy : ev SL y = some (g1, .int .i64 b)) (hg1 : G = true → g1 = true) (hb : G = true → 0 ≤ a ∧ a ≤ 9223372036854775807 ∧ 0 < b) : Quiet P T SL BL FA o G (.int .i64 (a / b)) :=
  fun hT hG a' w hsl hw => by
    have h1 := ev_ok hsl he (hg0 hG)
    have h2 := ev_ok hsl hy (hg1 hG)
    obtain ⟨q1, q2, q3⟩ := hb hG
    have hne : b ≠ 0 := by omega
    have e : a.tdiv b = a / b := Int.tdiv_eq_ediv_of_nonneg q1
    have h3 : a / b ≤ a := Int.ediv_le_self b q1
    have h4 : 0 ≤ a / b := Int.ediv_nonneg q1 (by omega)
    have h5 := wrap_in (a / b) (by omega)
    simp [execOp, ho, h1, h2, eqGuard, binOp, Op.intDiv, hne, e, h5]
theorem q_convK {t t' : Nat} {k k' : IntKind} {x : Operand} {g0 G : Bool} {a : Int} (hd : P.underlying t = some (.int k)) (hd' : P.underlying t' = some (.int k')) (ho : o.op = .convert t t' x) (he : ev SL x = some (g0, .int k a)) (hg0 : G = true → g0 = true) : Quiet P T SL BL FA o G (.int k' (k'.wrap a)) :=
  fun hT hG a' w hsl hw => by
    have h1 := ev_ok hsl he (hg0 hG)
    simp only [execOp, ho, h1, Sem.run_bind, convert, run_underlying hd, run_underlying hd', Result.andThen_ok, Conv.intToInt, Sem.run_pure]
theorem q_ixS {t : Nat} {x y : Operand} {k : IntKind} {g0 g1 G : Bool} {iv : Int} {sb : ByteArray} (b : UInt8) (ho : o.op = .index t x y) (he : ev SL x = some (g0, .string sb)) (hg0 : G = true → g0 = true)
    (hy : ev SL y = some (g1, .int k iv)) (hg1 : G = true → g1 = true) (ht : T.isS t = true) (hb : G = true → 0 ≤ iv ∧ sb[iv.toNat]? = some b) : Quiet P T SL BL FA o G (.int .u8 (b.toNat : Int)) :=
  fun hT hG a' w hsl hw => by
    have h1 := ev_ok hsl he (hg0 hG)
    have h2 := ev_ok hsl hy (hg1 hG)
    obtain ⟨q1, q2⟩ := hb hG
    simp only [execOp, ho, h1, h2, Instr.index, asIntOf, Sem.run_bind, Sem.run_pure, Result.andThen_ok, run_underlying (hT.isS _ ht)]
    rw [if_pos q1, q2]
    simp
end
end Go.Proofs.YtaiefncoholnnaaDoor.Fw

namespace Go.Proofs.YtaiefncoholnnaaDoor.Fw
open Go Go.RowKit

/-! ### Short words for what is tried again and again -/
theorem Bt {p : Prop} (h : p := by intro h; first | exact h | (simp only [h, Bool.and_true, Bool.true_and, Bool.and_self]; done) | (simp only [Bool.and_eq_true] at h; simp only [h, Bool.and_true, Bool.and_self]; done) | (clear h; simp only [Bool.true_and, Bool.and_true, Bool.or_not_self, Bool.not_or_self, Bool.not_not, Bool.or_true, Bool.true_or]; done) | (simp only [*, Bool.true_and, Bool.and_true, Bool.or_not_self, Bool.not_or_self, Bool.or_true, Bool.true_or, Bool.not_true, Bool.not_false, Bool.or_false, Bool.false_or, Bool.and_self]; done) | (simp_all; done)) : p := h
theorem Sf {p : Prop} (h : p := by repeat (first | exact .nil _ | exact SubM.all _ | refine .cons (by repeat (first | exact .head _ | apply List.Mem.tail)) ?_ | apply SubM.skip)) : p := h
theorem Sm {p : Prop} (h : p := by repeat (first | exact .nil _ | refine .cons (by repeat (first | exact .head _ | apply List.Mem.tail)) ?_)) : p := h
theorem Sp {p : Prop} (h : p := by repeat (first | exact .nil _ | refine .cons (by repeat (first | exact .here _ _ | apply Pick.there)) ?_)) : p := h
theorem Mm {p : Prop} (h : p := by repeat (first | exact .head _ | apply List.Mem.tail)) : p := h
theorem Ub {p : Prop} (h : p := by repeat (first | exact .here _ _ _ _ _ | apply UpdB.there)) : p := h
theorem Uo {p : Prop} (h : p := by repeat (first | exact .here _ _ _ | apply UpdO.there)) : p := h
theorem Ss {p : Prop} (h : p := by repeat (first | exact .nil _ | refine .cons rfl ?_)) : p := h
theorem Pk {p : Prop} (h : p := by repeat (first | exact .here _ _ | apply Pick.there)) : p := h
theorem not_is {b c : Bool} (h : (!b) = c) : b = !c := by cases b <;> cases c <;> simp_all
theorem Kr {p : Prop} (h : p := by kernel_rfl) : p := h
theorem Ao {p : Prop} (h : p := by first | assumption | omega) : p := h
theorem Om {p : Prop} (h : p := by omega) : p := h

section
variable {P : Program} {T : Tab} {C : Cx} {ops : Array Oper} {o : Oper} {r r' : RS} {s : St} {Q : Post} {N : Nat} {SL : Slots} {BL : List Blk} {OW : List Own} {FA : List Pred} {c : Code}
theorem Rp {d : Nat} {v : Value} {l : List Oper} (hg : o.guard = none) (hd : o.dst = some d) (hn : Nat.blt d N = true) (he : pev T SL o.op = some (true, v))
    (h : RW P T C ops (.sq l) ⟨N, (d, .v v) :: SL, BL, OW, FA⟩ Q) : RW P T C ops (.sq (o :: l)) ⟨N, SL, BL, OW, FA⟩ Q := rw_q hg hd hn (q_pev he (fun _ => rfl)) h
theorem Le4 {s' : St} {C : Cx} (hn : s.n = s'.n := by rfl) (hs : SubS s.sl s'.sl := by repeat (first | exact .nil _ | refine .cons rfl ?_)) (hb : SubP s.bl s'.bl := by repeat (first | exact .nil _ | refine .cons (by repeat (first | exact .here _ _ | apply Pick.there)) ?_)) (ho : SubP s.ow s'.ow := by repeat (first | exact .nil _ | refine .cons (by repeat (first | exact .here _ _ | apply Pick.there)) ?_)) (hf : SubM s.fa s'.fa := by repeat (first | exact .nil _ | refine .cons (by repeat (first | exact .head _ | apply List.Mem.tail)) ?_)) : Le C s s' := Le.of hn hs hb ho hf
theorem Le5 {s' : St} {C : Cx} (hn : s.n = s'.n := by rfl) (hs : SubS s.sl s'.sl := by repeat (first | exact .nil _ | refine .cons rfl ?_)) (hb : SubP s.bl s'.bl := by repeat (first | exact .nil _ | refine .cons (by repeat (first | exact .here _ _ | apply Pick.there)) ?_)) (ho : SubP s.ow s'.ow := by repeat (first | exact .nil _ | refine .cons (by repeat (first | exact .here _ _ | apply Pick.there)) ?_)) (hf : SubM s.fa s'.fa := by repeat (first | exact .nil _ | exact SubM.all _ | refine .cons (by repeat (first | exact .head _ | apply List.Mem.tail)) ?_ | apply SubM.skip)) : Le C s s' := Le.of hn hs hb ho hf
end
end Go.Proofs.YtaiefncoholnnaaDoor.Fw

namespace Go.Proofs.YtaiefncoholnnaaDoor.Fw
open Go Go.RowKit

section
variable {P : Program} {T : Tab} {C : Cx} {ops : Array Oper} {o : Oper} {r r' : RS} {s : St} {Q : Post} {N : Nat} {SL : Slots} {BL : List Blk} {OW : List Own} {FA : List Pred} {c : Code}
/-! ### Steps that want no word -/
theorem isR {l : List Oper} (h : RW P T C ops (.sq l) s Q) : RW P T C ops (.sq l) s Q := h
theorem isG {l : List Oper} {j : Nat × Bool} (_ : o.guard = some j) (h : RW P T C ops (.sq (o :: l)) s Q) : RW P T C ops (.sq (o :: l)) s Q := h
theorem isL {l : List Oper} {t : TypeId} {x : Operand} (_ : o.op = .load t x) (h : RW P T C ops (.sq (o :: l)) s Q) : RW P T C ops (.sq (o :: l)) s Q := h
theorem isS {l : List Oper} {t : TypeId} {x y : Operand} (_ : o.op = .store t x y) (h : RW P T C ops (.sq (o :: l)) s Q) : RW P T C ops (.sq (o :: l)) s Q := h
theorem isC (h : CW P T C c s Q) : CW P T C c s Q := h
theorem Tx {p q : Prop} (h : q) (f : q → p := by
    intro hq_
    repeat (first
      | refine Rp rfl rfl rfl rfl ?_
      | (refine isR ?_; first
          | refine rw_nil ?_
          | (refine isG rfl ?_; first
              | refine rw_qg (guard_vf rfl rfl rfl) rfl rfl (q_pev rfl Bt) ?_
              | refine rw_qg (guard_vt rfl rfl rfl) rfl rfl (q_pev rfl Bt) ?_
              | refine rw_qg (guard_of rfl rfl rfl) rfl rfl (q_pev rfl Bt) ?_
              | refine rw_qg (guard_ot rfl rfl rfl) rfl rfl (q_pev rfl Bt) ?_
              | (refine isL rfl ?_; first
                  | refine rw_qg (guard_vf rfl rfl rfl) rfl rfl (q_ld1 rfl rfl Bt rfl Mm rfl) ?_
                  | refine rw_qg (guard_vt rfl rfl rfl) rfl rfl (q_ld1 rfl rfl Bt rfl Mm rfl) ?_
                  | refine rw_qg (guard_of rfl rfl rfl) rfl rfl (q_ld1 rfl rfl Bt rfl Mm rfl) ?_
                  | refine rw_qg (guard_ot rfl rfl rfl) rfl rfl (q_ld1 rfl rfl Bt rfl Mm rfl) ?_
                  | refine rw_qg (guard_vf rfl rfl rfl) rfl rfl (q_ldA rfl rfl Bt rfl Mm rfl) ?_
                  | refine rw_qg (guard_vt rfl rfl rfl) rfl rfl (q_ldA rfl rfl Bt rfl Mm rfl) ?_
                  | refine rw_qg (guard_of rfl rfl rfl) rfl rfl (q_ldA rfl rfl Bt rfl Mm rfl) ?_
                  | refine rw_qg (guard_ot rfl rfl rfl) rfl rfl (q_ldA rfl rfl Bt rfl Mm rfl) ?_
                  | refine rw_qg (guard_vf rfl rfl rfl) rfl rfl (q_ldP rfl rfl Bt rfl Mm rfl) ?_
                  | refine rw_qg (guard_vt rfl rfl rfl) rfl rfl (q_ldP rfl rfl Bt rfl Mm rfl) ?_
                  | refine rw_qg (guard_of rfl rfl rfl) rfl rfl (q_ldP rfl rfl Bt rfl Mm rfl) ?_
                  | refine rw_qg (guard_ot rfl rfl rfl) rfl rfl (q_ldP rfl rfl Bt rfl Mm rfl) ?_))
          | (refine isL rfl ?_; first
              | refine rw_q rfl rfl rfl (q_ld1 rfl rfl (fun _ => rfl) rfl Mm rfl) ?_
              | refine rw_q rfl rfl rfl (q_ldA rfl rfl (fun _ => rfl) rfl Mm rfl) ?_
              | refine rw_q rfl rfl rfl (q_ldP rfl rfl (fun _ => rfl) rfl Mm rfl) ?_
              | refine rw_q rfl rfl rfl (q_lf1 rfl rfl (fun _ => rfl) rfl Mm rfl) ?_
              | refine rw_q rfl rfl rfl (q_lfA rfl rfl (fun _ => rfl) rfl Mm rfl) ?_
              | refine rw_q rfl rfl rfl (q_lfP rfl rfl (fun _ => rfl) rfl Mm rfl) ?_)
          | (refine isS rfl ?_; first
              | refine rw_stA .sq (.inl ⟨_, rfl⟩) (guard_none rfl) rfl rfl rfl rfl rfl rfl rfl rfl rfl Ub rfl ?_
              | refine rw_st1 .sq (.inl ⟨_, rfl⟩) (guard_none rfl) rfl rfl rfl rfl rfl rfl rfl rfl rfl Ub rfl ?_)
          | refine rw_q rfl rfl rfl (q_pev rfl Bt) ?_)
      | (refine isC ?_; first
          | refine cw_seq ?_
          | refine cw_region ?_
          | refine cw_skip ?_
          | refine cw_block ?_
          | refine cw_exit ?_))
    exact hq_) : p := f h
/-- The same, but no block is entered. -/
theorem Ty {p q : Prop} (h : q) (f : q → p := by
    intro hq_
    repeat (first
      | refine Rp rfl rfl rfl rfl ?_
      | (refine isR ?_; first
          | refine rw_nil ?_
          | (refine isG rfl ?_; first
              | refine rw_qg (guard_vf rfl rfl rfl) rfl rfl (q_pev rfl Bt) ?_
              | refine rw_qg (guard_vt rfl rfl rfl) rfl rfl (q_pev rfl Bt) ?_)
          | (refine isL rfl ?_; first
              | refine rw_q rfl rfl rfl (q_ld1 rfl rfl (fun _ => rfl) rfl Mm rfl) ?_
              | refine rw_q rfl rfl rfl (q_ldA rfl rfl (fun _ => rfl) rfl Mm rfl) ?_
              | refine rw_q rfl rfl rfl (q_ldP rfl rfl (fun _ => rfl) rfl Mm rfl) ?_)
          | (refine isS rfl ?_; first
              | refine rw_stA .sq (.inl ⟨_, rfl⟩) (guard_none rfl) rfl rfl rfl rfl rfl rfl rfl rfl rfl Ub rfl ?_
              | refine rw_st1 .sq (.inl ⟨_, rfl⟩) (guard_none rfl) rfl rfl rfl rfl rfl rfl rfl rfl rfl Ub rfl ?_)
          | refine rw_q rfl rfl rfl (q_pev rfl Bt) ?_)
      | (refine isC ?_; first
          | refine cw_seq ?_
          | refine cw_region ?_
          | refine cw_skip ?_))
    exact hq_) : p := f h
/-! ### Short words for single steps -/
theorem Al {d t : Nat} {z : List Value} {l : List Oper} (h : ∀ g, RW P T C ops (.sq l) ⟨N, (d, .v (.pointer (some ⟨g, 0, none⟩))) :: SL, ⟨g, t, z⟩ :: BL, OW, FA⟩ Q) (hg : o.guard = none := by rfl) (hd : o.dst = some d := by rfl) (hn : Nat.blt d N = true := by rfl) (ho : o.op = .alloc t := by rfl) (hz : T.zer t = some z := by rfl) : RW P T C ops (.sq (o :: l)) ⟨N, SL, BL, OW, FA⟩ Q :=
  rw_alloc .sq (guard_none hg) hd hn ho hz h
theorem Bx {d t : Nat} {x : Operand} {g0 : Bool} {cs : List Value} {l : List Oper} (h : ∀ g, RW P T C ops (.sq l) ⟨N, (d, .v (.pointer (some ⟨g, 0, none⟩))) :: SL, ⟨g, t, cs⟩ :: BL, OW, FA⟩ Q) (hg : o.guard = none := by rfl) (hd : o.dst = some d := by rfl) (hn : Nat.blt d N = true := by rfl) (ho : o.op = .box t x := by rfl)
    (he : ev SL x = some (g0, .agg ⟨cs⟩) := by rfl) (hg0 : g0 = true := by rfl) : RW P T C ops (.sq (o :: l)) ⟨N, SL, BL, OW, FA⟩ Q :=
  rw_box_agg .sq (guard_none hg) hd hn ho he hg0 h
theorem Cl {d : Nat} {f : FuncId} {xs : Array Operand} {ts : Array TypeId} {g : Bool} {vs : List Value} {pre : List Pred} {X : Type} {val : X → Value} {post : X → List Pred} {l : List Oper}
    (hS : Does P f vs pre val post) (h : ∀ x, RW P T C ops (.sq l) ⟨N, (d, .v (val x)) :: SL, BL, OW, post x ++ FA⟩ Q) (hg : o.guard = none := by rfl) (hd : o.dst = some d := by rfl) (hn : Nat.blt d N = true := by rfl) (ho : o.op = .call ⟨.value (.func f), xs, ts⟩ := by rfl) (hf : T.fnb f = true := by kernel_rfl)
    (he : evs SL xs.toList = some (g, vs) := by rfl) (hgt : g = true := by rfl) (hpre : SubM FA pre := by exact Sm) : RW P T C ops (.sq (o :: l)) ⟨N, SL, BL, OW, FA⟩ Q :=
  rw_call hS .sq (guard_none hg) hd hn ho hf he hgt hpre h
theorem Cg {d : Nat} {f : FuncId} {xs : Array Operand} {ts : Array TypeId} {g : Bool} {vs : List Value} {pre : List Pred} {X : Type} {val : X → Value} {post : X → List Pred} {L' : X → Lent} {l : List Oper}
    (hS : DoesG P f vs pre ⟨[], []⟩ val post L') (h : ∀ x, RW P T C ops (.sq l) ⟨N, (d, .v (val x)) :: SL, (L' x).bl ++ BL, (L' x).ow ++ OW, post x ++ FA⟩ Q) (hg : o.guard = none := by rfl) (hd : o.dst = some d := by rfl) (hn : Nat.blt d N = true := by rfl) (ho : o.op = .call ⟨.value (.func f), xs, ts⟩ := by rfl) (hf : T.fnb f = true := by kernel_rfl)
    (he : evs SL xs.toList = some (g, vs) := by rfl) (hgt : g = true := by rfl) (hpre : SubM FA pre := by exact Sm) : RW P T C ops (.sq (o :: l)) ⟨N, SL, BL, OW, FA⟩ Q :=
  rw_callG hS .sq (.inl ⟨_, rfl⟩) (guard_none hg) hd hn ho hf he hgt hpre (.nil _) (.nil _) h
theorem Pc {α : Type} (E : El α) (X : SlV) (l : List α) (n : Nat) (h : l.length * n ≤ 140737488355328 → CW P T C c ⟨N, SL, BL, OW, FA⟩ Q) (hm : RdL E X l ∈ FA := by exact Mm) (hn : E.by_ = n := by rfl) : CW P T C c ⟨N, SL, BL, OW, FA⟩ Q :=
  cw_pure [RdL E X l] (.cons hm (.nil _)) (fun M w h => by have := (allF1 h).len; rwa [hn] at this) h
theorem Pn {α : Type} [Inhabited α] (E : En α) (X : SlV) (l : List α) (n : Nat) (h : l.length * n ≤ 140737488355328 → CW P T C c ⟨N, SL, BL, OW, FA⟩ Q) (hm : RdN E X l ∈ FA := by exact Mm) (hn : E.E.by_ = n := by rfl) : CW P T C c ⟨N, SL, BL, OW, FA⟩ Q :=
  cw_pure [RdN E X l] (.cons hm (.nil _)) (fun M w h => by have := (allF1 h).len; rwa [hn] at this) h
theorem Pr {α : Type} (E : El α) (X : SlV) (l : List α) (n : Nat) (h : l.length * n ≤ 140737488355328 → RW P T C ops r ⟨N, SL, BL, OW, FA⟩ Q) (hm : RdL E X l ∈ FA := by exact Mm) (hn : E.by_ = n := by rfl) : RW P T C ops r ⟨N, SL, BL, OW, FA⟩ Q :=
  rw_pure [RdL E X l] (.cons hm (.nil _)) (fun M w h => by have := (allF1 h).len; rwa [hn] at this) h
theorem Pm {α : Type} [Inhabited α] (E : En α) (X : SlV) (l : List α) (n : Nat) (h : l.length * n ≤ 140737488355328 → RW P T C ops r ⟨N, SL, BL, OW, FA⟩ Q) (hm : RdN E X l ∈ FA := by exact Mm) (hn : E.E.by_ = n := by rfl) : RW P T C ops r ⟨N, SL, BL, OW, FA⟩ Q :=
  rw_pure [RdN E X l] (.cons hm (.nil _)) (fun M w h => by have := (allF1 h).len; rwa [hn] at this) h
theorem Fc {α : Type} (E : El α) (h : CW P T C c ⟨N, SL, BL, OW, RdL E ⟨none, 0⟩ [] :: FA⟩ Q) : CW P T C c ⟨N, SL, BL, OW, FA⟩ Q :=
  cw_fact [] (.nil _) (fun M w _ => RdL.nil _ _ _ (by omega) M w) h
theorem Fr {α : Type} (E : El α) (h : RW P T C ops r ⟨N, SL, BL, OW, RdL E ⟨none, 0⟩ [] :: FA⟩ Q) : RW P T C ops r ⟨N, SL, BL, OW, FA⟩ Q :=
  rw_fact [] (.nil _) (fun M w _ => RdL.nil _ _ _ (by omega) M w) h
theorem Cd {k : Operand} {x y : Code} {g0 b : Bool} (ht : b = true → CW P T C x ⟨N, SL, BL, OW, FA⟩ Q) (hf : b = false → CW P T C y ⟨N, SL, BL, OW, FA⟩ Q) (he : ev SL k = some (g0, .bool b) := by rfl) (hg : g0 = true := by rfl) : CW P T C (.cond k x y) ⟨N, SL, BL, OW, FA⟩ Q := cw_cond he hg ht hf
theorem Sb {α : Type} {l r : List α} (h : SubP l r := by repeat (first | exact .nil _ | refine .cons (by repeat (first | exact .here _ _ | apply Pick.there)) ?_)) : SubP l r := h
theorem Vn : ResVs T s [] [] := .nil
theorem Vt {t : Nat} {v : Value} {rs : List ResultVar} {vs : List Value} (hr : ResVs T s rs vs) (h : getS s.sl t = some (.v v) := by rfl) : ResVs T s (.tmp t :: rs) (v :: vs) := .cons (.tmp h) hr
theorem Va {t g n ty ty' : Nat} {cs : List Value} {rs : List ResultVar} {vs : List Value} (hr : ResVs T s rs vs) (h : getS s.sl t = some (.v (.pointer (some ⟨g, 0, none⟩))) := by rfl) (hs : T.siz ty = some (n, true) := by rfl) (hm : ⟨g, ty', cs⟩ ∈ s.bl := by exact Mm) (hl : cs.length = n := by rfl) : ResVs T s (.cell t ty :: rs) (.agg ⟨cs⟩ :: vs) := .cons (.agg h hs hm hl) hr
theorem Vo {t g n ty ty' : Nat} {c : Value} {rs : List ResultVar} {vs : List Value} (hr : ResVs T s rs vs) (h : getS s.sl t = some (.v (.pointer (some ⟨g, 0, none⟩))) := by rfl) (hs : T.siz ty = some (n, false) := by rfl) (hm : ⟨g, ty', [c]⟩ ∈ s.bl := by exact Mm) : ResVs T s (.cell t ty :: rs) (c :: vs) := .cons (.one h hs hm) hr
theorem Re {X : Type} {rs : List ResultVar} {val : X → Value} {post : X → List Pred} {L' : X → Lent} (x : X) {vs : List Value} (h1 : ResVs T s rs vs) (h2 : val x = resVal vs := by rfl) (h3 : SubM s.fa (post x) := by exact Sm) (h4 : SubP s.bl (L' x).bl := by exact Sb) (h5 : SubP s.ow (L' x).ow := by exact Sb) : finQ T rs val post L' .ret s := ⟨x, vs, h1, h2, h3, h4, h5⟩
theorem Ra {d : Nat} {v : Value} {fp : Nat → Option (List Nat)} {fuel : Nat} {listed : Array Bool} (i : Nat) (js : List Nat) (hi : ops[i]? = some o) (hq : Quiet P T SL BL FA o true v) (h : RW P T C ops (.an fp fuel (listed.setIfInBounds i true)) ⟨N, (d, .v v) :: SL, BL, OW, FA⟩ Q) (hg : o.guard = none := by rfl) (hd : o.dst = some d := by rfl) (hn : Nat.blt d N = true := by rfl)
    (hs : Region.noSelect ops = true := by kernel_rfl) (hf : Region.free .any ops listed i = true := by kernel_rfl) (hr : (Region.ready .any ops listed).contains i = true := by kernel_rfl) (hj : others ops listed i = js := by kernel_rfl) (hD : sumO fp js = some [] := by rfl) : RW P T C ops (.an fp (fuel + 1) listed) ⟨N, SL, BL, OW, FA⟩ Q :=
  ra_q (D := []) (hD ▸ FrontQ.an hi hs hf hr hj) (SplitB.all _) (by simp) hg hd hn hq h
theorem Rb {d : Nat} {v : Value} {fp : Nat → Option (List Nat)} {fuel : Nat} {listed : Array Bool} (i : Nat) (js B : List Nat) (hi : ops[i]? = some o) (hq : Quiet P T SL BL FA o true v) (h : RW P T C ops (.an fp fuel (listed.setIfInBounds i true)) ⟨N, (d, .v v) :: SL, BL, OW, FA⟩ Q) (hg : o.guard = none := by rfl) (hd : o.dst = some d := by rfl) (hn : Nat.blt d N = true := by rfl)
    (hs : Region.noSelect ops = true := by kernel_rfl) (hf : Region.free .any ops listed i = true := by kernel_rfl) (hr : (Region.ready .any ops listed).contains i = true := by kernel_rfl) (hB : behindOk ops listed i B = true := by kernel_rfl) (hj : (others ops listed i).filter (fun j => !B.contains j) = js := by kernel_rfl) (hD : sumO fp js = some [] := by rfl) : RW P T C ops (.an fp (fuel + 1) listed) ⟨N, SL, BL, OW, FA⟩ Q :=
  ra_q (D := []) (hD ▸ FrontQ.ab B hi hs hf hr hB hj) (SplitB.all _) (by simp) hg hd hn hq h
theorem Ga {d : Nat} {v : Value} {G : Bool} {fp : Nat → Option (List Nat)} {fuel : Nat} {listed : Array Bool} (i : Nat) (js : List Nat) (hi : ops[i]? = some o) (hG : Guard ops SL o G) (hq : Quiet P T SL BL FA o G v) (h : RW P T C ops (.an fp fuel (listed.setIfInBounds i true)) ⟨N, (d, .o G v) :: SL, BL, OW, FA⟩ Q) (hd : o.dst = some d := by rfl) (hn : Nat.blt d N = true := by rfl)
    (hs : Region.noSelect ops = true := by kernel_rfl) (hf : Region.free .any ops listed i = true := by kernel_rfl) (hr : (Region.ready .any ops listed).contains i = true := by kernel_rfl) (hj : others ops listed i = js := by kernel_rfl) (hD : sumO fp js = some [] := by rfl) : RW P T C ops (.an fp (fuel + 1) listed) ⟨N, SL, BL, OW, FA⟩ Q :=
  ra_qg (D := []) (hD ▸ FrontQ.an hi hs hf hr hj) (SplitB.all _) (by simp) hG hd hn hq h
theorem Gb {d : Nat} {v : Value} {G : Bool} {fp : Nat → Option (List Nat)} {fuel : Nat} {listed : Array Bool} (i : Nat) (js B : List Nat) (hi : ops[i]? = some o) (hG : Guard ops SL o G) (hq : Quiet P T SL BL FA o G v) (h : RW P T C ops (.an fp fuel (listed.setIfInBounds i true)) ⟨N, (d, .o G v) :: SL, BL, OW, FA⟩ Q) (hd : o.dst = some d := by rfl) (hn : Nat.blt d N = true := by rfl)
    (hs : Region.noSelect ops = true := by kernel_rfl) (hf : Region.free .any ops listed i = true := by kernel_rfl) (hr : (Region.ready .any ops listed).contains i = true := by kernel_rfl) (hB : behindOk ops listed i B = true := by kernel_rfl) (hj : (others ops listed i).filter (fun j => !B.contains j) = js := by kernel_rfl) (hD : sumO fp js = some [] := by rfl) : RW P T C ops (.an fp (fuel + 1) listed) ⟨N, SL, BL, OW, FA⟩ Q :=
  ra_qg (D := []) (hD ▸ FrontQ.ab B hi hs hf hr hB hj) (SplitB.all _) (by simp) hG hd hn hq h
theorem Qp {g G : Bool} {v : Value} (he : pev T SL o.op = some (g, v) := by rfl) (hgt : G = true → g = true := by exact fun _ => rfl) : Quiet P T SL BL FA o G v := q_pev he hgt
theorem Q1 {t : Nat} {x : Operand} {g0 G : Bool} {g n t' off : Nat} {cs : List Value} {v : Value} (ho : o.op = .load t x := by rfl) (he : ev SL x = some (g0, .pointer (some ⟨g, off, none⟩)) := by rfl) (hg0 : G = true → g0 = true := by exact fun _ => rfl) (hs : T.siz t = some (n, false) := by rfl) (hm : ⟨g, t', cs⟩ ∈ BL := by exact Mm) (hv : cs[off]? = some v := by rfl) : Quiet P T SL BL FA o G v := q_ld1 ho he hg0 hs hm hv
structure Ls where
  sl : Slots
  bl : List Blk
  ow : List Own
  fa : List Pred
  inv : Prop
  mu : Nat
def loopD {ι : Type} (C : Cx) (N : Nat) (d : ι → Ls) (SL' : Slots) (BL' : List Blk) (FA : List Pred) (i : ι) (Q : Post) : Post
  | .normal, s' => ∃ j, (d j).inv ∧ (d j).mu < (d i).mu ∧ Le C s' ⟨N, (d j).sl ++ SL', (d j).bl ++ BL', (d j).ow, (d j).fa ++ FA⟩
  | e, s' => Q e s'
theorem Sn : Sel SL [] [] := .nil _
theorem Sc {n : Nat} {x : SV} {r : List Nat} {s' : Slots} (hr : Sel SL r s') (h : getS SL n = some x := by rfl) : Sel SL (n :: r) ((n, x) :: s') := .cons h hr
/-- A loop: what stands at its head, all in one. -/
theorem Lp {ι : Type} (keep : List Nat) (mask : List Bool) (d : ι → Ls) (i0 : ι) {b : Code} {SL' : Slots} {BL' : List Blk} (hsel : Sel SL keep SL') (hB : SelB BL mask BL') (h0 : (d i0).inv) (hs : Le C ⟨N, SL, BL, OW, FA⟩ ⟨N, (d i0).sl ++ SL', (d i0).bl ++ BL', (d i0).ow, (d i0).fa ++ FA⟩)
    (h : ∀ i, (d i).inv → CW P T C b ⟨N, (d i).sl ++ SL', (d i).bl ++ BL', (d i).ow, (d i).fa ++ FA⟩ (loopD C N d SL' BL' FA i Q)) : CW P T C (.loop b) ⟨N, SL, BL, OW, FA⟩ Q :=
  cw_loopS keep mask (fun i => (d i).sl) (fun i => (d i).bl) (fun i => (d i).ow) (fun i => (d i).fa) (fun i => (d i).inv) (fun i => (d i).mu) i0 hsel hB h0 hs fun i hi => cw_mono (fun e s' hq => by
    cases e with
    | normal => exact hq
    | exit i => exact hq
    | ret => exact hq
    | goto l => exact hq
    | panic c => exact hq
    | outgrown => exact hq) (h i hi)
end
end Go.Proofs.YtaiefncoholnnaaDoor.Fw

namespace Go.Proofs.YtaiefncoholnnaaDoor.Fw
open Go Go.RowKit

/-! ### Texts: a string as the list of its bytes -/
abbrev Str := List UInt8
abbrev sV (l : Str) : Value := .string ⟨l.toArray⟩
abbrev yV (b : UInt8) : Value := .int .u8 (b.toNat : Int)

/-- An error: there is one, or none. -/
abbrev eV (b : Bool) (tp : TypeId) (p : Value) : Value := bif b then .iface tp p else .nilIface

def EByte : El UInt8 := ⟨fun b => [yV b], 1, 1, fun _ => rfl, fun _ u hu => by simp only [List.mem_singleton] at hu; subst hu; rfl⟩
def EStr : El Str := ⟨fun l => [sV l], 1, 16, fun _ => rfl, fun _ u hu => by simp only [List.mem_singleton] at hu; subst hu; rfl⟩

theorem toList_sV (l : Str) : (ByteArray.mk l.toArray).toList = l := by rw [ByteArray.toList_eq]
theorem size_sV (l : Str) : (ByteArray.mk l.toArray).size = l.length := by rw [Lib.size_eq]
theorem app_sV (a b : Str) : (ByteArray.mk a.toArray) ++ (ByteArray.mk b.toArray) = ByteArray.mk (a ++ b).toArray := by
  apply ByteArray.ext
  simp

section
variable {P : Program} {T : Tab} {C : Cx} {ops : Array Oper} {o : Oper} {r r' : RS} {s : St} {Q : Post} {N : Nat} {SL : Slots} {BL : List Blk} {OW : List Own} {FA : List Pred} {c : Code}

theorem q_eqS {t t' : Nat} {x y : Operand} {g0 g1 G : Bool} {a b : Str} (ho : o.op = .binOp .eql t x y t') (he : ev SL x = some (g0, sV a)) (hg0 : G = true → g0 = true)
    (hy : ev SL y = some (g1, sV b)) (hg1 : G = true → g1 = true) : Quiet P T SL BL FA o G (.bool (a == b)) :=
  fun _ hG a' w hsl _ => by
    have h1 := ev_ok hsl he (hg0 hG)
    have h2 := ev_ok hsl hy (hg1 hG)
    simp only [execOp, ho, h1, h2, eqGuard, binOp, Op.stringOp, toList_sV]
    simp

theorem q_neS {t t' : Nat} {x y : Operand} {g0 g1 G : Bool} {a b : Str} (ho : o.op = .binOp .neq t x y t') (he : ev SL x = some (g0, sV a)) (hg0 : G = true → g0 = true)
    (hy : ev SL y = some (g1, sV b)) (hg1 : G = true → g1 = true) : Quiet P T SL BL FA o G (.bool (a != b)) :=
  fun _ hG a' w hsl _ => by
    have h1 := ev_ok hsl he (hg0 hG)
    have h2 := ev_ok hsl hy (hg1 hG)
    simp only [execOp, ho, h1, h2, eqGuard, binOp, Op.stringOp, toList_sV]
    simp [bne]

theorem q_addS {t t' : Nat} {x y : Operand} {g0 g1 G : Bool} {a b : Str} (ho : o.op = .binOp .add t x y t') (he : ev SL x = some (g0, sV a)) (hg0 : G = true → g0 = true)
    (hy : ev SL y = some (g1, sV b)) (hg1 : G = true → g1 = true) (hb : G = true → a.length + b.length ≤ 9223372036854775807) : Quiet P T SL BL FA o G (sV (a ++ b)) :=
  fun _ hG a' w hsl _ => by
    have h1 := ev_ok hsl he (hg0 hG)
    have h2 := ev_ok hsl hy (hg1 hG)
    have hb := hb hG
    have hm : ¬ (((a.length + b.length : Nat) : Int) > IntKind.i64.max) := by simp only [IntKind.max, IntKind.signed, IntKind.bits]; simp; omega
    simp only [execOp, ho, h1, h2, eqGuard, binOp, Op.stringOp, size_sV, app_sV, if_neg hm]
    simp

theorem q_lenS {t : Nat} {x : Operand} {g0 G : Bool} {a : Str} (ho : o.op = .call ⟨.builtin .len, ⟨[x]⟩, ⟨[t]⟩⟩) (he : ev SL x = some (g0, sV a)) (hg0 : G = true → g0 = true) (ht : P.underlying t = some .string) : Quiet P T SL BL FA o G (.int .i64 (a.length : Int)) :=
  fun _ hG a' w hsl _ => by
    have h1 := ev_ok hsl he (hg0 hG)
    have h2 := size_sV a
    simp only [execOp, ho, resolve, invoke, builtin, List.map_toArray, List.map_cons, List.map_nil, h1]
    simp [Builtin.len_, run_underlying ht, goInt, h2]

theorem q_takeStr {t : Nat} {x y : Operand} {g0 g1 G : Bool} {a : Str} {k : IntKind} {iv : Int} (h : Nat) (ho : o.op = .slice t x none (some y) none) (he : ev SL x = some (g0, sV a)) (hg0 : G = true → g0 = true)
    (hy : ev SL y = some (g1, .int k iv)) (hg1 : G = true → g1 = true) (ht : P.underlying t = some .string) (hi : G = true → iv = (h : Int)) (hle : G = true → h ≤ a.length) : Quiet P T SL BL FA o G (sV (a.take h)) :=
  fun hT hG a' w hsl _ => by
    have hx := ev_ok hsl he (hg0 hG)
    have hy := ev_ok hsl hy (hg1 hG)
    have hu := ht
    have hi := hi hG
    have hle := hle hG
    subst hi
    have hsz := size_sV a
    simp only [execOp, ho, hx, Option.map_none, Option.map_some, hy, Instr.sliceAt, Sem.run_bind, run_underlying hu, Result.andThen_ok, Instr.slice, Instr.sliceBounds, Instr.sliceBound, asIntOf, Sem.run_pure]
    simp only [hsz]
    simp [hle, Lib.extract_eq]

/-! ### Bytes and texts -/
theorem q_bstr {t t' e : Nat} {x : Operand} {g0 G : Bool} {X : SlV} {l : Str} (ht : P.underlying t = some (.slice e)) (he' : P.underlying e = some (.int .u8)) (ht' : P.underlying t' = some .string) (ho : o.op = .convert t t' x) (he : ev SL x = some (g0, X.val l.length)) (hg0 : G = true → g0 = true)
    (hm : RdL EByte X l ∈ FA) : Quiet P T SL BL FA o G (sV l) :=
  fun hT hG a' w hsl hw => by
    have h1 := ev_ok hsl he (hg0 hG)
    obtain ⟨_, _, _, _, h4⟩ := hw.fa _ hm
    simp only [execOp, ho, h1, SlV.val]
    cases hA : X.a with
    | none =>
      have h0 : l = [] := by
        cases l with
        | nil => rfl
        | cons b r => obtain ⟨ad, ha, _⟩ := h4 (by simp); rw [hA] at ha; cases ha
      subst h0
      have : (convert t t' (.slice none ([] : Str).length X.c)).run P w = .ok (.string .empty) w := by
        simp [convert, run_underlying ht, run_underlying ht', run_underlying he', Conv.bytesToString]
      rw [Sem.run_bind, this]
      rfl
    | some ad =>
      have := run_convert_bytes_back (P := P) w t t' e ad X.c l ht he' ht' (fun j hj => by
        obtain ⟨ad', ha, _, _, hc⟩ := h4 (by omega)
        rw [hA] at ha
        cases ha
        have := hc j hj 0 (yV l[j]) rfl
        simpa [EByte] using this)
      rw [Sem.run_bind, this]
      rfl

theorem rw_sbytes {D : List Nat} {d t t' e : Nat} {x : Operand} {g0 : Bool} {l : Str} {u : TypeDesc} (hf : Front ops r o D r') (hg : Guard ops SL o true) (hd : o.dst = some d) (hn : Nat.blt d N = true)
    (ht : P.underlying t = some u) (ht' : P.underlying t' = some (.slice e)) (he' : P.underlying e = some (.int .u8)) (ho : o.op = .convert t t' x) (he : ev SL x = some (g0, sV l)) (hg0 : g0 = true) (hb : l.length ≤ 140737488355328)
    (h : ∀ X : SlV, RW P T C ops r' ⟨N, (d, .v (X.val l.length)) :: SL, BL, OW, RdL EByte X l :: FA⟩ Q) : RW P T C ops r ⟨N, SL, BL, OW, FA⟩ Q := by
  refine rw_val hf hg hd hn (K := fun u bl ow fa => ∃ X : SlV, u = X.val l.length ∧ bl = BL ∧ ow = OW ∧ fa = RdL EByte X l :: FA) ?_ (fun u bl ow fa ⟨X, e1, e2, e3, e4⟩ => by subst e1; subst e2; subst e3; subst e4; exact h X)
  intro hT a w hrep
  have h1 := ev_ok hrep.sl he hg0
  have hr := Lib.run_convert_string_bytes (P := P) w t t' e ⟨l.toArray⟩ ht ht' he'
  have hsz := size_sV l
  have hge := grownCap_ge w l.length 0 e
  have hcm : grownCap w l.length 0 e ≤ maxLen := grownCap_le_maxLen w l.length 0 e (by simp only [maxLen]; omega)
  have hB : Below w.heap.size w (Lib.bytesWorld w e ⟨l.toArray⟩) := by
    refine ⟨?_, ?_, ?_, by rw [Lib.bytesWorld_size]; omega, fun k hk => Lib.bytesWorld_at_old w e _ k hk⟩ <;> rfl
  rw [hsz] at hr
  have hw := hrep.wo.grow hB
  refine ⟨_, _, BL, OW, RdL EByte ⟨some ⟨w.heap.size, 0, none⟩, grownCap w l.length 0 e⟩ l :: FA, ?_, ⟨hw.be, hw.bl, hw.ow, hw.nd, ?_⟩, ⟨hB.size, fun k hk _ => hB.block k hk⟩, ⟨some ⟨w.heap.size, 0, none⟩, grownCap w l.length 0 e⟩, rfl, rfl, rfl, rfl⟩
  · simp only [execOp, ho, h1, Sem.run_bind, hr]
    rfl
  · intro F hF
    cases hF with
    | head =>
      refine ⟨inferInstance, hge, by simpa [maxLen] using hcm, by simpa [EByte] using hb, fun _ => ⟨_, rfl, by rw [Lib.bytesWorld_size]; simp, fun hm => ?_, fun i hi j v hv => ?_⟩⟩
      · have := Mset_lt hrep.wo hm
        simp at this
      · have hj : j = 0 := by
          obtain ⟨hlt, _⟩ := List.getElem?_eq_some_iff.1 hv
          simp [EByte] at hlt
          exact hlt
        subst hj
        have := Lib.bytesWorld_cell w e ⟨l.toArray⟩ i (by rw [hsz]; exact hi)
        simp only [EByte, List.getElem?_cons_zero, Option.some.injEq] at hv
        rw [add_none]
        simp only [EByte, Nat.mul_one, Nat.zero_add, Nat.add_zero]
        rw [this, ← hv]
        simp [List.getD, hi]
    | tail _ hF => exact hw.fa F hF

/-! ### Is there an error? -/
theorem run_eqN {t : Nat} {ms : Array (String × TypeId)} (hu : P.underlying t = some (.interface ms)) (d : Nat) (tp : TypeId) (p : Value) (w : World) : (Op.equalIn (d + 1) t (.iface tp p) .nilIface).run P w = .ok false w := by
  simp [Op.equalIn, run_underlying hu]
theorem run_eqNN {t : Nat} {ms : Array (String × TypeId)} (hu : P.underlying t = some (.interface ms)) (d : Nat) (w : World) : (Op.equalIn (d + 1) t .nilIface .nilIface).run P w = .ok true w := by
  simp [Op.equalIn, run_underlying hu]
theorem q_neNil {t t' : Nat} {x : Operand} {g0 G b : Bool} {tp : TypeId} {p : Value} {ms : Array (String × TypeId)} (ho : o.op = .binOp .neq t x (.const .nilIface) t') (he : ev SL x = some (g0, eV b tp p)) (hg0 : G = true → g0 = true) (hu : P.underlying t = some (.interface ms)) : Quiet P T SL BL FA o G (.bool b) :=
  fun _ hG a' w hsl _ => by
    have h1 := ev_ok hsl he (hg0 hG)
    have h2 : a'.eval (.const .nilIface) = .nilIface := rfl
    cases b with
    | true =>
      have h3 : (Op.equal t (.iface tp p) .nilIface).run P w = .ok false w := run_eqN hu 9999 tp p w
      have h1 : a'.eval x = .iface tp p := h1
      simp [execOp, ho, h1, h2, eqGuard, binOp, h3]
    | false =>
      have h3 : (Op.equal t .nilIface .nilIface).run P w = .ok true w := run_eqNN hu 9999 w
      have h1 : a'.eval x = .nilIface := h1
      simp [execOp, ho, h1, h2, eqGuard, binOp, h3]

/-- A call of a function value that writes what it captured. -/
theorem rw_callGv {D : List Nat} {d : Nat} {f : FuncId} {x : Operand} {xs : Array Operand} {ts : Array TypeId} {g0 g : Bool} {vs caps args : List Value} {pre : List Pred} {L : Lent} {X : Type} {val : X → Value} {post : X → List Pred} {L' : X → Lent} {RB : List Blk} {RO : List Own}
    (hS : DoesG P f args pre L val post L') (hfr : Front ops r o D r') (hD : (∃ l, r = .sq l) ∨ ∀ g ∈ L.ids, g ∈ D) (hg : Guard ops SL o true) (hd : o.dst = some d) (hn : Nat.blt d N = true) (ho : o.op = .call ⟨.value x, xs, ts⟩) (hx : ev SL x = some (g0, .func (.func f) #[] ⟨caps⟩)) (hg0 : g0 = true) (hf : T.fnb f = true)
    (he : evs SL xs.toList = some (g, vs)) (hgt : g = true) (ha : args = vs ++ caps) (hpre : SubM FA pre) (hb : Take BL L.bl RB) (hw : Take OW L.ow RO)
    (h : ∀ x, RW P T C ops r' ⟨N, (d, .v (val x)) :: SL, (L' x).bl ++ RB, (L' x).ow ++ RO, post x ++ FA⟩ Q) : RW P T C ops r ⟨N, SL, BL, OW, FA⟩ Q := by
  have key : Loud P T C ⟨N, SL, BL, OW, FA⟩ o L.ids (fun s' => ∃ x, s' = ⟨N, (d, .v (val x)) :: SL, (L' x).bl ++ RB, (L' x).ow ++ RO, post x ++ FA⟩) := by
    intro hT a w hrep
    subst ha
    refine call_wp hS (exec_callv hT ho hf hrep.sl hx hg0 he hgt w) hd hrep hpre.mem hb.perm hw.perm fun x w' hw hk => ?_
    exact ⟨_, ⟨x, rfl⟩, hrep.putv (Nat.le_of_ble_eq_true hn) (x := .v (val x)) (u := val x) rfl ⟨hw.be, hw.bl, hw.ow, hw.nd, hw.fa⟩, hk⟩
  cases hfr with
  | sq => exact rw_lsq hg key (fun s' ⟨x, e⟩ => by subst e; exact h x)
  | lo _ hi hDD => exact rw_l (.lo L.ids hi hDD) hg key (fun s' ⟨x, e⟩ => by subst e; exact h x)
  | an hi hDD =>
    refine rw_l (.an hi hDD) hg (key.wide fun g hg => ?_) (fun s' ⟨x, e⟩ => by subst e; exact h x)
    rcases hD with ⟨_, e⟩ | e
    · cases e
    · exact e g hg
end
end Go.Proofs.YtaiefncoholnnaaDoor.Fw
