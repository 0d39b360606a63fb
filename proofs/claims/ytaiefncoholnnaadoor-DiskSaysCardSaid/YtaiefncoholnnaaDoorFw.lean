/- The rules by which the walks of this claim are typed: what a state of a walk knows, and what each operation makes of it. No condition. -/
import Derived.OrdersHeld
import Derived.Below
import Derived.Laws.StructEq
import Derived.Tactics
import Derived.Maps.AppendAt
import Derived.ProofKit
import Derived.OpenShut
import Derived.SizedLaws
import Derived.Carry
import Derived.Deep.Slices
set_option linter.unusedVariables false
set_option linter.unusedSimpArgs false
namespace Go.Proofs.YtaiefncoholnnaaDoor.Fw
open Go Go.RowKit

/-! ### Slots and operands -/
inductive SV where
  | v (x : Value)
  | o (g : Bool) (x : Value)

abbrev Slots := List (Nat × SV)

def getS : Slots → Nat → Option SV
  | [], _ => none
  | (k, x) :: r, n => match Nat.beq k n with | true => some x | false => getS r n

@[simp] def SV.gd : SV → Bool | .v _ => true | .o g _ => g
@[simp] def SV.val : SV → Value | .v x => x | .o _ x => x

def SV.ok (x : SV) (u : Option Value) : Prop :=
  match x with
  | .v x => u = some x
  | .o g x => u = some (bif g then x else undef)

def SlotsOk (s : Slots) (a : Act) : Prop := ∀ n x, getS s n = some x → x.ok a.tmps[n]?

def ev (s : Slots) : Operand → Option (Bool × Value)
  | .tmp t => match getS s t with | some (.v x) => some (true, x) | some (.o g x) => some (g, x) | none => none
  | .const v => some (true, v)
  | .func f => some (true, .func (.func f) #[] #[])
  | .global _ => none

theorem ev_ok {s : Slots} {a : Act} (h : SlotsOk s a) {x : Operand} {g : Bool} {v : Value} (he : ev s x = some (g, v)) (hg : g = true) : a.eval x = v := by
  cases x with
  | tmp t =>
    simp only [ev] at he
    cases hs : getS s t with
    | none => simp [hs] at he
    | some y =>
      have := h t y hs
      cases y with
      | v y => simp only [hs, Option.some.injEq, Prod.mk.injEq] at he; simp [SV.ok] at this; simp [Act.eval, this, he.2]
      | o g' y =>
        simp only [hs, Option.some.injEq, Prod.mk.injEq] at he
        simp [SV.ok] at this
        obtain ⟨h1, h2⟩ := he
        subst h1; subst hg; subst h2
        simp at this
        simp [Act.eval, this]
  | const v' => simp only [ev, Option.some.injEq, Prod.mk.injEq] at he; simp [Act.eval, he.2]
  | func f => simp only [ev, Option.some.injEq, Prod.mk.injEq] at he; simp [Act.eval, ← he.2]
  | global g => simp [ev] at he

def evs (s : Slots) : List Operand → Option (Bool × List Value)
  | [] => some (true, [])
  | x :: r => match ev s x, evs s r with
    | some (g, v), some (g', vs) => some (g && g', v :: vs)
    | _, _ => none

theorem evs_ok {s : Slots} {a : Act} (h : SlotsOk s a) : ∀ {l : List Operand} {g : Bool} {vs : List Value}, evs s l = some (g, vs) → g = true → l.map a.eval = vs
  | [], g, vs, he, _ => by simp [evs] at he; simp [he.2]
  | x :: r, g, vs, he, hg => by
    simp only [evs] at he
    cases h1 : ev s x with
    | none => simp [h1] at he
    | some p =>
      obtain ⟨g1, v1⟩ := p
      cases h2 : evs s r with
      | none => simp [h1, h2] at he
      | some q =>
        obtain ⟨g2, v2⟩ := q
        simp only [h1, h2, Option.some.injEq, Prod.mk.injEq] at he
        obtain ⟨he1, he2⟩ := he
        subst he1
        simp at hg
        rw [List.map_cons, ev_ok h h1 hg.1, evs_ok h h2 hg.2, he2]

def evp (s : Slots) : List (Nat × Operand) → Option (Bool × List (Nat × Value))
  | [] => some (true, [])
  | (i, x) :: r => match ev s x, evp s r with
    | some (g, v), some (g', vs) => some (g && g', (i, v) :: vs)
    | _, _ => none

theorem evp_ok {s : Slots} {a : Act} (h : SlotsOk s a) : ∀ {l : List (Nat × Operand)} {g : Bool} {vs : List (Nat × Value)}, evp s l = some (g, vs) → g = true → l.map (fun (i, x) => (i, a.eval x)) = vs
  | [], g, vs, he, _ => by simp [evp] at he; simp [he.2]
  | (i, x) :: r, g, vs, he, hg => by
    simp only [evp] at he
    cases h1 : ev s x with
    | none => simp [h1] at he
    | some p =>
      obtain ⟨g1, v1⟩ := p
      cases h2 : evp s r with
      | none => simp [h1, h2] at he
      | some q =>
        obtain ⟨g2, v2⟩ := q
        simp only [h1, h2, Option.some.injEq, Prod.mk.injEq] at he
        obtain ⟨he1, he2⟩ := he
        subst he1
        simp at hg
        rw [List.map_cons, evp_ok h h2 hg.2, ← he2]
        simp [ev_ok h h1 hg.1]

/-! ### The table of types that the rules ask -/
structure Tab where
  fld : Nat → Nat → Option (Nat × Nat)       -- struct type, field: offset, the field's type
  siz : Nat → Option (Nat × Bool)            -- cells; is it an aggregate
  zer : Nat → Option (List Value)            -- zero cells
  str : Nat → Option (List (Nat × Nat))      -- struct: (offset, size) of its fields; array: none
  slc : Nat → Option Nat                     -- slice type: element type
  arr : Nat → Option (Nat × Nat)             -- array type: length, element type
  byt : Nat → Option Nat                     -- bytes of a value
  eqs : Nat → Bool                           -- struct of ints and bools alone
  isS : Nat → Bool                           -- string
  fnb : Nat → Bool                           -- a function with a body

def aggD : TypeDesc → Bool | .struct _ | .array _ _ => true | _ => false

def cellB (a b : Value) : Bool := match a, b with
  | .int k a, .int k' b => k = k' && a == b
  | .bool a, .bool b => a == b
  | _, _ => false

structure TabOk (T : Tab) (P : Program) : Prop where
  mixed : P.follows .mixedOrders = true
  fld : ∀ t i o ft, T.fld t i = some (o, ft) → ∃ fs f, P.underlying t = some (.struct fs) ∧ fs[i]? = some f ∧ f.offset = o ∧ f.type = ft
  siz : ∀ t n b, T.siz t = some (n, b) → ∃ ti d, P.info? t = some ti ∧ ti.size = n ∧ P.underlying t = some d ∧ aggD d = b
  zer : ∀ t l, T.zer t = some l → ∃ ti z, P.info? t = some ti ∧ ti.zero = some z ∧ z.cells.toList = l
  str : ∀ t l, T.str t = some l → ∃ fs, P.underlying t = some (.struct fs) ∧ ∃ tis : List TypeInfo, fs.toList.map (fun f => P.info? f.type) = tis.map some ∧ (fs.toList.zip tis).map (fun p => (p.1.offset, p.2.size)) = l
  slc : ∀ t e, T.slc t = some e → P.underlying t = some (.slice e)
  arr : ∀ t n e, T.arr t = some (n, e) → P.underlying t = some (.array n e)
  byt : ∀ t n, T.byt t = some n → ∃ ti, P.info? t = some ti ∧ ti.bytes = n
  isS : ∀ t, T.isS t = true → P.underlying t = some .string
  fnb : ∀ f, T.fnb f = true → ∃ fn, P.funcs[f]? = some fn ∧ (fn.name == "runtime.NumGoroutine") = false ∧ fn.body.isNone = false

end Go.Proofs.YtaiefncoholnnaaDoor.Fw

namespace Go.Proofs.YtaiefncoholnnaaDoor.Fw
open Go Go.RowKit

/-! ### Operations that touch no memory -/
def cmpB (op : BinOp) (x y : Int) : Option Bool :=
  match op with
  | .eql => some (x == y) | .neq => some (x != y) | .lss => some (decide (x < y)) | .leq => some (decide (x ≤ y))
  | .gtr => some (decide (x > y)) | .geq => some (decide (x ≥ y)) | _ => none

def pbin (op : BinOp) (x y : Value) : Option Value :=
  match x, y with
  | .int k a, .int k' b => match decide (k = k') with
    | true => match cmpB op a b with | some r => some (.bool r) | none => none
    | false => none
  | _, _ => none

def addO : Addr → Nat → Option Addr
  | ⟨b, n, none⟩, k => some ⟨b, n + k, none⟩
  | ⟨_, _, some _⟩, _ => none

theorem addO_ok {a b : Addr} {k : Nat} (h : addO a k = some b) : a.add k = b := by
  obtain ⟨bl, n, sp⟩ := a
  cases sp with
  | none =>
    simp [addO] at h
    subst h
    unfold Addr.add
    split
    · rename_i h; simp [h]
    · rfl
  | some x => simp [addO] at h

def putAt : List Value → Nat → List Value → List Value
  | cs, _, [] => cs
  | cs, n, v :: vs => putAt (cs.set n v) (n + 1) vs

def fillL (pl : List (Nat × Nat)) : List Value → List (Nat × Value) → Option (List Value)
  | cs, [] => some cs
  | cs, (i, v) :: r => match pl[i]? with
    | none => none
    | some (off, sz) => match Nat.beq v.cells.toList.length sz, Nat.ble (off + sz) cs.length with
      | true, true => fillL pl (putAt cs off v.cells.toList) r
      | _, _ => none

def partL (T : Tab) (ft : Nat) (cs : List Value) (off : Nat) : Option Value :=
  match T.siz ft with
  | some (n, true) => some (.agg ((cs.drop off).take n).toArray)
  | some (_, false) => cs[off]?
  | none => none

def pev (T : Tab) (s : Slots) : Op → Option (Bool × Value)
  | .move x | .assign x => ev s x
  | .field t x i => match ev s x with
    | some (g, .agg cs) => match T.fld t i with
      | some (off, ft) => match partL T ft cs.toList off with
        | some v => some (g, v)
        | none => none
      | none => none
    | _ => none
  | .fieldAddr t x i => match ev s x with
    | some (g, .pointer (some a)) => match T.fld t i with
      | some (off, ft) => match T.siz ft with
        | some (_ + 1, _) => match addO a off with
          | some b => some (g, .pointer (some b))
          | none => none
        | _ => none
      | none => none
    | _ => none
  | .binOp op _ x y _ => match ev s x, ev s y with
    | some (g, a), some (g', b) => match pbin op a b with
      | some v => some (g && g', v)
      | none => none
    | _, _ => none
  | .unOp .not _ x => match ev s x with
    | some (g, .bool b) => some (g, .bool (!b))
    | _ => none
  | .build t parts => match evp s parts.toList with
    | some (g, vs) => match T.zer t, T.str t with
      | some z, some pl => match fillL pl z vs with
        | some cs => some (g, .agg cs.toArray)
        | none => none
      | _, _ => none
    | none => none
  | .extract x i => match ev s x with
    | some (g, .tuple vs) => match vs.toList[i]? with
      | some v => some (g, v)
      | none => none
    | _ => none
  | .nilCheck x => match ev s x with
    | some (g, .func (.func f) a b) => some (g, .func (.func f) a b)
    | some (g, .pointer (some a)) => some (g, .pointer (some a))
    | _ => none
  | .makeFunc (.func f) first cap => match evs s first.toList, evs s cap.toList with
    | some (g, vs), some (g', ws) => some (g && g', .func (.func f) vs.toArray ws.toArray)
    | _, _ => none
  | .pick c (.const (.bool true)) y => match ev s c, ev s y with
    | some (gc, .bool t), some (gy, .bool b) => some (gc && (t || gy), .bool (t || b))
    | _, _ => none
  | .pick c x (.const (.bool false)) => match ev s c, ev s x with
    | some (gc, .bool t), some (gx, .bool b) => some (gc && (!t || gx), .bool (t && b))
    | _, _ => none
  | .call ⟨.builtin .len, ⟨[x]⟩, ⟨[t]⟩⟩ => match ev s x with
    | some (g, .slice _ n _) => match T.slc t with
      | some _ => some (g, .int .i64 (n : Int))
      | none => none
    | _ => none
  | _ => none

theorem eval_const (a : Act) (v : Value) : a.eval (.const v) = v := rfl

theorem run_typeInfo' {P : Program} {t : TypeId} {i : TypeInfo} (h : P.info? t = some i) (w : World) : (typeInfo t).run P w = .ok i w := by
  simp [typeInfo, h]

theorem run_sizeOf' {P : Program} {t : TypeId} {i : TypeInfo} (h : P.info? t = some i) (w : World) : (sizeOf t).run P w = .ok i.size w := by
  simp [sizeOf, run_typeInfo' h]

theorem run_isAgg' {P : Program} {t : TypeId} {d : TypeDesc} (h : P.underlying t = some d) (w : World) : (isAgg t).run P w = .ok (aggD d) w := by
  simp only [isAgg, Sem.run_bind, run_underlying h, Result.andThen_ok]
  cases d <;> simp [aggD]

theorem run_zero' {P : Program} {t : TypeId} {i : TypeInfo} {z : Value} (h : P.info? t = some i) (hz : i.zero = some z) (w : World) : (zeroValue t).run P w = .ok z w := by
  simp [zeroValue, run_typeInfo' h, hz]

theorem partL_ok {T : Tab} {P : Program} (hT : TabOk T P) {ft : Nat} {cs : Array Value} {off : Nat} {v : Value} (h : partL T ft cs.toList off = some v) (w : World) :
    (part ft cs off).run P w = .ok v w := by
  unfold partL at h
  cases hs : T.siz ft with
  | none => simp [hs] at h
  | some q =>
    obtain ⟨n, b⟩ := q
    obtain ⟨ti, d, h1, h2, h3, h4⟩ := hT.siz _ _ _ hs
    cases b with
    | true =>
      simp only [hs, Option.some.injEq] at h
      simp only [part, Sem.run_bind, run_isAgg' h3, Result.andThen_ok, h4, if_true, run_sizeOf' h1, h2, Sem.run_pure]
      rw [← h]
      congr 2
      apply Array.ext'
      simp [Array.toList_extract, List.extract]
    | false =>
      simp only [hs] at h
      have : cs[off]? = some v := by simpa using h
      simp [part, Sem.run_bind, run_isAgg' h3, h4, this]

theorem putAt_length : ∀ (vs cs : List Value) (n : Nat), (putAt cs n vs).length = cs.length
  | [], _, _ => rfl
  | v :: vs, cs, n => by rw [putAt, putAt_length vs]; simp

theorem fold_putAt : ∀ (vs : List Value) (cs : Array Value) (k off : Nat),
    ((vs.zipIdx k).foldl (fun cs (p : Value × Nat) => cs.setIfInBounds (off + p.2) p.1) cs).toList = putAt cs.toList (off + k) vs
  | [], _, _, _ => rfl
  | v :: vs, cs, k, off => by
    rw [List.zipIdx_cons, List.foldl_cons, fold_putAt vs]
    simp [putAt, Nat.add_assoc]

theorem fillL_ok {pl : List (Nat × Nat)} {place : Nat → Option (Nat × Nat)} (hp : ∀ i, place i = pl[i]?) : ∀ {vs : List (Nat × Value)} {cs : Array Value} {r : List Value},
    fillL pl cs.toList vs = some r → Instr.fill place cs vs = some r.toArray
  | [], cs, r, h => by simp [fillL] at h; simp [Instr.fill, ← h]
  | (i, v) :: vs, cs, r, h => by
    simp only [fillL] at h
    cases hi : pl[i]? with
    | none => simp [hi] at h
    | some q =>
      obtain ⟨off, sz⟩ := q
      simp only [hi] at h
      split at h
      · rename_i h1 h2
        have h1 := Nat.eq_of_beq_eq_true h1
        have h2 := Nat.le_of_ble_eq_true h2
        simp only [Instr.fill, hp, hi]
        have h1' : v.cells.size = sz := by simpa using h1
        have h2' : off + sz ≤ cs.size := by simpa using h2
        rw [if_neg (by simp [h1']; omega)]
        refine fillL_ok hp ?_
        rw [← h]
        congr 1
        rw [← Array.foldl_toList, Array.toList_zipIdx]
        exact fold_putAt v.cells.toList cs 0 off
      · cases h

theorem pbin_ok {P : Program} {op : BinOp} {t : Nat} {x y : Operand} {a b v : Value} (h : pbin op a b = some v) (w : World) :
    ((do eqGuard op t x y a b; binOp op t a b : Sem Value)).run P w = .ok v w := by
  unfold pbin at h
  split at h
  · rename_i k a k' b
    split at h
    · rename_i hk
      have hk : k = k' := by simpa using hk
      subst hk
      have hgd : (eqGuard op t x y (.int k a) (.int k b)).run P w = .ok () w := by
        cases op <;> simp [eqGuard]
      simp only [Sem.run_bind, hgd, Result.andThen_ok]
      cases op <;> simp [cmpB] at h <;> subst h <;> simp [binOp, Op.intCmp]
    · cases h
  · cases h

theorem pev_ok {T : Tab} {P : Program} (hT : TabOk T P) {s : Slots} {a : Act} (hs : SlotsOk s a) {o : Oper} {g : Bool} {v : Value} (h : pev T s o.op = some (g, v)) (hg : g = true) (w : World) :
    (execOp a.eval o).run P w = .ok (.value v) w := by
  obtain ⟨dst, op, ty, ps, af, gd⟩ := o
  simp only at h
  unfold pev at h
  split at h
  · rename_i x; simp [execOp, ev_ok hs h hg]
  · rename_i x; simp [execOp, ev_ok hs h hg]
  · -- field
    rename_i t x i
    split at h
    · rename_i g' cs he
      split at h
      · rename_i off ft hf
        split at h
        · rename_i v' hp
          simp only [Option.some.injEq, Prod.mk.injEq] at h
          obtain ⟨h1, h2⟩ := h
          subst h1; subst h2
          obtain ⟨fs, f, hu, hfi, ho, hft⟩ := hT.fld _ _ _ _ hf
          subst ho; subst hft
          have hx := ev_ok hs he hg
          simp only [execOp, hx, Instr.field, Sem.run_bind, run_underlying hu, Result.andThen_ok, hfi, asAgg, Sem.run_pure, partL_ok hT hp]
        · cases h
      · cases h
    · cases h
  · -- fieldAddr
    rename_i t x i
    split at h
    · rename_i g' ad he
      split at h
      · rename_i off ft hf
        split at h
        · rename_i n b hsz
          split at h
          · rename_i b' hb
            simp only [Option.some.injEq, Prod.mk.injEq] at h
            obtain ⟨h1, h2⟩ := h
            subst h1; subst h2
            obtain ⟨fs, f, hu, hfi, ho, hft⟩ := hT.fld _ _ _ _ hf
            subst ho; subst hft
            obtain ⟨ti, d, q1, q2, q3, q4⟩ := hT.siz _ _ _ hsz
            have hx := ev_ok hs he hg
            simp only [execOp, hx, Instr.fieldAt, Sem.run_bind, run_underlying hu, Result.andThen_ok, hfi, Instr.sureAddr, Sem.run_pure, fieldPlace, run_sizeOf' q1, q2]
            simp [addO_ok hb]
          · cases h
        · cases h
      · cases h
    · cases h
  · -- binOp
    rename_i op t x y ty'
    split at h
    · rename_i g1 a1 g2 b1 he1 he2
      split at h
      · rename_i v' hp
        simp only [Option.some.injEq, Prod.mk.injEq] at h
        obtain ⟨h1, h2⟩ := h
        subst h1; subst h2
        simp at hg
        have h1 := ev_ok hs he1 hg.1
        have h2 := ev_ok hs he2 hg.2
        have := pbin_ok (P := P) (t := t) (x := x) (y := y) hp w
        simp only [execOp, h1, h2]
        rw [Sem.run_bind, this]
        simp
      · cases h
    · cases h
  · -- not
    rename_i t x
    split at h
    · rename_i g' b he
      simp only [Option.some.injEq, Prod.mk.injEq] at h
      obtain ⟨h1, h2⟩ := h
      subst h1; subst h2
      simp [execOp, ev_ok hs he hg, Op.unary]
    · cases h
  · -- build
    rename_i t parts
    split at h
    · rename_i g' vs he
      split at h
      · rename_i z pl hz hpl
        split at h
        · rename_i cs hf
          simp only [Option.some.injEq, Prod.mk.injEq] at h
          obtain ⟨h1, h2⟩ := h
          subst h1; subst h2
          have hv := evp_ok hs he hg
          obtain ⟨ti, z', q1, q2, q3⟩ := hT.zer _ _ hz
          obtain ⟨fs, hu, tis, r1, r2⟩ := hT.str _ _ hpl
          have hm : ∀ (l : List Field) (tis : List TypeInfo), l.map (fun f => P.info? f.type) = tis.map some → ∀ w, (l.mapM fun f => (do pure (f.offset, ← sizeOf f.type) : Sem (Nat × Nat))).run P w = .ok ((l.zip tis).map (fun p => (p.1.offset, p.2.size))) w := by
            intro l
            induction l with
            | nil => intro tis ht w; simp
            | cons f l ih =>
              intro tis ht w
              cases tis with
              | nil => simp at ht
              | cons ti tis =>
                simp only [List.map_cons, List.cons.injEq] at ht
                have := ih tis ht.2 w
                simp only [List.mapM_cons, Sem.run_bind, run_sizeOf' ht.1, Result.andThen_ok, this, Sem.run_pure, List.zip_cons_cons, List.map_cons]
          have hpl' : (fs.mapM fun f => (do pure (f.offset, ← sizeOf f.type) : Sem (Nat × Nat))).run P w = .ok pl.toArray w := by
            rw [← Array.toArray_toList (xs := fs), List.mapM_toArray]
            have := hm fs.toList tis r1 w
            rw [r2] at this
            simp only [Sem.run_map, this, Result.andThen_ok]
          have hvs : (parts.map fun (i, x) => (i, a.eval x)).toList = vs := by rw [← hv]; simp
          simp only [execOp, Instr.build, Sem.run_bind, run_zero' q1 q2, Result.andThen_ok, run_underlying hu, hpl', hvs]
          rw [fillL_ok (pl := pl) (r := cs) (by intro i; simp) (by rw [q3]; exact hf)]
          simp
        · cases h
      · cases h
    · cases h
  · -- extract
    rename_i x i
    split at h
    · rename_i g' vs he
      split at h
      · rename_i v' hv
        simp only [Option.some.injEq, Prod.mk.injEq] at h
        obtain ⟨h1, h2⟩ := h
        subst h1; subst h2
        have hv' : vs[i]? = some v' := by simpa using hv
        simp [execOp, ev_ok hs he hg, Instr.extract, hv']
      · cases h
    · cases h
  · -- nilCheck
    rename_i x
    split at h
    · rename_i g' f a1 b1 he
      simp only [Option.some.injEq, Prod.mk.injEq] at h
      obtain ⟨h1, h2⟩ := h
      subst h1; subst h2
      simp [execOp, ev_ok hs he hg]
    · rename_i g' ad he
      simp only [Option.some.injEq, Prod.mk.injEq] at h
      obtain ⟨h1, h2⟩ := h
      subst h1; subst h2
      simp [execOp, ev_ok hs he hg]
    · cases h
  · -- makeFunc
    rename_i f first cap
    split at h
    · rename_i g1 vs g2 ws he1 he2
      simp only [Option.some.injEq, Prod.mk.injEq] at h
      obtain ⟨h1, h2⟩ := h
      subst h1; subst h2
      simp at hg
      have h1 := evs_ok hs he1 hg.1
      have h2 := evs_ok hs he2 hg.2
      have e1 : first.map a.eval = vs.toArray := by apply Array.ext'; simp [h1]
      have e2 : cap.map a.eval = ws.toArray := by apply Array.ext'; simp [h2]
      simp [execOp, Instr.makeFunc, e1, e2]
    · cases h
  · -- pick, or
    rename_i c y
    split at h
    · rename_i gc t gy b he1 he2
      simp only [Option.some.injEq, Prod.mk.injEq] at h
      obtain ⟨h1, h2⟩ := h
      subst h1; subst h2
      simp at hg
      have h1 := ev_ok hs he1 hg.1
      cases t with
      | true => simp [execOp, h1, asBool, eval_const]
      | false => simp at hg; simp [execOp, h1, asBool, ev_ok hs he2 hg.2]
    · cases h
  · -- pick, and
    rename_i c x _
    split at h
    · rename_i gc t gx b he1 he2
      simp only [Option.some.injEq, Prod.mk.injEq] at h
      obtain ⟨h1, h2⟩ := h
      subst h1; subst h2
      simp at hg
      have h1 := ev_ok hs he1 hg.1
      cases t with
      | false => simp [execOp, h1, asBool, eval_const]
      | true => simp at hg; simp [execOp, h1, asBool, ev_ok hs he2 hg.2]
    · cases h
  · -- len
    rename_i x t
    split at h
    · rename_i g' A n c he
      split at h
      · rename_i e hsl
        simp only [Option.some.injEq, Prod.mk.injEq] at h
        obtain ⟨h1, h2⟩ := h
        subst h1; subst h2
        simp [execOp, resolve, invoke, builtin, ev_ok hs he hg, Builtin.len_, run_underlying (hT.slc _ _ hsl), goInt]
      · cases h
    · cases h
  · cases h

end Go.Proofs.YtaiefncoholnnaaDoor.Fw

namespace Go.Proofs.YtaiefncoholnnaaDoor.Fw
open Go Go.RowKit

/-! ### States -/
abbrev Pred := (Nat → Prop) → World → Prop

def Ext (M : Nat → Prop) (w w' : World) : Prop := w.heap.size ≤ w'.heap.size ∧ ∀ k, k < w.heap.size → ¬ M k → w'.heap[k]? = w.heap[k]?

/-- What it says hangs on blocks outside M alone, that stand already. -/
class Stab (F : Pred) : Prop where
  st : ∀ M M' w w', F M w → Ext M w w' → (∀ k, k < w.heap.size → M' k → M k) → F M' w'

class StabL (l : List Pred) : Prop where
  st : ∀ F ∈ l, Stab F

instance : StabL [] := ⟨fun _ h => by cases h⟩
instance {F : Pred} {l : List Pred} [h : Stab F] [h' : StabL l] : StabL (F :: l) := ⟨fun G hG => by
  cases hG with
  | head => exact h
  | tail _ hG => exact h'.st G hG⟩

structure Blk where
  g : Nat
  t : TypeId
  cs : List Value

structure Own where
  v : Value
  b : Option Nat
  e : TypeId
  esz : Nat
  by_ : Nat
  n : Nat
  xs : List Value

structure St where
  n : Nat
  sl : Slots
  bl : List Blk
  ow : List Own
  fa : List Pred

/-- What stood before stands, but for the blocks of B. -/
structure Blw (B : List Nat) (n : Nat) (w w' : World) : Prop where
  os : w'.os = w.os
  tape : w'.tape = w.tape
  output : w'.output = w.output
  size : w.heap.size ≤ w'.heap.size
  block : ∀ k, k < n → k ∉ B → w'.heap[k]? = w.heap[k]?

theorem Blw.refl (B : List Nat) (n : Nat) (w : World) : Blw B n w w := ⟨rfl, rfl, rfl, Nat.le_refl _, fun _ _ _ => rfl⟩
theorem Blw.trans {B : List Nat} {n : Nat} {a b c : World} (h : Blw B n a b) (k : Blw B n b c) : Blw B n a c :=
  ⟨k.os.trans h.os, k.tape.trans h.tape, k.output.trans h.output, Nat.le_trans h.size k.size, fun i hi hB => (k.block i hi hB).trans (h.block i hi hB)⟩
theorem Blw.of {B : List Nat} {m n : Nat} {a b : World} (h : Below m a b) (hn : n ≤ m) : Blw B n a b := ⟨h.os, h.tape, h.output, h.size, fun k hk _ => h.block k (Nat.lt_of_lt_of_le hk hn)⟩
theorem Blw.below {n : Nat} {a b : World} (h : Blw [] n a b) : Below n a b := ⟨h.os, h.tape, h.output, h.size, fun k hk => h.block k hk (by simp)⟩

structure Cx where
  w0 : World
  M0 : Nat → Prop
  B0 : List Nat
  hM : ∀ b, M0 b → b < w0.heap.size
  hB : ∀ b, b ∈ B0 → b < w0.heap.size ∧ ¬ M0 b

/-- A block that the call may write: one of its own making, or one that was lent to it. -/
def Cx.mine (C : Cx) (g : Nat) : Prop := C.w0.heap.size ≤ g ∨ g ∈ C.B0

def ids (s : St) : List Nat := s.bl.map (·.g) ++ s.ow.filterMap (·.b)

def Mset (C : Cx) (s : St) : Nat → Prop := fun b => C.M0 b ∨ b ∈ ids s

def BlkOk (C : Cx) (w : World) (k : Blk) : Prop := w.heap[k.g]? = some (.cells k.cs.toArray k.t (0, 0)) ∧ C.mine k.g

def OwnOk (C : Cx) (w : World) (o : Own) : Prop :=
  o.xs.length = o.n * o.esz ∧ (o.n ≤ 9223372036854775807 ∧ o.n * o.by_ ≤ 140737488355328) ∧
  match o.b with
  | none => o.n = 0 ∧ ∃ A, o.v = .slice A 0 0
  | some g => C.mine g ∧ ∃ cap cur, o.v = .slice (some ⟨g, 0, none⟩) o.n cap ∧ w.heap[g]? = some (.cells cur o.e (0, 0)) ∧ o.n ≤ cap ∧ cap ≤ 9223372036854775807 ∧
      cur.size = cap * o.esz ∧ cur.toList.take (o.n * o.esz) = o.xs

structure WOk (C : Cx) (s : St) (w : World) : Prop where
  be : Blw C.B0 C.w0.heap.size C.w0 w
  bl : ∀ k ∈ s.bl, BlkOk C w k
  ow : ∀ o ∈ s.ow, OwnOk C w o
  nd : (ids s).Nodup
  fa : ∀ F ∈ s.fa, Stab F ∧ F (Mset C s) w

structure Rep (C : Cx) (s : St) (a : Act) (w : World) : Prop where
  sz : a.tmps.size = s.n
  df : a.defers = []
  sl : SlotsOk s.sl a
  wo : WOk C s w

theorem heap_lt {w : World} {g : Nat} {o : Obj} (h : w.heap[g]? = some o) : g < w.heap.size := (Array.getElem?_eq_some_iff.1 h).1

theorem ids_lt {C : Cx} {s : St} {w : World} (h : WOk C s w) {b : Nat} (hb : b ∈ ids s) : b < w.heap.size ∧ C.mine b := by
  rcases List.mem_append.1 hb with hb | hb
  · obtain ⟨k, hk, rfl⟩ := List.mem_map.1 hb
    exact ⟨heap_lt (h.bl k hk).1, (h.bl k hk).2⟩
  · obtain ⟨o, ho, hob⟩ := List.mem_filterMap.1 hb
    have := h.ow o ho
    unfold OwnOk at this
    rw [hob] at this
    obtain ⟨_, _, hg, cap, cur, _, hh, _⟩ := this
    exact ⟨heap_lt hh, hg⟩

theorem Mset_lt {C : Cx} {s : St} {w : World} (h : WOk C s w) {b : Nat} (hb : Mset C s b) : b < w.heap.size := by
  rcases hb with hb | hb
  · exact Nat.lt_of_lt_of_le (C.hM b hb) h.be.size
  · exact (ids_lt h hb).1

theorem BlkOk.of_eq {C : Cx} {w w' : World} {k : Blk} (h : BlkOk C w k) (he : w'.heap[k.g]? = w.heap[k.g]?) : BlkOk C w' k := ⟨he.trans h.1, h.2⟩

theorem OwnOk.of_eq {C : Cx} {w w' : World} {o : Own} (h : OwnOk C w o) (he : ∀ g, o.b = some g → w'.heap[g]? = w.heap[g]?) : OwnOk C w' o := by
  unfold OwnOk at *
  refine ⟨h.1, h.2.1, ?_⟩
  have h2 := h.2.2
  cases hb : o.b with
  | none => rw [hb] at h2; exact h2
  | some g =>
    rw [hb] at h2
    obtain ⟨hg, cap, cur, hv, hh, r⟩ := h2
    exact ⟨hg, cap, cur, hv, (he g hb).trans hh, r⟩

/-- The world has grown; every block that was there is as it was. -/
theorem WOk.grow {C : Cx} {s : St} {w w' : World} (h : WOk C s w) (hb : Below w.heap.size w w') : WOk C s w' where
  be := h.be.trans (.of hb h.be.size)
  bl k hk := (h.bl k hk).of_eq (hb.block _ (heap_lt (h.bl k hk).1))
  ow o ho := (h.ow o ho).of_eq fun g hg => hb.block _ (ids_lt h (List.mem_append_right _ (List.mem_filterMap.2 ⟨o, ho, hg⟩))).1
  nd := h.nd
  fa F hF := ⟨(h.fa F hF).1, (h.fa F hF).1.st _ _ w w' (h.fa F hF).2 ⟨hb.size, fun k hk _ => hb.block k hk⟩ fun _ _ hm => hm⟩

theorem WOk.drew {C : Cx} {s : St} {w : World} (h : WOk C s w) : WOk C s { w with drawn := w.drawn + 1 } :=
  h.grow ⟨rfl, rfl, rfl, Nat.le_refl _, fun _ _ => rfl⟩

theorem WOk.alloc {C : Cx} {s : St} {w : World} (h : WOk C s w) (t : TypeId) (cs : List Value) :
    WOk C { s with bl := ⟨w.heap.size, t, cs⟩ :: s.bl } { w with heap := w.heap.push (.cells cs.toArray t) } := by
  have hb : Below w.heap.size w { w with heap := w.heap.push (.cells cs.toArray t) } :=
    ⟨rfl, rfl, rfl, by simp, fun k hk => by simp only; rw [Array.getElem?_push, if_neg (by omega)]⟩
  have hg := h.grow hb
  refine ⟨hg.be, ?_, hg.ow, ?_, ?_⟩
  · intro k hk
    cases hk with
    | head => exact ⟨by simp, .inl h.be.size⟩
    | tail _ hk => exact hg.bl k hk
  · show (w.heap.size :: ids s).Nodup
    exact List.nodup_cons.2 ⟨fun hm => Nat.lt_irrefl _ (ids_lt h hm).1, h.nd⟩
  · intro F hF
    refine ⟨(h.fa F hF).1, (h.fa F hF).1.st _ _ w _ (h.fa F hF).2 ⟨hb.size, fun k hk _ => hb.block k hk⟩ ?_⟩
    intro k hk hm
    rcases hm with hm | hm
    · exact .inl hm
    · have hm : k ∈ w.heap.size :: ids s := hm
      rcases List.mem_cons.1 hm with hm | hm
      · omega
      · exact .inr hm

/-- One block of the call's own is written. -/
inductive UpdB : List Blk → Nat → List Value → List Value → List Blk → Prop
  | here (g : Nat) (t : TypeId) (cs cs' : List Value) (r : List Blk) : UpdB (⟨g, t, cs⟩ :: r) g cs cs' (⟨g, t, cs'⟩ :: r)
  | there (k : Blk) {r r' : List Blk} {g : Nat} {cs cs' : List Value} (h : UpdB r g cs cs' r') : UpdB (k :: r) g cs cs' (k :: r')

theorem UpdB.map {l l' : List Blk} {g : Nat} {cs cs' : List Value} (h : UpdB l g cs cs' l') : l'.map (·.g) = l.map (·.g) := by
  induction h with
  | here => rfl
  | there k _ ih => simp [ih]

theorem UpdB.mem {l l' : List Blk} {g : Nat} {cs cs' : List Value} (h : UpdB l g cs cs' l') : ∃ t, ⟨g, t, cs⟩ ∈ l ∧
    ((l.map (·.g)).Nodup → ∀ k ∈ l', k = ⟨g, t, cs'⟩ ∨ (k ∈ l ∧ k.g ≠ g)) := by
  induction h with
  | here g t cs cs' r =>
    refine ⟨t, .head _, fun hn k hk => ?_⟩
    cases hk with
    | head => exact .inl rfl
    | tail _ hk =>
      refine .inr ⟨.tail _ hk, fun e => ?_⟩
      rw [List.map_cons, List.nodup_cons] at hn
      exact hn.1 (by rw [← e]; exact List.mem_map.2 ⟨k, hk, rfl⟩)
  | there k0 h ih =>
    obtain ⟨t, hm, hr⟩ := ih
    refine ⟨t, .tail _ hm, fun hn k hk => ?_⟩
    rw [List.map_cons, List.nodup_cons] at hn
    cases hk with
    | head => exact .inr ⟨.head _, fun e => hn.1 (by rw [e]; exact List.mem_map.2 ⟨_, hm, rfl⟩)⟩
    | tail _ hk =>
      rcases hr hn.2 k hk with h1 | ⟨h1, h2⟩
      · exact .inl h1
      · exact .inr ⟨.tail _ h1, h2⟩

/-- w' is w with block g rewritten. -/
structure SetB (w w' : World) (g : Nat) (o : Obj) : Prop where
  os : w'.os = w.os
  tape : w'.tape = w.tape
  output : w'.output = w.output
  size : w'.heap.size = w.heap.size
  at_ : w'.heap[g]? = some o
  far : ∀ k, k ≠ g → w'.heap[k]? = w.heap[k]?

theorem WOk.store {C : Cx} {s : St} {w w' : World} {g : Nat} {t : TypeId} {cs cs' : List Value} {bl' : List Blk} (h : WOk C s w) (hu : UpdB s.bl g cs cs' bl')
    (ht : ∀ t', ⟨g, t', cs⟩ ∈ s.bl → t' = t)
    (hw : SetB w w' g (.cells cs'.toArray t (0, 0))) : WOk C { s with bl := bl' } w' := by
  obtain ⟨t', hm, hr⟩ := hu.mem
  have := ht t' hm
  subst this
  have hgi : g ∈ ids s := List.mem_append_left _ (List.mem_map.2 ⟨_, hm, rfl⟩)
  have hids : ids { s with bl := bl' } = ids s := by unfold ids; rw [hu.map]
  have hnb : (s.bl.map (·.g)).Nodup := (List.nodup_append.1 h.nd).1
  have hex : Ext (Mset C s) w w' := ⟨by rw [hw.size]; exact Nat.le_refl _, fun k _ hk => hw.far k fun e => hk (.inr (e ▸ hgi))⟩
  have hlt := (ids_lt h hgi)
  refine ⟨?_, ?_, ?_, by rw [hids]; exact h.nd, ?_⟩
  · exact h.be.trans ⟨hw.os, hw.tape, hw.output, by rw [hw.size]; exact Nat.le_refl _, fun k hk hB => hw.far k fun e => by
      subst e
      rcases hlt.2 with h2 | h2
      · omega
      · exact hB h2⟩
  · intro k hk
    rcases hr hnb k hk with rfl | ⟨h1, h2⟩
    · exact ⟨hw.at_, hlt.2⟩
    · exact (h.bl k h1).of_eq (hw.far _ h2)
  · intro o ho
    refine (h.ow o ho).of_eq fun g' hg' => hw.far _ fun e => ?_
    subst e
    exact (List.nodup_append.1 h.nd).2.2 g' (List.mem_map.2 ⟨_, hm, rfl⟩) g' (List.mem_filterMap.2 ⟨o, ho, hg'⟩) rfl
  · intro F hF
    refine ⟨(h.fa F hF).1, (h.fa F hF).1.st _ _ w w' (h.fa F hF).2 hex fun k _ hm => ?_⟩
    rcases hm with hm | hm
    · exact .inl hm
    · exact .inr (hids ▸ hm)

/-! ### Reading and writing rows of cells -/
theorem add_none (g n k : Nat) : (⟨g, n, none⟩ : Addr).add k = ⟨g, n + k, none⟩ := by
  unfold Addr.add
  split
  · rename_i h; simp [h]
  · rfl

theorem addr_add_add (a : Addr) (i j : Nat) : (a.add i).add j = a.add (i + j) := by
  unfold Addr.add
  by_cases hi : i = 0 <;> by_cases hj : j = 0 <;> simp [hi, hj, Nat.add_assoc]

theorem addr_block (a : Addr) (n : Nat) : (a.add n).block = a.block := by unfold Addr.add; split <;> rfl

theorem run_loadFrom {P : Program} {w : World} {a : Addr} : ∀ (vs : List Value) (i : Nat) (acc : Array Value),
    (∀ j v, vs[j]? = some v → w.cell? (a.add (i + j)) = some v) → (loadCellsFrom a i vs.length acc).run P w = .ok (acc ++ vs.toArray) w
  | [], i, acc, _ => by simp [loadCellsFrom]
  | v :: vs, i, acc, h => by
    have h0 : w.cell? (a.add i) = some v := by simpa using h 0 v rfl
    have ih := run_loadFrom (P := P) (w := w) (a := a) vs (i + 1) (acc.push v) (fun j u hj => by
      have := h (j + 1) u (by simpa using hj)
      rw [Nat.add_assoc, Nat.add_comm 1 j]; exact this)
    simp only [List.length_cons, loadCellsFrom, Sem.run_bind, run_load, h0, Result.andThen_ok, ih]
    congr 1
    apply Array.ext'
    simp

theorem run_loadCells {P : Program} {w : World} {a : Addr} {vs : List Value} {n : Nat} (hn : vs.length = n)
    (h : ∀ j v, vs[j]? = some v → w.cell? (a.add j) = some v) : (loadCells a n).run P w = .ok vs.toArray w := by
  subst hn
  have := run_loadFrom (P := P) (w := w) (a := a) vs 0 #[] (by simpa using h)
  simpa [loadCells] using this

theorem run_loadVar_agg {T : Tab} {P : Program} (hT : TabOk T P) {w : World} {a : Addr} {t n : Nat} {vs : List Value} (ht : T.siz t = some (n, true)) (hn : vs.length = n)
    (h : ∀ j v, vs[j]? = some v → w.cell? (a.add j) = some v) : (loadVar t a).run P w = .ok (.agg vs.toArray) w := by
  obtain ⟨ti, d, q1, q2, q3, q4⟩ := hT.siz _ _ _ ht
  simp [loadVar, Sem.run_bind, run_isAgg' q3, q4, run_sizeOf' q1, q2, run_loadCells hn h]

theorem run_loadVar_one {T : Tab} {P : Program} (hT : TabOk T P) {w : World} {a : Addr} {t n : Nat} {v : Value} (ht : T.siz t = some (n, false))
    (h : w.cell? a = some v) : (loadVar t a).run P w = .ok v w := by
  obtain ⟨ti, d, q1, q2, q3, q4⟩ := hT.siz _ _ _ ht
  simp [loadVar, Sem.run_bind, run_isAgg' q3, q4, h]

theorem blk_cell {w : World} {g t : Nat} {cs : List Value} (h : w.heap[g]? = some (.cells cs.toArray t (0, 0))) (i : Nat) : w.cell? ⟨g, i, none⟩ = cs[i]? := by
  simp [World.cell?, h]

theorem run_storeCells {P : Program} {g t : Nat} : ∀ (vs : List Value) (w : World) (cs : List Value) (i off : Nat),
    w.heap[g]? = some (.cells cs.toArray t (0, 0)) → off + i + vs.length ≤ cs.length → (∀ v ∈ vs, v.oneCell' = true) →
    ∃ w', (storeCells ⟨g, off, none⟩ vs i).run P w = .ok () w' ∧ SetB w w' g (.cells (putAt cs (off + i) vs).toArray t (0, 0))
  | [], w, cs, i, off, h, _, _ => ⟨w, by simp [storeCells], rfl, rfl, rfl, rfl, h, fun _ _ => rfl⟩
  | v :: vs, w, cs, i, off, h, hl, h1 => by
    have hv := h1 v (.head _)
    simp only [List.length_cons] at hl
    have hc : w.cell? ⟨g, off + i, none⟩ = some (cs[off + i]'(by omega)) := by rw [blk_cell h]; exact List.getElem?_eq_getElem (by omega)
    have hf : w.frozen? ⟨g, off + i, none⟩ = false := by simp [World.frozen?, h]
    have hg := heap_lt h
    have hset : (w.setCell ⟨g, off + i, none⟩ v).heap[g]? = some (.cells (cs.set (off + i) v).toArray t (0, 0)) := by
      simp [World.setCell, Array.getElem?_modify, h]
    obtain ⟨w', hr, hS⟩ := run_storeCells (P := P) vs (w.setCell ⟨g, off + i, none⟩ v) (cs.set (off + i) v) (i + 1) off hset (by simp; omega) (fun u hu => h1 u (.tail _ hu))
    refine ⟨w', ?_, ?_⟩
    · rw [storeCells, Sem.run_bind, add_none, run_store P w _ v _ hv]
      simp only [hc, hf]
      simpa using hr
    · refine ⟨hS.os, hS.tape, hS.output, by rw [hS.size]; simp [World.setCell], ?_, fun k hk => ?_⟩
      · rw [hS.at_, ← Nat.add_assoc]; rfl
      · rw [hS.far k hk]
        simp only [World.setCell, Array.getElem?_modify]
        rw [if_neg (by omega)]

end Go.Proofs.YtaiefncoholnnaaDoor.Fw

namespace Go.Proofs.YtaiefncoholnnaaDoor.Fw
open Go Go.RowKit

abbrev Post := Exit → St → Prop

def postOf (C : Cx) (Q : Post) : Exit → Act → World → Prop
  | .panic _, _, _ => False
  | .goto _, _, _ => False
  | .outgrown, _, _ => False
  | .normal, a, w => ∃ s, Q .normal s ∧ Rep C s a w
  | .ret, a, w => ∃ s, Q .ret s ∧ Rep C s a w
  | .exit i, a, w => ∃ s, Q (.exit i) s ∧ Rep C s a w

def St.put (s : St) (d : Nat) (x : SV) : St := { s with sl := (d, x) :: s.sl }

theorem getS_cons (k : Nat) (x : SV) (r : Slots) (n : Nat) : getS ((k, x) :: r) n = if k = n then some x else getS r n := by
  simp only [getS]
  by_cases h : k = n
  · subst h; simp
  · have : Nat.beq k n = false := by
      cases hb : Nat.beq k n with
      | false => rfl
      | true => exact absurd (Nat.eq_of_beq_eq_true hb) h
    simp [this, h]

theorem Rep.putv {C : Cx} {s : St} {a : Act} {w : World} (h : Rep C s a w) {d : Nat} (hd : d < s.n) {x : SV} {u : Value} (hx : x.ok (some u)) {w' : World} {bl : List Blk} {ow : List Own} {fa : List Pred}
    (hw : WOk C { s with bl := bl, ow := ow, fa := fa } w') :
    Rep C { n := s.n, sl := (d, x) :: s.sl, bl := bl, ow := ow, fa := fa } (a.put (some d) u) w' where
  sz := by simp [Act.put, h.sz]
  df := h.df
  sl n y hy := by
    rw [getS_cons] at hy
    have hsz := h.sz
    by_cases hn : d = n
    · subst hn
      simp at hy
      subst hy
      have : (a.put (some d) u).tmps[d]? = some u := by simp [Act.put, hsz, hd]
      rw [this]; exact hx
    · simp [hn] at hy
      have : (a.put (some d) u).tmps[n]? = a.tmps[n]? := by simp [Act.put, Array.getElem?_setIfInBounds_ne hn]
      rw [this]; exact h.sl n y hy
  wo := ⟨hw.be, hw.bl, hw.ow, hw.nd, hw.fa⟩

/-! ### The operations of a region -/
/-- What an operation may turn. -/
def Keeps (D : List Nat) (w w' : World) : Prop := w.heap.size ≤ w'.heap.size ∧ ∀ k, k < w.heap.size → k ∉ D → w'.heap[k]? = w.heap[k]?

theorem Keeps.refl (D : List Nat) (w : World) : Keeps D w w := ⟨Nat.le_refl _, fun _ _ _ => rfl⟩
theorem Keeps.trans {D : List Nat} {a b c : World} (h : Keeps D a b) (k : Keeps D b c) : Keeps D a c :=
  ⟨Nat.le_trans h.1 k.1, fun i hi hd => (k.2 i (Nat.lt_of_lt_of_le hi h.1) hd).trans (h.2 i hi hd)⟩
theorem Keeps.mono {D D' : List Nat} {a b : World} (h : Keeps D a b) (hd : ∀ g ∈ D, g ∈ D') : Keeps D' a b := ⟨h.1, fun i hi hn => h.2 i hi fun hm => hn (hd i hm)⟩
theorem Keeps.of_below {D : List Nat} {a b : World} (h : Below a.heap.size a b) : Keeps D a b := ⟨h.size, fun k hk _ => h.block k hk⟩

theorem keeps_push (D : List Nat) (w : World) (o : Obj) : Keeps D w { w with heap := w.heap.push o } :=
  ⟨by simp, fun k hk _ => by simp only; rw [Array.getElem?_push, if_neg (by omega)]⟩

/-- The same, or nothing is said of it. -/
def KeepsO : Option (List Nat) → World → World → Prop
  | none, _, _ => True
  | some D, w, w' => Keeps D w w'
theorem KeepsO.refl : ∀ (D : Option (List Nat)) (w : World), KeepsO D w w
  | none, _ => trivial
  | some D, w => Keeps.refl D w
theorem KeepsO.trans : ∀ {D : Option (List Nat)} {a b c : World}, KeepsO D a b → KeepsO D b c → KeepsO D a c
  | none, _, _, _, _, _ => trivial
  | some _, _, _, _, h, k => Keeps.trans h k
def subO : Option (List Nat) → Option (List Nat) → Prop
  | _, none => True
  | some l, some D => ∀ g ∈ l, g ∈ D
  | none, some _ => False
theorem KeepsO.mono : ∀ {D D' : Option (List Nat)} {a b : World}, KeepsO D a b → subO D D' → KeepsO D' a b
  | _, none, _, _, _, _ => trivial
  | some _, some _, _, _, h, k => Keeps.mono h k
  | none, some _, _, _, _, k => k.elim

def noG (_ : Exit) (_ : Act) (_ : World) : Prop := False

/-- Whatever order is picked; each operation turns no more than it is said to. -/
def wpAnyF (P : Program) (ops : Array Oper) (Q : Exit → Act → World → Prop) (fp : Nat → Option (List Nat)) : Nat → Array Bool → Act → World → Prop
  | 0, listed, a, w => Region.ready .any ops listed = [] ∧ Q .normal a w
  | fuel + 1, listed, a, w =>
    (Region.ready .any ops listed = [] → Q .normal a w) ∧
    ∀ i ∈ Region.ready .any ops listed, wpOp P ops noG i (fun a' w' => KeepsO (fp i) w w' ∧ wpAnyF P ops Q fp fuel (listed.setIfInBounds i true) a' w') a w

theorem Oper.wp_no {P : Program} {o : Oper} {a : Act} {w : World} {K : Act → World → Prop} {Q : Exit → Act → World → Prop} (h : o.wp P a w K noG) : o.wp P a w K Q := by
  unfold Oper.wp at *
  generalize (execOp a.eval o).run P w = r at *
  cases r with
  | ok n w' =>
    cases n <;> simp only [Oper.upon] at h ⊢ <;>
      first
        | exact h
        | exact Calls.mono h (fun e w'' he => by cases e <;> first | exact he | exact he.elim | exact (he.2 : False).elim | (obtain ⟨_, _, he⟩ := he; exact he.elim))
  | halt x w' => cases x <;> simp only [Oper.upon] at h ⊢ <;> exact h.elim

theorem wpOp_no {P : Program} {ops : Array Oper} {i : Nat} {a : Act} {w : World} {K : Act → World → Prop} {Q : Exit → Act → World → Prop} (h : wpOp P ops noG i K a w) : wpOp P ops Q i K a w := by
  unfold wpOp at *
  split
  · rename_i ho; simp only [ho] at h; exact h
  · rename_i o ho
    simp only [ho] at h
    split
    · rename_i hw
      simp only [hw, if_true] at h
      rcases h with h | ⟨_, _, _, h⟩
      · exact .inl (Oper.wp_no h)
      · exact h.elim
    · rename_i hw; simp only [hw] at h; exact h

theorem wpAny_ofF {P : Program} {ops : Array Oper} {Q : Exit → Act → World → Prop} {fp : Nat → Option (List Nat)} : ∀ (fuel : Nat) (listed : Array Bool) (a : Act) (w : World), wpAnyF P ops Q fp fuel listed a w → wpAny P .any ops Q fuel listed a w
  | 0, _, _, _, h => h
  | fuel + 1, _, _, _, h => ⟨h.1, fun i hi => wpOp_mono (fun a' w' h' => wpAny_ofF fuel _ a' w' h'.2) (wpOp_no (h.2 i hi))⟩

/-- In this state, in every world that has turned no more than D since w, the operation yields v. -/
def YieldsF (P : Program) (ops : Array Oper) (D : Option (List Nat)) (o : Oper) (v : Value) (a : Act) (w : World) : Prop :=
  (Region.wanted o (yielded ops a.tmps) = true ∧ ∀ w', KeepsO D w w' → (execOp a.eval o).run P w' = .ok (.value v) w') ∨
  (Region.wanted o (yielded ops a.tmps) = false ∧ v = undef)

theorem YieldsF.wpOp {P : Program} {ops : Array Oper} {D : Option (List Nat)} {i : Nat} {o : Oper} {v : Value} {a : Act} {w : World} (hi : ops[i]? = some o) (hy : YieldsF P ops D o v a w)
    {K : Act → World → Prop} {Q : Exit → Act → World → Prop} (h : K (a.put o.dst v) w) : wpOp P ops Q i K a w := by
  unfold Go.wpOp
  simp only [hi]
  rcases hy with ⟨hw, hv⟩ | ⟨hw, rfl⟩
  · simp only [hw, if_true, Oper.wp, hv w (KeepsO.refl _ _), Oper.upon]; exact .inl h
  · simp only [hw, Bool.false_eq_true, if_false]; exact h

theorem YieldsF.of_same {P : Program} {ops : Array Oper} {D : Option (List Nat)} {o : Oper} {v : Value} {a a' : Act} {w w' : World} (hy : YieldsF P ops D o v a w) (he : execOp a'.eval o = execOp a.eval o)
    (hw : Region.wanted o (yielded ops a'.tmps) = Region.wanted o (yielded ops a.tmps)) (hk : KeepsO D w w') : YieldsF P ops D o v a' w' := by
  unfold YieldsF at *
  rw [he, hw]
  exact hy.imp (fun ⟨h1, h2⟩ => ⟨h1, fun w'' h => h2 w'' (hk.trans h)⟩) id

theorem wpOp_putF {P : Program} {ops : Array Oper} {D : Option (List Nat)} {j : Nat} {oi oj : Oper} {v : Value} {w : World} (hj : ops[j]? = some oj) (hap : oi.apart ops oj = true)
    (hsi : ∀ cs b, oi.op ≠ .select cs b) (hsj : ∀ cs b, oj.op ≠ .select cs b) {K : Act → World → Prop} {a : Act} (hK : ∀ a' w', K a' w' → KeepsO D w w')
    (hy : YieldsF P ops D oi v a w) (h : wpOp P ops noG j K (a.put oi.dst v) w) :
    wpOp P ops noG j (fun a' w' => YieldsF P ops D oi v a' w' ∧ K (a'.put oi.dst v) w') a w := by
  obtain ⟨h1, h2, h3⟩ := Oper.apart_spec hap
  have keep : ∀ (a : Act), YieldsF P ops D oi v a w → ∀ u w', KeepsO D w w' → YieldsF P ops D oi v (a.put oj.dst u) w' := fun a hy u w' hk =>
    hy.of_same (execOp_put oi hsi a oj.dst u h3) (wanted_put oi a oj.dst u h3) hk
  have keepD : ∀ d, YieldsF P ops D oi v { a with defers := d :: a.defers } w := fun d => hy.of_same rfl rfl (KeepsO.refl _ _)
  unfold wpOp at *
  simp only [hj] at *
  rw [wanted_put oj a oi.dst v h1] at h
  split
  · rename_i hw
    simp only [hw, if_true] at h
    rcases h with h | ⟨_, _, _, h⟩
    case inr => exact h.elim
    refine .inl ?_
    unfold Oper.wp at *
    rw [execOp_put oj hsj a oi.dst v h1] at h
    generalize (execOp a.eval oj).run P w = r at *
    cases r with
    | ok n w' =>
      cases n <;> simp only [Oper.upon] at h ⊢
      case value u => exact ⟨keep a hy u _ (hK _ _ h), by rw [← Act.put_comm a v u h2]; exact h⟩
      case skip => exact ⟨keep a hy _ _ (hK _ _ h), by rw [← Act.put_comm a v undef h2]; exact h⟩
      case defer d =>
        refine ⟨keep _ (keepD d) _ _ (hK _ _ h), ?_⟩
        rw [← Act.put_comm _ v undef h2, ← Act.put_defers]
        exact h
      case enter f args =>
        refine Calls.mono h fun e w'' he => ?_
        cases e with
        | returned u => exact ⟨keep a hy u _ (hK _ _ he), by rw [← Act.put_comm a v u h2]; exact he⟩
        | panicked c => exact he.elim
        | outgrown => exact he
      case row row args => exact Rows.mono h fun u w'' he => ⟨keep a hy u _ (hK _ _ he), by rw [← Act.put_comm a v u h2]; exact he⟩
    | halt x w' =>
      cases x <;> simp only [Oper.upon] at h ⊢
      case panic u => exact h.elim
  · rename_i hw
    simp only [hw] at h
    exact ⟨keep a hy _ _ (hK _ _ h), by rw [← Act.put_comm a v undef h2]; exact h⟩

/-- Those of B come behind i, by edges, or by edges of edges. -/
def behindOk (ops : Array Oper) (listed : Array Bool) (i : Nat) (B : List Nat) : Bool :=
  B.all fun j => !(listed.getD j true) && match ops[j]? with | some oj => oj.after.any fun e => Region.binds .any e && (e.on == i || B.contains e.on) | none => false

theorem wpAnyF_firstB {P : Program} {ops : Array Oper} {Q : Exit → Act → World → Prop} {fp : Nat → Option (List Nat)} {D : Option (List Nat)} {i : Nat} {oi : Oper} {v : Value} {B : List Nat} (hi : ops[i]? = some oi) (hsel : ∀ (j : Nat) (o : Oper) cs b, ops[j]? = some o → o.op ≠ .select cs b) :
    ∀ (fuel : Nat) (listed : Array Bool) (a : Act) (w : World),
      behindOk ops listed i B = true →
      (∀ j oj, ops[j]? = some oj → j ≠ i → listed.getD j true = false → (∀ e ∈ oj.after, Region.binds .any e = true → e.on ≠ i) → j ∉ B → oi.apart ops oj = true ∧ subO (fp j) D) →
      i ∈ Region.ready .any ops listed → YieldsF P ops D oi v a w →
      wpAnyF P ops Q fp fuel (listed.setIfInBounds i true) (a.put oi.dst v) w → wpAnyF P ops Q fp (fuel + 1) listed a w := by
  intro fuel
  induction fuel with
  | zero =>
    intro listed a w _ _ hr hy H
    refine ⟨fun h => (by rw [h] at hr; cases hr), fun j hj => ?_⟩
    by_cases hji : j = i
    · subst hji; exact hy.wpOp hi ⟨KeepsO.refl _ _, H⟩
    · have := ready_mono hj hji
      rw [H.1] at this
      cases this
  | succ fuel ih =>
    intro listed a w hB hfree hr hy H
    refine ⟨fun h => (by rw [h] at hr; cases hr), fun j hj => ?_⟩
    by_cases hji : j = i
    · subst hji; exact hy.wpOp hi ⟨KeepsO.refl _ _, H⟩
    · have h1 := H.2 j (ready_mono hj hji)
      obtain ⟨hjun, oj, hoj, hall⟩ := mem_ready.1 hj
      have hnot : ∀ e ∈ oj.after, Region.binds .any e = true → e.on ≠ i := fun e he hb heq => by
        have h1 := hall e he hb
        have h0 := (mem_ready.1 hr).1
        rw [heq] at h1
        rcases Nat.lt_or_ge i listed.size with h' | h'
        · simp [h'] at h0 h1; rw [h0] at h1; cases h1
        · simp [Array.getElem?_eq_none h'] at h1
      have hjB : j ∉ B := fun hm => by
        have hb := List.all_eq_true.1 hB j hm
        simp only [hoj, Bool.and_eq_true] at hb
        obtain ⟨e, he, hx⟩ := Array.any_eq_true'.1 hb.2
        simp only [Bool.and_eq_true, Bool.or_eq_true, beq_iff_eq, List.contains_iff_mem] at hx
        obtain ⟨hx1, hx2 | hx2⟩ := hx
        · exact hnot e he hx1 hx2
        · have h1 := hall e he hx1
          have h2 := List.all_eq_true.1 hB _ hx2
          simp only [Bool.and_eq_true, Bool.not_eq_true'] at h2
          have h3 := h2.1
          rcases Nat.lt_or_ge e.on listed.size with h' | h'
          · simp [h'] at h3 h1; rw [h3] at h1; cases h1
          · simp [Array.getElem?_eq_none h'] at h1
      obtain ⟨hap, hfp⟩ := hfree j oj hoj hji hjun hnot hjB
      have h2 := wpOp_putF (D := D) hoj hap (fun cs b => hsel i oi cs b hi) (fun cs b => hsel j oj cs b hoj) (fun a' w' h => h.1.mono hfp) hy h1
      have hB' : behindOk ops (listed.setIfInBounds j true) i B = true := by
        refine List.all_eq_true.2 fun k hk => ?_
        have hb := List.all_eq_true.1 hB k hk
        have hjk : j ≠ k := fun e => hjB (e ▸ hk)
        rw [getD_set_ne true hjk]
        exact hb
      have hfree' : ∀ k ok, ops[k]? = some ok → k ≠ i → (listed.setIfInBounds j true).getD k true = false →
          (∀ e ∈ ok.after, Region.binds .any e = true → e.on ≠ i) → k ∉ B → oi.apart ops ok = true ∧ subO (fp k) D := fun k ok hk hki hun hno => by
        refine hfree k ok hk hki ?_ hno
        by_cases hjk : j = k
        · subst hjk; exact hjun
        · rw [getD_set_ne true hjk] at hun; exact hun
      refine wpOp_mono (fun a' w' h3 => ⟨h3.2.1, ih (listed.setIfInBounds j true) a' w' hB' hfree' (ready_mono hr (Ne.symm hji)) h3.1 ?_⟩) h2
      rw [Array.setIfInBounds_comm _ _ hji]
      exact h3.2.2

/-- What is left of a region: in its order; or in whatever order; or one operation that comes up now. -/
inductive RS where
  | sq (l : List Oper)
  | an (fp : Nat → Option (List Nat)) (fuel : Nat) (listed : Array Bool)
  | at_ (fp : Nat → Option (List Nat)) (fuel : Nat) (listed : Array Bool) (i : Nat)

def wpR (P : Program) (ops : Array Oper) (Q : Exit → Act → World → Prop) : RS → Act → World → Prop
  | .sq l => wpList P ops Q l
  | .an fp fuel listed => wpAnyF P ops Q fp fuel listed
  | .at_ fp fuel listed i => fun a w => wpOp P ops noG i (fun a' w' => KeepsO (fp i) w w' ∧ wpAnyF P ops Q fp fuel (listed.setIfInBounds i true) a' w') a w

section
variable (P : Program) (T : Tab) (C : Cx)

def RW (ops : Array Oper) (rest : RS) (s : St) (Q : Post) : Prop :=
  TabOk T P → ∀ a w, Rep C s a w → wpR P ops (postOf C Q) rest a w

def CW (c : Code) (s : St) (Q : Post) : Prop :=
  TabOk T P → ∀ a w, Rep C s a w → c.wp P (postOf C Q) a w
end

/-- Operation o comes up next; it may turn D. -/
inductive Front (ops : Array Oper) : RS → Oper → List Nat → RS → Prop
  | sq {o : Oper} {l : List Oper} : Front ops (.sq (o :: l)) o [] (.sq l)
  | an {fp : Nat → Option (List Nat)} {fuel : Nat} {listed : Array Bool} {i : Nat} {o : Oper} {D : List Nat} (hi : ops[i]? = some o) (hD : fp i = some D) : Front ops (.at_ fp fuel listed i) o D (.an fp fuel (listed.setIfInBounds i true))
  | lo {fp : Nat → Option (List Nat)} {fuel : Nat} {listed : Array Bool} {i : Nat} {o : Oper} (D : List Nat) (hi : ops[i]? = some o) (hD : fp i = none) : Front ops (.at_ fp fuel listed i) o D (.an fp fuel (listed.setIfInBounds i true))

/-- The operations that may come ahead of i, and are not. -/
def others (ops : Array Oper) (listed : Array Bool) (i : Nat) : List Nat :=
  (List.range ops.size).filter fun j => !(j == i) && !(listed.getD j true) && match ops[j]? with | some oj => !(oj.after.any fun e => Region.binds .any e && e.on == i) | none => false

/-- Operation o may be taken next. D: what those may turn that might come ahead. -/
def sumO (fp : Nat → Option (List Nat)) : List Nat → Option (List Nat)
  | [] => some []
  | j :: r => match fp j, sumO fp r with
    | some a, some b => some (a ++ b)
    | _, _ => none
theorem subO_sum {fp : Nat → Option (List Nat)} : ∀ {js : List Nat} {j : Nat}, j ∈ js → subO (fp j) (sumO fp js)
  | k :: r, j, h => by
    rw [sumO]
    cases hk : fp k with
    | none => cases fp j <;> exact trivial
    | some a =>
      cases hr : sumO fp r with
      | none => cases fp j <;> exact trivial
      | some b =>
        rcases List.mem_cons.1 h with rfl | h
        · rw [hk]; exact fun g hg => List.mem_append_left _ hg
        · have := subO_sum (fp := fp) h
          rw [hr] at this
          cases hj : fp j with
          | none => rw [hj] at this; exact this.elim
          | some l => rw [hj] at this; exact fun g hg => List.mem_append_right _ (this g hg)

inductive FrontQ (ops : Array Oper) : RS → Oper → Option (List Nat) → RS → Prop
  | sq {o : Oper} {l : List Oper} : FrontQ ops (.sq (o :: l)) o (some []) (.sq l)
  | an {fp : Nat → Option (List Nat)} {fuel : Nat} {listed : Array Bool} {i : Nat} {o : Oper} {js : List Nat} (hi : ops[i]? = some o) (hs : Region.noSelect ops = true) (hf : Region.free .any ops listed i = true)
      (hr : (Region.ready .any ops listed).contains i = true) (hj : others ops listed i = js) : FrontQ ops (.an fp (fuel + 1) listed) o (sumO fp js) (.an fp fuel (listed.setIfInBounds i true))
  | ab {fp : Nat → Option (List Nat)} {fuel : Nat} {listed : Array Bool} {i : Nat} {o : Oper} {js : List Nat} (B : List Nat) (hi : ops[i]? = some o) (hs : Region.noSelect ops = true) (hf : Region.free .any ops listed i = true)
      (hr : (Region.ready .any ops listed).contains i = true) (hB : behindOk ops listed i B = true) (hj : (others ops listed i).filter (fun j => !B.contains j) = js) : FrontQ ops (.an fp (fuel + 1) listed) o (sumO fp js) (.an fp fuel (listed.setIfInBounds i true))

/-- One that comes first, quiet. -/
theorem FrontQ.first {ops : Array Oper} {o : Oper} {r r' : RS} {D : Option (List Nat)} (hf : FrontQ ops r o D r') : (∃ l, r = .sq (o :: l) ∧ r' = .sq l) ∨
    ∃ fp fuel listed i, r = .an fp (fuel + 1) listed ∧ r' = .an fp fuel (listed.setIfInBounds i true) ∧ ∀ {P : Program} {Q : Exit → Act → World → Prop} {v : Value} {a : Act} {w : World}, YieldsF P ops D o v a w → wpAnyF P ops Q fp fuel (listed.setIfInBounds i true) (a.put o.dst v) w → wpAnyF P ops Q fp (fuel + 1) listed a w := by
  have key : ∀ {fp : Nat → Option (List Nat)} {listed : Array Bool} {i : Nat} {B js : List Nat} {j : Nat} {oj : Oper}, (others ops listed i).filter (fun j => !B.contains j) = js → ops[j]? = some oj → j ≠ i → listed.getD j true = false → (∀ e ∈ oj.after, Region.binds .any e = true → e.on ≠ i) → j ∉ B → subO (fp j) (sumO fp js) := by
    intro fp listed i B js j oj hj hoj hne hun hno hnB
    refine subO_sum ?_
    rw [← hj, List.mem_filter]
    refine ⟨?_, by simpa using hnB⟩
    unfold others
    rw [List.mem_filter, List.mem_range]
    refine ⟨(Array.getElem?_eq_some_iff.1 hoj).1, ?_⟩
    simp only [hoj, hun, Bool.not_false, Bool.and_true, Bool.and_eq_true, Bool.not_eq_true', beq_eq_false_iff_ne, ne_eq, hne, not_false_eq_true, true_and]
    cases hany : oj.after.any (fun e => Region.binds .any e && e.on == i) with
    | false => rfl
    | true =>
      obtain ⟨e, he, hb⟩ := Array.any_eq_true'.1 hany
      simp only [Bool.and_eq_true, beq_iff_eq] at hb
      exact absurd hb.2 (hno e he hb.1)
  cases hf with
  | sq => exact .inl ⟨_, rfl, rfl⟩
  | an hi hsel hfree hr hj =>
    rename_i fp fuel listed i js
    refine .inr ⟨fp, fuel, listed, i, rfl, rfl, fun hy H => wpAnyF_firstB (B := []) hi (Region.noSelect_spec hsel) fuel listed _ _ rfl (fun j oj hoj hne hun hno hnB => ⟨Region.free_spec hi hfree j oj hoj hne hun hno, key (by rw [← hj]; simp) hoj hne hun hno hnB⟩) (by simpa using hr) hy H⟩
  | ab B hi hsel hfree hr hB hj =>
    rename_i fp fuel listed i js
    exact .inr ⟨fp, fuel, listed, i, rfl, rfl, fun hy H => wpAnyF_firstB hi (Region.noSelect_spec hsel) fuel listed _ _ hB (fun j oj hoj hne hun hno hnB => ⟨Region.free_spec hi hfree j oj hoj hne hun hno, key hj hoj hne hun hno hnB⟩) (by simpa using hr) hy H⟩

section
variable {P : Program} {T : Tab} {C : Cx} {ops : Array Oper} {o : Oper} {r r' : RS} {s : St} {Q : Post} {N : Nat} {SL : Slots} {BL : List Blk} {OW : List Own} {FA : List Pred}

theorem rw_nil (h : Q .normal s) : RW P T C ops (.sq []) s Q := fun _ _ _ hr => ⟨s, h, hr⟩

theorem ra_nil {fp : Nat → Option (List Nat)} {fuel : Nat} {listed : Array Bool} (hr : Region.ready .any ops listed = []) (h : Q .normal s) : RW P T C ops (.an fp fuel listed) s Q := fun _ a w hrep => by
  cases fuel with
  | zero => exact ⟨hr, s, h, hrep⟩
  | succ n => exact ⟨fun _ => ⟨s, h, hrep⟩, by rw [hr]; simp⟩

theorem ra_one {fp : Nat → Option (List Nat)} {fuel : Nat} {listed : Array Bool} (i : Nat) (hr : Region.ready .any ops listed = [i]) (h : RW P T C ops (.at_ fp fuel listed i) s Q) : RW P T C ops (.an fp (fuel + 1) listed) s Q := fun hT a w hrep =>
  ⟨by rw [hr]; simp, by rw [hr]; intro j hj; rw [List.mem_singleton] at hj; subst hj; exact h hT a w hrep⟩

theorem ra_two {fp : Nat → Option (List Nat)} {fuel : Nat} {listed : Array Bool} (i j : Nat) (hr : Region.ready .any ops listed = [i, j]) (h : RW P T C ops (.at_ fp fuel listed i) s Q) (h' : RW P T C ops (.at_ fp fuel listed j) s Q) : RW P T C ops (.an fp (fuel + 1) listed) s Q := fun hT a w hrep =>
  ⟨by rw [hr]; simp, by
    rw [hr]; intro k hk
    rcases List.mem_cons.1 hk with rfl | hk
    · exact h hT a w hrep
    · rw [List.mem_singleton] at hk; subst hk; exact h' hT a w hrep⟩

theorem wanted_none {o : Oper} {y : Nat → Option Bool} (h : o.guard = none) : Region.wanted o y = true := by simp [Region.wanted, h]

/-- What a guard comes to. -/
def Guard (ops : Array Oper) (SL : Slots) (o : Oper) (G : Bool) : Prop := ∀ a, SlotsOk SL a → Region.wanted o (yielded ops a.tmps) = G

theorem guard_none (hg : o.guard = none) : Guard ops SL o true := fun _ _ => wanted_none hg

theorem guard_gen {j tj : Nat} {want b : Bool} {sv : SV} (hg : o.guard = some (j, want)) (hj : (ops[j]?).bind (·.dst) = some tj) (hs : getS SL tj = some sv)
    (hb : sv.val = .bool b) : Guard ops SL o (sv.gd && (b == want)) := by
  intro a hsl
  have hsv := hsl tj sv hs
  have hy : yielded ops a.tmps j = if sv.gd = true then some b else none := by
    unfold yielded
    rw [hj, Option.bind_some]
    cases sv with
    | v x => simp [SV.ok, SV.val] at hsv hb; simp [hsv, hb, SV.gd]
    | o g' x =>
      simp [SV.ok, SV.val] at hsv hb
      rw [hsv, hb]
      cases g' <;> simp [SV.gd, undef]
  unfold Region.wanted
  rw [hg]
  simp only [hy]
  cases sv.gd <;> cases b <;> cases want <;> rfl

theorem guard_vt {j tj : Nat} {b : Bool} (hg : o.guard = some (j, true)) (hj : (ops[j]?).bind (·.dst) = some tj) (hs : getS SL tj = some (.v (.bool b))) : Guard ops SL o b := by
  have := guard_gen hg hj hs rfl; simpa [SV.gd] using this
theorem guard_vf {j tj : Nat} {b : Bool} (hg : o.guard = some (j, false)) (hj : (ops[j]?).bind (·.dst) = some tj) (hs : getS SL tj = some (.v (.bool b))) : Guard ops SL o (!b) := by
  have := guard_gen hg hj hs rfl; simpa [SV.gd] using this
theorem guard_ot {j tj : Nat} {b g : Bool} (hg : o.guard = some (j, true)) (hj : (ops[j]?).bind (·.dst) = some tj) (hs : getS SL tj = some (.o g (.bool b))) : Guard ops SL o (g && b) := by
  have := guard_gen hg hj hs rfl; simpa [SV.gd] using this
theorem guard_of {j tj : Nat} {b g : Bool} (hg : o.guard = some (j, false)) (hj : (ops[j]?).bind (·.dst) = some tj) (hs : getS SL tj = some (.o g (.bool b))) : Guard ops SL o (g && !b) := by
  have := guard_gen hg hj hs rfl; simpa [SV.gd] using this

/-- What an operation that only reads may ask of the world. -/
structure WQ (BL : List Blk) (FA : List Pred) (w : World) : Prop where
  bl : ∀ k ∈ BL, w.heap[k.g]? = some (.cells k.cs.toArray k.t (0, 0))
  fa : ∀ F ∈ FA, ∃ M, F M w

/-- An operation that reads at most: its value, wherever the state holds, if G says so. -/
def Quiet (P : Program) (T : Tab) (SL : Slots) (BL : List Blk) (FA : List Pred) (o : Oper) (G : Bool) (v : Value) : Prop :=
  TabOk T P → G = true → ∀ a w, SlotsOk SL a → WQ BL FA w → (execOp a.eval o).run P w = .ok (.value v) w

/-- Some blocks are left aside. -/
inductive SplitB : List Blk → List Blk → List Nat → Prop
  | nil : SplitB [] [] []
  | keep {k : Blk} {l l' : List Blk} {D : List Nat} (h : SplitB l l' D) : SplitB (k :: l) (k :: l') D
  | drop {k : Blk} {l l' : List Blk} {D : List Nat} (h : SplitB l l' D) : SplitB (k :: l) l' (k.g :: D)

theorem SplitB.all : ∀ l : List Blk, SplitB l l []
  | [] => .nil
  | _ :: l => .keep (SplitB.all l)

theorem SplitB.sub {l l' : List Blk} {D : List Nat} (h : SplitB l l' D) : l'.Sublist l ∧ (∀ g ∈ D, g ∈ l.map (·.g)) ∧ ((l.map (·.g)).Nodup → ∀ k ∈ l', k.g ∉ D) := by
  induction h with
  | nil => exact ⟨.slnil, by simp, by simp⟩
  | keep _ ih =>
    obtain ⟨h1, h2, h3⟩ := ih
    refine ⟨.cons_cons _ h1, fun g hg => .tail _ (h2 g hg), fun hn k hk => ?_⟩
    rw [List.map_cons, List.nodup_cons] at hn
    cases hk with
    | head => exact fun hd => hn.1 (h2 _ hd)
    | tail _ hk => exact h3 hn.2 k hk
  | drop _ ih =>
    obtain ⟨h1, h2, h3⟩ := ih
    refine ⟨.cons _ h1, fun g hg => ?_, fun hn k hk => ?_⟩
    · cases hg with
      | head => exact .head _
      | tail _ hg => exact .tail _ (h2 g hg)
    · rw [List.map_cons, List.nodup_cons] at hn
      intro hd
      rcases List.mem_cons.1 hd with hd | hd
      · exact hn.1 (hd ▸ List.mem_map.2 ⟨k, h1.subset hk, rfl⟩)
      · exact h3 hn.2 k hk hd

theorem wq_keeps {w w' : World} {BL' : List Blk} {D D' : List Nat} (h : WOk C ⟨N, SL, BL, OW, FA⟩ w) (hs : SplitB BL BL' D') (hD : ∀ g ∈ D, g ∈ D' ∨ ∃ q ∈ OW, q.b = some g) (hk : Keeps D w w') : WQ BL' FA w' := by
  obtain ⟨h1, h2, h3⟩ := hs.sub
  have hnb : (BL.map (·.g)).Nodup := (List.nodup_append.1 h.nd).1
  refine ⟨fun k hk' => ?_, fun F hF => ⟨Mset C ⟨N, SL, BL, OW, FA⟩, ?_⟩⟩
  · have hb := (h.bl k (h1.subset hk')).1
    rw [hk.2 _ (heap_lt hb) ?_]
    · exact hb
    · intro hd
      rcases hD _ hd with hd | ⟨q, hq, hqb⟩
      · exact h3 hnb k hk' hd
      · exact (List.nodup_append.1 h.nd).2.2 k.g (List.mem_map.2 ⟨k, h1.subset hk', rfl⟩) k.g (List.mem_filterMap.2 ⟨q, hq, hqb⟩) rfl
  · refine (h.fa F hF).1.st _ _ w w' (h.fa F hF).2 ⟨hk.1, fun k hk' hm => hk.2 k hk' fun hd => hm (.inr ?_)⟩ fun _ _ hm => hm
    rcases hD _ hd with hd | ⟨q, hq, hqb⟩
    · exact List.mem_append_left _ (h2 _ hd)
    · exact List.mem_append_right _ (List.mem_filterMap.2 ⟨q, hq, hqb⟩)

/-- What of the state a quiet operation may read, if D may be turned ahead of it. -/
def ReadsQ (BL : List Blk) (OW : List Own) (FA : List Pred) : Option (List Nat) → List Blk → List Pred → Prop
  | none, BL', FA' => BL' = [] ∧ FA' = []
  | some D, BL', FA' => FA' = FA ∧ ∃ D', SplitB BL BL' D' ∧ ∀ g ∈ D, g ∈ D' ∨ ∃ q ∈ OW, q.b = some g

theorem wq_keepsO {w w' : World} {BL' : List Blk} {FA' : List Pred} {D : Option (List Nat)} (h : WOk C ⟨N, SL, BL, OW, FA⟩ w) (hs : ReadsQ BL OW FA D BL' FA') (hk : KeepsO D w w') : WQ BL' FA' w' := by
  cases D with
  | none => obtain ⟨rfl, rfl⟩ := hs; exact ⟨(fun _ h => nomatch h), (fun _ h => nomatch h)⟩
  | some D => obtain ⟨rfl, D', hs, hD⟩ := hs; exact wq_keeps h hs hD hk

theorem WOk.wq {w : World} (h : WOk C ⟨N, SL, BL, OW, FA⟩ w) : WQ BL FA w := ⟨fun k hk => (h.bl k hk).1, fun F hF => ⟨_, (h.fa F hF).2⟩⟩

/-- A quiet operation. -/
theorem rw_qG {d : Nat} {G : Bool} {v : Value} {sv : SV} {D : Option (List Nat)} {BL' : List Blk} {FA' : List Pred} (hf : FrontQ ops r o D r') (hG : Guard ops SL o G) (hd : o.dst = some d) (hn : Nat.blt d N = true) (hq : Quiet P T SL BL' FA' o G v)
    (hs : ReadsQ BL OW FA D BL' FA') (hsv : sv.ok (some (bif G then v else undef)))
    (h : RW P T C ops r' ⟨N, (d, sv) :: SL, BL, OW, FA⟩ Q) : RW P T C ops r ⟨N, SL, BL, OW, FA⟩ Q := by
  intro hT a w hrep
  have hput : ∀ u, u = (bif G then v else undef) → Rep C ⟨N, (d, sv) :: SL, BL, OW, FA⟩ (a.put (some d) u) w := fun u hu => by
    subst hu
    exact hrep.putv (Nat.le_of_ble_eq_true hn) hsv hrep.wo
  rcases hf.first with ⟨l, rfl, rfl⟩ | ⟨fp, fuel, listed, i, rfl, rfl, hfirst⟩
  · have hk := wq_keepsO hrep.wo hs (KeepsO.refl _ _)
    show wpList P ops (postOf C Q) (o :: _) a w
    unfold wpList
    rw [hG a hrep.sl]
    cases hGv : G with
    | true =>
      rw [if_pos rfl]
      refine .inl ?_
      unfold Oper.wp
      rw [hq hT hGv a w hrep.sl hk, Oper.upon_value, hd]
      exact h hT _ _ (hput _ (by simp [hGv]))
    | false =>
      rw [if_neg (by simp), hd]
      exact h hT _ _ (hput _ (by simp [hGv]))
  · have hy : YieldsF P ops D o (bif G then v else undef) a w := by
      cases hGv : G with
      | true => exact .inl ⟨by rw [hG a hrep.sl, hGv], fun w' hk => by simpa using hq hT hGv a w' hrep.sl (wq_keepsO hrep.wo hs hk)⟩
      | false => exact .inr ⟨by rw [hG a hrep.sl, hGv], rfl⟩
    have hH := h hT _ _ (hput _ rfl)
    exact hfirst hy (by rw [hd]; exact hH)

/-- A quiet operation in a region that has its order. -/
theorem rw_q {d : Nat} {v : Value} {l : List Oper} (hg : o.guard = none) (hd : o.dst = some d) (hn : Nat.blt d N = true) (hq : Quiet P T SL BL FA o true v)
    (h : RW P T C ops (.sq l) ⟨N, (d, .v v) :: SL, BL, OW, FA⟩ Q) : RW P T C ops (.sq (o :: l)) ⟨N, SL, BL, OW, FA⟩ Q :=
  rw_qG .sq (guard_none hg) hd hn hq ⟨rfl, _, SplitB.all _, by simp⟩ (by simp [SV.ok]) h

theorem rw_qg {d : Nat} {G : Bool} {v : Value} {l : List Oper} (hG : Guard ops SL o G) (hd : o.dst = some d) (hn : Nat.blt d N = true) (hq : Quiet P T SL BL FA o G v)
    (h : RW P T C ops (.sq l) ⟨N, (d, .o G v) :: SL, BL, OW, FA⟩ Q) : RW P T C ops (.sq (o :: l)) ⟨N, SL, BL, OW, FA⟩ Q :=
  rw_qG .sq hG hd hn hq ⟨rfl, _, SplitB.all _, by simp⟩ (by simp [SV.ok]) h

theorem ra_q {d : Nat} {v : Value} {D D' : List Nat} {BL' : List Blk} (hf : FrontQ ops r o (some D) r') (hs : SplitB BL BL' D') (hD : ∀ g ∈ D, g ∈ D' ∨ ∃ q ∈ OW, q.b = some g) (hg : o.guard = none) (hd : o.dst = some d) (hn : Nat.blt d N = true) (hq : Quiet P T SL BL' FA o true v)
    (h : RW P T C ops r' ⟨N, (d, .v v) :: SL, BL, OW, FA⟩ Q) : RW P T C ops r ⟨N, SL, BL, OW, FA⟩ Q :=
  rw_qG hf (guard_none hg) hd hn hq ⟨rfl, _, hs, hD⟩ (by simp [SV.ok]) h

/-- A pure one: whatever is turned ahead of it. -/
theorem ra_p {d : Nat} {v : Value} (hf : FrontQ ops r o none r') (hg : o.guard = none) (hd : o.dst = some d) (hn : Nat.blt d N = true) (hq : Quiet P T SL [] [] o true v)
    (h : RW P T C ops r' ⟨N, (d, .v v) :: SL, BL, OW, FA⟩ Q) : RW P T C ops r ⟨N, SL, BL, OW, FA⟩ Q :=
  rw_qG hf (guard_none hg) hd hn hq ⟨rfl, rfl⟩ (by simp [SV.ok]) h
theorem ra_pg {d : Nat} {G : Bool} {v : Value} (hf : FrontQ ops r o none r') (hG : Guard ops SL o G) (hd : o.dst = some d) (hn : Nat.blt d N = true) (hq : Quiet P T SL [] [] o G v)
    (h : RW P T C ops r' ⟨N, (d, .o G v) :: SL, BL, OW, FA⟩ Q) : RW P T C ops r ⟨N, SL, BL, OW, FA⟩ Q :=
  rw_qG hf hG hd hn hq ⟨rfl, rfl⟩ (by simp [SV.ok]) h

theorem ra_qg {d : Nat} {G : Bool} {v : Value} {D D' : List Nat} {BL' : List Blk} (hf : FrontQ ops r o (some D) r') (hs : SplitB BL BL' D') (hD : ∀ g ∈ D, g ∈ D' ∨ ∃ q ∈ OW, q.b = some g) (hG : Guard ops SL o G) (hd : o.dst = some d) (hn : Nat.blt d N = true) (hq : Quiet P T SL BL' FA o G v)
    (h : RW P T C ops r' ⟨N, (d, .o G v) :: SL, BL, OW, FA⟩ Q) : RW P T C ops r ⟨N, SL, BL, OW, FA⟩ Q :=
  rw_qG hf hG hd hn hq ⟨rfl, _, hs, hD⟩ (by simp [SV.ok]) h

/-- The guard is known. -/
theorem guard_is {G : Bool} (h : Guard ops SL o G) (e : G = true) : Guard ops SL o true := e ▸ h

/-- Whether the guard lets it run, or not. -/
theorem rw_split {G : Bool} {D : List Nat} (_ : Front ops r o D r') (_ : Guard ops SL o G) (h1 : G = true → RW P T C ops r ⟨N, SL, BL, OW, FA⟩ Q) (h2 : G = false → RW P T C ops r ⟨N, SL, BL, OW, FA⟩ Q) : RW P T C ops r ⟨N, SL, BL, OW, FA⟩ Q := by
  cases hG : G with
  | true => exact h1 hG
  | false => exact h2 hG

/-- An operation whose guard keeps it away. -/
theorem rw_dead {d : Nat} {G : Bool} {D : List Nat} (hf : Front ops r o D r') (hG : Guard ops SL o G) (e : G = false) (hd : o.dst = some d) (hn : Nat.blt d N = true)
    (h : RW P T C ops r' ⟨N, (d, .o false (.bool false)) :: SL, BL, OW, FA⟩ Q) : RW P T C ops r ⟨N, SL, BL, OW, FA⟩ Q := by
  subst e
  intro hT a w hrep
  have h2 : Rep C ⟨N, (d, .o false (.bool false)) :: SL, BL, OW, FA⟩ (a.put (some d) undef) w :=
    hrep.putv (Nat.le_of_ble_eq_true hn) (x := .o false (.bool false)) (u := undef) (by simp [SV.ok]) hrep.wo
  cases hf with
  | sq =>
    show wpList P ops (postOf C Q) (o :: _) a w
    unfold wpList
    rw [if_neg (by rw [hG a hrep.sl]; simp), hd]
    exact h hT _ _ h2
  | an hi =>
    unfold wpR wpOp
    simp only [hi]
    rw [if_neg (by rw [hG a hrep.sl]; simp), hd]
    exact ⟨KeepsO.refl _ _, h hT _ _ h2⟩
  | lo _ hi =>
    unfold wpR wpOp
    simp only [hi]
    rw [if_neg (by rw [hG a hrep.sl]; simp), hd]
    exact ⟨KeepsO.refl _ _, h hT _ _ h2⟩

/-- Such a store. -/
theorem rw_dead0 {G : Bool} {D : List Nat} (hf : Front ops r o D r') (hG : Guard ops SL o G) (e : G = false) (hd : o.dst = none)
    (h : RW P T C ops r' ⟨N, SL, BL, OW, FA⟩ Q) : RW P T C ops r ⟨N, SL, BL, OW, FA⟩ Q := by
  subst e
  intro hT a w hrep
  cases hf with
  | sq =>
    show wpList P ops (postOf C Q) (o :: _) a w
    unfold wpList
    rw [if_neg (by rw [hG a hrep.sl]; simp), hd]
    exact h hT _ _ hrep
  | an hi =>
    unfold wpR wpOp
    simp only [hi]
    rw [if_neg (by rw [hG a hrep.sl]; simp), hd]
    exact ⟨KeepsO.refl _ _, h hT _ _ hrep⟩
  | lo _ hi =>
    unfold wpR wpOp
    simp only [hi]
    rw [if_neg (by rw [hG a hrep.sl]; simp), hd]
    exact ⟨KeepsO.refl _ _, h hT _ _ hrep⟩

/-- An operation that turns the world: what comes of it. -/
def Loud (P : Program) (T : Tab) (C : Cx) (s : St) (o : Oper) (D : List Nat) (K : St → Prop) : Prop :=
  TabOk T P → ∀ a w, Rep C s a w → o.wp P a w (fun a' w' => ∃ s', K s' ∧ Rep C s' a' w' ∧ Keeps D w w') noG

theorem rw_l {D : List Nat} {K : St → Prop} (hf : Front ops r o D r') (hg : Guard ops s.sl o true) (hl : Loud P T C s o D K) (h : ∀ s', K s' → RW P T C ops r' s' Q) : RW P T C ops r s Q := by
  intro hT a w hrep
  cases hf with
  | sq =>
    show wpList P ops (postOf C Q) (o :: _) a w
    unfold wpList
    rw [if_pos (hg a hrep.sl)]
    exact .inl (Oper.wp_mono (fun a' w' ⟨s', h1, h2, _⟩ => h s' h1 hT a' w' h2) (Oper.wp_no (hl hT a w hrep)))
  | an hi hD =>
    unfold wpR wpOp
    simp only [hi]
    rw [if_pos (hg a hrep.sl)]
    exact .inl (Oper.wp_mono (fun a' w' ⟨s', h1, h2, h3⟩ => ⟨by rw [hD]; exact h3, h s' h1 hT a' w' h2⟩) (hl hT a w hrep))
  | lo _ hi hD =>
    unfold wpR wpOp
    simp only [hi]
    rw [if_pos (hg a hrep.sl)]
    exact .inl (Oper.wp_mono (fun a' w' ⟨s', h1, h2, h3⟩ => ⟨by rw [hD]; exact trivial, h s' h1 hT a' w' h2⟩) (hl hT a w hrep))

theorem rw_lsq {D : List Nat} {l : List Oper} {K : St → Prop} (hg : Guard ops s.sl o true) (hl : Loud P T C s o D K) (h : ∀ s', K s' → RW P T C ops (.sq l) s' Q) : RW P T C ops (.sq (o :: l)) s Q := by
  intro hT a w hrep
  show wpList P ops (postOf C Q) (o :: _) a w
  unfold wpList
  rw [if_pos (hg a hrep.sl)]
  exact .inl (Oper.wp_mono (fun a' w' ⟨s', h1, h2, _⟩ => h s' h1 hT a' w' h2) (Oper.wp_no (hl hT a w hrep)))

/-- An operation that ends in a value, the world turned as told. -/
theorem loud_val {D : List Nat} {d : Nat} (hd : o.dst = some d) (hn : Nat.blt d N = true) {K : Value → List Blk → List Own → List Pred → Prop}
    (hr : TabOk T P → ∀ a w, Rep C ⟨N, SL, BL, OW, FA⟩ a w → ∃ u w' bl ow fa, (execOp a.eval o).run P w = .ok (.value u) w' ∧ WOk C ⟨N, SL, bl, ow, fa⟩ w' ∧ Keeps D w w' ∧ K u bl ow fa) :
    Loud P T C ⟨N, SL, BL, OW, FA⟩ o D (fun s' => ∃ u bl ow fa, K u bl ow fa ∧ s' = ⟨N, (d, .v u) :: SL, bl, ow, fa⟩) := by
  intro hT a w hrep
  obtain ⟨u, w', bl, ow, fa, h1, h2, h3, h4⟩ := hr hT a w hrep
  unfold Oper.wp
  rw [h1, Oper.upon_value, hd]
  exact ⟨_, ⟨u, bl, ow, fa, h4, rfl⟩, hrep.putv (Nat.le_of_ble_eq_true hn) (x := .v u) (u := u) rfl h2, h3⟩

theorem rw_val {D : List Nat} (hf : Front ops r o D r') (hg : Guard ops SL o true) {d : Nat} (hd : o.dst = some d) (hn : Nat.blt d N = true)
    {K : Value → List Blk → List Own → List Pred → Prop}
    (hr : TabOk T P → ∀ a w, Rep C ⟨N, SL, BL, OW, FA⟩ a w → ∃ u w' bl ow fa, (execOp a.eval o).run P w = .ok (.value u) w' ∧ WOk C ⟨N, SL, bl, ow, fa⟩ w' ∧ Keeps D w w' ∧ K u bl ow fa)
    (h : ∀ u bl ow fa, K u bl ow fa → RW P T C ops r' ⟨N, (d, .v u) :: SL, bl, ow, fa⟩ Q) : RW P T C ops r ⟨N, SL, BL, OW, FA⟩ Q :=
  rw_l hf hg (loud_val hd hn hr) (fun s' ⟨u, bl, ow, fa, h1, h2⟩ => by subst h2; exact h u bl ow fa h1)

theorem q_pev {g G : Bool} {v : Value} (he : pev T SL o.op = some (g, v)) (hgt : G = true → g = true) : Quiet P T SL BL FA o G v :=
  fun hT hG _ w hsl _ => pev_ok hT hsl he (hgt hG) w

/-- Where the value of a load stands. -/
def subL (cs : List Value) (off n : Nat) : List Value := (cs.drop off).take n

theorem q_load_gen {t : Nat} {x : Operand} {g0 G : Bool} {ad : Addr} {v : Value} (ho : o.op = .load t x)
    (he : ev SL x = some (g0, .pointer (some ad))) (hg0 : G = true → g0 = true) (hl : TabOk T P → G = true → ∀ w, WQ BL FA w → (loadVar t ad).run P w = .ok v w) : Quiet P T SL BL FA o G v :=
  fun hT hG a w hsl hw => by
    simp only [execOp, ho, Instr.loadAt, ev_ok hsl he (hg0 hG), Instr.sureAddr, Sem.run_bind, Sem.run_pure, Result.andThen_ok, hl hT hG w hw]

theorem blk_load_agg {t n g t' off : Nat} {cs : List Value} (hs : T.siz t = some (n, true)) (hm : ⟨g, t', cs⟩ ∈ BL) (hle : Nat.ble (off + n) cs.length = true) (hT : TabOk T P) {w : World} (hw : WQ BL FA w) :
    (loadVar t ⟨g, off, none⟩).run P w = .ok (.agg (subL cs off n).toArray) w := by
  have hle := Nat.le_of_ble_eq_true hle
  refine run_loadVar_agg hT hs (by simp [subL]; omega) fun j v hj => ?_
  rw [add_none, blk_cell (hw.bl _ hm), ← hj]
  simp only [subL, List.getElem?_take, List.getElem?_drop]
  rw [if_pos]
  have := List.getElem?_eq_some_iff.1 hj
  obtain ⟨hlt, _⟩ := this
  simp [subL] at hlt
  omega

theorem q_ld1 {t : Nat} {x : Operand} {g0 G : Bool} {g n t' off : Nat} {cs : List Value} {v : Value} (ho : o.op = .load t x)
    (he : ev SL x = some (g0, .pointer (some ⟨g, off, none⟩))) (hg0 : G = true → g0 = true) (hs : T.siz t = some (n, false)) (hm : ⟨g, t', cs⟩ ∈ BL) (hv : cs[off]? = some v) : Quiet P T SL BL FA o G v :=
  q_load_gen ho he hg0 fun hT _ w hw => run_loadVar_one hT hs (by rw [blk_cell (hw.bl _ hm)]; exact hv)

theorem q_ldA {t : Nat} {x : Operand} {g0 G : Bool} {g n t' : Nat} {cs : List Value} (ho : o.op = .load t x)
    (he : ev SL x = some (g0, .pointer (some ⟨g, 0, none⟩))) (hg0 : G = true → g0 = true) (hs : T.siz t = some (n, true)) (hm : ⟨g, t', cs⟩ ∈ BL) (hl : cs.length = n) : Quiet P T SL BL FA o G (.agg ⟨cs⟩) :=
  q_load_gen ho he hg0 fun hT _ w hw => by
    have := blk_load_agg (P := P) (FA := FA) hs hm (off := 0) (by simp [hl]) hT hw
    rw [this]
    simp [subL, ← hl]

theorem q_ldP {t : Nat} {x : Operand} {g0 G : Bool} {g n t' off : Nat} {cs : List Value} (ho : o.op = .load t x)
    (he : ev SL x = some (g0, .pointer (some ⟨g, off, none⟩))) (hg0 : G = true → g0 = true) (hs : T.siz t = some (n, true)) (hm : ⟨g, t', cs⟩ ∈ BL) (hl : Nat.ble (off + n) cs.length = true) : Quiet P T SL BL FA o G (.agg ⟨subL cs off n⟩) :=
  q_load_gen ho he hg0 fun hT _ _ hw => blk_load_agg hs hm hl hT hw

/-! int arithmetic within bounds -/
theorem wrap_in (n : Int) (h : -9223372036854775808 ≤ n ∧ n ≤ 9223372036854775807) : IntKind.i64.wrap n = n := by
  rw [IntKind.wrap_i64]; omega

theorem q_arith {op : BinOp} {t t' : Nat} {x y : Operand} {g0 g1 G : Bool} {a b r : Int} (ho : o.op = .binOp op t x y t') (he : ev SL x = some (g0, .int .i64 a)) (hg0 : G = true → g0 = true)
    (hy : ev SL y = some (g1, .int .i64 b)) (hg1 : G = true → g1 = true) (hr : (op = .add ∧ r = a + b) ∨ (op = .sub ∧ r = a - b) ∨ (op = .mul ∧ r = a * b))
    (hb : G = true → -9223372036854775808 ≤ r ∧ r ≤ 9223372036854775807) : Quiet P T SL BL FA o G (.int .i64 r) :=
  fun hT hG a' w hsl hw => by
    have h1 := ev_ok hsl he (hg0 hG)
    have h2 := ev_ok hsl hy (hg1 hG)
    have h3 := wrap_in r (hb hG)
    rcases hr with ⟨rfl, rfl⟩ | ⟨rfl, rfl⟩ | ⟨rfl, rfl⟩ <;> simp [execOp, ho, h1, h2, eqGuard, binOp, Op.intArith, h3]

theorem q_add {t t' : Nat} {x y : Operand} {g0 g1 G : Bool} {a b : Int} (ho : o.op = .binOp .add t x y t') (he : ev SL x = some (g0, .int .i64 a)) (hg0 : G = true → g0 = true)
    (hy : ev SL y = some (g1, .int .i64 b)) (hg1 : G = true → g1 = true) (hb : G = true → -9223372036854775808 ≤ a + b ∧ a + b ≤ 9223372036854775807) : Quiet P T SL BL FA o G (.int .i64 (a + b)) :=
  q_arith ho he hg0 hy hg1 (.inl ⟨rfl, rfl⟩) hb
theorem q_sub {t t' : Nat} {x y : Operand} {g0 g1 G : Bool} {a b : Int} (ho : o.op = .binOp .sub t x y t') (he : ev SL x = some (g0, .int .i64 a)) (hg0 : G = true → g0 = true)
    (hy : ev SL y = some (g1, .int .i64 b)) (hg1 : G = true → g1 = true) (hb : G = true → -9223372036854775808 ≤ a - b ∧ a - b ≤ 9223372036854775807) : Quiet P T SL BL FA o G (.int .i64 (a - b)) :=
  q_arith ho he hg0 hy hg1 (.inr (.inl ⟨rfl, rfl⟩)) hb
theorem q_mul {t t' : Nat} {x y : Operand} {g0 g1 G : Bool} {a b : Int} (ho : o.op = .binOp .mul t x y t') (he : ev SL x = some (g0, .int .i64 a)) (hg0 : G = true → g0 = true)
    (hy : ev SL y = some (g1, .int .i64 b)) (hg1 : G = true → g1 = true) (hb : G = true → -9223372036854775808 ≤ a * b ∧ a * b ≤ 9223372036854775807) : Quiet P T SL BL FA o G (.int .i64 (a * b)) :=
  q_arith ho he hg0 hy hg1 (.inr (.inr ⟨rfl, rfl⟩)) hb

/-! memory of the call's own -/
theorem rw_alloc {d t : Nat} {z : List Value} {D : List Nat} (hf : Front ops r o D r') (hg : Guard ops SL o true) (hd : o.dst = some d) (hn : Nat.blt d N = true) (ho : o.op = .alloc t) (hz : T.zer t = some z)
    (h : ∀ g, RW P T C ops r' ⟨N, (d, .v (.pointer (some ⟨g, 0, none⟩))) :: SL, ⟨g, t, z⟩ :: BL, OW, FA⟩ Q) : RW P T C ops r ⟨N, SL, BL, OW, FA⟩ Q :=
  rw_val hf hg hd hn (K := fun u bl ow fa => ∃ g, u = .pointer (some ⟨g, 0, none⟩) ∧ bl = ⟨g, t, z⟩ :: BL ∧ ow = OW ∧ fa = FA)
    (fun hT a w hr => by
      obtain ⟨ti, zv, q1, q2, q3⟩ := hT.zer _ _ hz
      refine ⟨.pointer (some ⟨w.heap.size, 0, none⟩), _, _, OW, FA, ?_, hr.wo.alloc t z, keeps_push _ _ _, w.heap.size, rfl, rfl, rfl, rfl⟩
      simp only [execOp, ho, Instr.alloc, Sem.run_bind, run_zero' q1 q2, Result.andThen_ok, newVar, newRow, run_newObj, Sem.run_pure]
      simp [← q3])
    (fun u bl ow fa ⟨g, e1, e2, e3, e4⟩ => by subst e1; subst e2; subst e3; subst e4; exact h g)

theorem rw_box {d t : Nat} {x : Operand} {g0 : Bool} {v : Value} {cs : List Value} {D : List Nat} (hf : Front ops r o D r') (hg : Guard ops SL o true) (hd : o.dst = some d) (hn : Nat.blt d N = true) (ho : o.op = .box t x)
    (he : ev SL x = some (g0, v)) (hg0 : g0 = true) (hv : v.cells = cs.toArray)
    (h : ∀ g, RW P T C ops r' ⟨N, (d, .v (.pointer (some ⟨g, 0, none⟩))) :: SL, ⟨g, t, cs⟩ :: BL, OW, FA⟩ Q) : RW P T C ops r ⟨N, SL, BL, OW, FA⟩ Q :=
  rw_val hf hg hd hn (K := fun u bl ow fa => ∃ g, u = .pointer (some ⟨g, 0, none⟩) ∧ bl = ⟨g, t, cs⟩ :: BL ∧ ow = OW ∧ fa = FA)
    (fun _ a w hr => by
      refine ⟨.pointer (some ⟨w.heap.size, 0, none⟩), _, _, OW, FA, ?_, hr.wo.alloc t cs, keeps_push _ _ _, w.heap.size, rfl, rfl, rfl, rfl⟩
      simp only [execOp, ho, Instr.box, ev_ok hr.sl he hg0, newVar, newRow, Sem.run_bind, run_newObj, Result.andThen_ok, Sem.run_pure, hv])
    (fun u bl ow fa ⟨g, e1, e2, e3, e4⟩ => by subst e1; subst e2; subst e3; subst e4; exact h g)

theorem rw_box_agg {d t : Nat} {x : Operand} {g0 : Bool} {cs : List Value} {D : List Nat} (hf : Front ops r o D r') (hg : Guard ops SL o true) (hd : o.dst = some d) (hn : Nat.blt d N = true) (ho : o.op = .box t x)
    (he : ev SL x = some (g0, .agg ⟨cs⟩)) (hg0 : g0 = true)
    (h : ∀ g, RW P T C ops r' ⟨N, (d, .v (.pointer (some ⟨g, 0, none⟩))) :: SL, ⟨g, t, cs⟩ :: BL, OW, FA⟩ Q) : RW P T C ops r ⟨N, SL, BL, OW, FA⟩ Q :=
  rw_box hf hg hd hn ho he hg0 rfl h

/-- A store into a block of the call's own. -/
theorem rw_st {t : Nat} {x y : Operand} {g0 g1 : Bool} {g n off : Nat} {b : Bool} {cs vs : List Value} {v : Value} {bl' : List Blk} {D : List Nat} (hf : Front ops r o D r') (hgD : (∃ l, r = .sq l) ∨ g ∈ D) (hg : Guard ops SL o true) (hd : o.dst = none) (ho : o.op = .store t x y)
    (he : ev SL x = some (g0, .pointer (some ⟨g, off, none⟩))) (hg0 : g0 = true) (hev : ev SL y = some (g1, v)) (hg1 : g1 = true) (hs : T.siz t = some (n, b)) (hvc : v.cells = vs.toArray) (hvn : vs.length = n)
    (hone : vs.all (·.oneCell') = true) (hu : UpdB BL g cs (putAt cs off vs) bl') (hle : Nat.ble (off + n) cs.length = true)
    (h : RW P T C ops r' ⟨N, SL, bl', OW, FA⟩ Q) : RW P T C ops r ⟨N, SL, BL, OW, FA⟩ Q := by
  have key : Loud P T C ⟨N, SL, BL, OW, FA⟩ o [g] (fun s' => s' = ⟨N, SL, bl', OW, FA⟩) := by
    intro hT a w hrep
    obtain ⟨ti, d, q1, q2, q3, q4⟩ := hT.siz _ _ _ hs
    have hle := Nat.le_of_ble_eq_true hle
    obtain ⟨t', hm, _⟩ := hu.mem
    have hB := (hrep.wo.bl _ hm)
    obtain ⟨w', hr, hS⟩ := run_storeCells (P := P) vs w cs 0 off hB.1 (by omega) (by simpa using hone)
    have hrun : (execOp a.eval o).run P w = .ok .skip w' := by
      simp only [execOp, ho, Instr.storeAt, ev_ok hrep.sl he hg0, ev_ok hrep.sl hev hg1, Instr.sureAddr, Sem.run_bind, Sem.run_pure, Result.andThen_ok, storeVar, run_sizeOf' q1, hvc]
      rw [if_neg (by simp [hvn, q2])]
      rw [hr]
      simp
    unfold Oper.wp
    rw [hrun, Oper.upon_skip, hd]
    have huniq : ∀ t'', ⟨g, t'', cs⟩ ∈ BL → t'' = t' := by
      intro t'' hm''
      have h1 := (hrep.wo.bl _ hm'').1
      have h2 := hB.1
      simp only at h1 h2
      rw [h1] at h2
      simp at h2
      exact h2
    refine ⟨_, rfl, ⟨hrep.sz, hrep.df, hrep.sl, hrep.wo.store (t := t') hu huniq hS⟩, by rw [hS.size]; exact Nat.le_refl _, fun k _ hk => hS.far k fun e => hk (by simp [e])⟩
  have h' : ∀ s', s' = ⟨N, SL, bl', OW, FA⟩ → RW P T C ops r' s' Q := fun s' e => by subst e; exact h
  cases hf with
  | sq => exact rw_lsq hg key h'
  | lo _ hi hDD => exact rw_l (.lo [g] hi hDD) hg key h'
  | an hi hDD =>
    refine rw_l (.an hi hDD) hg (fun hT a w hrep => Oper.wp_mono (fun a' w' ⟨s', h1, h2, h3⟩ => ⟨s', h1, h2, h3.mono fun k hk => ?_⟩) (key hT a w hrep)) h'
    rw [List.mem_singleton] at hk
    subst hk
    rcases hgD with ⟨_, e⟩ | e
    · cases e
    · exact e

theorem rw_st1 {t : Nat} {x y : Operand} {g0 g1 : Bool} {g n off : Nat} {cs : List Value} {v : Value} {bl' : List Blk} {D : List Nat} (hf : Front ops r o D r') (hgD : (∃ l, r = .sq l) ∨ g ∈ D) (hg : Guard ops SL o true) (hd : o.dst = none) (ho : o.op = .store t x y)
    (he : ev SL x = some (g0, .pointer (some ⟨g, off, none⟩))) (hg0 : g0 = true) (hev : ev SL y = some (g1, v)) (hg1 : g1 = true) (hs : T.siz t = some (n, false)) (hn1 : n = 1) (hvc : v.oneCell' = true)
    (hu : UpdB BL g cs (cs.set off v) bl') (hle : Nat.blt off cs.length = true)
    (h : RW P T C ops r' ⟨N, SL, bl', OW, FA⟩ Q) : RW P T C ops r ⟨N, SL, BL, OW, FA⟩ Q :=
  rw_st (vs := [v]) hf hgD hg hd ho he hg0 hev hg1 hs (by cases v <;> first | rfl | (simp [Value.oneCell'] at hvc)) (by simp [hn1]) (by simp [hvc]) hu
    (by subst hn1; exact hle) h

theorem putAt_all : ∀ (vs pre cs : List Value), cs.length = vs.length → putAt (pre ++ cs) pre.length vs = pre ++ vs
  | [], pre, cs, h => by cases cs <;> simp_all [putAt]
  | v :: vs, pre, [], h => by simp at h
  | v :: vs, pre, c :: cs, h => by
    have := putAt_all vs (pre ++ [v]) cs (by simpa using h)
    simp only [putAt]
    simpa using this

theorem rw_stA {t : Nat} {x y : Operand} {g0 g1 : Bool} {g n : Nat} {cs vs : List Value} {bl' : List Blk} {D : List Nat} (hf : Front ops r o D r') (hgD : (∃ l, r = .sq l) ∨ g ∈ D) (hg : Guard ops SL o true) (hd : o.dst = none) (ho : o.op = .store t x y)
    (he : ev SL x = some (g0, .pointer (some ⟨g, 0, none⟩))) (hg0 : g0 = true) (hev : ev SL y = some (g1, .agg ⟨vs⟩)) (hg1 : g1 = true) (hs : T.siz t = some (n, true)) (hvn : vs.length = n)
    (hone : vs.all (·.oneCell') = true) (hu : UpdB BL g cs vs bl') (hle : cs.length = n)
    (h : RW P T C ops r' ⟨N, SL, bl', OW, FA⟩ Q) : RW P T C ops r ⟨N, SL, BL, OW, FA⟩ Q :=
  rw_st (vs := vs) (cs := cs) (off := 0) hf hgD hg hd ho he hg0 hev hg1 hs rfl hvn hone (by rw [show putAt cs 0 vs = vs from putAt_all vs [] cs (by omega)]; exact hu) (by simp [hle]) h

theorem rw_stP {t : Nat} {x y : Operand} {g0 g1 : Bool} {g n off : Nat} {cs vs : List Value} {bl' : List Blk} {D : List Nat} (hf : Front ops r o D r') (hgD : (∃ l, r = .sq l) ∨ g ∈ D) (hg : Guard ops SL o true) (hd : o.dst = none) (ho : o.op = .store t x y)
    (he : ev SL x = some (g0, .pointer (some ⟨g, off, none⟩))) (hg0 : g0 = true) (hev : ev SL y = some (g1, .agg ⟨vs⟩)) (hg1 : g1 = true) (hs : T.siz t = some (n, true)) (hvn : vs.length = n)
    (hone : vs.all (·.oneCell') = true) (hu : UpdB BL g cs (putAt cs off vs) bl') (hle : Nat.ble (off + n) cs.length = true)
    (h : RW P T C ops r' ⟨N, SL, bl', OW, FA⟩ Q) : RW P T C ops r ⟨N, SL, BL, OW, FA⟩ Q :=
  rw_st hf hgD hg hd ho he hg0 hev hg1 hs rfl hvn hone hu hle h

end
end Go.Proofs.YtaiefncoholnnaaDoor.Fw

namespace Go.Proofs.YtaiefncoholnnaaDoor.Fw
open Go Go.RowKit

section
variable {P : Program} {T : Tab} {C : Cx} {s : St} {Q : Post} {N : Nat} {SL : Slots} {BL : List Blk} {OW : List Own} {FA : List Pred}

theorem postOf_mono {Q Q' : Post} (h : ∀ e s, Q e s → Q' e s) (e : Exit) (a : Act) (w : World) (hq : postOf C Q e a w) : postOf C Q' e a w := by
  cases e <;> first | exact hq.elim | (obtain ⟨s, h1, h2⟩ := hq; exact ⟨s, h _ _ h1, h2⟩)

/-! ### Statements -/
def thenQ (P : Program) (T : Tab) (C : Cx) (y : Code) (Q : Post) : Post
  | .normal, s => CW P T C y s Q
  | e, s => Q e s

theorem cw_seq {x y : Code} (h : CW P T C x s (thenQ P T C y Q)) : CW P T C (.seq x y) s Q := fun hT a w hr =>
  wp_seq (Code.wp_mono (fun e a w hq => by
    cases e with
    | normal => obtain ⟨s', h1, h2⟩ := hq; exact h1 hT a w h2
    | exit i => exact hq
    | ret => exact hq
    | goto l => exact hq.elim
    | panic c => exact hq.elim
    | outgrown => exact hq.elim) (h hT a w hr))

theorem cw_skip (h : Q .normal s) : CW P T C .skip s Q := fun _ _ _ hr => wp_skip ⟨s, h, hr⟩
theorem cw_exit {i : Nat} (h : Q (.exit i) s) : CW P T C (.exit i) s Q := fun _ _ _ hr => wp_exit ⟨s, h, hr⟩
theorem cw_ret (h : Q .ret s) : CW P T C .ret s Q := fun _ _ _ hr => wp_ret ⟨s, h, hr⟩

theorem cw_region {id : Nat} {l : List Oper} (h : RW P T C ⟨l⟩ (.sq l) s Q) : CW P T C (.region id ⟨l⟩ false) s Q := fun hT a w hr =>
  wp_region_lit (h hT a w hr)

theorem cw_regionA (fp : Nat → Option (List Nat)) {id : Nat} {l : List Oper} (h : RW P T C ⟨l⟩ (.an fp l.length (Array.replicate l.length false)) s Q) : CW P T C (.region id ⟨l⟩ true) s Q := fun hT a w hr =>
  wp_region_any hT.mixed (wpAny_ofF _ _ _ _ (h hT a _ ⟨hr.sz, hr.df, hr.sl, hr.wo.drew⟩))

def blockQ (id : Nat) (Q : Post) : Post
  | .exit i, s => match Nat.beq i id with | true => Q .normal s | false => Q (.exit i) s
  | e, s => Q e s

theorem cw_block {id : Nat} {c : Code} (h : CW P T C c s (blockQ id Q)) : CW P T C (.block id c) s Q := fun hT a w hr =>
  wp_block (Code.wp_mono (fun e a w hq => by
    cases e with
    | normal => exact hq
    | exit i =>
      obtain ⟨s', h1, h2⟩ := hq
      simp only [blockQ] at h1
      simp only [Exit.inBlock]
      by_cases hi : i = id
      · subst hi; rw [if_pos rfl]; simp at h1; exact ⟨s', h1, h2⟩
      · rw [if_neg hi]
        have : Nat.beq i id = false := by
          cases hb : Nat.beq i id with
          | false => rfl
          | true => exact absurd (Nat.eq_of_beq_eq_true hb) hi
        rw [this] at h1
        exact ⟨s', h1, h2⟩
    | ret => exact hq
    | goto l => exact hq.elim
    | panic c => exact hq.elim
    | outgrown => exact hq.elim) (h hT a w hr))

theorem cw_cond {c : Operand} {x y : Code} {g0 b : Bool} (he : ev SL c = some (g0, .bool b)) (hg : g0 = true) (ht : b = true → CW P T C x ⟨N, SL, BL, OW, FA⟩ Q) (hf : b = false → CW P T C y ⟨N, SL, BL, OW, FA⟩ Q) : CW P T C (.cond c x y) ⟨N, SL, BL, OW, FA⟩ Q :=
  fun hT a w hr => wp_cond_split (ev_ok hr.sl he hg) (fun h => ht h hT a w hr) (fun h => hf h hT a w hr)

/-- One state says no less than another one. -/
def Le (C : Cx) (s s' : St) : Prop := ∀ a w, Rep C s a w → Rep C s' a w

theorem cw_le {c : Code} {s' : St} (h : Le C s s') (hc : CW P T C c s' Q) : CW P T C c s Q := fun hT a w hr => hc hT a w (h a w hr)
theorem rw_le {ops : Array Oper} {l : RS} {s' : St} (h : Le C s s') (hc : RW P T C ops l s' Q) : RW P T C ops l s Q := fun hT a w hr => hc hT a w (h a w hr)

def loopQ {ι : Type} (C : Cx) (I : ι → St) (c : ι → Prop) (μ : ι → Nat) (i : ι) (Q : Post) : Post
  | .normal, s' => ∃ j, c j ∧ μ j < μ i ∧ Le C s' (I j)
  | e, s' => Q e s'

/-- A loop: a family of states, each of which a round lowers. -/
theorem cw_loop {ι : Type} (I : ι → St) (c : ι → Prop) (μ : ι → Nat) {b : Code} (i0 : ι) (h0 : c i0) (hs : Le C s (I i0))
    (hround : ∀ i, c i → CW P T C b (I i) (loopQ C I c μ i Q)) : CW P T C (.loop b) s Q := by
  intro hT a w hr b' k cs
  have key : ∀ n, ∀ i, μ i = n → c i → ∀ a w, Rep C (I i) a w →
      ∃ e a' w', postOf C Q e a' w' ∧ Arrives P (lone (b'.at a (.code b :: .inLoop b :: k)) cs w) b' k cs e a' w' := by
    intro n
    induction n using Nat.strongRecOn with
    | _ n ih =>
      intro i hn hc a w hr
      obtain ⟨e, a₁, w₁, hq, harr⟩ := hround i hc hT a w hr b' (.inLoop b :: k) cs
      cases e with
      | normal =>
        obtain ⟨s', ⟨j, hj, hlt, hle⟩, hr'⟩ := hq
        obtain ⟨e₂, a₂, w₂, hq₂, harr₂⟩ := ih (μ j) (hn ▸ hlt) j rfl hj a₁ w₁ (hle _ _ hr')
        exact ⟨e₂, a₂, w₂, hq₂, .of_steps (Steps.trans harr (.one step_inLoop)) harr₂⟩
      | exit id => exact ⟨.exit id, a₁, w₁, (show postOf C Q (.exit id) a₁ w₁ from hq), .pass (x := .inLoop b) rfl (fun _ _ => .inl (by simp)) harr⟩
      | ret => exact ⟨.ret, a₁, w₁, (show postOf C Q .ret a₁ w₁ from hq), .pass (x := .inLoop b) rfl (fun _ _ => .inl (by simp)) harr⟩
      | goto l => exact hq.elim
      | panic ch => exact hq.elim
      | outgrown => exact hq.elim
  obtain ⟨e, a', w', hq, harr⟩ := key _ i0 rfl h0 a w (hs a w hr)
  exact ⟨e, a', w', hq, .of_steps (.one step_loop) harr⟩

/-! ### Weakening, written out -/
inductive SubS : Slots → Slots → Prop
  | nil (s : Slots) : SubS s []
  | cons {s : Slots} {n : Nat} {x : SV} {r : Slots} (h : getS s n = some x) (hr : SubS s r) : SubS s ((n, x) :: r)

theorem SubS.ok {s s' : Slots} (h : SubS s s') : ∀ n x, getS s' n = some x → getS s n = some x := by
  induction h with
  | nil => intro n x h; simp [getS] at h
  | cons h hr ih =>
    intro n x hx
    rw [getS_cons] at hx
    split at hx
    · rename_i e
      subst e
      cases hx
      exact h
    · exact ih n x hx

inductive SubM : List Pred → List Pred → Prop
  | nil (l : List Pred) : SubM l []
  | cons {l : List Pred} {F : Pred} {r : List Pred} (h : F ∈ l) (hr : SubM l r) : SubM l (F :: r)

theorem SubM.mem {l l' : List Pred} (h : SubM l l') : ∀ F ∈ l', F ∈ l := by
  induction h with
  | nil => intro F h; cases h
  | cons h hr ih => intro F hF; cases hF with | head => exact h | tail _ hF => exact ih F hF

/-- One taken out. -/
inductive Pick {α : Type} : α → List α → List α → Prop
  | here (a : α) (r : List α) : Pick a (a :: r) r
  | there (k : α) {a : α} {r r' : List α} (h : Pick a r r') : Pick a (k :: r) (k :: r')

/-- The small list is a part of the great one. -/
inductive SubP {α : Type} : List α → List α → Prop
  | nil (l : List α) : SubP l []
  | cons {a : α} {l l' r : List α} (h : Pick a l l') (hr : SubP l' r) : SubP l (a :: r)

theorem Pick.perm {α : Type} {a : α} {l l' : List α} (h : Pick a l l') : l.Perm (a :: l') := by
  induction h with
  | here => exact .refl _
  | there k _ ih => exact (ih.cons k).trans (.swap _ _ _)

theorem SubP.ex {α : Type} {l r : List α} (h : SubP l r) : ∃ x, l.Perm (r ++ x) := by
  induction h with
  | nil l => exact ⟨l, .refl _⟩
  | cons h _ ih =>
    obtain ⟨x, hx⟩ := ih
    exact ⟨x, h.perm.trans (hx.cons _)⟩

theorem SubP.refl {α : Type} : ∀ l : List α, SubP l l
  | [] => .nil _
  | a :: l => .cons (.here a l) (SubP.refl l)

theorem Le.of {s s' : St} (hn : s.n = s'.n) (hs : SubS s.sl s'.sl) (hb : SubP s.bl s'.bl) (ho : SubP s.ow s'.ow) (hf : SubM s.fa s'.fa) : Le C s s' := by
  intro a w hr
  obtain ⟨x, hx⟩ := hb.ex
  obtain ⟨y, hy⟩ := ho.ex
  have hi : (ids s).Perm (ids s' ++ (x.map (·.g) ++ y.filterMap (·.b))) := by
    have h1 := hx.map (·.g)
    have h2 := hy.filterMap (·.b)
    rw [List.map_append] at h1
    rw [List.filterMap_append] at h2
    refine (h1.append h2).trans ?_
    unfold ids
    simp only [List.append_assoc]
    refine List.Perm.append_left _ ?_
    rw [← List.append_assoc, ← List.append_assoc]
    exact List.Perm.append_right _ List.perm_append_comm
  have hsub : ∀ k, k ∈ ids s' → k ∈ ids s := fun k hk => hi.symm.subset (List.mem_append_left _ hk)
  refine ⟨hr.sz.trans hn, hr.df, fun n x hx => hr.sl n x (hs.ok n x hx), hr.wo.be, fun k hk => hr.wo.bl k (hx.symm.subset (List.mem_append_left _ hk)), fun o h => hr.wo.ow o (hy.symm.subset (List.mem_append_left _ h)),
    (List.nodup_append.1 (hi.nodup_iff.1 hr.wo.nd)).1, fun F hF => ?_⟩
  have h1 := hr.wo.fa F (hf.mem F hF)
  refine ⟨h1.1, h1.1.st _ _ w w h1.2 ⟨Nat.le_refl _, fun _ _ _ => rfl⟩ fun k _ hm => ?_⟩
  rcases hm with hm | hm
  · exact .inl hm
  · exact .inr (hsub _ hm)

theorem Le.refl : Le C s s := fun _ _ h => h
theorem Le.trans {s s' s'' : St} (h : Le C s s') (h' : Le C s' s'') : Le C s s'' := fun a w hr => h' a w (h a w hr)

/-- Slots picked out. -/
inductive Sel : Slots → List Nat → Slots → Prop
  | nil (s : Slots) : Sel s [] []
  | cons {s : Slots} {n : Nat} {x : SV} {r : List Nat} {s' : Slots} (h : getS s n = some x) (hr : Sel s r s') : Sel s (n :: r) ((n, x) :: s')

inductive SelB : List Blk → List Bool → List Blk → Prop
  | nil : SelB [] [] []
  | keep {k : Blk} {l l' : List Blk} {m : List Bool} (h : SelB l m l') : SelB (k :: l) (true :: m) (k :: l')
  | drop {k : Blk} {l l' : List Blk} {m : List Bool} (h : SelB l m l') : SelB (k :: l) (false :: m) l'

/-- A loop over what stands at its head: some slots and blocks stay, the others are told. -/
theorem cw_loopS {ι : Type} (keep : List Nat) (mask : List Bool) (mS : ι → Slots) (mB : ι → List Blk) (mO : ι → List Own) (mF : ι → List Pred) (c : ι → Prop) (μ : ι → Nat) (i0 : ι) {b : Code} {SL' : Slots} {BL' : List Blk}
    (_hsel : Sel SL keep SL') (_hB : SelB BL mask BL') (h0 : c i0) (hs : Le C ⟨N, SL, BL, OW, FA⟩ ⟨N, mS i0 ++ SL', mB i0 ++ BL', mO i0, mF i0 ++ FA⟩)
    (hround : ∀ i, c i → CW P T C b ⟨N, mS i ++ SL', mB i ++ BL', mO i, mF i ++ FA⟩ (loopQ C (fun i => ⟨N, mS i ++ SL', mB i ++ BL', mO i, mF i ++ FA⟩) c μ i Q)) : CW P T C (.loop b) ⟨N, SL, BL, OW, FA⟩ Q :=
  cw_loop (fun i => ⟨N, mS i ++ SL', mB i ++ BL', mO i, mF i ++ FA⟩) c μ i0 h0 hs hround
end
end Go.Proofs.YtaiefncoholnnaaDoor.Fw

namespace Go.Proofs.YtaiefncoholnnaaDoor.Fw
open Go Go.RowKit

/-! ### Slices that read as lists -/
structure SlV where
  a : Option Addr
  c : Nat

def SlV.val (x : SlV) (n : Nat) : Value := .slice x.a n x.c

/-- A kind of elements: how they lie in cells. -/
structure El (α : Type) where
  enc : α → List Value
  esz : Nat
  by_ : Nat
  len : ∀ a, (enc a).length = esz
  one : ∀ a, ∀ u ∈ enc a, u.oneCell' = true

/-- The slice reads as this list: nobody writes there. -/
def RdL {α : Type} (E : El α) (x : SlV) (l : List α) : Pred := fun M w =>
  l.length ≤ x.c ∧ x.c ≤ 9223372036854775807 ∧ l.length * E.by_ ≤ 140737488355328 ∧
  (0 < l.length → ∃ ad, x.a = some ad ∧ ad.block < w.heap.size ∧ ¬ M ad.block ∧
    ∀ (i : Nat) (h : i < l.length) (j : Nat) (v : Value), (E.enc l[i])[j]? = some v → w.cell? (ad.add (i * E.esz + j)) = some v)

instance {α : Type} (E : El α) (x : SlV) (l : List α) : Stab (RdL E x l) where
  st M M' w w' h hx hM := by
    obtain ⟨h1, h2, h3, h4⟩ := h
    refine ⟨h1, h2, h3, fun hl => ?_⟩
    obtain ⟨ad, ha, hb, hm, hc⟩ := h4 hl
    refine ⟨ad, ha, Nat.lt_of_lt_of_le hb hx.1, fun h => hm (hM _ hb h), fun i hi j v hv => ?_⟩
    rw [← hc i hi j v hv]
    exact World.cell?_of_block (by rw [addr_block]; exact hx.2 _ hb hm)

theorem RdL.len {α : Type} {E : El α} {x : SlV} {l : List α} {M : Nat → Prop} {w : World} (h : RdL E x l M w) : l.length * E.by_ ≤ 140737488355328 := h.2.2.1

/-- The element of a list, wherever. -/
def gt {α : Type} [Inhabited α] (l : List α) (i : Nat) : α := l.getD i default

theorem gt_eq {α : Type} [Inhabited α] {l : List α} {i : Nat} (h : i < l.length) : gt l i = l[i] := by simp [gt, List.getD, List.getElem?_eq_getElem h]

theorem drop_gt {α : Type} [Inhabited α] {l : List α} {i : Nat} (h : i < l.length) : l.drop i = gt l i :: l.drop (i + 1) := by rw [gt_eq h]; exact List.drop_eq_getElem_cons h

theorem gt_mem {α : Type} [Inhabited α] {l : List α} {i : Nat} (h : i < l.length) : gt l i ∈ l := by rw [gt_eq h]; exact List.getElem_mem h

/-- The address of a cell of a slice's element. -/
def epA (A : Option Addr) (i esz off : Nat) : Addr := (A.getD ⟨0, 0, none⟩).add (i * esz + off)

section
variable {P : Program} {T : Tab} {C : Cx} {s : St} {o : Oper} {N : Nat} {SL : Slots} {BL : List Blk} {OW : List Own} {FA : List Pred}

theorem q_fae {t f g0n o' ft : Nat} {x : Operand} {g0 G : Bool} {A : Option Addr} {i esz off : Nat} {b : Bool} (ho : o.op = .fieldAddr t x f) (he : ev SL x = some (g0, .pointer (some (epA A i esz off)))) (hg0 : G = true → g0 = true)
    (hf : T.fld t f = some (o', ft)) (hz : T.siz ft = some (g0n + 1, b)) : Quiet P T SL BL FA o G (.pointer (some (epA A i esz (off + o')))) :=
  fun hT hG a w hsl _ => by
    obtain ⟨fs, f', hu, hfi, ho', hft⟩ := hT.fld _ _ _ _ hf
    subst ho'; subst hft
    obtain ⟨ti, d, q1, q2, q3, q4⟩ := hT.siz _ _ _ hz
    have hx := ev_ok hsl he (hg0 hG)
    simp only [execOp, ho, hx, Instr.fieldAt, Sem.run_bind, run_underlying hu, Result.andThen_ok, hfi, Instr.sureAddr, Sem.run_pure, fieldPlace, run_sizeOf' q1, q2]
    simp [epA, addr_add_add, Nat.add_assoc]

theorem q_idx {α : Type} (E : El α) {esz c t e n : Nat} {x y : Operand} {g0 g1 G b : Bool} {k : IntKind} {A : Option Addr} {l : List α} {iv : Int} (i : Nat) (ho : o.op = .indexAddr t x y)
    (he : ev SL x = some (g0, .slice A n c)) (hg0 : G = true → g0 = true) (hy : ev SL y = some (g1, .int k iv)) (hg1 : G = true → g1 = true)
    (ht : T.slc t = some e) (hz : T.siz e = some (esz, b)) (hes : E.esz = esz) (hm : RdL E ⟨A, c⟩ l ∈ FA) (hn : n = l.length) (hi : G = true → iv = (i : Int)) (hlt : G = true → i < l.length) :
    Quiet P T SL BL FA o G (.pointer (some (epA A i esz 0))) :=
  fun hT hG a w hsl hw => by
    obtain ⟨ti, d, q1, q2, q3, q4⟩ := hT.siz _ _ _ hz
    have h1 := ev_ok hsl he (hg0 hG)
    have h2 := ev_ok hsl hy (hg1 hG)
    have hlt := hlt hG
    have hi := hi hG
    obtain ⟨_, _, _, _, h4⟩ := hw.fa _ hm
    obtain ⟨ad, ha, _⟩ := h4 (by omega)
    simp only at ha
    subst hn; subst ha; subst hi
    have hu := hT.slc _ _ ht
    simp only [execOp, ho, h1, h2, Instr.indexAt, asIntOf, Sem.run_bind, Sem.run_pure, Result.andThen_ok, run_underlying hu]
    rw [if_pos (by omega)]
    simp [run_sizeOf' q1, q2, epA]

theorem rd_cell {α : Type} [Inhabited α] {E : El α} {c : Nat} {A : Option Addr} {l : List α} (hm : RdL E ⟨A, c⟩ l ∈ FA) {w : World} (hw : WQ BL FA w) {i : Nat} (hlt : i < l.length) {off : Nat} {v : Value}
    (hv : (E.enc (gt l i))[off]? = some v) : w.cell? (epA A i E.esz off) = some v := by
  obtain ⟨_, _, _, _, h4⟩ := hw.fa _ hm
  obtain ⟨ad, ha, _, _, hc⟩ := h4 (by omega)
  simp only at ha
  subst ha
  rw [gt_eq hlt] at hv
  exact hc i hlt off v hv

theorem q_le1 {α : Type} [Inhabited α] (E : El α) {esz c t n off : Nat} {x : Operand} {g0 G : Bool} {A : Option Addr} {l : List α} {i : Nat} {v : Value} (ho : o.op = .load t x)
    (he : ev SL x = some (g0, .pointer (some (epA A i esz off)))) (hg0 : G = true → g0 = true) (hs : T.siz t = some (n, false)) (hes : E.esz = esz) (hm : RdL E ⟨A, c⟩ l ∈ FA) (hlt : G = true → i < l.length)
    (hv : (E.enc (gt l i))[off]? = some v) : Quiet P T SL BL FA o G v :=
  q_load_gen ho he hg0 fun hT hG w hw => run_loadVar_one hT hs (by subst hes; exact rd_cell hm hw (hlt hG) hv)

theorem q_leP {α : Type} [Inhabited α] (E : El α) {esz c t n off : Nat} {x : Operand} {g0 G : Bool} {A : Option Addr} {l : List α} {i : Nat} (ho : o.op = .load t x)
    (he : ev SL x = some (g0, .pointer (some (epA A i esz off)))) (hg0 : G = true → g0 = true) (hs : T.siz t = some (n, true)) (hes : E.esz = esz) (hm : RdL E ⟨A, c⟩ l ∈ FA) (hlt : G = true → i < l.length)
    (hl : Nat.ble (off + n) esz = true) : Quiet P T SL BL FA o G (.agg ⟨subL (E.enc (gt l i)) off n⟩) :=
  q_load_gen ho he hg0 fun hT hG w hw => by
    subst hes
    have hl := Nat.le_of_ble_eq_true hl
    have hlt := hlt hG
    have hlen : (E.enc (gt l i)).length = E.esz := E.len _
    refine run_loadVar_agg hT hs (by simp [subL]; omega) fun j v hj => ?_
    have hj' : (E.enc (gt l i))[off + j]? = some v := by
      rw [← hj]
      simp only [subL, List.getElem?_take, List.getElem?_drop]
      rw [if_pos]
      obtain ⟨hlt', _⟩ := List.getElem?_eq_some_iff.1 hj
      simp [subL] at hlt'
      omega
    have := rd_cell hm hw hlt hj'
    rw [← this]
    congr 1
    simp [epA, addr_add_add, Nat.add_assoc]

theorem q_leA {α : Type} [Inhabited α] (E : El α) {esz c t : Nat} {x : Operand} {g0 G : Bool} {A : Option Addr} {l : List α} {i : Nat} (ho : o.op = .load t x)
    (he : ev SL x = some (g0, .pointer (some (epA A i esz 0)))) (hg0 : G = true → g0 = true) (hs : T.siz t = some (esz, true)) (hes : E.esz = esz) (hm : RdL E ⟨A, c⟩ l ∈ FA) (hlt : G = true → i < l.length) : Quiet P T SL BL FA o G (.agg ⟨E.enc (gt l i)⟩) :=
  fun hT hG a w hsl hw => by
    have hlen : (E.enc (gt l i)).length = esz := by rw [E.len, hes]
    have := q_leP (P := P) (BL := BL) E (off := 0) ho he hg0 hs hes hm hlt (by simp) hT hG a w hsl hw
    rw [this]
    simp [subL, ← hlen]

end

/-! ### Contracts -/
def AllF (l : List Pred) (M : Nat → Prop) (w : World) : Prop := ∀ F ∈ l, F M w

/-- What is lent to a call, or handed back: blocks, and owned slices. -/
structure Lent where
  bl : List Blk
  ow : List Own

def Lent.ids (L : Lent) : List Nat := L.bl.map (·.g) ++ L.ow.filterMap (·.b)

structure DoesG (P : Program) (f : FuncId) (args : List Value) (pre : List Pred) (L : Lent) {X : Type} (val : X → Value) (post : X → List Pred) (L' : X → Lent) : Prop where
  st : ∀ x, StabL (post x)
  ok : ∀ C : Cx, C.B0 = L.ids → WOk C ⟨0, [], L.bl, L.ow, pre⟩ C.w0 →
    Calls P f args.toArray C.w0 (fun e w' => ∃ x, e = .returned (val x) ∧ WOk C ⟨0, [], (L' x).bl, (L' x).ow, post x⟩ w')

abbrev Does (P : Program) (f : FuncId) (args : List Value) (pre : List Pred) {X : Type} (val : X → Value) (post : X → List Pred) : Prop :=
  DoesG P f args pre ⟨[], []⟩ val post (fun _ => ⟨[], []⟩)

/-- Some taken out of a list, the others left. -/
inductive Take {α : Type} : List α → List α → List α → Prop
  | nil (l : List α) : Take l [] l
  | cons {a : α} {l l' r x : List α} (h : Pick a l l') (hr : Take l' r x) : Take l (a :: r) x

theorem Take.perm {α : Type} {l r x : List α} (h : Take l r x) : l.Perm (r ++ x) := by
  induction h with
  | nil l => exact .refl _
  | cons h _ ih => exact h.perm.trans (ih.cons _)

theorem ids_perm {n : Nat} {sl : Slots} {BL : List Blk} {OW : List Own} {FA : List Pred} {L : Lent} {RB : List Blk} {RO : List Own} (hb : BL.Perm (L.bl ++ RB)) (ho : OW.Perm (L.ow ++ RO)) :
    (ids ⟨n, sl, BL, OW, FA⟩).Perm (L.ids ++ (RB.map (·.g) ++ RO.filterMap (·.b))) := by
  have h1 := hb.map (·.g)
  have h2 := ho.filterMap (·.b)
  rw [List.map_append] at h1
  rw [List.filterMap_append] at h2
  refine (h1.append h2).trans ?_
  unfold Lent.ids
  simp only [List.append_assoc]
  refine List.Perm.append_left _ ?_
  rw [← List.append_assoc, ← List.append_assoc]
  exact List.Perm.append_right _ List.perm_append_comm

section
variable {C : Cx} {N : Nat} {SL : Slots} {BL RB : List Blk} {OW RO : List Own} {FA pre : List Pred} {w w' : World} {L L' : Lent}

theorem WOk.lend (h : WOk C ⟨N, SL, BL, OW, FA⟩ w) (hb : BL.Perm (L.bl ++ RB)) (ho : OW.Perm (L.ow ++ RO)) (hp : ∀ F ∈ pre, F ∈ FA) :
    ∃ C' : Cx, C'.w0 = w ∧ C'.B0 = L.ids ∧ (∀ b, C'.M0 b ↔ (Mset C ⟨N, SL, BL, OW, FA⟩ b ∧ b ∉ L.ids)) ∧ WOk C' ⟨0, [], L.bl, L.ow, pre⟩ C'.w0 := by
  have hi : (ids ⟨N, SL, BL, OW, FA⟩).Perm (L.ids ++ (RB.map (·.g) ++ RO.filterMap (·.b))) := ids_perm hb ho
  have hsub : ∀ k, k ∈ L.ids → k ∈ ids ⟨N, SL, BL, OW, FA⟩ := fun k hk => hi.symm.subset (List.mem_append_left _ hk)
  refine ⟨⟨w, fun b => Mset C ⟨N, SL, BL, OW, FA⟩ b ∧ b ∉ L.ids, L.ids, fun b hm => Mset_lt h hm.1, fun b hm => ⟨(ids_lt h (hsub b hm)).1, fun hx => hx.2 hm⟩⟩, rfl, rfl, fun _ => Iff.rfl, ?_⟩
  refine ⟨Blw.refl _ _ _, fun k hk => ⟨(h.bl k (hb.symm.subset (List.mem_append_left _ hk))).1, .inr (List.mem_append_left _ (List.mem_map.2 ⟨k, hk, rfl⟩))⟩, fun q hq => ?_, (List.nodup_append.1 (hi.nodup_iff.1 h.nd)).1, fun F hF => ?_⟩
  · have h1 := h.ow q (ho.symm.subset (List.mem_append_left _ hq))
    unfold OwnOk at h1 ⊢
    refine ⟨h1.1, h1.2.1, ?_⟩
    have h2 := h1.2.2
    cases hqb : q.b with
    | none => rw [hqb] at h2; exact h2
    | some g => rw [hqb] at h2; exact ⟨.inr (List.mem_append_right _ (List.mem_filterMap.2 ⟨q, hq, hqb⟩)), h2.2⟩
  · have h1 := h.fa F (hp F hF)
    refine ⟨h1.1, h1.1.st _ _ w w h1.2 ⟨Nat.le_refl _, fun _ _ _ => rfl⟩ fun k _ hm => ?_⟩
    rcases hm with hm | hm
    · exact hm.1
    · exact .inr (hsub k hm)

theorem WOk.back (h : WOk C ⟨N, SL, BL, OW, FA⟩ w) (hb : BL.Perm (L.bl ++ RB)) (ho : OW.Perm (L.ow ++ RO)) {C' : Cx} (e1 : C'.w0 = w) (e2 : C'.B0 = L.ids)
    (e3 : ∀ b, C'.M0 b ↔ (Mset C ⟨N, SL, BL, OW, FA⟩ b ∧ b ∉ L.ids)) {post : List Pred} (h' : WOk C' ⟨0, [], L'.bl, L'.ow, post⟩ w') :
    WOk C ⟨N, SL, L'.bl ++ RB, L'.ow ++ RO, post ++ FA⟩ w' := by
  have hi : (ids ⟨N, SL, BL, OW, FA⟩).Perm (L.ids ++ (RB.map (·.g) ++ RO.filterMap (·.b))) := ids_perm hb ho
  have hnd := hi.nodup_iff.1 h.nd
  have hsub : ∀ k, k ∈ L.ids → k ∈ ids ⟨N, SL, BL, OW, FA⟩ := fun k hk => hi.symm.subset (List.mem_append_left _ hk)
  have hsubR : ∀ k, k ∈ RB.map (·.g) ++ RO.filterMap (·.b) → k ∈ ids ⟨N, SL, BL, OW, FA⟩ := fun k hk => hi.symm.subset (List.mem_append_right _ hk)
  have hRL : ∀ k, k ∈ RB.map (·.g) ++ RO.filterMap (·.b) → k ∉ L.ids := fun k hk hl => (List.nodup_append.1 hnd).2.2 k hl k hk rfl
  have hbe := h'.be
  rw [e1, e2] at hbe
  have hL' : ∀ k, k ∈ L'.ids → k ∈ L.ids ∨ w.heap.size ≤ k := fun k hk => by
    have h1 := (ids_lt h' (b := k) hk).2
    rcases h1 with h1 | h1
    · rw [e1] at h1; exact .inr h1
    · rw [e2] at h1; exact .inl h1
  have hmine : ∀ k, k ∈ L'.ids → C.mine k := fun k hk => by
    rcases hL' k hk with h1 | h1
    · exact (ids_lt h (hsub k h1)).2
    · exact .inl (Nat.le_trans h.be.size h1)
  have hperm' : (ids ⟨N, SL, L'.bl ++ RB, L'.ow ++ RO, post ++ FA⟩).Perm (L'.ids ++ (RB.map (·.g) ++ RO.filterMap (·.b))) := ids_perm (.refl _) (.refl _)
  have hids' : ∀ k, k ∈ ids ⟨N, SL, L'.bl ++ RB, L'.ow ++ RO, post ++ FA⟩ → k ∈ L'.ids ∨ k ∈ RB.map (·.g) ++ RO.filterMap (·.b) := fun k hk => List.mem_append.1 (hperm'.subset hk)
  have hblk : ∀ k, k < w.heap.size → k ∉ L.ids → w'.heap[k]? = w.heap[k]? := fun k hk hl => hbe.block k hk hl
  refine ⟨h.be.trans ⟨hbe.os, hbe.tape, hbe.output, hbe.size, fun k hk hB => hblk k (Nat.lt_of_lt_of_le hk h.be.size) fun hl => ?_⟩, fun k hk => ?_, fun q hq => ?_, ?_, fun F hF => ?_⟩
  · rcases (ids_lt h (hsub k hl)).2 with h1 | h1
    · omega
    · exact hB h1
  · rcases List.mem_append.1 hk with hk | hk
    · exact ⟨(h'.bl k hk).1, hmine _ (List.mem_append_left _ (List.mem_map.2 ⟨k, hk, rfl⟩))⟩
    · have hm : k.g ∈ RB.map (·.g) ++ RO.filterMap (·.b) := List.mem_append_left _ (List.mem_map.2 ⟨k, hk, rfl⟩)
      exact (h.bl k (hb.symm.subset (List.mem_append_right _ hk))).of_eq (hblk _ (ids_lt h (hsubR _ hm)).1 (hRL _ hm))
  · rcases List.mem_append.1 hq with hq | hq
    · have h1 := h'.ow q hq
      unfold OwnOk at h1 ⊢
      refine ⟨h1.1, h1.2.1, ?_⟩
      have h2 := h1.2.2
      cases hqb : q.b with
      | none => rw [hqb] at h2; exact h2
      | some g => rw [hqb] at h2; exact ⟨hmine g (List.mem_append_right _ (List.mem_filterMap.2 ⟨q, hq, hqb⟩)), h2.2⟩
    · refine (h.ow q (ho.symm.subset (List.mem_append_right _ hq))).of_eq fun g hg => ?_
      have hm : g ∈ RB.map (·.g) ++ RO.filterMap (·.b) := List.mem_append_right _ (List.mem_filterMap.2 ⟨q, hq, hg⟩)
      exact hblk g (ids_lt h (hsubR _ hm)).1 (hRL _ hm)
  · refine hperm'.nodup_iff.2 (List.nodup_append.2 ⟨h'.nd, (List.nodup_append.1 hnd).2.1, fun a ha b hb e => ?_⟩)
    subst e
    rcases hL' a ha with h1 | h1
    · exact hRL a hb h1
    · have := (ids_lt h (hsubR a hb)).1
      omega
  · rcases List.mem_append.1 hF with hF | hF
    · have h1 := h'.fa F hF
      refine ⟨h1.1, h1.1.st _ _ w' w' h1.2 ⟨Nat.le_refl _, fun _ _ _ => rfl⟩ fun k _ hm => ?_⟩
      rcases hm with hm | hm
      · refine .inl ((e3 k).2 ⟨.inl hm, fun hl => ?_⟩)
        rcases (ids_lt h (hsub k hl)).2 with h2 | h2
        · have := C.hM k hm; omega
        · exact (C.hB k h2).2 hm
      · rcases hids' k hm with hm | hm
        · exact .inr hm
        · exact .inl ((e3 k).2 ⟨.inr (hsubR k hm), hRL k hm⟩)
    · have h1 := h.fa F hF
      refine ⟨h1.1, h1.1.st _ _ w w' h1.2 ⟨hbe.size, fun k hk hm => hblk k hk fun hl => hm (.inr (hsub k hl))⟩ fun k hk hm => ?_⟩
      rcases hm with hm | hm
      · exact .inl hm
      · rcases hids' k hm with hm | hm
        · rcases hL' k hm with h2 | h2
          · exact .inr (hsub k h2)
          · omega
        · exact .inr (hsubR k hm)
end

inductive ResV (T : Tab) (s : St) : ResultVar → Value → Prop
  | tmp {t : Nat} {v : Value} (h : getS s.sl t = some (.v v)) : ResV T s (.tmp t) v
  | agg {t g n ty ty' : Nat} {cs : List Value} (h : getS s.sl t = some (.v (.pointer (some ⟨g, 0, none⟩)))) (hs : T.siz ty = some (n, true)) (hm : ⟨g, ty', cs⟩ ∈ s.bl) (hl : cs.length = n) : ResV T s (.cell t ty) (.agg ⟨cs⟩)
  | one {t g n ty ty' : Nat} {c : Value} (h : getS s.sl t = some (.v (.pointer (some ⟨g, 0, none⟩)))) (hs : T.siz ty = some (n, false)) (hm : ⟨g, ty', [c]⟩ ∈ s.bl) : ResV T s (.cell t ty) c

inductive ResVs (T : Tab) (s : St) : List ResultVar → List Value → Prop
  | nil : ResVs T s [] []
  | cons {r : ResultVar} {v : Value} {rs : List ResultVar} {vs : List Value} (h : ResV T s r v) (hr : ResVs T s rs vs) : ResVs T s (r :: rs) (v :: vs)

def resVal : List Value → Value
  | [v] => v
  | vs => .tuple ⟨vs⟩

def argS : Nat → List Value → Slots
  | _, [] => []
  | n, v :: vs => (n, .v v) :: argS (n + 1) vs

def finQ {X : Type} (T : Tab) (rs : List ResultVar) (val : X → Value) (post : X → List Pred) (L' : X → Lent) : Post
  | .ret, s | .normal, s => ∃ x vs, ResVs T s rs vs ∧ val x = resVal vs ∧ SubM s.fa (post x) ∧ SubP s.bl (L' x).bl ∧ SubP s.ow (L' x).ow
  | _, _ => False

section
variable {P : Program} {T : Tab}

def resOne (a : Act) : ResultVar → Sem Value
  | .tmp t => pure (a.tmps.getD t undef)
  | .cell x t => do loadVar t (← asAddr (a.tmps.getD x undef))

theorem ResV.ok (hT : TabOk T P) {C : Cx} {s : St} {a : Act} {w : World} (hr : Rep C s a w) {r : ResultVar} {v : Value} (h : ResV T s r v) :
    (resOne a r).run P w = .ok v w := by
  unfold resOne
  cases h with
  | tmp h => have := hr.sl _ _ h; simp [SV.ok] at this; simp [this]
  | agg h hs hm hl =>
    have := hr.sl _ _ h
    simp only [SV.ok] at this
    have h2 := blk_load_agg (P := P) (FA := s.fa) hs hm (off := 0) (by simp [hl]) hT (WOk.wq (N := s.n) (SL := s.sl) (OW := s.ow) hr.wo)
    simp only [Array.getD_eq_getD_getElem?, this, Option.getD_some, asAddr, Sem.run_bind, Sem.run_pure, Result.andThen_ok, h2]
    simp [subL, ← hl]
  | one h hs hm =>
    have := hr.sl _ _ h
    simp only [SV.ok] at this
    have h2 := run_loadVar_one (P := P) hT hs (w := w) (a := ⟨_, 0, none⟩) (by rw [blk_cell (hr.wo.bl _ hm).1]; rfl)
    simp only [Array.getD_eq_getD_getElem?, this, Option.getD_some, asAddr, Sem.run_bind, Sem.run_pure, Result.andThen_ok, h2]

theorem ResVs.ok (hT : TabOk T P) {C : Cx} {s : St} {a : Act} {w : World} (hr : Rep C s a w) {fn : Func} {vs : List Value} (h : ResVs T s fn.results.toList vs) :
    (results fn a.tmps).run P w = .ok (resVal vs) w := by
  have key : ∀ (rs : List ResultVar) (vs : List Value), ResVs T s rs vs → (rs.mapM (resOne a)).run P w = .ok vs w := by
    intro rs vs h
    induction h with
    | nil => simp
    | cons h _ ih => simp only [List.mapM_cons, Sem.run_bind, h.ok hT hr, Result.andThen_ok, ih, Sem.run_pure]
  have he : results fn a.tmps = (do let vs ← fn.results.mapM (resOne a); pure (if h : vs.size = 1 then vs[0] else .tuple vs)) := rfl
  rw [he, Sem.run_bind]
  have hm := key _ _ h
  rw [← Array.toArray_toList (xs := fn.results), List.mapM_toArray]
  simp only [Sem.run_map]
  rw [hm]
  simp only [Result.andThen_ok, Sem.run_pure]
  match vs with
  | [] => rfl
  | [v] => rfl
  | v :: u :: vs => rfl

theorem argS_get : ∀ (vs : List Value) (k n : Nat) (x : SV), getS (argS k vs) n = some x → ∃ j v, n = k + j ∧ vs[j]? = some v ∧ x = .v v
  | [], k, n, x, h => by simp [argS, getS] at h
  | v :: vs, k, n, x, h => by
    rw [argS, getS_cons] at h
    split at h
    · rename_i e
      cases h
      exact ⟨0, v, by omega, rfl, rfl⟩
    · obtain ⟨j, u, h1, h2, h3⟩ := argS_get vs (k + 1) n x h
      exact ⟨j + 1, u, by omega, by simpa using h2, h3⟩

/-- A contract, from a walk of the body. -/
theorem does_ofG {f : FuncId} {fn : Func} {c : Code} {N : Nat} {args : List Value} {pre : List Pred} {L : Lent} {X : Type} {val : X → Value} {post : X → List Pred} {L' : X → Lent} {rs : List ResultVar} (hT : TabOk T P)
    (hf : P.funcs[f]? = some fn) (hb : fn.body = some c) (hN : fn.ntmps = N) (hrs : fn.results = ⟨rs⟩) (hle : Nat.ble args.length N = true) (_hpre : StabL pre) (hpost : ∀ x, StabL (post x))
    (h : ∀ C : Cx, CW P T C c ⟨N, argS 0 args, L.bl, L.ow, pre⟩ (finQ T rs val post L')) : DoesG P f args pre L val post L' where
  st := hpost
  ok C hCB hw := by
    have hle := Nat.le_of_ble_eq_true hle
    refine calls_of_wp hf hb ?_
    refine Code.wp_mono (fun e a w' hq => ?_) (h C hT _ C.w0 ?_)
    · have fin : ∀ s', finQ T rs val post L' .ret s' → Rep C s' a w' → a.defers = [] ∧ ∃ v, (results fn a.tmps).run P w' = .ok v w' ∧ ∃ x, Ending.returned v = .returned (val x) ∧ WOk C ⟨0, [], (L' x).bl, (L' x).ow, post x⟩ w' := by
        intro s' h1 h2
        obtain ⟨x, vs, hres, hval, hsub, hbl, how⟩ := h1
        have h3 : Rep C ⟨s'.n, [], (L' x).bl, (L' x).ow, post x⟩ a w' := (Le.of (s := s') (s' := ⟨s'.n, [], (L' x).bl, (L' x).ow, post x⟩) rfl (.nil _) hbl how hsub) a w' h2
        exact ⟨h2.df, _, ResVs.ok hT h2 (by rw [hrs]; exact hres), x, by rw [hval], ⟨h3.wo.be, h3.wo.bl, h3.wo.ow, h3.wo.nd, h3.wo.fa⟩⟩
      cases e with
      | normal => obtain ⟨s', h1, h2⟩ := hq; exact fin s' h1 h2
      | ret => obtain ⟨s', h1, h2⟩ := hq; exact fin s' h1 h2
      | exit i => obtain ⟨s', h1, _⟩ := hq; exact h1.elim
      | goto l => exact hq.elim
      | panic c => exact hq.elim
      | outgrown => exact hq.elim
    · refine ⟨by simp [hN]; omega, rfl, fun n x hx => ?_, ⟨hw.be, hw.bl, hw.ow, hw.nd, hw.fa⟩⟩
      obtain ⟨j, v, h1, h2, rfl⟩ := argS_get args 0 n x hx
      have hn : n = j := by omega
      subst hn
      obtain ⟨hlt, _⟩ := List.getElem?_eq_some_iff.1 h2
      simp only [SV.ok]
      rw [Array.getElem?_append_left (by simpa using hlt)]
      simpa using h2

theorem does_of {f : FuncId} {fn : Func} {c : Code} {N : Nat} {args : List Value} {pre : List Pred} {X : Type} {val : X → Value} {post : X → List Pred} {rs : List ResultVar} (hT : TabOk T P)
    (hf : P.funcs[f]? = some fn) (hb : fn.body = some c) (hN : fn.ntmps = N) (hrs : fn.results = ⟨rs⟩) (hle : Nat.ble args.length N = true) (hpre : StabL pre) (hpost : ∀ x, StabL (post x))
    (h : ∀ C : Cx, CW P T C c ⟨N, argS 0 args, [], [], pre⟩ (finQ T rs val post (fun _ => ⟨[], []⟩))) : Does P f args pre val post :=
  does_ofG hT hf hb hN hrs hle hpre hpost h

/-- A contract's law, for whoever stands outside. -/
theorem DoesG.calls {f : FuncId} {args : List Value} {pre : List Pred} {X : Type} {val : X → Value} {post : X → List Pred} (h : Does P f args pre val post) (w : World) (hp : ∀ F ∈ pre, Stab F ∧ F (fun _ => False) w) :
    Calls P f args.toArray w (fun e w' => ∃ x, e = .returned (val x) ∧ Below w.heap.size w w' ∧ AllF (post x) (fun _ => False) w') :=
  (h.ok ⟨w, fun _ => False, [], fun _ h => h.elim, fun _ h => by cases h⟩ rfl ⟨Blw.refl _ _ _, by simp, by simp, by simp [ids], fun F hF => ⟨(hp F hF).1, (hp F hF).1.st _ _ w w (hp F hF).2 ⟨Nat.le_refl _, fun _ _ _ => rfl⟩ fun k _ hm => by
    rcases hm with hm | hm
    · exact hm
    · simp [ids] at hm⟩⟩).mono fun e w' ⟨x, he, hw⟩ => ⟨x, he, hw.be.below, fun F hF => (hw.fa F hF).1.st _ _ w' w' (hw.fa F hF).2 ⟨Nat.le_refl _, fun _ _ _ => rfl⟩ fun _ _ hm => hm.elim⟩

variable {C : Cx} {ops : Array Oper} {o : Oper} {r r' : RS} {s : St} {Q : Post} {N : Nat} {SL : Slots} {BL : List Blk} {OW : List Own} {FA : List Pred}

theorem run_call (hT : TabOk T P) {f : FuncId} (hf : T.fnb f = true) (args : Array Value) (w : World) : (callFunc f args).run P w = .ok (.enter f args) w := by
  obtain ⟨fn, h1, h2, h3⟩ := hT.fnb f hf
  simp only [callFunc, Sem.run_bind, run_program, Result.andThen_ok, h1, h2, h3]
  simp

theorem exec_call (hT : TabOk T P) {f : FuncId} {xs : Array Operand} {ts : Array TypeId} (ho : o.op = .call ⟨.value (.func f), xs, ts⟩) (hf : T.fnb f = true) {a : Act} {g : Bool} {vs : List Value} (hsl : SlotsOk s.sl a)
    (he : evs s.sl xs.toList = some (g, vs)) (hg : g = true) (w : World) : (execOp a.eval o).run P w = .ok (.enter f vs.toArray) w := by
  have hv := evs_ok hsl he hg
  have : xs.map a.eval = vs.toArray := by apply Array.ext'; simp [hv]
  simp [execOp, ho, resolve, Deferred.ofValue, invoke, this, Act.eval, run_call hT hf]

theorem call_wp {a : Act} {w : World} {d : Nat} {f : FuncId} {args : List Value} {pre : List Pred} {L : Lent} {X : Type} {val : X → Value} {post : X → List Pred} {L' : X → Lent} {RB : List Blk} {RO : List Own}
    (hS : DoesG P f args pre L val post L') (hx : (execOp a.eval o).run P w = .ok (.enter f args.toArray) w) (hd : o.dst = some d) (hrep : Rep C ⟨N, SL, BL, OW, FA⟩ a w) (hpre : ∀ F ∈ pre, F ∈ FA)
    (hb : BL.Perm (L.bl ++ RB)) (ho : OW.Perm (L.ow ++ RO)) {K : Act → World → Prop}
    (hK : ∀ x w', WOk C ⟨N, SL, (L' x).bl ++ RB, (L' x).ow ++ RO, post x ++ FA⟩ w' → Keeps L.ids w w' → K (a.put (some d) (val x)) w') : o.wp P a w K noG := by
  unfold Oper.wp
  rw [hx, Oper.upon_enter]
  obtain ⟨C', e1, e2, e3, hl⟩ := hrep.wo.lend (pre := pre) hb ho hpre
  have := hS.ok C' e2 hl
  rw [e1] at this
  refine this.mono ?_
  rintro e w' ⟨x, rfl, hw⟩
  simp only [hd]
  refine hK x w' (hrep.wo.back hb ho e1 e2 e3 hw) ?_
  have hbe := hw.be
  rw [e1, e2] at hbe
  exact ⟨hbe.size, fun k hk hD => hbe.block k hk hD⟩

theorem loud_callG {d : Nat} {f : FuncId} {xs : Array Operand} {ts : Array TypeId} {g : Bool} {vs : List Value} {pre : List Pred} {L : Lent} {X : Type} {val : X → Value} {post : X → List Pred} {L' : X → Lent} {RB : List Blk} {RO : List Own}
    (hS : DoesG P f vs pre L val post L') (hd : o.dst = some d) (hn : Nat.blt d N = true) (ho : o.op = .call ⟨.value (.func f), xs, ts⟩) (hf : T.fnb f = true)
    (he : evs SL xs.toList = some (g, vs)) (hgt : g = true) (hpre : SubM FA pre) (hb : Take BL L.bl RB) (hw : Take OW L.ow RO) :
    Loud P T C ⟨N, SL, BL, OW, FA⟩ o L.ids (fun s' => ∃ x, s' = ⟨N, (d, .v (val x)) :: SL, (L' x).bl ++ RB, (L' x).ow ++ RO, post x ++ FA⟩) := by
  intro hT a w hrep
  refine call_wp hS (exec_call hT ho hf hrep.sl he hgt w) hd hrep hpre.mem hb.perm hw.perm fun x w' hw hk => ?_
  exact ⟨_, ⟨x, rfl⟩, hrep.putv (Nat.le_of_ble_eq_true hn) (x := .v (val x)) (u := val x) rfl ⟨hw.be, hw.bl, hw.ow, hw.nd, hw.fa⟩, hk⟩

theorem Loud.wide {D D' : List Nat} {s : St} {K : St → Prop} (h : Loud P T C s o D K) (hD : ∀ g ∈ D, g ∈ D') : Loud P T C s o D' K := fun hT a w hrep =>
  Oper.wp_mono (fun _ _ ⟨s', h1, h2, h3⟩ => ⟨s', h1, h2, h3.mono hD⟩) (h hT a w hrep)

/-- A call that blocks or owned slices are lent to. -/
theorem rw_callG {D : List Nat} {d : Nat} {f : FuncId} {xs : Array Operand} {ts : Array TypeId} {g : Bool} {vs : List Value} {pre : List Pred} {L : Lent} {X : Type} {val : X → Value} {post : X → List Pred} {L' : X → Lent} {RB : List Blk} {RO : List Own}
    (hS : DoesG P f vs pre L val post L') (hfr : Front ops r o D r') (hD : (∃ l, r = .sq l) ∨ ∀ g ∈ L.ids, g ∈ D) (hg : Guard ops SL o true) (hd : o.dst = some d) (hn : Nat.blt d N = true) (ho : o.op = .call ⟨.value (.func f), xs, ts⟩) (hf : T.fnb f = true)
    (he : evs SL xs.toList = some (g, vs)) (hgt : g = true) (hpre : SubM FA pre) (hb : Take BL L.bl RB) (hw : Take OW L.ow RO)
    (h : ∀ x, RW P T C ops r' ⟨N, (d, .v (val x)) :: SL, (L' x).bl ++ RB, (L' x).ow ++ RO, post x ++ FA⟩ Q) : RW P T C ops r ⟨N, SL, BL, OW, FA⟩ Q := by
  have key := loud_callG (C := C) hS hd hn ho hf he hgt hpre hb hw
  cases hfr with
  | sq => exact rw_lsq hg key (fun s' ⟨x, e⟩ => by subst e; exact h x)
  | lo _ hi hDD => exact rw_l (.lo L.ids hi hDD) hg key (fun s' ⟨x, e⟩ => by subst e; exact h x)
  | an hi hDD =>
    refine rw_l (.an hi hDD) hg (key.wide fun g hg => ?_) (fun s' ⟨x, e⟩ => by subst e; exact h x)
    rcases hD with ⟨_, e⟩ | e
    · cases e
    · exact e g hg

theorem loud_call {D : List Nat} {d : Nat} {f : FuncId} {xs : Array Operand} {ts : Array TypeId} {g : Bool} {vs : List Value} {pre : List Pred} {X : Type} {val : X → Value} {post : X → List Pred}
    (hS : Does P f vs pre val post) (hd : o.dst = some d) (hn : Nat.blt d N = true) (ho : o.op = .call ⟨.value (.func f), xs, ts⟩) (hf : T.fnb f = true)
    (he : evs SL xs.toList = some (g, vs)) (hgt : g = true) (hpre : SubM FA pre) :
    Loud P T C ⟨N, SL, BL, OW, FA⟩ o D (fun s' => ∃ x, s' = ⟨N, (d, .v (val x)) :: SL, BL, OW, post x ++ FA⟩) :=
  (loud_callG (C := C) hS hd hn ho hf he hgt hpre (.nil _) (.nil _)).wide (by simp [Lent.ids])

theorem rw_call {D : List Nat} {d : Nat} {f : FuncId} {xs : Array Operand} {ts : Array TypeId} {g : Bool} {vs : List Value} {pre : List Pred} {X : Type} {val : X → Value} {post : X → List Pred}
    (hS : Does P f vs pre val post) (hfr : Front ops r o D r') (hg : Guard ops SL o true) (hd : o.dst = some d) (hn : Nat.blt d N = true) (ho : o.op = .call ⟨.value (.func f), xs, ts⟩) (hf : T.fnb f = true)
    (he : evs SL xs.toList = some (g, vs)) (hgt : g = true) (hpre : SubM FA pre)
    (h : ∀ x, RW P T C ops r' ⟨N, (d, .v (val x)) :: SL, BL, OW, post x ++ FA⟩ Q) : RW P T C ops r ⟨N, SL, BL, OW, FA⟩ Q :=
  rw_l hfr hg (loud_call hS hd hn ho hf he hgt hpre) (fun s' ⟨x, e⟩ => by subst e; exact h x)

/-- A guarded call whose answer is known. -/
theorem rw_callg {D : List Nat} {d : Nat} {f : FuncId} {xs : Array Operand} {ts : Array TypeId} {g G : Bool} {vs : List Value} {pre : List Pred} {X : Type} {val : X → Value} {post : X → List Pred} {v : Value}
    (hS : G = true → Does P f vs pre val post) (hval : ∀ x, val x = v) (hfr : Front ops r o D r') (hG : Guard ops SL o G) (hd : o.dst = some d) (hn : Nat.blt d N = true) (ho : o.op = .call ⟨.value (.func f), xs, ts⟩) (hf : T.fnb f = true)
    (he : evs SL xs.toList = some (g, vs)) (hgt : G = true → g = true) (hpre : SubM FA pre)
    (h : RW P T C ops r' ⟨N, (d, .o G v) :: SL, BL, OW, FA⟩ Q) : RW P T C ops r ⟨N, SL, BL, OW, FA⟩ Q := by
  intro hT a w hrep
  have hno : G = false → Rep C ⟨N, (d, .o G v) :: SL, BL, OW, FA⟩ (a.put (some d) undef) w := fun hGv =>
    hrep.putv (Nat.le_of_ble_eq_true hn) (x := .o G v) (u := undef) (by simp [SV.ok, hGv]) hrep.wo
  have hyes : G = true → o.wp P a w (fun a' w' => Rep C ⟨N, (d, .o G v) :: SL, BL, OW, FA⟩ a' w' ∧ Keeps D w w') noG := fun hGv => by
    refine call_wp (hS hGv) (exec_call hT ho hf hrep.sl he (hgt hGv) w) hd hrep hpre.mem (RB := BL) (RO := OW) (.refl _) (.refl _) fun x w' hw hk => ?_
    rw [hval]
    exact ⟨hrep.putv (Nat.le_of_ble_eq_true hn) (x := .o G v) (u := v) (by simp [SV.ok, hGv]) (bl := BL) (ow := OW) (fa := FA) ⟨hw.be, hw.bl, hw.ow, hw.nd, fun F hF => hw.fa F (List.mem_append_right _ hF)⟩, hk.mono (by simp [Lent.ids])⟩
  cases hfr with
  | sq =>
    show wpList P ops (postOf C Q) (o :: _) a w
    unfold wpList
    rw [hG a hrep.sl]
    cases hGv : G with
    | true =>
      rw [if_pos rfl]
      have := hyes hGv
      rw [hGv] at h this
      exact .inl (Oper.wp_mono (fun a' w' ⟨h1, _⟩ => h hT a' w' h1) (Oper.wp_no this))
    | false =>
      rw [if_neg (by simp), hd]
      exact h hT _ _ (hno hGv)
  | an hi hDD =>
    unfold wpR wpOp
    simp only [hi]
    rw [hG a hrep.sl]
    cases hGv : G with
    | true =>
      rw [if_pos rfl]
      have := hyes hGv
      rw [hGv] at h this
      exact .inl (Oper.wp_mono (fun a' w' ⟨h1, h2⟩ => ⟨by rw [hDD]; exact h2, h hT a' w' h1⟩) this)
    | false =>
      rw [if_neg (by simp), hd]
      exact ⟨KeepsO.refl _ _, h hT _ _ (hno hGv)⟩
  | lo _ hi hDD =>
    unfold wpR wpOp
    simp only [hi]
    rw [hG a hrep.sl]
    cases hGv : G with
    | true =>
      rw [if_pos rfl]
      have := hyes hGv
      rw [hGv] at h this
      exact .inl (Oper.wp_mono (fun a' w' ⟨h1, h2⟩ => ⟨by rw [hDD]; exact trivial, h hT a' w' h1⟩) this)
    | false =>
      rw [if_neg (by simp), hd]
      exact ⟨KeepsO.refl _ _, h hT _ _ (hno hGv)⟩

/-- A fact more, out of the facts at hand. -/
theorem rw_fact {F : Pred} [hF : Stab F] (pre : List Pred) (hpre : SubM FA pre) (hd : ∀ M w, AllF pre M w → F M w) (h : RW P T C ops r ⟨N, SL, BL, OW, F :: FA⟩ Q) : RW P T C ops r ⟨N, SL, BL, OW, FA⟩ Q :=
  rw_le (s' := { n := N, sl := SL, bl := BL, ow := OW, fa := F :: FA }) (fun a w hr => ⟨hr.sz, hr.df, hr.sl, hr.wo.be, hr.wo.bl, hr.wo.ow, hr.wo.nd, fun G hG => by
    cases hG with
    | head => exact ⟨hF, hd _ _ fun F hF => (hr.wo.fa F (hpre.mem F hF)).2⟩
    | tail _ hG => exact hr.wo.fa G hG⟩) h

theorem cw_fact {c : Code} {F : Pred} [hF : Stab F] (pre : List Pred) (hpre : SubM FA pre) (hd : ∀ M w, AllF pre M w → F M w) (h : CW P T C c ⟨N, SL, BL, OW, F :: FA⟩ Q) : CW P T C c ⟨N, SL, BL, OW, FA⟩ Q :=
  cw_le (s' := { n := N, sl := SL, bl := BL, ow := OW, fa := F :: FA }) (fun a w hr => ⟨hr.sz, hr.df, hr.sl, hr.wo.be, hr.wo.bl, hr.wo.ow, hr.wo.nd, fun G hG => by
    cases hG with
    | head => exact ⟨hF, hd _ _ fun F hF => (hr.wo.fa F (hpre.mem F hF)).2⟩
    | tail _ hG => exact hr.wo.fa G hG⟩) h
end
end Go.Proofs.YtaiefncoholnnaaDoor.Fw

namespace Go.Proofs.YtaiefncoholnnaaDoor.Fw
open Go Go.RowKit

def lk {α : Type} : List (Nat × α) → Nat → Option α
  | [], _ => none
  | (k, x) :: r, n => match Nat.beq k n with | true => some x | false => lk r n

theorem lk_mem {α : Type} : ∀ {l : List (Nat × α)} {n : Nat} {x : α}, lk l n = some x → (n, x) ∈ l
  | [], n, x, h => by simp [lk] at h
  | (k, y) :: r, n, x, h => by
    simp only [lk] at h
    split at h
    · rename_i hb
      have := Nat.eq_of_beq_eq_true hb
      subst this
      cases h
      exact .head _
    · exact .tail _ (lk_mem h)

/-- The rows of a table. -/
structure TRows where
  fld : List (Nat × List (Nat × Nat))
  siz : List (Nat × (Nat × Bool))
  zer : List (Nat × List Value)
  str : List (Nat × List (Nat × Nat))
  slc : List (Nat × Nat)
  arr : List (Nat × (Nat × Nat))
  byt : List (Nat × Nat)
  isS : List Nat
  fnb : List Nat

def tabOf (R : TRows) : Tab where
  fld t i := match lk R.fld t with | some l => l[i]? | none => none
  siz := lk R.siz
  zer := lk R.zer
  str := lk R.str
  slc := lk R.slc
  arr := lk R.arr
  byt := lk R.byt
  eqs _ := false
  isS t := R.isS.any (Nat.beq t)
  fnb f := R.fnb.any (Nat.beq f)

def vEq : Value → Value → Bool
  | .int k a, .int k' b => decide (k = k') && decide (a = b)
  | .bool a, .bool b => a == b
  | .string a, .string b => decide (a.data.toList = b.data.toList)
  | .slice none a b, .slice none c d => Nat.beq a c && Nat.beq b d
  | .pointer none, .pointer none => true
  | .nilFunc, .nilFunc => true
  | .nilIface, .nilIface => true
  | _, _ => false

theorem vEq_ok {a b : Value} (h : vEq a b = true) : a = b := by
  unfold vEq at h
  split at h
  · simp at h; rw [h.1, h.2]
  · simp at h; rw [h]
  · rename_i a b
    have h : a.data.toList = b.data.toList := by simpa using h
    obtain ⟨⟨a⟩⟩ := a
    obtain ⟨⟨b⟩⟩ := b
    simp at h; rw [h]
  · simp at h
    rw [h.1, h.2]
  · rfl
  · rfl
  · rfl
  · cases h

def vsEq : List Value → List Value → Bool
  | [], [] => true
  | a :: l, b :: r => vEq a b && vsEq l r
  | _, _ => false

theorem vsEq_ok : ∀ {a b : List Value}, vsEq a b = true → a = b
  | [], [], _ => rfl
  | a :: l, b :: r, h => by simp [vsEq] at h; rw [vEq_ok h.1, vsEq_ok h.2]
  | [], _ :: _, h => by simp [vsEq] at h
  | _ :: _, [], h => by simp [vsEq] at h

def fldsEq : List Field → List (Nat × Nat) → Bool
  | [], [] => true
  | f :: fs, (o, t) :: r => Nat.beq f.offset o && Nat.beq f.type t && fldsEq fs r
  | _, _ => false

theorem fldsEq_ok : ∀ {fs : List Field} {l : List (Nat × Nat)} {i o t : Nat}, fldsEq fs l = true → l[i]? = some (o, t) → ∃ f, fs[i]? = some f ∧ f.offset = o ∧ f.type = t
  | [], [], i, o, t, _, h => by simp at h
  | f :: fs, (o', t') :: r, i, o, t, h, hl => by
    simp [fldsEq] at h
    cases i with
    | zero =>
      simp at hl
      refine ⟨f, rfl, ?_, ?_⟩
      · rw [← hl.1]; exact h.1.1
      · rw [← hl.2]; exact h.1.2
    | succ i => simpa using fldsEq_ok h.2 (by simpa using hl)
  | [], _ :: _, _, _, _, h, _ => by simp [fldsEq] at h
  | _ :: _, [], _, _, _, h, _ => by simp [fldsEq] at h

def strEq (P : Program) : List Field → List (Nat × Nat) → Bool
  | [], [] => true
  | f :: fs, (o, n) :: r => Nat.beq f.offset o && (match P.info? f.type with | some ti => Nat.beq ti.size n | none => false) && strEq P fs r
  | _, _ => false

theorem strEq_ok {P : Program} : ∀ {fs : List Field} {l : List (Nat × Nat)}, strEq P fs l = true → ∃ tis : List TypeInfo, fs.map (fun f => P.info? f.type) = tis.map some ∧ (fs.zip tis).map (fun p => (p.1.offset, p.2.size)) = l
  | [], [], _ => ⟨[], rfl, rfl⟩
  | f :: fs, (o, n) :: r, h => by
    simp only [strEq, Bool.and_eq_true] at h
    obtain ⟨⟨h1, h2⟩, h3⟩ := h
    obtain ⟨tis, q1, q2⟩ := strEq_ok h3
    cases hi : P.info? f.type with
    | none => simp [hi] at h2
    | some ti =>
      simp only [hi] at h2
      exact ⟨ti :: tis, by simp [hi, q1], by simp [q2, Nat.eq_of_beq_eq_true h1, Nat.eq_of_beq_eq_true h2]⟩
  | [], _ :: _, h => by simp [strEq] at h
  | _ :: _, [], h => by simp [strEq] at h

def chkFld (P : Program) (p : Nat × List (Nat × Nat)) : Bool := match P.underlying p.1 with | some (.struct fs) => fldsEq fs.toList p.2 | _ => false
def chkStr (P : Program) (p : Nat × List (Nat × Nat)) : Bool := match P.underlying p.1 with | some (.struct fs) => strEq P fs.toList p.2 | _ => false
def chkSiz (P : Program) (p : Nat × (Nat × Bool)) : Bool := match P.info? p.1, P.underlying p.1 with | some ti, some d => Nat.beq ti.size p.2.1 && (aggD d == p.2.2) | _, _ => false
def chkZer (P : Program) (p : Nat × List Value) : Bool := match P.info? p.1 with | some ti => (match ti.zero with | some z => vsEq z.cells.toList p.2 | none => false) | _ => false
def chkSlc (P : Program) (p : Nat × Nat) : Bool := match P.underlying p.1 with | some (.slice e) => Nat.beq e p.2 | _ => false
def chkArr (P : Program) (p : Nat × (Nat × Nat)) : Bool := match P.underlying p.1 with | some (.array n e) => Nat.beq n p.2.1 && Nat.beq e p.2.2 | _ => false
def chkByt (P : Program) (p : Nat × Nat) : Bool := match P.info? p.1 with | some ti => Nat.beq ti.bytes p.2 | _ => false
def chkIsS (P : Program) (t : Nat) : Bool := match P.underlying t with | some .string => true | _ => false
def chkFnb (P : Program) (f : Nat) : Bool := match P.funcs[f]? with | some fn => !(fn.name == "runtime.NumGoroutine") && !fn.body.isNone | none => false

structure ROk (R : TRows) (P : Program) : Prop where
  mixed : P.follows .mixedOrders = true
  fld : R.fld.all (chkFld P) = true
  siz : R.siz.all (chkSiz P) = true
  zer : R.zer.all (chkZer P) = true
  str : R.str.all (chkStr P) = true
  slc : R.slc.all (chkSlc P) = true
  arr : R.arr.all (chkArr P) = true
  byt : R.byt.all (chkByt P) = true
  isS : R.isS.all (chkIsS P) = true
  fnb : R.fnb.all (chkFnb P) = true

theorem tabOf_ok {R : TRows} {P : Program} (h : ROk R P) : TabOk (tabOf R) P where
  mixed := h.mixed
  fld t i o ft ht := by
    simp only [tabOf] at ht
    split at ht
    · rename_i l hl
      have := List.all_eq_true.1 h.fld _ (lk_mem hl)
      unfold chkFld at this
      simp only at this
      split at this
      · rename_i fs hu
        obtain ⟨f, h1, h2, h3⟩ := fldsEq_ok this ht
        exact ⟨fs, f, hu, by simpa using h1, h2, h3⟩
      · cases this
    · cases ht
  siz t n b ht := by
    have := List.all_eq_true.1 h.siz _ (lk_mem ht)
    unfold chkSiz at this
    simp only at this
    split at this
    · rename_i ti d h1 h2
      simp at this
      exact ⟨ti, d, h1, this.1, h2, this.2⟩
    · cases this
  zer t l ht := by
    have := List.all_eq_true.1 h.zer _ (lk_mem ht)
    unfold chkZer at this
    simp only at this
    split at this
    · rename_i ti h1
      split at this
      · rename_i z hz
        exact ⟨ti, z, h1, hz, vsEq_ok this⟩
      · cases this
    · cases this
  str t l ht := by
    have := List.all_eq_true.1 h.str _ (lk_mem ht)
    unfold chkStr at this
    simp only at this
    split at this
    · rename_i fs hu
      exact ⟨fs, hu, strEq_ok this⟩
    · cases this
  slc t e ht := by
    have := List.all_eq_true.1 h.slc _ (lk_mem ht)
    unfold chkSlc at this
    simp only at this
    split at this
    · rename_i e' hu
      rw [hu, Nat.eq_of_beq_eq_true this]
    · cases this
  arr t n e ht := by
    have := List.all_eq_true.1 h.arr _ (lk_mem ht)
    unfold chkArr at this
    simp only at this
    split at this
    · rename_i n' e' hu
      simp at this
      rw [hu, this.1, this.2]
    · cases this
  byt t n ht := by
    have := List.all_eq_true.1 h.byt _ (lk_mem ht)
    unfold chkByt at this
    simp only at this
    split at this
    · rename_i ti h1
      exact ⟨ti, h1, Nat.eq_of_beq_eq_true this⟩
    · cases this
  isS t ht := by
    simp only [tabOf] at ht
    obtain ⟨t', h1, h2⟩ := List.any_eq_true.1 ht
    have := List.all_eq_true.1 h.isS _ h1
    have e := Nat.eq_of_beq_eq_true h2
    subst e
    unfold chkIsS at this
    split at this
    · assumption
    · cases this
  fnb t ht := by
    simp only [tabOf] at ht
    obtain ⟨t', h1, h2⟩ := List.any_eq_true.1 ht
    have := List.all_eq_true.1 h.fnb _ h1
    have e := Nat.eq_of_beq_eq_true h2
    subst e
    unfold chkFnb at this
    split at this
    · rename_i fn hf
      simp only [Bool.and_eq_true, Bool.not_eq_true'] at this
      exact ⟨fn, hf, this.1, this.2⟩
    · cases this
end Go.Proofs.YtaiefncoholnnaaDoor.Fw

namespace Go.Proofs.YtaiefncoholnnaaDoor.Fw
open Go Go.RowKit

/-! ### Slices of the call's own -/
inductive UpdO : List Own → Own → List Own → List Own → Prop
  | here (o : Own) (n : List Own) (r : List Own) : UpdO (o :: r) o n (n ++ r)
  | there (k : Own) {o : Own} {n : List Own} {r r' : List Own} (h : UpdO r o n r') : UpdO (k :: r) o n (k :: r')

theorem UpdO.spec {l l' : List Own} {o : Own} {n : List Own} (h : UpdO l o n l') : ∃ a b, l = a ++ o :: b ∧ l' = a ++ (n ++ b) := by
  induction h with
  | here o n r => exact ⟨[], r, rfl, rfl⟩
  | there k _ ih => obtain ⟨a, b, h1, h2⟩ := ih; exact ⟨k :: a, b, by rw [h1]; rfl, by rw [h2]; rfl⟩

section
variable {P : Program} {T : Tab} {C : Cx} {ops : Array Oper} {o : Oper} {r r' : RS} {s : St} {Q : Post} {N : Nat} {SL : Slots} {BL : List Blk} {OW : List Own} {FA : List Pred}

theorem mem_filterMap_append {b : Nat} {l r : List Own} : b ∈ (l ++ r).filterMap (·.b) ↔ b ∈ l.filterMap (·.b) ∨ b ∈ r.filterMap (·.b) := by
  rw [List.filterMap_append, List.mem_append]

/-- An own row gives way to another one: its block is the old one, or new. -/
theorem WOk.swapO {w w' : World} {o o' : Own} {ow' : List Own} (h : WOk C ⟨N, SL, BL, OW, FA⟩ w) (hu : UpdO OW o [o'] ow') (ho' : OwnOk C w' o')
    (hg : w.grownBy w' o.b) (hb : o'.b = o.b ∨ o'.b = none ∨ o'.b = some w.heap.size) : WOk C ⟨N, SL, BL, ow', FA⟩ w' := by
  obtain ⟨x, y, rfl, rfl⟩ := hu.spec
  have hnd := h.nd
  have hid : ids ⟨N, SL, BL, x ++ o :: y, FA⟩ = BL.map (·.g) ++ (x ++ o :: y).filterMap (·.b) := rfl
  have hid' : ids ⟨N, SL, BL, x ++ ([o'] ++ y), FA⟩ = BL.map (·.g) ++ (x ++ o' :: y).filterMap (·.b) := rfl
  have hbf : ∀ k, k < w.heap.size → o.b ≠ some k → w'.heap[k]? = w.heap[k]? := by
    exact fun k hk hne => hg.block k hk fun e => hne e.symm
  have hsub : ∀ k, k < w.heap.size → k ∈ ids ⟨N, SL, BL, x ++ ([o'] ++ y), FA⟩ → k ∈ ids ⟨N, SL, BL, x ++ o :: y, FA⟩ := by
    intro k hk hm
    rw [hid'] at hm
    rw [hid]
    rcases List.mem_append.1 hm with hm | hm
    · exact List.mem_append_left _ hm
    · refine List.mem_append_right _ ?_
      rw [List.filterMap_append, List.mem_append] at hm ⊢
      rcases hm with hm | hm
      · exact .inl hm
      · refine .inr ?_
        rw [List.filterMap_cons] at hm ⊢
        rcases hb with e | e | e
        · rw [e] at hm; exact hm
        · rw [e] at hm
          simp only at hm
          cases o.b with
          | none => exact hm
          | some g => exact .tail _ hm
        · rw [e] at hm
          simp only at hm
          rcases List.mem_cons.1 hm with hm | hm
          · omega
          · cases o.b with
            | none => exact hm
            | some g => exact .tail _ hm
  have hlt := fun {b} hb => (ids_lt h (b := b) hb).1
  refine ⟨?_, ?_, ?_, ?_, ?_⟩
  · refine h.be.trans ⟨hg.os, hg.tape, hg.output, hg.size, fun k hk hB => hbf k (Nat.lt_of_lt_of_le hk h.be.size) fun e => ?_⟩
    rcases (ids_lt h (b := k) (by rw [hid]; exact List.mem_append_right _ (List.mem_filterMap.2 ⟨o, by simp, e⟩))).2 with h1 | h1
    · omega
    · exact hB h1
  · intro k hk
    refine (h.bl k hk).of_eq (hbf _ (heap_lt (h.bl k hk).1) fun e => ?_)
    have h1 := (List.nodup_append.1 hnd).2.2
    exact h1 k.g (List.mem_map.2 ⟨k, hk, rfl⟩) k.g (List.mem_filterMap.2 ⟨o, by simp, e⟩) rfl
  · intro q hq
    have hq : q ∈ x ++ o' :: y := hq
    rcases List.mem_append.1 hq with hq | hq
    · refine (h.ow q (List.mem_append_left _ hq)).of_eq fun g hgb => hbf g (hlt (by rw [hid]; exact List.mem_append_right _ (List.mem_filterMap.2 ⟨q, List.mem_append_left _ hq, hgb⟩))) fun e => ?_
      have h1 := (List.nodup_append.1 hnd).2.1
      rw [List.filterMap_append] at h1
      exact (List.nodup_append.1 h1).2.2 g (List.mem_filterMap.2 ⟨q, hq, hgb⟩) g (List.mem_filterMap.2 ⟨o, by simp, e⟩) rfl
    · rcases List.mem_cons.1 hq with rfl | hq
      · exact ho'
      · refine (h.ow q (List.mem_append_right _ (.tail _ hq))).of_eq fun g hgb => hbf g (hlt (by rw [hid]; exact List.mem_append_right _ (List.mem_filterMap.2 ⟨q, List.mem_append_right _ (.tail _ hq), hgb⟩))) fun e => ?_
        have h1 := (List.nodup_append.1 hnd).2.1
        rw [List.filterMap_append, List.filterMap_cons, e] at h1
        have h2 := (List.nodup_append.1 h1).2.1
        simp only at h2
        exact (List.nodup_cons.1 h2).1 (List.mem_filterMap.2 ⟨q, hq, hgb⟩)
  · rw [hid']
    rw [hid] at hnd
    rw [List.filterMap_append, List.filterMap_cons] at hnd ⊢
    have hfresh : w.heap.size ∉ BL.map (·.g) ++ (x.filterMap (·.b) ++ y.filterMap (·.b)) := by
      intro hm
      have : w.heap.size ∈ ids ⟨N, SL, BL, x ++ o :: y, FA⟩ := by
        rw [hid, List.filterMap_append, List.filterMap_cons]
        rcases List.mem_append.1 hm with hm | hm
        · exact List.mem_append_left _ hm
        · refine List.mem_append_right _ ?_
          rcases List.mem_append.1 hm with hm | hm
          · exact List.mem_append_left _ hm
          · refine List.mem_append_right _ ?_
            cases o.b with
            | none => exact hm
            | some g => exact .tail _ hm
      exact Nat.lt_irrefl _ (hlt this)
    have hbase : (BL.map (·.g) ++ (x.filterMap (·.b) ++ y.filterMap (·.b))).Nodup := by
      refine List.Nodup.sublist ?_ hnd
      refine List.Sublist.append (List.Sublist.refl _) (List.Sublist.append (List.Sublist.refl _) ?_)
      cases o.b with
      | none => exact List.Sublist.refl _
      | some g => exact List.sublist_cons_self _ _
    rcases hb with e | e | e
    · rw [e]; exact hnd
    · rw [e]; exact hbase
    · rw [e]
      simp only
      have hp : (BL.map (·.g) ++ (x.filterMap (·.b) ++ w.heap.size :: y.filterMap (·.b))).Perm (w.heap.size :: (BL.map (·.g) ++ (x.filterMap (·.b) ++ y.filterMap (·.b)))) := by
        rw [← List.append_assoc, ← List.append_assoc]
        exact List.perm_middle
      exact hp.nodup_iff.2 (List.nodup_cons.2 ⟨hfresh, hbase⟩)
  · intro F hF
    refine ⟨(h.fa F hF).1, (h.fa F hF).1.st _ _ w w' (h.fa F hF).2 ⟨hg.size, fun k hk hm => hbf k hk fun e => hm (.inr ?_)⟩ fun k hk hm => ?_⟩
    · rw [hid]; exact List.mem_append_right _ (List.mem_filterMap.2 ⟨o, by simp, e⟩)
    · rcases hm with hm | hm
      · exact .inl hm
      · exact .inr (hsub k hk hm)

/-- What a slice value reads as, here. -/
def Reads (s : St) (C : Cx) (esz : Nat) (v : Value) (m : Nat) (news : List Value) : Prop := ∀ w, WOk C s w →
  ∃ A c, v = .slice A m c ∧ news.length = m * esz ∧ (∀ u ∈ news, u.oneCell' = true) ∧ (0 < m → ∃ ad, A = some ad ∧ ∀ j u, news[j]? = some u → w.cell? (ad.add j) = some u)

theorem flatMap_get {α : Type} {enc : α → List Value} {esz : Nat} : ∀ (l : List α), (∀ e ∈ l, (enc e).length = esz) → ∀ (j : Nat) (u : Value), (l.flatMap enc)[j]? = some u →
    ∃ (i k : Nat) (h : i < l.length), j = i * esz + k ∧ (enc l[i])[k]? = some u
  | [], _, j, u, h => by simp at h
  | a :: l, hl, j, u, h => by
    have ha := hl a (.head _)
    rw [List.flatMap_cons] at h
    by_cases hj : j < esz
    · rw [List.getElem?_append_left (by omega)] at h
      exact ⟨0, j, by simp, by omega, h⟩
    · rw [List.getElem?_append_right (by omega), ha] at h
      obtain ⟨i, k, hi, h1, h2⟩ := flatMap_get l (fun e he => hl e (.tail _ he)) (j - esz) u h
      exact ⟨i + 1, k, by simp; omega, by rw [Nat.add_mul]; omega, by simpa using h2⟩

theorem flatMap_len {α : Type} {enc : α → List Value} {esz : Nat} : ∀ (l : List α), (∀ e ∈ l, (enc e).length = esz) → (l.flatMap enc).length = l.length * esz
  | [], _ => by simp
  | a :: l, hl => by
    rw [List.flatMap_cons, List.length_append, hl a (.head _), flatMap_len l (fun e he => hl e (.tail _ he)), List.length_cons, Nat.add_mul]
    omega

theorem flatMap_at {α : Type} {enc : α → List Value} {esz : Nat} : ∀ (l : List α), (∀ e ∈ l, (enc e).length = esz) → ∀ (i : Nat) (h : i < l.length) (k : Nat) (u : Value), (enc l[i])[k]? = some u → (l.flatMap enc)[i * esz + k]? = some u
  | [], _, i, h, _, _, _ => absurd h (by simp)
  | a :: l, hl, i, h, k, u, hu => by
    have ha := hl a (.head _)
    rw [List.flatMap_cons]
    cases i with
    | zero =>
      have : k < esz := by
        obtain ⟨hlt, _⟩ := List.getElem?_eq_some_iff.1 hu
        simp at hlt
        omega
      rw [List.getElem?_append_left (by omega)]
      simpa using hu
    | succ i =>
      have ih := flatMap_at l (fun e he => hl e (.tail _ he)) i (by simpa using h) k u (by simpa using hu)
      rw [List.getElem?_append_right (by rw [ha, Nat.add_mul]; omega), ha]
      rw [← ih]
      congr 1
      rw [Nat.add_mul]
      omega

theorem reads_rd {α : Type} {E : El α} {esz m c : Nat} {A : Option Addr} {l : List α} (hm : RdL E ⟨A, c⟩ l ∈ FA) (hes : E.esz = esz) (hn : m = l.length) : Reads ⟨N, SL, BL, OW, FA⟩ C esz (.slice A m c) m (l.flatMap E.enc) := by
  intro w hw
  subst hn
  subst hes
  have h1 := E.one
  have h3 : ∀ e ∈ l, (E.enc e).length = E.esz := fun e _ => E.len e
  obtain ⟨_, _, _, h4⟩ := (hw.fa _ hm).2
  refine ⟨A, c, rfl, flatMap_len l h3, fun u hu => ?_, fun hl => ?_⟩
  · obtain ⟨e, he, hu⟩ := List.mem_flatMap.1 hu
    exact h1 e u hu
  · obtain ⟨ad, ha, _, _, hc⟩ := h4 hl
    refine ⟨ad, ha, fun j u hj => ?_⟩
    obtain ⟨i, k, hi, rfl, h2⟩ := flatMap_get l h3 j u hj
    exact hc i hi k u h2

theorem reads_own {q : Own} (hm : q ∈ OW) (h1 : ∀ u ∈ q.xs, u.oneCell' = true) : Reads ⟨N, SL, BL, OW, FA⟩ C q.esz q.v q.n q.xs := by
  intro w hw
  have h := hw.ow q hm
  obtain ⟨hl, hn, hb⟩ := h
  cases hbb : q.b with
  | none =>
    rw [hbb] at hb
    obtain ⟨h0, A, hA⟩ := hb
    exact ⟨A, 0, by rw [hA, h0], hl, h1, fun h => by omega⟩
  | some g =>
    rw [hbb] at hb
    obtain ⟨_, cap, cur, hv, hh, hnc, hcap, hcs, htake⟩ := hb
    refine ⟨_, cap, hv, hl, h1, fun _ => ⟨_, rfl, fun j u hj => ?_⟩⟩
    rw [add_none]
    simp only [World.cell?, hh]
    rw [← htake, List.getElem?_take] at hj
    split at hj
    · simpa using hj
    · cases hj

theorem reads_nil {esz c : Nat} {A : Option Addr} : Reads ⟨N, SL, BL, OW, FA⟩ C esz (.slice A 0 c) 0 [] := fun _ _ => ⟨A, c, rfl, by simp, by simp, fun h => by omega⟩

theorem own_row {w : World} {q : Own} (h : OwnOk C w q) (hv : q.b = none → q.v = .slice none 0 0) : w.ownsRow 0 q.e q.esz q.v q.n q.xs := by
  obtain ⟨hl, hn, hb⟩ := h
  refine ⟨hl, ?_⟩
  cases hbb : q.b with
  | none => rw [hbb] at hb; exact .inl ⟨hv hbb, hb.1⟩
  | some g =>
    rw [hbb] at hb
    obtain ⟨hg, cap, cur, hv, hh, hnc, hcap, hcs, htake⟩ := hb
    exact .inr ⟨g, cap, cur, hv, Nat.zero_le _, hh, hnc, hcap, hcs, htake⟩

theorem row_own {w : World} {e esz by_ n : Nat} {v : Value} {xs : List Value} (h : w.ownsRow 0 e esz v n xs) (hn : n ≤ 9223372036854775807) (hnb : n * by_ ≤ 140737488355328) (hmine : ∀ g, v.ownBlock = some g → C.mine g) : OwnOk C w ⟨v, v.ownBlock, e, esz, by_, n, xs⟩ := by
  refine ⟨h.1, ⟨hn, hnb⟩, ?_⟩
  rcases h.2 with ⟨rfl, h0⟩ | ⟨g, cap, cur, rfl, hg, hh, h1, h2, h3, h4⟩
  · exact ⟨h0, none, rfl⟩
  · exact ⟨hmine g rfl, cap, cur, rfl, hh, h1, h2, h3, h4⟩

theorem run_append_m0 {t ty e : Nat} {i : TypeInfo} (ht : P.underlying t = some (.slice e)) (hi : P.info? e = some i) (w : World) {B A : Option Addr} {n cap c : Nat} (hn : n ≤ cap) :
    (Builtin.append_ #[t, t] ty #[.slice B n cap, .slice A 0 c]).run P w = .ok (.slice B n cap) w := by
  cases A <;> cases B <;> simp [Builtin.append_, run_underlying ht, sizeOf, typeInfo, hi, Builtin.lenOf, Builtin.firstCells, loadCells, loadCellsFrom, hn, storeCells]

theorem run_app {t ty : Nat} {q : Own} {z : List Value} (hT : TabOk T P) (ht : T.slc t = some q.e) {agg : Bool} (hz : T.siz q.e = some (q.esz, agg)) (hzz : T.zer q.e = some z) (hzl : z.length = q.esz) (hby : T.byt q.e = some q.by_) (hpos : 0 < q.esz)
    {w : World} (hw : WOk C ⟨N, SL, BL, OW, FA⟩ w) (hq : OwnOk C w q) {x : Value} {m : Nat} {news : List Value} (hx : Reads ⟨N, SL, BL, OW, FA⟩ C q.esz x m news)
    (hb : (q.n + m) * q.by_ ≤ 140737488355328) (h63 : q.n + m ≤ 9223372036854775807) :
    ∃ A' c' b' w', (Builtin.append_ #[t, t] ty #[q.v, x]).run P w = .ok (.slice A' (q.n + m) c') w' ∧ OwnOk C w' ⟨.slice A' (q.n + m) c', b', q.e, q.esz, q.by_, q.n + m, q.xs ++ news⟩ ∧ w.grownBy w' q.b ∧ (b' = q.b ∨ b' = none ∨ b' = some w.heap.size) := by
  obtain ⟨A, c, rfl, hl, h1, hrd⟩ := hx w hw
  have hu := hT.slc _ _ ht
  obtain ⟨ti, d, q1, q2, q3, q4⟩ := hT.siz _ _ _ hz
  obtain ⟨ti', hi', hby'⟩ := hT.byt _ _ hby
  obtain ⟨ti'', zv, hi'', hz'', hzc⟩ := hT.zer _ _ hzz
  rw [q1] at hi' hi''
  cases hi'; cases hi''
  have hzs : zv.cells.size = q.esz := by rw [← hzl, ← hzc]; simp
  by_cases hm : m = 0
  · subst hm
    have hnews : news = [] := List.eq_nil_of_length_eq_zero (by simpa using hl)
    subst hnews
    simp only [List.append_nil]
    obtain ⟨hl', hn', hbb⟩ := hq
    cases hqb : q.b with
    | none =>
      rw [hqb] at hbb
      obtain ⟨h0, A', hv⟩ := hbb
      refine ⟨A', 0, none, w, ?_, ⟨hl', hn', h0, A', by simp [h0]⟩, ⟨rfl, rfl, rfl, Nat.le_refl _, fun _ _ _ => rfl⟩, .inl rfl⟩
      rw [hv, h0]
      exact run_append_m0 hu q1 w (Nat.le_refl _)
    | some g =>
      rw [hqb] at hbb
      obtain ⟨hg, cap, cur, hv, hh, hnc, hcap, hcs, htake⟩ := hbb
      refine ⟨some ⟨g, 0, none⟩, cap, some g, w, ?_, ⟨hl', hn', hg, cap, cur, rfl, hh, hnc, hcap, hcs, htake⟩, ⟨rfl, rfl, rfl, Nat.le_refl _, fun _ _ _ => rfl⟩, .inl rfl⟩
      rw [hv]
      exact run_append_m0 hu q1 w hnc
  · obtain ⟨ad, rfl, hcell⟩ := hrd (by omega)
    by_cases hfor : q.b = none ∧ q.v ≠ .slice none 0 0
    · obtain ⟨hqb, hne⟩ := hfor
      obtain ⟨hl', hn', hbb⟩ := hq
      rw [hqb] at hbb
      obtain ⟨h0, A', hv⟩ := hbb
      have hxs : q.xs = [] := List.eq_nil_of_length_eq_zero (by rw [hl', h0]; simp)
      cases A' with
      | none => exact absurd hv hne
      | some a' =>
        rw [h0] at hb h63
        have hr := run_append_grow (P := P) w t ty q.e ti zv hu q1 hz'' a' 0 0 [] (by simp) (by simp) ad m c news (by rw [q2]; exact hl) hcell (by omega) (by omega)
          (growslice_fits (by omega) (by rw [hby']; exact hb))
        have hge := grownCap_ge w (0 + m) 0 q.e
        have hcm : grownCap w (0 + m) 0 q.e ≤ maxLen := grownCap_le_maxLen w (0 + m) 0 q.e (by simp only [maxLen]; omega)
        rw [hv, hxs, h0, hqb]
        refine ⟨_, _, some w.heap.size, _, hr, ⟨by simpa using hl, ⟨h63, by simpa using hb⟩, .inl hw.be.size, _, _, rfl, heap_alloc_new w.drew _, hge, by simpa [maxLen] using hcm, ?_, ?_⟩, ⟨rfl, rfl, rfl, by simp, fun k hk _ => heap_alloc_old w.drew _ k hk⟩, .inr (.inr rfl)⟩
        · simp only [Array.size_append, List.size_toArray, List.length_nil, size_zeroCells, hzs, hl, Nat.zero_add, ← Nat.add_mul]
          congr 1
          simp only [Nat.zero_add] at hge
          omega
        · simp only [Array.toList_append, List.nil_append, Nat.zero_add]
          rw [← hl]
          simp
    · have hrow := own_row hq (fun hqb => Classical.byContradiction fun hne => hfor ⟨hqb, hne⟩)
      obtain ⟨v', w', hr, h2, h3, h4, h5⟩ := run_append_own_at (P := P) w 0 t ty q.e ti zv q.esz q.by_ hu q1 hz'' q2 hby' hzs hpos q.v q.n q.xs hrow ad m c news hl hcell h1 (by simp only [maxLen]; omega) hb (Nat.zero_le _)
      have hvb : q.v.ownBlock = q.b := by
        obtain ⟨hl', hn', hbb⟩ := hq
        cases hqb : q.b with
        | none =>
          have : q.v = .slice none 0 0 := Classical.byContradiction fun hne => hfor ⟨hqb, hne⟩
          rw [this]; rfl
        | some g => rw [hqb] at hbb; obtain ⟨_, cap, cur, hv, _⟩ := hbb; rw [hv]; rfl
      rw [hvb] at h3 h5
      have ho := row_own (C := C) (by_ := q.by_) h2 h63 hb (fun g hgb => by
        rcases h5 with e | e
        · rw [e] at hgb
          have h9 := hq.2.2
          rw [hgb] at h9
          exact h9.1
        · rw [e] at hgb
          cases hgb
          exact .inl hw.be.size)
      have hform : ∃ A' c', v' = .slice A' (q.n + m) c' := by
        rcases h2.2 with ⟨_, h0⟩ | ⟨g, cap, cur, hv, _⟩
        · omega
        · exact ⟨_, _, hv⟩
      obtain ⟨A', c', rfl⟩ := hform
      exact ⟨A', c', _, w', hr, ho, h3, by rcases h5 with e | e <;> simp [e]⟩

theorem rw_append {d t m : Nat} {x y : Operand} {g0 g1 : Bool} {q : Own} {v : Value} {z : List Value} {agg : Bool} {news : List Value} {ow' : SlV → Option Nat → List Own} {D : List Nat} (hf : Front ops r o D r') (hbD : ∀ g, q.b = some g → (∃ l, r = .sq l) ∨ g ∈ D) (hg : Guard ops SL o true) (hd : o.dst = some d) (hn : Nat.blt d N = true)
    (ho : o.op = .call ⟨.builtin .append, ⟨[x, y]⟩, ⟨[t, t]⟩⟩) (hx : ev SL x = some (g0, q.v)) (hg0 : g0 = true) (hy : ev SL y = some (g1, v)) (hg1 : g1 = true)
    (hu : ∀ (X : SlV) b', UpdO OW q [⟨X.val (q.n + m), b', q.e, q.esz, q.by_, q.n + m, q.xs ++ news⟩] (ow' X b'))
    (ht : T.slc t = some q.e) (hz : T.siz q.e = some (q.esz, agg)) (hzz : T.zer q.e = some z) (hzl : z.length = q.esz) (hby : T.byt q.e = some q.by_) (hpos : Nat.blt 0 q.esz = true)
    (hr : Reads ⟨N, SL, BL, OW, FA⟩ C q.esz v m news) (hb : (q.n + m) * q.by_ ≤ 140737488355328) (h63 : q.n + m ≤ 9223372036854775807)
    (h : ∀ (X : SlV) (b' : Option Nat), RW P T C ops r' ⟨N, (d, .v (X.val (q.n + m))) :: SL, BL, ow' X b', FA⟩ Q) : RW P T C ops r ⟨N, SL, BL, OW, FA⟩ Q := by
  have key : Loud P T C ⟨N, SL, BL, OW, FA⟩ o q.b.toList (fun s' => ∃ (X : SlV) (b' : Option Nat), s' = ⟨N, (d, .v (X.val (q.n + m))) :: SL, BL, ow' X b', FA⟩) := by
    intro hT a w hrep
    refine Oper.wp_mono ?_ (loud_val (D := q.b.toList) hd hn (K := fun u bl ow fa => ∃ (X : SlV) (b' : Option Nat), u = X.val (q.n + m) ∧ bl = BL ∧ ow = ow' X b' ∧ fa = FA) ?_ hT a w hrep)
    · rintro a' w' ⟨s', ⟨u, bl, ow, fa, ⟨X, b', e1, e2, e3, e4⟩, e5⟩, h2, h3⟩
      subst e1; subst e2; subst e3; subst e4
      exact ⟨s', ⟨X, b', e5⟩, h2, h3⟩
    · intro hT a w hrep
      have hm : q ∈ OW := by obtain ⟨l, r, e, _⟩ := (hu ⟨none, 0⟩ none).spec; rw [e]; simp
      have hq := hrep.wo.ow q hm
      obtain ⟨A', c', b', w', hrun, ho', hgr, hbb⟩ := run_app (ty := o.type) hT ht hz hzz hzl hby (Nat.le_of_ble_eq_true hpos) hrep.wo hq hr hb h63
      refine ⟨.slice A' (q.n + m) c', w', BL, ow' ⟨A', c'⟩ b', FA, ?_, hrep.wo.swapO (hu ⟨A', c'⟩ _) ho' hgr hbb, ⟨hgr.size, fun k hk hn => hgr.block k hk fun e => hn (by rw [← e]; simp)⟩, ⟨A', c'⟩, b', rfl, rfl, rfl, rfl⟩
      simp only [execOp, ho, resolve, invoke, builtin, Sem.run_bind, Sem.run_pure, Result.andThen_ok, List.map_toArray, List.map_cons, List.map_nil, ev_ok hrep.sl hx hg0, ev_ok hrep.sl hy hg1, hrun]
  cases hf with
  | sq => exact rw_lsq hg key (fun s' ⟨X, b', e⟩ => by subst e; exact h X b')
  | lo _ hi hDD => exact rw_l (.lo q.b.toList hi hDD) hg key (fun s' ⟨X, b', e⟩ => by subst e; exact h X b')
  | an hi hDD =>
    refine rw_l (.an hi hDD) hg (fun hT a w hrep => Oper.wp_mono (fun a' w' ⟨s', h1, h2, h3⟩ => ⟨s', h1, h2, h3.mono fun k hk => ?_⟩) (key hT a w hrep)) (fun s' ⟨X, b', e⟩ => by subst e; exact h X b')
    rcases hbD k (by simpa using hk) with ⟨_, e⟩ | e
    · cases e
    · exact e

/-- An empty slice is owned by whoever holds it. -/
theorem le_nil {A : Option Addr} (e esz by_ : Nat) : Le C ⟨N, SL, BL, OW, FA⟩ ⟨N, SL, BL, ⟨.slice A 0 0, none, e, esz, by_, 0, []⟩ :: OW, FA⟩ := fun a w hr =>
  ⟨hr.sz, hr.df, hr.sl, hr.wo.be, hr.wo.bl, fun q hq => (by
    cases hq with
    | head => exact ⟨by simp, by simp, rfl, A, rfl⟩
    | tail _ hq => exact hr.wo.ow q hq), hr.wo.nd, hr.wo.fa⟩

/-- What is owned is held fast: from now on it is only read. -/
theorem le_freeze {α : Type} (E : El α) (l : List α) {X : SlV} {n : Nat} {b : Option Nat} {e esz by_ : Nat} {xs : List Value} {ow' : List Own} (hu : UpdO OW ⟨X.val n, b, e, esz, by_, n, xs⟩ [] ow')
    (hn : n = l.length) (hx : xs = l.flatMap E.enc) (hes : esz = E.esz) (hby : by_ = E.by_) : Le C ⟨N, SL, BL, OW, FA⟩ ⟨N, SL, BL, ow', RdL E X l :: FA⟩ := by
  intro a w hr
  subst hn; subst hx; subst hes; subst hby
  have hl : ∀ e ∈ l, (E.enc e).length = E.esz := fun e _ => E.len e
  obtain ⟨p, r, rfl, rfl⟩ := hu.spec
  have hsub : (p ++ ([] ++ r)).Sublist (p ++ (⟨X.val l.length, b, e, E.esz, E.by_, l.length, l.flatMap E.enc⟩ : Own) :: r) := List.Sublist.append (List.Sublist.refl _) (List.sublist_cons_self _ _)
  have hi : (ids ⟨N, SL, BL, p ++ ([] ++ r), FA⟩).Sublist (ids ⟨N, SL, BL, p ++ (⟨X.val l.length, b, e, E.esz, E.by_, l.length, l.flatMap E.enc⟩ : Own) :: r, FA⟩) :=
    List.Sublist.append (List.Sublist.refl _) (hsub.filterMap _)
  refine ⟨hr.sz, hr.df, hr.sl, hr.wo.be, hr.wo.bl, fun q hq => hr.wo.ow q (hsub.subset hq), hi.nodup hr.wo.nd, fun F hF => ?_⟩
  have hM : ∀ k, Mset C ⟨N, SL, BL, p ++ ([] ++ r), RdL E X l :: FA⟩ k → Mset C ⟨N, SL, BL, p ++ (⟨X.val l.length, b, e, E.esz, E.by_, l.length, l.flatMap E.enc⟩ : Own) :: r, FA⟩ k := fun k hm => by
    rcases hm with hm | hm
    · exact .inl hm
    · exact .inr (hi.subset hm)
  cases hF with
  | tail _ hF =>
    have h1 := hr.wo.fa F hF
    exact ⟨h1.1, h1.1.st _ _ w w h1.2 ⟨Nat.le_refl _, fun _ _ _ => rfl⟩ fun k _ hm => hM k hm⟩
  | head =>
    refine ⟨inferInstance, ?_⟩
    have ho := hr.wo.ow ⟨X.val l.length, b, e, E.esz, E.by_, l.length, l.flatMap E.enc⟩ (by simp)
    obtain ⟨h1, h2, h3⟩ := ho
    simp only at h1 h2 h3
    cases b with
    | none =>
      obtain ⟨h0, A, hA⟩ := h3
      have hA : X.val l.length = .slice A 0 0 := hA
      simp only [SlV.val, Value.slice.injEq] at hA
      exact ⟨by omega, by omega, h2.2, fun hp => by omega⟩
    | some g =>
      obtain ⟨hg, cap, cur, hv, hh, hnc, hcap, hcs, htake⟩ := h3
      simp only [SlV.val, Value.slice.injEq, true_and] at hv
      obtain ⟨hva, hvc⟩ := hv
      refine ⟨by rw [hvc]; exact hnc, by rw [hvc]; exact hcap, h2.2, fun hp => ⟨⟨g, 0, none⟩, hva, heap_lt hh, fun hm => ?_, fun i hi' j v hv => ?_⟩⟩
      · rcases hm with hm | hm
        · rcases hg with hg | hg
          · have := C.hM g hm
            omega
          · exact (C.hB g hg).2 hm
        · have hnd := hr.wo.nd
          unfold ids at hnd hm
          simp only [List.nil_append] at hm
          rw [List.filterMap_append, List.filterMap_cons] at hnd
          simp only at hnd
          have hp2 : (BL.map (·.g) ++ (p.filterMap (·.b) ++ g :: r.filterMap (·.b))).Perm (g :: (BL.map (·.g) ++ (p.filterMap (·.b) ++ r.filterMap (·.b)))) := by
            rw [← List.append_assoc, ← List.append_assoc]
            exact List.perm_middle
          have := (List.nodup_cons.1 (hp2.nodup_iff.1 hnd)).1
          rw [List.filterMap_append] at hm
          exact this hm
      · rw [add_none]
        simp only [World.cell?, hh]
        have hfm := flatMap_len l hl
        obtain ⟨hjlt, _⟩ := List.getElem?_eq_some_iff.1 hv
        have hel := hl _ (List.getElem_mem hi')
        have hij : i * E.esz + j < l.length * E.esz := by
          have : (i + 1) * E.esz ≤ l.length * E.esz := Nat.mul_le_mul_right _ hi'
          rw [Nat.add_mul] at this
          omega
        have hflat : (l.flatMap E.enc)[i * E.esz + j]? = some v := flatMap_at l hl i hi' j v hv
        rw [← htake, List.getElem?_take, if_pos hij] at hflat
        simpa using hflat
end
end Go.Proofs.YtaiefncoholnnaaDoor.Fw

namespace Go.Proofs.YtaiefncoholnnaaDoor.Fw
open Go Go.RowKit

section
variable {P : Program} {T : Tab} {C : Cx} {ops : Array Oper} {o : Oper} {r r' : RS} {s : St} {Q : Post} {N : Nat} {SL : Slots} {BL : List Blk} {OW : List Own} {FA : List Pred} {c : Code}

/-! ### Plain consequences of facts -/
theorem cw_pure {φ : Prop} (pre : List Pred) (hpre : SubM FA pre) (hd : ∀ M w, AllF pre M w → φ) (h : φ → CW P T C c ⟨N, SL, BL, OW, FA⟩ Q) : CW P T C c ⟨N, SL, BL, OW, FA⟩ Q := fun hT a w hr =>
  h (hd (Mset C ⟨N, SL, BL, OW, FA⟩) w fun F hF => (hr.wo.fa F (hpre.mem F hF)).2) hT a w hr

theorem rw_pure {φ : Prop} (pre : List Pred) (hpre : SubM FA pre) (hd : ∀ M w, AllF pre M w → φ) (h : φ → RW P T C ops r ⟨N, SL, BL, OW, FA⟩ Q) : RW P T C ops r ⟨N, SL, BL, OW, FA⟩ Q := fun hT a w hr =>
  h (hd (Mset C ⟨N, SL, BL, OW, FA⟩) w fun F hF => (hr.wo.fa F (hpre.mem F hF)).2) hT a w hr

theorem allF1 {F : Pred} {M : Nat → Prop} {w : World} (h : AllF [F] M w) : F M w := h F (.head _)
theorem allF2 {F G : Pred} {M : Nat → Prop} {w : World} (h : AllF [F, G] M w) : F M w ∧ G M w := ⟨h F (.head _), h G (.tail _ (.head _))⟩

theorem RdL.nil_of {α : Type} {E : El α} {x : SlV} {l : List α} {M : Nat → Prop} {w : World} (h : RdL E x l M w) (hx : x.a.isNone = true) : l = [] := by
  obtain ⟨_, _, _, h4⟩ := h
  cases l with
  | nil => rfl
  | cons a l =>
    obtain ⟨ad, ha, _⟩ := h4 (by simp)
    rw [ha] at hx
    cases hx

theorem RdL.take {α : Type} {E : El α} {x : SlV} {l : List α} {M : Nat → Prop} {w : World} (h : RdL E x l M w) (k : Nat) : RdL E x (l.take k) M w := by
  obtain ⟨h1, h2, h3, h4⟩ := h
  refine ⟨by simp; omega, h2, Nat.le_trans (Nat.mul_le_mul_right _ (by simp; omega)) h3, fun hp => ?_⟩
  obtain ⟨ad, ha, hb, hm, hc⟩ := h4 (by simp at hp; omega)
  refine ⟨ad, ha, hb, hm, fun i hi j v hv => hc i (by simp at hi; omega) j v ?_⟩
  simpa using hv

/-- The address of a slice cut from the left. -/
def slA (A : Option Addr) (c k esz : Nat) : Option Addr := if c = k then A else A.map (·.add (k * esz))

theorem RdL.drop {α : Type} {E : El α} {x : SlV} {l : List α} {M : Nat → Prop} {w : World} (h : RdL E x l M w) (k : Nat) (hk : k ≤ l.length) : RdL E ⟨slA x.a x.c k E.esz, x.c - k⟩ (l.drop k) M w := by
  obtain ⟨h1, h2, h3, h4⟩ := h
  refine ⟨by simp; omega, by simp only []; omega, Nat.le_trans (Nat.mul_le_mul_right _ (by simp)) h3, fun hp => ?_⟩
  simp at hp
  obtain ⟨ad, ha, hb, hm, hc⟩ := h4 (by omega)
  refine ⟨ad.add (k * E.esz), by simp only [slA]; rw [if_neg (by omega), ha]; rfl, by rw [addr_block]; exact hb, by rw [addr_block]; exact hm, fun i hi j v hv => ?_⟩
  rw [addr_add_add, ← Nat.add_assoc, ← Nat.add_mul]
  simp at hi
  exact hc (k + i) (by omega) j v (by simpa using hv)

theorem RdL.nil {α : Type} (E : El α) (A : Option Addr) (c : Nat) (hc : c ≤ 9223372036854775807) (M : Nat → Prop) (w : World) : RdL E ⟨A, c⟩ [] M w := ⟨by simp, hc, by simp, by simp⟩

/-! ### A slice held against nil -/
theorem run_eqnil {t e : Nat} (hu : P.underlying t = some (.slice e)) (d : Nat) (A : Option Addr) (n c : Nat) (w : World) : (Op.equalIn (d + 1) t (.slice A n c) (.slice none 0 0)).run P w = .ok A.isNone w := by
  cases A <;> simp [Op.equalIn, run_underlying hu]

theorem q_eqnil {t t' e n c : Nat} {x : Operand} {g0 G : Bool} {A : Option Addr} (ho : o.op = .binOp .eql t x (.const (.slice none 0 0)) t') (he : ev SL x = some (g0, .slice A n c)) (hg0 : G = true → g0 = true) (ht : T.slc t = some e) : Quiet P T SL BL FA o G (.bool A.isNone) :=
  fun hT hG a w hsl _ => by
    have hx := ev_ok hsl he (hg0 hG)
    have hu := hT.slc _ _ ht
    have h1 : (Op.equal t (.slice A n c) (.slice none 0 0)).run P w = .ok A.isNone w := run_eqnil hu 9999 A n c w
    simp [execOp, ho, hx, eval_const, eqGuard, binOp, h1]

/-! ### Cuts -/
theorem addr_add0 (a : Addr) : a.add 0 = a := by simp [Addr.add]

theorem q_slhi {t e n c h esz : Nat} {x y : Operand} {g0 g1 G b : Bool} {A : Option Addr} {k : IntKind} {iv : Int} (ho : o.op = .slice t x none (some y) none) (he : ev SL x = some (g0, .slice A n c)) (hg0 : G = true → g0 = true)
    (hy : ev SL y = some (g1, .int k iv)) (hg1 : G = true → g1 = true) (ht : T.slc t = some e) (hz : T.siz e = some (esz, b)) (hi : G = true → iv = (h : Int)) (hle : G = true → h ≤ c) : Quiet P T SL BL FA o G (.slice A h c) :=
  fun hT hG a w hsl _ => by
    have hx := ev_ok hsl he (hg0 hG)
    have hy := ev_ok hsl hy (hg1 hG)
    have hu := hT.slc _ _ ht
    obtain ⟨ti, d, q1, q2, q3, q4⟩ := hT.siz _ _ _ hz
    have hi := hi hG
    have hle := hle hG
    subst hi
    simp only [execOp, ho, hx, Option.map_none, Option.map_some, hy, Instr.sliceAt, Sem.run_bind, run_underlying hu, Result.andThen_ok, Instr.slice, Instr.sliceBounds, Instr.sliceBound, asIntOf, Sem.run_pure]
    rw [if_pos (by omega)]
    simp only [Sem.run_pure, Result.andThen_ok, run_sizeOf' q1, Int.toNat_natCast, Nat.sub_zero, Nat.zero_mul]
    split
    · rfl
    · cases A <;> simp [addr_add0]

theorem q_sllo {t e n c k0 esz : Nat} {x y : Operand} {g0 g1 G b : Bool} {A : Option Addr} {k : IntKind} {iv : Int} (ho : o.op = .slice t x (some y) none none) (he : ev SL x = some (g0, .slice A n c)) (hg0 : G = true → g0 = true)
    (hy : ev SL y = some (g1, .int k iv)) (hg1 : G = true → g1 = true) (ht : T.slc t = some e) (hz : T.siz e = some (esz, b)) (hi : G = true → iv = (k0 : Int)) (hle : G = true → k0 ≤ n) : Quiet P T SL BL FA o G (.slice (slA A c k0 esz) (n - k0) (c - k0)) :=
  fun hT hG a w hsl _ => by
    have hx := ev_ok hsl he (hg0 hG)
    have hy := ev_ok hsl hy (hg1 hG)
    have hu := hT.slc _ _ ht
    obtain ⟨ti, d, q1, q2, q3, q4⟩ := hT.siz _ _ _ hz
    have hi := hi hG
    have hle := hle hG
    subst hi
    simp only [execOp, ho, hx, Option.map_none, Option.map_some, hy, Instr.sliceAt, Sem.run_bind, run_underlying hu, Result.andThen_ok, Instr.slice, Instr.sliceBounds, Instr.sliceBound, asIntOf, Sem.run_pure]
    rw [if_pos (by omega)]
    simp only [Sem.run_pure, Result.andThen_ok, run_sizeOf' q1, q2, Int.toNat_natCast, slA]

theorem q_sllh {t e n c k0 h esz : Nat} {x y y' : Operand} {g0 g1 g2 G b : Bool} {A : Option Addr} {k k' : IntKind} {iv iv' : Int} (ho : o.op = .slice t x (some y) (some y') none) (he : ev SL x = some (g0, .slice A n c)) (hg0 : G = true → g0 = true)
    (hy : ev SL y = some (g1, .int k iv)) (hg1 : G = true → g1 = true) (hy' : ev SL y' = some (g2, .int k' iv')) (hg2 : G = true → g2 = true) (ht : T.slc t = some e) (hz : T.siz e = some (esz, b)) (hi : G = true → iv = (k0 : Int)) (hi' : G = true → iv' = (h : Int)) (hle : G = true → k0 ≤ h) (hlc : G = true → h ≤ c) :
    Quiet P T SL BL FA o G (.slice (slA A c k0 esz) (h - k0) (c - k0)) :=
  fun hT hG a w hsl _ => by
    have hx := ev_ok hsl he (hg0 hG)
    have hy := ev_ok hsl hy (hg1 hG)
    have hy' := ev_ok hsl hy' (hg2 hG)
    have hu := hT.slc _ _ ht
    obtain ⟨ti, d, q1, q2, q3, q4⟩ := hT.siz _ _ _ hz
    have hi := hi hG
    have hi' := hi' hG
    have hle := hle hG
    have hlc := hlc hG
    subst hi; subst hi'
    simp only [execOp, ho, hx, Option.map_none, Option.map_some, hy, hy', Instr.sliceAt, Sem.run_bind, run_underlying hu, Result.andThen_ok, Instr.slice, Instr.sliceBounds, Instr.sliceBound, asIntOf, Sem.run_pure]
    rw [if_pos (by omega)]
    simp only [Sem.run_pure, Result.andThen_ok, Int.toNat_natCast]
    rw [if_pos (by omega)]
    simp only [Sem.run_pure, Result.andThen_ok, run_sizeOf' q1, q2, Int.toNat_natCast, slA]

/-! ### Structs held against each other -/
def flatEq : List Value → List Value → Bool
  | .int _ a :: l, .int _ b :: r => (a == b) && flatEq l r
  | .bool a :: l, .bool b :: r => (a == b) && flatEq l r
  | _, _ => true

/-- Each cell an int64 (true) or a bool (false). -/
def kindsOk : List Bool → List Value → Bool
  | [], [] => true
  | true :: ks, .int .i64 _ :: l => kindsOk ks l
  | false :: ks, .bool _ :: l => kindsOk ks l
  | _, _ => false

def eqKs (P : Program) (f : TypeId → Option (List Bool)) : List Field → Nat → Option (List Bool)
  | [], _ => some []
  | fd :: fs, off => match fd.name == "_", Nat.beq fd.offset off, f fd.type, P.info? fd.type with
    | false, true, some ks, some ti => match Nat.beq ks.length ti.size, eqKs P f fs (off + ks.length) with
      | true, some r => some (ks ++ r)
      | _, _ => none
    | _, _, _, _ => none

/-- The cells' kinds of a type of ints and bools. -/
def eqK (P : Program) : Nat → TypeId → Option (List Bool)
  | 0, _ => none
  | d + 1, t => match P.underlying t with
    | some (.int .i64) => some [true]
    | some .bool => some [false]
    | some (.struct fs) => match P.stoodInHeld t, P.eqGuardType P.depth t with
      | false, false => eqKs P (eqK P d) fs.toList 0
      | _, _ => none
    | _ => none

theorem kindsOk_length : ∀ {ks : List Bool} {l : List Value}, kindsOk ks l = true → l.length = ks.length
  | [], [], _ => rfl
  | true :: ks, .int .i64 n :: l, h => by simp only [kindsOk] at h; simp [kindsOk_length h]
  | false :: ks, .bool n :: l, h => by simp only [kindsOk] at h; simp [kindsOk_length h]

theorem kindsOk_append : ∀ {ks ks' : List Bool} {l : List Value}, kindsOk (ks ++ ks') l = true → kindsOk ks (l.take ks.length) = true ∧ kindsOk ks' (l.drop ks.length) = true
  | [], _, l, h => by simpa [kindsOk] using h
  | true :: ks, ks', .int .i64 n :: l, h => by simp only [List.cons_append, kindsOk] at h; simpa [kindsOk] using kindsOk_append h
  | false :: ks, ks', .bool n :: l, h => by simp only [List.cons_append, kindsOk] at h; simpa [kindsOk] using kindsOk_append h

theorem flatEq_append : ∀ {ks : List Bool} {a b a' b' : List Value}, kindsOk ks a = true → kindsOk ks b = true → flatEq (a ++ a') (b ++ b') = (flatEq a b && flatEq a' b')
  | [], [], [], _, _, _, _ => by simp [flatEq]
  | true :: ks, .int .i64 n :: l, .int .i64 m :: r, _, _, h, h' => by
    simp only [kindsOk] at h h'
    simp [flatEq, flatEq_append h h', Bool.and_assoc]
  | false :: ks, .bool n :: l, .bool m :: r, _, _, h, h' => by
    simp only [kindsOk] at h h'
    simp [flatEq, flatEq_append h h', Bool.and_assoc]

theorem kinds_int : ∀ {x : Value}, kindsOk [true] [x] = true → ∃ n, x = .int .i64 n
  | .int .i64 n, _ => ⟨n, rfl⟩
theorem kinds_bool : ∀ {x : Value}, kindsOk [false] [x] = true → ∃ n, x = .bool n
  | .bool n, _ => ⟨n, rfl⟩

theorem run_part_one {t n : Nat} {d : TypeDesc} (hu : P.underlying t = some d) (hd : aggD d = false) {cs : Array Value} {off : Nat} {v : Value} (h : cs[off]? = some v) (w : World) : (part t cs off).run P w = .ok v w := by
  simp [part, Sem.run_bind, run_isAgg' hu, hd, h]

theorem eqK_ok (w : World) : ∀ (d : Nat) (t : TypeId) (ks : List Bool), eqK P d t = some ks → ∀ (k : Nat) (xs ys : List Value), kindsOk ks xs = true → kindsOk ks ys = true →
    (∀ fs, P.underlying t = some (.struct fs) → (Op.equalIn (k + d) t (.agg ⟨xs⟩) (.agg ⟨ys⟩)).run P w = .ok (flatEq xs ys) w) ∧
    ((∀ fs, P.underlying t ≠ some (.struct fs)) → ∃ dd x y, P.underlying t = some dd ∧ aggD dd = false ∧ xs = [x] ∧ ys = [y] ∧ (Op.equalIn (k + d) t x y).run P w = .ok (flatEq xs ys) w) := by
  intro d
  induction d with
  | zero => intro t ks h; simp [eqK] at h
  | succ d ih =>
    intro t ks h k xs ys hx hy
    simp only [eqK] at h
    cases hu : P.underlying t with
    | none => simp [hu] at h
    | some dd =>
      refine ⟨fun fs hfs => ?_, fun hns => ?_⟩
      · cases hfs
        simp only [hu] at h
        split at h
        · rename_i hs hg
          have hrun : (Op.equalIn (k + (d + 1)) t (.agg ⟨xs⟩) (.agg ⟨ys⟩)).run P w = (Op.eqFields (k + d) ⟨xs⟩ ⟨ys⟩ fs.toList).run P w := by
            have := run_equalIn_struct (P := P) w (k + d) t ⟨xs⟩ ⟨ys⟩ (by simp [Program.fieldsOf, hu]) hs
            simpa [Program.fieldsOf, hu, Nat.add_assoc] using this
          rw [hrun]
          -- the fields, one after the other
          have key : ∀ (fs : List Field) (off : Nat) (ks : List Bool), eqKs P (eqK P d) fs off = some ks → kindsOk ks (xs.drop off) = true → kindsOk ks (ys.drop off) = true →
              (Op.eqFields (k + d) ⟨xs⟩ ⟨ys⟩ fs).run P w = .ok (flatEq (xs.drop off) (ys.drop off)) w := by
            intro fs
            induction fs with
            | nil =>
              intro off ks h1 h2 h3
              simp only [eqKs, Option.some.injEq] at h1
              subst h1
              have e1 := List.eq_nil_of_length_eq_zero (kindsOk_length h2)
              have e2 := List.eq_nil_of_length_eq_zero (kindsOk_length h3)
              simp [Op.eqFields, e1, e2, flatEq]
            | cons f fs ihf =>
              intro off ks h1 h2 h3
              simp only [eqKs] at h1
              split at h1
              · rename_i ks1 ti hn ho hk hi
                split at h1
                · rename_i rks hl hr
                  simp only [Option.some.injEq] at h1
                  subst h1
                  have ho := Nat.eq_of_beq_eq_true ho
                  have hl := Nat.eq_of_beq_eq_true hl
                  obtain ⟨a1, a2⟩ := kindsOk_append h2
                  obtain ⟨b1, b2⟩ := kindsOk_append h3
                  rw [List.drop_drop] at a2 b2
                  have ih2 := ihf (off + ks1.length) rks hr a2 b2
                  have hname : f.name ≠ "_" := by simpa using hn
                  have hfl : flatEq (xs.drop off) (ys.drop off) = (flatEq ((xs.drop off).take ks1.length) ((ys.drop off).take ks1.length) && flatEq (xs.drop (off + ks1.length)) (ys.drop (off + ks1.length))) := by
                    have e1 := List.take_append_drop ks1.length (xs.drop off)
                    have e2 := List.take_append_drop ks1.length (ys.drop off)
                    rw [List.drop_drop] at e1 e2
                    rw [← flatEq_append a1 b1, e1, e2]
                  obtain ⟨c1, c2⟩ := ih f.type ks1 hk k _ _ a1 b1
                  have hpe : ∃ x y, (part f.type ⟨xs⟩ f.offset).run P w = .ok x w ∧ (part f.type ⟨ys⟩ f.offset).run P w = .ok y w ∧
                      (Op.equalIn (k + d) f.type x y).run P w = .ok (flatEq ((xs.drop off).take ks1.length) ((ys.drop off).take ks1.length)) w := by
                    by_cases hst : ∃ fs', P.underlying f.type = some (.struct fs')
                    · obtain ⟨fs', hfs'⟩ := hst
                      refine ⟨_, _, ?_, ?_, c1 fs' hfs'⟩
                      · simp only [part, Sem.run_bind, run_isAgg' hfs', Result.andThen_ok, aggD, if_true, run_sizeOf' hi, Sem.run_pure, ho, ← hl]
                        congr 2
                        apply Array.ext'
                        simp [List.extract]
                      · simp only [part, Sem.run_bind, run_isAgg' hfs', Result.andThen_ok, aggD, if_true, run_sizeOf' hi, Sem.run_pure, ho, ← hl]
                        congr 2
                        apply Array.ext'
                        simp [List.extract]
                    · obtain ⟨dd, x, y, q1, q2, q3, q4, q5⟩ := c2 fun fs' h => hst ⟨fs', h⟩
                      have hlen1 : ks1.length = 1 := by have := kindsOk_length a1; rw [q3] at this; simpa using this.symm
                      refine ⟨x, y, run_part_one (n := 0) q1 q2 ?_ w, run_part_one (n := 0) q1 q2 ?_ w, q5⟩
                      · have : ((xs.drop off).take ks1.length)[0]? = some x := by rw [q3]; rfl
                        rw [hlen1] at this
                        simpa [ho] using this
                      · have : ((ys.drop off).take ks1.length)[0]? = some y := by rw [q4]; rfl
                        rw [hlen1] at this
                        simpa [ho] using this
                  obtain ⟨x, y, p1, p2, p3⟩ := hpe
                  simp only [Op.eqFields, hname, ne_eq, not_false_eq_true, if_true, Sem.run_bind, p1, p2, p3, Result.andThen_ok, Sem.run_ite, Sem.run_pure]
                  rw [hfl]
                  cases hv : flatEq ((xs.drop off).take ks1.length) ((ys.drop off).take ks1.length) with
                  | false => simp
                  | true => simp [ih2]
                · cases h1
              · cases h1
          simpa using key fs.toList 0 ks h (by simpa using hx) (by simpa using hy)
        · cases h
      · have hone : ∀ b : Bool, ks = [b] → ∃ x y, xs = [x] ∧ ys = [y] := by
          intro b hb
          subst hb
          have h1 := kindsOk_length hx
          have h2 := kindsOk_length hy
          match xs, ys, h1, h2 with
          | [x], [y], _, _ => exact ⟨x, y, rfl, rfl⟩
        cases dd with
        | int kd =>
          cases kd <;> simp [hu] at h
          subst h
          obtain ⟨x, y, rfl, rfl⟩ := hone _ rfl
          obtain ⟨n1, rfl⟩ := kinds_int hx
          obtain ⟨n2, rfl⟩ := kinds_int hy
          exact ⟨_, _, _, rfl, rfl, rfl, rfl, by rw [show k + (d + 1) = (k + d) + 1 by omega]; simp [Op.equalIn, run_underlying hu, flatEq]⟩
        | bool =>
          simp [hu] at h
          subst h
          obtain ⟨x, y, rfl, rfl⟩ := hone _ rfl
          obtain ⟨n1, rfl⟩ := kinds_bool hx
          obtain ⟨n2, rfl⟩ := kinds_bool hy
          exact ⟨_, _, _, rfl, rfl, rfl, rfl, by rw [show k + (d + 1) = (k + d) + 1 by omega]; simp [Op.equalIn, run_underlying hu, flatEq]⟩
        | struct fs => exact absurd rfl (hns fs)
        | _ => simp [hu] at h
end
end Go.Proofs.YtaiefncoholnnaaDoor.Fw

namespace Go.Proofs.YtaiefncoholnnaaDoor.Fw
open Go Go.RowKit

section
variable {P : Program} {T : Tab} {C : Cx} {ops : Array Oper} {o : Oper} {r r' : RS} {s : St} {Q : Post} {N : Nat} {SL : Slots} {BL : List Blk} {OW : List Own} {FA : List Pred} {c : Code}

def isStr : Option TypeDesc → Bool | some (.struct _) => true | _ => false

/-- A struct type of ints and bools: the cells' kinds. -/
def EqT (P : Program) (t : TypeId) (ks : List Bool) : Prop := eqK P 20 t = some ks ∧ isStr (P.underlying t) = true

theorem run_eqT {t : TypeId} {ks : List Bool} (h : EqT P t ks) {xs ys : List Value} (hx : kindsOk ks xs = true) (hy : kindsOk ks ys = true) (w : World) :
    (Op.equal t (.agg ⟨xs⟩) (.agg ⟨ys⟩)).run P w = .ok (flatEq xs ys) w ∧ P.eqGuardType P.depth t = false := by
  obtain ⟨h1, h2⟩ := h
  cases hu : P.underlying t with
  | none => simp [hu, isStr] at h2
  | some dd =>
    cases dd <;> simp [hu, isStr] at h2
    rename_i fs
    refine ⟨((eqK_ok (P := P) w 20 t ks h1 9980 xs ys hx hy).1 fs hu), ?_⟩
    have h3 := h1
    rw [eqK] at h3
    simp only [hu] at h3
    split at h3
    · assumption
    · cases h3

theorem q_eqs {t t' : TypeId} {ks : List Bool} {x y : Operand} {g0 g1 G : Bool} {xs ys : List Value} (hE : EqT P t ks) (ho : o.op = .binOp .eql t x y t') (he : ev SL x = some (g0, .agg ⟨xs⟩)) (hg0 : G = true → g0 = true)
    (hy : ev SL y = some (g1, .agg ⟨ys⟩)) (hg1 : G = true → g1 = true) (hkx : kindsOk ks xs = true) (hky : kindsOk ks ys = true) : Quiet P T SL BL FA o G (.bool (flatEq xs ys)) :=
  fun _ hG a w hsl _ => by
    have h1 := ev_ok hsl he (hg0 hG)
    have h2 := ev_ok hsl hy (hg1 hG)
    obtain ⟨h3, h4⟩ := run_eqT (P := P) hE hkx hky w
    have h5 := run_eqGuard_agg (P := P) w .eql t x y ⟨xs⟩ ⟨ys⟩ h4
    simp only [execOp, ho, h1, h2, Sem.run_bind, h5, Result.andThen_ok, binOp, h3, Sem.run_pure]

theorem q_nes {t t' : TypeId} {ks : List Bool} {x y : Operand} {g0 g1 G : Bool} {xs ys : List Value} (hE : EqT P t ks) (ho : o.op = .binOp .neq t x y t') (he : ev SL x = some (g0, .agg ⟨xs⟩)) (hg0 : G = true → g0 = true)
    (hy : ev SL y = some (g1, .agg ⟨ys⟩)) (hg1 : G = true → g1 = true) (hkx : kindsOk ks xs = true) (hky : kindsOk ks ys = true) : Quiet P T SL BL FA o G (.bool (!flatEq xs ys)) :=
  fun _ hG a w hsl _ => by
    have h1 := ev_ok hsl he (hg0 hG)
    have h2 := ev_ok hsl hy (hg1 hG)
    obtain ⟨h3, h4⟩ := run_eqT (P := P) hE hkx hky w
    have h5 := run_eqGuard_agg (P := P) w .neq t x y ⟨xs⟩ ⟨ys⟩ h4
    simp only [execOp, ho, h1, h2, Sem.run_bind, h5, Result.andThen_ok, binOp, h3, Sem.run_pure]

/-! ### A call through a function value -/
theorem exec_callv (hT : TabOk T P) {f : FuncId} {x : Operand} {xs : Array Operand} {ts : Array TypeId} {caps : List Value} (ho : o.op = .call ⟨.value x, xs, ts⟩) (hf : T.fnb f = true) {a : Act} {g0 g : Bool} {vs : List Value} (hsl : SlotsOk SL a)
    (hx : ev SL x = some (g0, .func (.func f) #[] ⟨caps⟩)) (hg0 : g0 = true) (he : evs SL xs.toList = some (g, vs)) (hg : g = true) (w : World) : (execOp a.eval o).run P w = .ok (.enter f (vs ++ caps).toArray) w := by
  have hv := evs_ok hsl he hg
  have hc := ev_ok hsl hx hg0
  have : xs.map a.eval = vs.toArray := by apply Array.ext'; simp [hv]
  have h2 : vs.toArray ++ (⟨caps⟩ : Array Value) = (vs ++ caps).toArray := by apply Array.ext'; simp
  simp [execOp, ho, resolve, hc, Deferred.ofValue, invoke, this, run_call hT hf, h2]

theorem rw_callv {D : List Nat} {d : Nat} {f : FuncId} {x : Operand} {xs : Array Operand} {ts : Array TypeId} {g0 g : Bool} {vs caps args : List Value} {pre : List Pred} {X : Type} {val : X → Value} {post : X → List Pred}
    (hS : Does P f args pre val post) (hfr : Front ops r o D r') (hg : Guard ops SL o true) (hd : o.dst = some d) (hn : Nat.blt d N = true) (ho : o.op = .call ⟨.value x, xs, ts⟩) (hx : ev SL x = some (g0, .func (.func f) #[] ⟨caps⟩)) (hg0 : g0 = true) (hf : T.fnb f = true)
    (he : evs SL xs.toList = some (g, vs)) (hgt : g = true) (ha : args = vs ++ caps) (hpre : SubM FA pre)
    (h : ∀ x, RW P T C ops r' ⟨N, (d, .v (val x)) :: SL, BL, OW, post x ++ FA⟩ Q) : RW P T C ops r ⟨N, SL, BL, OW, FA⟩ Q := by
  refine rw_l hfr hg (K := fun s' => ∃ x, s' = ⟨N, (d, .v (val x)) :: SL, BL, OW, post x ++ FA⟩) ?_ (fun s' ⟨x, e⟩ => by subst e; exact h x)
  intro hT a w hrep
  subst ha
  refine call_wp hS (exec_callv hT ho hf hrep.sl hx hg0 he hgt w) hd hrep hpre.mem (RB := BL) (RO := OW) (.refl _) (.refl _) fun x w' hw hk => ?_
  exact ⟨_, ⟨x, rfl⟩, hrep.putv (Nat.le_of_ble_eq_true hn) (x := .v (val x)) (u := val x) rfl ⟨hw.be, hw.bl, hw.ow, hw.nd, hw.fa⟩, hk.mono (by simp [Lent.ids])⟩

/-! ### A variable that nobody writes any more -/
def VarP (g : Nat) (cs : List Value) : Pred := fun M w => (∃ t, w.heap[g]? = some (.cells cs.toArray t (0, 0))) ∧ ¬ M g

instance (g : Nat) (cs : List Value) : Stab (VarP g cs) where
  st M M' w w' h hx hM := by
    obtain ⟨⟨t, ht⟩, hm⟩ := h
    have := heap_lt ht
    exact ⟨⟨t, (hx.2 g this hm).trans ht⟩, fun h => hm (hM g this h)⟩

theorem le_var {g : Nat} {t : TypeId} {cs : List Value} {bl' : List Blk} (hp : Pick ⟨g, t, cs⟩ BL bl') : Le C ⟨N, SL, BL, OW, FA⟩ ⟨N, SL, bl', OW, VarP g cs :: FA⟩ := by
  intro a w hr
  have hperm := hp.perm
  have hi : (ids ⟨N, SL, BL, OW, FA⟩).Perm (g :: ids ⟨N, SL, bl', OW, VarP g cs :: FA⟩) := (hperm.map (·.g)).append_right _
  have hnd := (List.nodup_cons.1 (hi.nodup_iff.1 hr.wo.nd))
  have hM : ∀ k, Mset C ⟨N, SL, bl', OW, VarP g cs :: FA⟩ k → Mset C ⟨N, SL, BL, OW, FA⟩ k := fun k hm => by
    rcases hm with hm | hm
    · exact .inl hm
    · exact .inr (hi.symm.subset (.tail _ hm))
  have hB := hr.wo.bl ⟨g, t, cs⟩ (hperm.symm.subset (.head _))
  refine ⟨hr.sz, hr.df, hr.sl, hr.wo.be, fun k hk => hr.wo.bl k (hperm.symm.subset (.tail _ hk)), hr.wo.ow, hnd.2, fun F hF => ?_⟩
  cases hF with
  | head =>
    refine ⟨inferInstance, ⟨t, hB.1⟩, fun hm => ?_⟩
    rcases hm with hm | hm
    · have h1 := C.hM g hm
      have h2 := hB.2
      rcases h2 with h2 | h2
      · simp only at h2
        omega
      · exact (C.hB g h2).2 hm
    · exact hnd.1 hm
  | tail _ hF =>
    have h1 := hr.wo.fa F hF
    exact ⟨h1.1, h1.1.st _ _ w w h1.2 ⟨Nat.le_refl _, fun _ _ _ => rfl⟩ fun k _ hm => hM k hm⟩

theorem q_lf1 {t : Nat} {x : Operand} {g0 G : Bool} {g n off : Nat} {cs : List Value} {v : Value} (ho : o.op = .load t x)
    (he : ev SL x = some (g0, .pointer (some ⟨g, off, none⟩))) (hg0 : G = true → g0 = true) (hs : T.siz t = some (n, false)) (hm : VarP g cs ∈ FA) (hv : cs[off]? = some v) : Quiet P T SL BL FA o G v :=
  q_load_gen ho he hg0 fun hT _ w hw => run_loadVar_one hT hs (by
    obtain ⟨_, ⟨t, ht⟩, _⟩ := hw.fa _ hm
    rw [blk_cell ht]; exact hv)

theorem q_lfA {t : Nat} {x : Operand} {g0 G : Bool} {g n : Nat} {cs : List Value} (ho : o.op = .load t x)
    (he : ev SL x = some (g0, .pointer (some ⟨g, 0, none⟩))) (hg0 : G = true → g0 = true) (hs : T.siz t = some (n, true)) (hm : VarP g cs ∈ FA) (hl : cs.length = n) : Quiet P T SL BL FA o G (.agg ⟨cs⟩) :=
  q_load_gen ho he hg0 fun hT _ w hw => by
    obtain ⟨_, ⟨t', ht⟩, _⟩ := hw.fa _ hm
    refine run_loadVar_agg hT hs hl fun j v hj => ?_
    rw [add_none, Nat.zero_add, blk_cell ht]
    exact hj

/-! ### A slice written out -/
theorem WOk.allocO {w : World} (h : WOk C ⟨N, SL, BL, OW, FA⟩ w) (e esz by_ n : Nat) (cs : List Value) (hl : cs.length = n * esz) (hn : n ≤ 9223372036854775807) (hnb : n * by_ ≤ 140737488355328) :
    WOk C ⟨N, SL, BL, ⟨.slice (some ⟨w.heap.size, 0, none⟩) n n, some w.heap.size, e, esz, by_, n, cs⟩ :: OW, FA⟩ { w with heap := w.heap.push (.cells cs.toArray e) } := by
  have hb : Below w.heap.size w { w with heap := w.heap.push (.cells cs.toArray e) } :=
    ⟨rfl, rfl, rfl, by simp, fun k hk => by simp only; rw [Array.getElem?_push, if_neg (by omega)]⟩
  have hg := h.grow hb
  refine ⟨hg.be, hg.bl, ?_, ?_, ?_⟩
  · intro q hq
    cases hq with
    | head => exact ⟨hl, ⟨hn, hnb⟩, .inl h.be.size, n, cs.toArray, rfl, by simp, Nat.le_refl _, hn, by simpa using hl, by simp [← hl]⟩
    | tail _ hq => exact hg.ow q hq
  · have hp : (BL.map (·.g) ++ w.heap.size :: OW.filterMap (·.b)).Perm (w.heap.size :: (BL.map (·.g) ++ OW.filterMap (·.b))) := List.perm_middle
    exact hp.nodup_iff.2 (List.nodup_cons.2 ⟨fun hm => Nat.lt_irrefl _ (ids_lt h hm).1, h.nd⟩)
  · intro F hF
    refine ⟨(h.fa F hF).1, (h.fa F hF).1.st _ _ w _ (h.fa F hF).2 ⟨hb.size, fun k hk _ => hb.block k hk⟩ fun k hk hm => ?_⟩
    rcases hm with hm | hm
    · exact .inl hm
    · have hp : (BL.map (·.g) ++ w.heap.size :: OW.filterMap (·.b)).Perm (w.heap.size :: (BL.map (·.g) ++ OW.filterMap (·.b))) := List.perm_middle
      rcases List.mem_cons.1 (hp.subset hm) with e | e
      · omega
      · exact .inr e

def zerosL (z : List Value) (n : Nat) : List Value := (List.range n).map fun i => (z[i % z.length]?).getD undef

theorem rw_bslice {D : List Nat} {d t e esz by_ n : Nat} {b g : Bool} {parts : List (Nat × Operand)} {vs : List (Nat × Value)} {z cs : List Value} (hf : Front ops r o D r') (hg : Guard ops SL o true) (hd : o.dst = some d) (hn : Nat.blt d N = true) (ho : o.op = .buildSlice t n ⟨parts⟩)
    (ht : T.slc t = some e) (hz : T.siz e = some (esz, b)) (hzz : T.zer e = some z) (hzl : z.length = esz) (hby : T.byt e = some by_) (hnb : Nat.ble (n * by_) 140737488355328 = true) (hpos : Nat.blt 0 esz = true) (he : evp SL parts = some (g, vs)) (hgt : g = true) (hfill : fillL ((List.range n).map fun i => (i * esz, esz)) (zerosL z (n * esz)) vs = some cs) (hcl : cs.length = n * esz) (hsm : Nat.ble (n * esz) 16777216 = true)
    (h : ∀ (X : SlV) (b' : Option Nat), RW P T C ops r' ⟨N, (d, .v (X.val n)) :: SL, BL, ⟨X.val n, b', e, esz, by_, n, cs⟩ :: OW, FA⟩ Q) : RW P T C ops r ⟨N, SL, BL, OW, FA⟩ Q :=
  rw_val hf hg hd hn (K := fun u bl ow fa => ∃ (X : SlV) (b' : Option Nat), u = X.val n ∧ bl = BL ∧ ow = ⟨X.val n, b', e, esz, by_, n, cs⟩ :: OW ∧ fa = FA)
    (fun hT a w hrep => by
      obtain ⟨ti, dd, q1, q2, q3, q4⟩ := hT.siz _ _ _ hz
      obtain ⟨ti', zv, p1, p2, p3⟩ := hT.zer _ _ hzz
      have hsm := Nat.le_of_ble_eq_true hsm
      have hpos : 0 < esz := Nat.le_of_ble_eq_true hpos
      have hns : n ≤ n * esz := Nat.le_mul_of_pos_right _ hpos
      refine ⟨.slice (some ⟨w.heap.size, 0, none⟩) n n, _, BL, _, FA, ?_, hrep.wo.allocO e esz by_ n cs hcl (by omega) (Nat.le_of_ble_eq_true hnb), keeps_push _ _ _, ⟨some ⟨w.heap.size, 0, none⟩, n⟩, some w.heap.size, rfl, rfl, rfl, rfl⟩
      have hv := evp_ok hrep.sl he hgt
      have hvs : ((⟨parts⟩ : Array (Nat × Operand)).map fun (i, x) => (i, a.eval x)).toList = vs := by rw [← hv]; simp
      simp only [execOp, ho, Instr.buildSlice, Sem.run_bind, run_underlying (hT.slc _ _ ht), Result.andThen_ok, run_sizeOf' q1, q2]
      rw [if_neg (by omega)]
      have hfl : ∀ zs : Array Value, zs.toList = zerosL z (n * esz) → Instr.fill (fun i => some (i * esz, esz)) zs vs = some cs.toArray := by
        intro zs hzs
        have key : ∀ (vs : List (Nat × Value)) (cs0 r : List Value), fillL ((List.range n).map fun i => (i * esz, esz)) cs0 vs = some r → Instr.fill (fun i => some (i * esz, esz)) cs0.toArray vs = some r.toArray := by
          intro vs
          induction vs with
          | nil => intro cs0 r h; simp [fillL] at h; simp [Instr.fill, h]
          | cons p vs ih =>
            intro cs0 r h
            obtain ⟨i, v⟩ := p
            simp only [fillL] at h
            split at h
            · cases h
            · rename_i off sz hi
              have hoff : off = i * esz ∧ sz = esz := by
                simp only [List.getElem?_map] at hi
                cases hri : (List.range n)[i]? with
                | none => simp [hri] at hi
                | some k =>
                  simp [hri] at hi
                  have := List.getElem?_eq_some_iff.1 hri
                  obtain ⟨h1, h2⟩ := this
                  simp at h2
                  exact ⟨by rw [← hi.1, ← h2], hi.2.symm⟩
              obtain ⟨rfl, rfl⟩ := hoff
              split at h
              · rename_i h1 h2
                have h1 := Nat.eq_of_beq_eq_true h1
                have h2 := Nat.le_of_ble_eq_true h2
                simp only [Instr.fill]
                have h1' : v.cells.size = sz := by simpa using h1
                rw [if_neg (by simp [h1']; omega)]
                have := ih _ _ h
                rw [← this]
                congr 1
                apply Array.ext'
                rw [← Array.foldl_toList, Array.toList_zipIdx]
                exact fold_putAt v.cells.toList cs0.toArray 0 (i * sz)
              · cases h
        have hz2 : zs = (zerosL z (n * esz)).toArray := by apply Array.ext'; simp [hzs]
        rw [hz2]
        exact key vs _ _ hfill
      by_cases h0 : n * esz = 0
      · rw [if_pos h0]
        simp only [Sem.run_bind, Sem.run_pure, Result.andThen_ok, hvs]
        have hz0 : ∀ z : Array Value, (Array.range (n * esz)).map (fun x => z[x % z.size]!) = #[] := fun z => by rw [h0]; simp
        rw [hz0, hfl #[] (by simp [h0, zerosL])]
        simp [newRow]
      · rw [if_neg h0]
        simp only [Sem.run_bind, run_zero' p1 p2, Result.andThen_ok, Sem.run_pure, hvs]
        rw [hfl _ (by
          simp only [Array.toList_map, Array.toList_range, zerosL]
          refine List.map_congr_left fun i hi => ?_
          have hzs : zv.cells.size = z.length := by rw [← p3]; simp
          have hlt : i % z.length < z.length := Nat.mod_lt _ (by omega)
          rw [hzs, getElem!_pos zv.cells (i % z.length) (by omega)]
          have hlt' : i % z.length < zv.cells.size := by omega
          have hg : zv.cells.toList[i % z.length]? = some (zv.cells[i % z.length]'hlt') := by
            rw [Array.getElem?_toList]
            exact Array.getElem?_eq_getElem hlt'
          rw [p3] at hg
          rw [hg]
          rfl)]
        simp [newRow])
    (fun u bl ow fa ⟨X, b', e1, e2, e3, e4⟩ => by subst e1; subst e2; subst e3; subst e4; exact h X b')
end
end Go.Proofs.YtaiefncoholnnaaDoor.Fw

namespace Go.Proofs.YtaiefncoholnnaaDoor.Fw
open Go Go.RowKit Go.ChangeShapes Go.WideShapes Go.Deep

section
variable {H : Type} {enc : TypeId × Value → H} {P : Program} {w : World} {base : Nat} {spare : Nat → Bool} {held : Bool}

/-! ### What comes in, opened -/
theorem kindsOk_app : ∀ {a b : List Bool} {x y : List Value}, kindsOk a x = true → kindsOk b y = true → kindsOk (a ++ b) (x ++ y) = true
  | [], _, [], _, _, h => by simpa using h
  | true :: a, b, .int .i64 n :: x, y, h, h' => by simp only [kindsOk] at h; simpa [kindsOk] using kindsOk_app h h'
  | false :: a, b, .bool n :: x, y, h, h' => by simp only [kindsOk] at h; simpa [kindsOk] using kindsOk_app h h'

theorem eqKs_len {f : TypeId → Option (List Bool)} : ∀ {fs : List Field} {off : Nat} {ks : List Bool}, eqKs P f fs off = some ks → ∀ (cs : List Value), cs.length = off + ks.length →
    (∀ (fd : Field), fd ∈ fs → ∀ ks', f fd.type = some ks' → P.cellsOf fd.type = ks'.length → kindsOk ks' ((cs.drop fd.offset).take (P.cellsOf fd.type)) = true) → kindsOk ks (cs.drop off) = true
  | [], off, ks, h, cs, hl, _ => by
    simp only [eqKs, Option.some.injEq] at h
    subst h
    have : cs.drop off = [] := List.drop_eq_nil_of_le (by simpa using Nat.le_of_eq hl)
    rw [this]; rfl
  | fd :: fs, off, ks, h, cs, hl, hf => by
    simp only [eqKs] at h
    split at h
    · rename_i ks1 ti hn ho hk hi
      split at h
      · rename_i rks hb hr
        simp only [Option.some.injEq] at h
        subst h
        have ho := Nat.eq_of_beq_eq_true ho
        have hb := Nat.eq_of_beq_eq_true hb
        have hc : P.cellsOf fd.type = ks1.length := by simp [Program.cellsOf, hi, hb]
        have h1 := hf fd (.head _) ks1 hk hc
        rw [ho, hc] at h1
        have ih := eqKs_len hr cs (by rw [hl]; simp [Nat.add_assoc]) (fun fd' hm => hf fd' (.tail _ hm))
        have e : cs.drop off = (cs.drop off).take ks1.length ++ cs.drop (off + ks1.length) := by
          have := List.take_append_drop ks1.length (cs.drop off)
          rw [List.drop_drop] at this
          exact this.symm
        rw [e]
        exact kindsOk_app h1 ih
      · cases h
    · cases h

theorem kinds_of_trod : ∀ (d : Nat) (t : TypeId) (ks : List Bool), eqK P d t = some ks → P.cellsOf t = ks.length → ∀ (fuel : Nat) (cs : List Value) (x : DataW H × List MemPlace),
    DataW.trod enc P w base spare held fuel t cs = some x → kindsOk ks cs = true := by
  intro d
  induction d with
  | zero => intro t ks h; simp [eqK] at h
  | succ d ih =>
    intro t ks h hc fuel cs x hx
    simp only [eqK] at h
    cases hu : P.underlying t with
    | none => simp [hu] at h
    | some dd =>
      cases dd with
      | int kd =>
        cases kd <;> simp [hu] at h
        subst h
        obtain ⟨n, rfl, _⟩ := DataW.trod_int hu hx
        rfl
      | bool =>
        simp [hu] at h
        subst h
        obtain ⟨b, rfl, _⟩ := DataW.trod_bool hu hx
        rfl
      | struct fs =>
        simp only [hu] at h
        split at h
        · obtain ⟨xs, n, rfl, _, hlen, hxl, hf⟩ := DataW.trod_struct hu hx
          have := eqKs_len (P := P) h cs (by rw [hlen, hc]; simp) (fun fd hfd ks' hk' hc' => by
            obtain ⟨i, hi, hfi⟩ := List.getElem_of_mem hfd
            have hfi' : fs[i]? = some fd := by rw [← Array.getElem?_toList, List.getElem?_eq_getElem hi, hfi]
            have h1 := hf i fd hfi'
            have hilt : i < xs.length := by rw [hxl]; simpa using hi
            rw [List.getElem?_eq_getElem hilt] at h1
            exact ih fd.type ks' hk' hc' n _ _ h1)
          simpa using this
        · cases h
      | _ => simp [hu] at h

/-- Rows of cells that read as elements. -/
structure Encs {α : Type} (ks : List Bool) (encα : α → List Value) : Prop where
  on : ∀ a, kindsOk ks (encα a) = true
  to : ∀ cs, kindsOk ks cs = true → ∃ a, encα a = cs

theorem kinds_one : ∀ {ks : List Bool} {l : List Value}, kindsOk ks l = true → ∀ u ∈ l, u.oneCell' = true
  | [], [], _, u, hu => by cases hu
  | true :: ks, .int .i64 n :: l, h, u, hu => by
    simp only [kindsOk] at h
    rcases List.mem_cons.1 hu with rfl | hu
    · rfl
    · exact kinds_one h u hu
  | false :: ks, .bool n :: l, h, u, hu => by
    simp only [kindsOk] at h
    rcases List.mem_cons.1 hu with rfl | hu
    · rfl
    · exact kinds_one h u hu

theorem choose_list {α : Type} {n : Nat} {p : Nat → α → Prop} (h : ∀ i, i < n → ∃ a, p i a) : ∃ l : List α, l.length = n ∧ ∀ (i : Nat) (hi : i < l.length), p i l[i] := by
  induction n with
  | zero => exact ⟨[], rfl, fun i hi => absurd hi (by simp)⟩
  | succ n ih =>
    obtain ⟨l, hl, hp⟩ := ih fun i hi => h i (by omega)
    obtain ⟨a, ha⟩ := h n (by omega)
    refine ⟨l ++ [a], by simp [hl], fun i hi => ?_⟩
    by_cases hlt : i < l.length
    · rw [List.getElem_append_left hlt]; exact hp i hlt
    · have : i = n := by simp [hl] at hi; omega
      subst this
      rw [List.getElem_append_right (by omega)]
      simp [hl]
      exact ha

/-- A slice of flat elements, opened. -/
theorem open_rd {α : Type} {E : El α} {ks : List Bool} {t e by_ : TypeId} {fuel : Nat} {cs : List Value} {x : DataW H × List MemPlace} (hE : Encs ks E.enc) (hby' : E.by_ = by_) (ht : P.underlying t = some (.slice e)) (he : eqK P 20 e = some ks) (hc : P.cellsOf e = ks.length)
    (hpos : 0 < ks.length) (hby : P.bytesOf e = by_) (h : DataW.trod enc P w 0 (fun _ => true) true fuel t cs = some x) (hsz : (x.1.weights P t).all (· ≤ reachBytes) = true) :
    ∃ (X : SlV) (l : List α), cs = [X.val l.length] ∧ RdL E X l (fun _ => False) w := by
  subst hby'
  rcases open_slice ht h with ⟨rfl, _⟩ | ⟨a, len, cap, m, n, D, Pl, rfl, _, hlc, hcm, hm, hx, hi⟩
  · exact ⟨⟨none, 0⟩, [], rfl, RdL.nil E none 0 (by omega) _ _⟩
  · simp only [if_true] at hm
    have hrow : ∀ i, i < len → ∃ a0 : α, ∀ (j : Nat) (v : Value), (E.enc a0)[j]? = some v → w.cell? (a.add (i * ks.length + j)) = some v := by
      intro i hil
      obtain ⟨cs', hcs, htr⟩ := hi i (by omega)
      have hk := kinds_of_trod 20 e ks he hc _ _ _ htr
      obtain ⟨a0, rfl⟩ := hE.to cs' hk
      obtain ⟨_, hl, hat⟩ := World.cells?_some hcs
      refine ⟨a0, fun j v hv => ?_⟩
      obtain ⟨hlt, _⟩ := List.getElem?_eq_some_iff.1 hv
      have := hat j (by omega)
      rw [hc, addr_add_add] at this
      rw [this, hv]
    obtain ⟨l, hl, hp⟩ := choose_list hrow
    have hbound : l.length * E.by_ ≤ 140737488355328 := by
      subst hx
      rw [List.all_eq_true] at hsz
      have := hsz ((len + (m - len)) * E.by_) (by simp [DataW.weights, ht, hby])
      have h2 : l.length * E.by_ ≤ (len + (m - len)) * E.by_ := Nat.mul_le_mul_right _ (by omega)
      have h3 : reachBytes ≤ 140737488355328 := by decide
      simp at this
      omega
    refine ⟨⟨some a, cap⟩, l, by rw [hl]; rfl, ⟨by rw [hl]; exact hlc, by simpa [maxLen] using hcm, hbound, fun hpl => ⟨a, rfl, ?_, fun h => h, fun i hi j v hv => by rw [show E.esz = ks.length by rw [← E.len l[i], kindsOk_length (hE.on l[i])]]; exact hp i hi j v hv⟩⟩⟩
    · have h0 := hp 0 hpl
      have hle := kindsOk_length (hE.on l[0])
      have := h0 0 _ (List.getElem?_eq_getElem (by omega))
      have hcell := this
      unfold World.cell? at hcell
      rw [addr_block] at hcell
      cases hh : w.heap[a.block]? with
      | none => simp [hh] at hcell
      | some ob => exact heap_lt hh
end

/-! ### The row's step of a law -/
section
variable {H : Type} {enc : TypeId × Value → H} {P : Program}

theorem trodAll_below (hl : laidOutB P = true) {W W' : World} (hb : Below W.heap.size W W') : ∀ {ts : List TypeId} {vs : List Value} {ds : List (DataW H)} {ps : List MemPlace},
    (∀ t ∈ ts, P.readableRec t = true ∧ t < P.types.size) → DataW.TrodAll enc P W 0 (fun _ => true) true ts vs ds ps → (∀ x ∈ ps, x.block < W.heap.size) → DataW.TrodAll enc P W' 0 (fun b => decide (b < W.heap.size)) true ts vs ds ps
  | [], [], [], _, _, h, _ => h
  | t :: ts, v :: vs, d :: ds, ps, hr, h, hlt => by
    obtain ⟨p, q, h1, h2, rfl⟩ := h
    exact ⟨p, q, Below.trod hl (hr t (.head _)).1 (hr t (.head _)).2 h1 hb (fun x hx => hlt x (List.mem_append_left _ hx)), trodAll_below hl hb (fun t' ht' => hr t' (.tail _ ht')) h2 (fun x hx => hlt x (List.mem_append_right _ hx)), rfl⟩
  | [], _ :: _, _, _, _, h, _ => by simp [DataW.TrodAll] at h
  | [], [], _ :: _, _, _, h, _ => by simp [DataW.TrodAll] at h
  | _ :: _, [], _, _, _, h, _ => by simp [DataW.TrodAll] at h
  | _ :: _, _ :: _, [], _, _, h, _ => by simp [DataW.TrodAll] at h

theorem law_step {f : FuncId} {fn : Func} {s : ChangeSpec} {bt : TypeId} (hl : laidOutB P = true) (hvars : s.vars = []) (hb : P.underlying bt = some .bool) (hres : fn.resultTypes = #[bt]) (hpar : fn.params.toList.all (fun t => P.readableRec t && decide (t < P.types.size)) = true)
    {W : World} {args : Array Value} {ds gs : List (DataW H)} {before : List MemPlace} (hW : DataW.Whole enc P fn.params.toList s.vars false W args.toList ds gs before) (hs : s.fn H (ds ++ gs) = { results := [.lit (.bool true)], args := ds })
    (hcall : Calls P f args W fun e W' => e = .returned (.bool true) ∧ Below W.heap.size W W') :
    Calls P f args W fun e W' => ∃ v, e = .returned v ∧ s.post enc P fn false true false false W args v W' := by
  refine hcall.mono fun e W' ⟨he, hbw⟩ => ⟨_, he, ?_⟩
  have hW' := hW
  obtain ⟨p, q, hA, hV, rfl, hfz, _⟩ := hW'
  rw [hvars] at hV
  obtain ⟨rfl, rfl⟩ := trodVars_none hV
  have hlt : ∀ x ∈ p, x.block < W.heap.size := fun x hx => hW.lt x (List.mem_append_left _ hx)
  have hpar' : ∀ t ∈ fn.params.toList, P.readableRec t = true ∧ t < P.types.size := fun t ht => by
    have := List.all_eq_true.1 hpar t ht
    simpa using this
  refine ⟨ds, [], p ++ [], [], p, [], hW, ?_, ?_, ?_, hbw.frame _, fun h => by cases h⟩
  · rw [hs, hres]
    exact ⟨[], [], ⟨1, by simp [DataW.trod, hb, Value.cells, Value.resultList]⟩, rfl, rfl⟩
  · rw [hs]
    exact trodAll_below hl hbw hpar' hA hlt
  · rw [hs, hvars]
    exact rfl
end
end Go.Proofs.YtaiefncoholnnaaDoor.Fw

namespace Go.Proofs.YtaiefncoholnnaaDoor.Fw
open Go Go.RowKit

section
variable {P : Program} {T : Tab} {C : Cx} {ops : Array Oper} {o : Oper} {r r' : RS} {s : St} {Q : Post} {N : Nat} {SL : Slots} {BL : List Blk} {OW : List Own} {FA : List Pred} {c : Code}

theorem ra_three {fp : Nat → Option (List Nat)} {fuel : Nat} {listed : Array Bool} (i j k : Nat) (hr : Region.ready .any ops listed = [i, j, k]) (h : RW P T C ops (.at_ fp fuel listed i) s Q) (h' : RW P T C ops (.at_ fp fuel listed j) s Q) (h'' : RW P T C ops (.at_ fp fuel listed k) s Q) : RW P T C ops (.an fp (fuel + 1) listed) s Q := fun hT a w hrep =>
  ⟨by rw [hr]; simp, by
    rw [hr]; intro m hm
    rcases List.mem_cons.1 hm with rfl | hm
    · exact h hT a w hrep
    · rcases List.mem_cons.1 hm with rfl | hm
      · exact h' hT a w hrep
      · rw [List.mem_singleton] at hm; subst hm; exact h'' hT a w hrep⟩

theorem eq_of_bne_false {α : Type} [BEq α] [LawfulBEq α] {a b : α} (h : (a != b) = false) : a = b := by simpa using h

/-! ### Ways that meet again -/
def joinQ {ι : Type} (C : Cx) (J : ι → St) (inv : ι → Prop) (Q : Post) : Post
  | .normal, s' => ∃ i, inv i ∧ Le C s' (J i)
  | e, s' => Q e s'

theorem cw_joinQ {ι : Type} (J : ι → St) (inv : ι → Prop) {y : Code} (h : CW P T C c s (joinQ C J inv Q)) (hj : ∀ i, inv i → CW P T C y (J i) Q) : CW P T C c s (thenQ P T C y Q) := fun hT a w hr =>
  Code.wp_mono (fun e a w hq => by
    cases e with
    | normal => obtain ⟨s', ⟨i, h1, h2⟩, h3⟩ := hq; exact ⟨s', cw_le h2 (hj i h1), h3⟩
    | exit i => exact hq
    | ret => exact hq
    | goto l => exact hq.elim
    | panic c => exact hq.elim
    | outgrown => exact hq.elim) (h hT a w hr)

/-- Ways that meet again: some slots and blocks stay, the others are told. -/
theorem cw_join {ι : Type} (keep : List Nat) (mask : List Bool) (mS : ι → Slots) (mB : ι → List Blk) (mO : ι → List Own) (mF : ι → List Pred) (inv : ι → Prop) {y : Code} {SL' : Slots} {BL' : List Blk}
    (_hsel : Sel SL keep SL') (_hB : SelB BL mask BL')
    (h : CW P T C c ⟨N, SL, BL, OW, FA⟩ (joinQ C (fun i => ⟨N, mS i ++ SL', mB i ++ BL', mO i, mF i ++ FA⟩) inv Q))
    (hj : ∀ i, inv i → CW P T C y ⟨N, mS i ++ SL', mB i ++ BL', mO i, mF i ++ FA⟩ Q) : CW P T C c ⟨N, SL, BL, OW, FA⟩ (thenQ P T C y Q) :=
  cw_joinQ _ inv h hj

/-! ### Owned slices, as lists -/
abbrev ownL {α : Type} (E : El α) (e : TypeId) (X : SlV) (b : Option Nat) (l : List α) : Own := ⟨X.val l.length, b, e, E.esz, E.by_, l.length, l.flatMap E.enc⟩

theorem le_nilL {α : Type} (E : El α) (e : TypeId) : Le C ⟨N, SL, BL, OW, FA⟩ ⟨N, SL, BL, ownL E e ⟨none, 0⟩ none ([] : List α) :: OW, FA⟩ := le_nil e E.esz E.by_

theorem le_freezeL {α : Type} (E : El α) (e : TypeId) (X : SlV) (b : Option Nat) (l : List α) {ow' : List Own} (hu : UpdO OW (ownL E e X b l) [] ow') : Le C ⟨N, SL, BL, OW, FA⟩ ⟨N, SL, BL, ow', RdL E X l :: FA⟩ :=
  le_freeze E l hu rfl rfl rfl rfl

theorem reads_ownL {α : Type} {E : El α} {e : TypeId} {X : SlV} {b : Option Nat} {l : List α} (hm : ownL E e X b l ∈ OW) : Reads ⟨N, SL, BL, OW, FA⟩ C E.esz (X.val l.length) l.length (l.flatMap E.enc) :=
  reads_own (q := ownL E e X b l) hm fun u hu => by
    obtain ⟨a, _, ha⟩ := List.mem_flatMap.1 hu
    exact E.one a u ha

theorem reads_rdL {α : Type} {E : El α} {X : SlV} {l : List α} (hm : RdL E X l ∈ FA) : Reads ⟨N, SL, BL, OW, FA⟩ C E.esz (X.val l.length) l.length (l.flatMap E.enc) :=
  reads_rd hm rfl rfl

theorem rw_appendL {α : Type} (E : El α) (l m : List α) {e : TypeId} {X : SlV} {b : Option Nat} {d t : Nat} {x y : Operand} {g0 g1 : Bool} {v : Value} {z : List Value} {agg : Bool} {ow' : SlV → Option Nat → List Own} {D : List Nat} (hf : Front ops r o D r') (hbD : ∀ g, b = some g → (∃ l, r = .sq l) ∨ g ∈ D) (hg : Guard ops SL o true) (hd : o.dst = some d) (hn : Nat.blt d N = true)
    (ho : o.op = .call ⟨.builtin .append, ⟨[x, y]⟩, ⟨[t, t]⟩⟩) (hx : ev SL x = some (g0, X.val l.length)) (hg0 : g0 = true) (hy : ev SL y = some (g1, v)) (hg1 : g1 = true)
    (hu : ∀ (X' : SlV) b', UpdO OW (ownL E e X b l) [ownL E e X' b' (l ++ m)] (ow' X' b'))
    (ht : T.slc t = some e) (hz : T.siz e = some (E.esz, agg)) (hzz : T.zer e = some z) (hzl : z.length = E.esz) (hby : T.byt e = some E.by_) (hpos : Nat.blt 0 E.esz = true) (hbp : Nat.blt 0 E.by_ = true)
    (hr : Reads ⟨N, SL, BL, OW, FA⟩ C E.esz v m.length (m.flatMap E.enc)) (hb : (l.length + m.length) * E.by_ ≤ 140737488355328)
    (h : ∀ (X' : SlV) (b' : Option Nat), RW P T C ops r' ⟨N, (d, .v (X'.val (l ++ m).length)) :: SL, BL, ow' X' b', FA⟩ Q) : RW P T C ops r ⟨N, SL, BL, OW, FA⟩ Q := by
  have e1 : (l ++ m).length = l.length + m.length := by simp
  have e2 : (l ++ m).flatMap E.enc = l.flatMap E.enc ++ m.flatMap E.enc := by simp
  have hbp := Nat.le_of_ble_eq_true hbp
  have h63 : l.length + m.length ≤ 9223372036854775807 := by
    have := Nat.le_mul_of_pos_right (l.length + m.length) hbp
    omega
  refine rw_append (q := ownL E e X b l) (ow' := ow') hf hbD hg hd hn ho hx hg0 hy hg1 (fun X' b' => ?_) ht hz hzz hzl hby hpos hr hb h63 (fun X' b' => ?_)
  · have := hu X' b'
    rw [ownL, ownL, e1, e2] at this
    exact this
  · have := h X' b'
    rw [e1] at this
    exact this

theorem rw_bsliceL {α : Type} (E : El α) (l : List α) {D : List Nat} {d t e n : Nat} {b g : Bool} {parts : List (Nat × Operand)} {vs : List (Nat × Value)} {z : List Value} (hf : Front ops r o D r') (hg : Guard ops SL o true) (hd : o.dst = some d) (hn : Nat.blt d N = true) (ho : o.op = .buildSlice t n ⟨parts⟩)
    (ht : T.slc t = some e) (hz : T.siz e = some (E.esz, b)) (hzz : T.zer e = some z) (hzl : z.length = E.esz) (hby : T.byt e = some E.by_) (hnb : Nat.ble (n * E.by_) 140737488355328 = true) (hpos : Nat.blt 0 E.esz = true) (he : evp SL parts = some (g, vs)) (hgt : g = true) (hnl : n = l.length) (hfill : fillL ((List.range n).map fun i => (i * E.esz, E.esz)) (zerosL z (n * E.esz)) vs = some (l.flatMap E.enc)) (hsm : Nat.ble (n * E.esz) 16777216 = true)
    (h : ∀ (X : SlV) (b' : Option Nat), RW P T C ops r' ⟨N, (d, .v (X.val l.length)) :: SL, BL, ownL E e X b' l :: OW, FA⟩ Q) : RW P T C ops r ⟨N, SL, BL, OW, FA⟩ Q := by
  subst hnl
  exact rw_bslice hf hg hd hn ho ht hz hzz hzl hby hnb hpos he hgt hfill (flatMap_len l fun a _ => E.len a) hsm h

/-! ### Cuts of what reads as a list -/
theorem q_take {α : Type} (E : El α) {l : List α} {X : SlV} (h : Nat) {t e esz : Nat} {x y : Operand} {g0 g1 G b : Bool} {k : IntKind} {iv : Int} (ho : o.op = .slice t x none (some y) none) (he : ev SL x = some (g0, X.val l.length)) (hg0 : G = true → g0 = true)
    (hy : ev SL y = some (g1, .int k iv)) (hg1 : G = true → g1 = true) (ht : T.slc t = some e) (hz : T.siz e = some (esz, b)) (hm : RdL E X l ∈ FA) (hi : G = true → iv = (h : Int)) (hle : G = true → h ≤ l.length) : Quiet P T SL BL FA o G (X.val (l.take h).length) :=
  fun hT hG a w hsl hw => by
    obtain ⟨_, hrd⟩ := hw.fa _ hm
    have h1 := hrd.1
    have h2 := hle hG
    have e1 : (l.take h).length = h := by simp; omega
    rw [e1]
    exact q_slhi (P := P) (BL := BL) (FA := FA) ho he hg0 hy hg1 ht hz hi (fun _ => by omega) hT hG a w hsl hw

theorem q_drop {α : Type} (E : El α) {l : List α} {X : SlV} (k0 : Nat) {t e esz : Nat} {x y : Operand} {g0 g1 G b : Bool} {k : IntKind} {iv : Int} (ho : o.op = .slice t x (some y) none none) (he : ev SL x = some (g0, X.val l.length)) (hg0 : G = true → g0 = true)
    (hy : ev SL y = some (g1, .int k iv)) (hg1 : G = true → g1 = true) (ht : T.slc t = some e) (hz : T.siz e = some (esz, b)) (hi : G = true → iv = (k0 : Int)) (hle : G = true → k0 ≤ l.length) : Quiet P T SL BL FA o G ((⟨slA X.a X.c k0 esz, X.c - k0⟩ : SlV).val (l.drop k0).length) :=
  fun hT hG a w hsl hw => by
    have e1 : (l.drop k0).length = l.length - k0 := by simp
    rw [e1]
    exact q_sllo (P := P) (BL := BL) (FA := FA) ho he hg0 hy hg1 ht hz hi hle hT hG a w hsl hw

theorem le_fact (F : Pred) [hF : Stab F] (pre : List Pred) (hpre : SubM FA pre) (hd : ∀ M w, AllF pre M w → F M w) : Le C ⟨N, SL, BL, OW, FA⟩ ⟨N, SL, BL, OW, F :: FA⟩ := fun a w hr =>
  ⟨hr.sz, hr.df, hr.sl, hr.wo.be, hr.wo.bl, hr.wo.ow, hr.wo.nd, fun G hG => by
    cases hG with
    | head => exact ⟨hF, hd _ _ fun F hF => (hr.wo.fa F (hpre.mem F hF)).2⟩
    | tail _ hG => exact hr.wo.fa G hG⟩

theorem q_lfP {t : Nat} {x : Operand} {g0 G : Bool} {g n off : Nat} {cs : List Value} (ho : o.op = .load t x)
    (he : ev SL x = some (g0, .pointer (some ⟨g, off, none⟩))) (hg0 : G = true → g0 = true) (hs : T.siz t = some (n, true)) (hm : VarP g cs ∈ FA) (hl : Nat.ble (off + n) cs.length = true) : Quiet P T SL BL FA o G (.agg ⟨subL cs off n⟩) :=
  q_load_gen ho he hg0 fun hT _ w hw => by
    obtain ⟨_, ⟨t', ht⟩, _⟩ := hw.fa _ hm
    have hle := Nat.le_of_ble_eq_true hl
    refine run_loadVar_agg hT hs (by simp [subL]; omega) fun j v hj => ?_
    rw [add_none, blk_cell ht, ← hj]
    simp only [subL, List.getElem?_take, List.getElem?_drop]
    rw [if_pos]
    obtain ⟨hlt, _⟩ := List.getElem?_eq_some_iff.1 hj
    simp [subL] at hlt
    omega

/-! ### Operations more -/
theorem q_dead {v : Value} {G : Bool} (e : G = false) : Quiet P T SL BL FA o G v := fun _ hG => by rw [e] at hG; cases hG
theorem q_is {v v' : Value} {G : Bool} (h : Quiet P T SL BL FA o G v) (e : v = v') : Quiet P T SL BL FA o G v' := e ▸ h

theorem q_eqE {t t' : TypeId} {ks : List Bool} {x y : Operand} {g0 g1 G b : Bool} {xs ys : List Value} (hE : EqT P t ks) (hb : flatEq xs ys = b) (ho : o.op = .binOp .eql t x y t') (he : ev SL x = some (g0, .agg ⟨xs⟩)) (hg0 : G = true → g0 = true)
    (hy : ev SL y = some (g1, .agg ⟨ys⟩)) (hg1 : G = true → g1 = true) (hkx : kindsOk ks xs = true) (hky : kindsOk ks ys = true) : Quiet P T SL BL FA o G (.bool b) :=
  hb ▸ q_eqs hE ho he hg0 hy hg1 hkx hky
theorem q_neE {t t' : TypeId} {ks : List Bool} {x y : Operand} {g0 g1 G b : Bool} {xs ys : List Value} (hE : EqT P t ks) (hb : flatEq xs ys = b) (ho : o.op = .binOp .neq t x y t') (he : ev SL x = some (g0, .agg ⟨xs⟩)) (hg0 : G = true → g0 = true)
    (hy : ev SL y = some (g1, .agg ⟨ys⟩)) (hg1 : G = true → g1 = true) (hkx : kindsOk ks xs = true) (hky : kindsOk ks ys = true) : Quiet P T SL BL FA o G (.bool (!b)) :=
  hb ▸ q_nes hE ho he hg0 hy hg1 hkx hky

theorem run_eqb {t : Nat} (hu : P.underlying t = some .bool) (d : Nat) (a b : Bool) (w : World) : (Op.equalIn (d + 1) t (.bool a) (.bool b)).run P w = .ok (a == b) w := by
  simp [Op.equalIn, run_underlying hu]
theorem q_eqb {t t' : Nat} {x y : Operand} {g0 g1 G : Bool} {a b : Bool} (hu : P.underlying t = some .bool) (ho : o.op = .binOp .eql t x y t') (he : ev SL x = some (g0, .bool a)) (hg0 : G = true → g0 = true)
    (hy : ev SL y = some (g1, .bool b)) (hg1 : G = true → g1 = true) : Quiet P T SL BL FA o G (.bool (a == b)) :=
  fun _ hG a' w hsl _ => by
    have h1 := ev_ok hsl he (hg0 hG)
    have h2 := ev_ok hsl hy (hg1 hG)
    have h3 : (Op.equal t (.bool a) (.bool b)).run P w = .ok (a == b) w := run_eqb hu 9999 a b w
    simp [execOp, ho, h1, h2, eqGuard, binOp, h3]
theorem q_neb {t t' : Nat} {x y : Operand} {g0 g1 G : Bool} {a b : Bool} (hu : P.underlying t = some .bool) (ho : o.op = .binOp .neq t x y t') (he : ev SL x = some (g0, .bool a)) (hg0 : G = true → g0 = true)
    (hy : ev SL y = some (g1, .bool b)) (hg1 : G = true → g1 = true) : Quiet P T SL BL FA o G (.bool (!(a == b))) :=
  fun _ hG a' w hsl _ => by
    have h1 := ev_ok hsl he (hg0 hG)
    have h2 := ev_ok hsl hy (hg1 hG)
    have h3 : (Op.equal t (.bool a) (.bool b)).run P w = .ok (a == b) w := run_eqb hu 9999 a b w
    simp [execOp, ho, h1, h2, eqGuard, binOp, h3]

theorem q_rem {t t' : Nat} {x y : Operand} {g0 g1 G : Bool} {a b : Int} (ho : o.op = .binOp .rem t x y t') (he : ev SL x = some (g0, .int .i64 a)) (hg0 : G = true → g0 = true)
    (hy : ev SL y = some (g1, .int .i64 b)) (hg1 : G = true → g1 = true) (hb : G = true → b ≠ 0) : Quiet P T SL BL FA o G (.int .i64 (a.tmod b)) :=
  fun hT hG a' w hsl hw => by
    have h1 := ev_ok hsl he (hg0 hG)
    have h2 := ev_ok hsl hy (hg1 hG)
    simp [execOp, ho, h1, h2, eqGuard, binOp, Op.intDiv, hb hG]

theorem q_max {ts : Array TypeId} {x y : Operand} {g0 g1 G : Bool} {a b : Int} (ho : o.op = .call ⟨.builtin .max, ⟨[x, y]⟩, ts⟩) (he : ev SL x = some (g0, .int .i64 a)) (hg0 : G = true → g0 = true)
    (hy : ev SL y = some (g1, .int .i64 b)) (hg1 : G = true → g1 = true) : Quiet P T SL BL FA o G (.int .i64 (if b > a then b else a)) :=
  fun hT hG a' w hsl hw => by
    have h1 := ev_ok hsl he (hg0 hG)
    have h2 := ev_ok hsl hy (hg1 hG)
    simp [execOp, ho, resolve, invoke, builtin, h1, h2, Builtin.max_, Builtin.max2]

theorem q_min {ts : Array TypeId} {x y : Operand} {g0 g1 G : Bool} {a b : Int} (ho : o.op = .call ⟨.builtin .min, ⟨[x, y]⟩, ts⟩) (he : ev SL x = some (g0, .int .i64 a)) (hg0 : G = true → g0 = true)
    (hy : ev SL y = some (g1, .int .i64 b)) (hg1 : G = true → g1 = true) : Quiet P T SL BL FA o G (.int .i64 (if b < a then b else a)) :=
  fun hT hG a' w hsl hw => by
    have h1 := ev_ok hsl he (hg0 hG)
    have h2 := ev_ok hsl hy (hg1 hG)
    simp [execOp, ho, resolve, invoke, builtin, h1, h2, Builtin.min_, Builtin.min2]

theorem q_conv {t t' : Nat} {x : Operand} {g0 G : Bool} {a : Int} (hd : P.underlying t = some (.int .i64)) (hd' : P.underlying t' = some (.int .i64)) (ho : o.op = .convert t t' x) (he : ev SL x = some (g0, .int .i64 a)) (hg0 : G = true → g0 = true)
    (hb : G = true → -9223372036854775808 ≤ a ∧ a ≤ 9223372036854775807) : Quiet P T SL BL FA o G (.int .i64 a) :=
  fun hT hG a' w hsl hw => by
    have h1 := ev_ok hsl he (hg0 hG)
    have h3 := wrap_in a (hb hG)
    simp only [execOp, ho, h1, Sem.run_bind, convert, run_underlying hd, run_underlying hd', Result.andThen_ok, Conv.intToInt, h3, Sem.run_pure]
end
end Go.Proofs.YtaiefncoholnnaaDoor.Fw

namespace Go.Proofs.YtaiefncoholnnaaDoor.Fw
open Go Go.RowKit Go.ChangeShapes Go.WideShapes Go.Deep

/-! ### Arguments, opened -/
section
variable {P : Program}

/-- Whatever reads as data of this type has these cells, and these facts hold. -/
structure Opens (P : Program) (t : TypeId) {α A : Type} (cells : α → A → List Value) (facts : α → A → List Pred) : Prop where
  op : ∀ {H : Type} (enc : TypeId × Value → H) (w : World) (fuel : Nat) (cs : List Value) (x : DataW H × List MemPlace), DataW.trod enc P w 0 (fun _ => true) true fuel t cs = some x → (x.1.weights P t).all (· ≤ reachBytes) = true →
    ∃ a s, cs = cells a s ∧ ∀ F ∈ facts a s, F (fun _ => False) w

theorem opens_int {t : TypeId} (h : P.underlying t = some (.int .i64)) : Opens P t (fun (n : Int) (_ : Unit) => [.int .i64 n]) (fun _ _ => []) := .mk fun enc w fuel cs x hx _ => by
  obtain ⟨n, rfl, _⟩ := DataW.trod_int h hx
  exact ⟨n, (), rfl, by simp⟩
theorem opens_bool {t : TypeId} (h : P.underlying t = some .bool) : Opens P t (fun (b : Bool) (_ : Unit) => [.bool b]) (fun _ _ => []) := .mk fun enc w fuel cs x hx _ => by
  obtain ⟨n, rfl, _⟩ := DataW.trod_bool h hx
  exact ⟨n, (), rfl, by simp⟩
theorem opens_flat {α : Type} (E : El α) {ks : List Bool} {t : TypeId} (hE : Encs ks E.enc) (he : eqK P 20 t = some ks) (hc : P.cellsOf t = ks.length) : Opens P t (fun (a : α) (_ : Unit) => E.enc a) (fun _ _ => []) := .mk fun enc w fuel cs x hx _ => by
  obtain ⟨a, ha⟩ := hE.to cs (kinds_of_trod 20 t ks he hc fuel cs x hx)
  exact ⟨a, (), ha.symm, by simp⟩
theorem opens_slice {α : Type} (E : El α) {ks : List Bool} {t e : TypeId} (hE : Encs ks E.enc) (ht : P.underlying t = some (.slice e)) (he : eqK P 20 e = some ks) (hc : P.cellsOf e = ks.length) (hpos : Nat.blt 0 ks.length = true) (hby : P.bytesOf e = E.by_) :
    Opens P t (fun (l : List α) (X : SlV) => [X.val l.length]) (fun l X => [RdL E X l]) := .mk fun enc w fuel cs x hx hs => by
  obtain ⟨X, l, h1, h2⟩ := open_rd hE rfl ht he hc (Nat.le_of_ble_eq_true hpos) hby hx hs
  exact ⟨l, X, h1, fun F hF => by rw [List.mem_singleton] at hF; subst hF; exact h2⟩
theorem opens_intslice {t e : TypeId} (E : El Int) (hE : ∀ n, E.enc n = [.int .i64 n]) (hes : E.esz = 1) (ht : P.underlying t = some (.slice e)) (he : P.underlying e = some (.int .i64)) (hc : P.cellsOf e = 1) (hby : P.bytesOf e = E.by_) :
    Opens P t (fun (l : List Int) (X : SlV) => [X.val l.length]) (fun l X => [RdL E X l]) :=
  opens_slice E (ks := [true]) ⟨fun a => by rw [hE]; rfl, fun cs h => by
    match cs, h with
    | [.int .i64 n], _ => exact ⟨n, hE n⟩⟩ ht (by simp [eqK, he]) hc rfl hby

structure OpensF (P : Program) (fs : List Field) (off tot : Nat) {α A : Type} (cells : α → A → List Value) (facts : α → A → List Pred) : Prop where
  op : ∀ {H : Type} (enc : TypeId × Value → H) (w : World) (n : Nat) (cs : List Value) (xs : List (DataW H × List MemPlace)), xs.length = fs.length →
    (∀ (i : Nat) (f : Field), fs[i]? = some f → DataW.trod enc P w 0 (fun _ => true) true n f.type ((cs.drop f.offset).take (P.cellsOf f.type)) = xs[i]?) →
    (DataW.weightsEach P (fs.map (·.type)) (xs.map (·.1))).all (· ≤ reachBytes) = true → cs.length = off + tot → ∃ a s, cs.drop off = cells a s ∧ ∀ F ∈ facts a s, F (fun _ => False) w

theorem opensF_nil {off : Nat} : OpensF P [] off 0 (fun (_ : Unit) (_ : Unit) => []) (fun _ _ => [])  := .mk fun _ _ _ cs _ _ _ _ hl => ⟨(), (), List.drop_eq_nil_of_le (by omega), by simp⟩

theorem opensF_cons {α A β B : Type} {f : Field} {fs : List Field} {off n1 tot : Nat} {c1 : α → A → List Value} {f1 : α → A → List Pred} {c2 : β → B → List Value} {f2 : β → B → List Pred} {t : TypeId} (h : Opens P t c1 f1) (ht : f.type = t) (ho : f.offset = off) (hn : P.cellsOf t = n1)
    (hr : OpensF P fs (off + n1) tot c2 f2) : OpensF P (f :: fs) off (n1 + tot) (fun (a : α × β) (s : A × B) => c1 a.1 s.1 ++ c2 a.2 s.2) (fun a s => f1 a.1 s.1 ++ f2 a.2 s.2) := by
  subst ht
  refine ⟨?_⟩
  intro H enc w n cs xs hxl hf hs hl
  cases xs with
  | nil => simp at hxl
  | cons x xs =>
    simp only [List.map_cons, DataW.weightsEach, List.all_append, Bool.and_eq_true] at hs
    have h0 := hf 0 f rfl
    simp only [List.getElem?_cons_zero] at h0
    obtain ⟨a, s, e1, g1⟩ := h.op enc w n _ x h0 hs.1
    obtain ⟨b, s', e2, g2⟩ := hr.op enc w n cs xs (by simpa using hxl) (fun i g hg => by simpa using hf (i + 1) g (by simpa using hg)) hs.2 (by rw [hl]; omega)
    refine ⟨(a, b), (s, s'), ?_, fun F hF => ?_⟩
    · simp only
      rw [← e1, ← e2, ho, hn]
      have := List.take_append_drop n1 (cs.drop off)
      rw [List.drop_drop] at this
      exact this.symm
    · rcases List.mem_append.1 hF with hF | hF
      · exact g1 F hF
      · exact g2 F hF

theorem opens_struct {α A : Type} {t tot : Nat} {fs : Array Field} {c : α → A → List Value} {f : α → A → List Pred} (hu : P.underlying t = some (.struct fs)) (hc : P.cellsOf t = tot) (hF : OpensF P fs.toList 0 tot c f) : Opens P t c f := .mk fun enc w fuel cs x hx hs => by
  obtain ⟨xs, n, rfl, rfl, hlen, hxl, hf⟩ := DataW.trod_struct hu hx
  simp only [DataW.weights, hu] at hs
  obtain ⟨a, s, h1, h2⟩ := hF.op enc w n cs xs (by rw [hxl]; simp) (fun i g hg => hf i g (by rw [← Array.getElem?_toList]; exact hg)) hs (by rw [hlen, hc]; omega)
  exact ⟨a, s, by simpa using h1, h2⟩

theorem Opens.map {α A β B : Type} {t : TypeId} {c : α → A → List Value} {f : α → A → List Pred} (h : Opens P t c f) (c' : β → B → List Value) (f' : β → B → List Pred) (g : α → β) (k : A → B) (hc : ∀ a s, c a s = c' (g a) (k s)) (hf : ∀ a s, f a s = f' (g a) (k s)) : Opens P t c' f' := .mk fun enc w fuel cs x hx hs => by
  obtain ⟨a, s, h1, h2⟩ := h.op enc w fuel cs x hx hs
  exact ⟨g a, k s, by rw [h1, hc], by rw [← hf]; exact h2⟩

variable {H : Type} {enc : TypeId × Value → H} {w : World} {b0 : Nat} {v : Value} {d : DataW H} {ps : List MemPlace}

theorem Opens.agg {α A : Type} {t : TypeId} {fs : Array Field} {c : α → A → List Value} {f : α → A → List Pred} (h : Opens P t c f) (hu : P.underlying t = some (.struct fs)) (hv : Value.okWide P w .any b0 t v) (hd : DataW.Trod enc P w 0 (fun _ => true) true t v d ps)
    (hs : (d.weights P t).all (· ≤ reachBytes) = true) : ∃ a s, v = .agg ⟨c a s⟩ ∧ ∀ F ∈ f a s, F (fun _ => False) w := by
  obtain ⟨fuel, hx⟩ := hd
  obtain ⟨a, s, h1, h2⟩ := h.op enc w fuel _ _ hx hs
  unfold Value.okWide at hv
  rw [hu] at hv
  obtain ⟨cs, rfl, _⟩ := hv
  refine ⟨a, s, ?_, h2⟩
  simp only [Value.cells] at h1
  congr 1
  exact Array.ext' h1

theorem Opens.one {α A : Type} {t : TypeId} {c : α → A → Value} {f : α → A → List Pred} (h : Opens P t (fun a s => [c a s]) f) (hu : (∃ k, P.underlying t = some (.int k)) ∨ P.underlying t = some .bool ∨ ∃ e, P.underlying t = some (.slice e)) (hv : Value.okWide P w .any b0 t v) (hd : DataW.Trod enc P w 0 (fun _ => true) true t v d ps)
    (hs : (d.weights P t).all (· ≤ reachBytes) = true) : ∃ a s, v = c a s ∧ ∀ F ∈ f a s, F (fun _ => False) w := by
  obtain ⟨fuel, hx⟩ := hd
  obtain ⟨a, s, h1, h2⟩ := h.op enc w fuel _ _ hx hs
  refine ⟨a, s, ?_, h2⟩
  have hcv : v.cells.toList = [v] := by
    rcases hu with ⟨k, hu⟩ | hu | ⟨e, hu⟩
    · obtain ⟨n, rfl⟩ := okWide_int hu hv; rfl
    · have hd' : DataW.Trod enc P w 0 (fun _ => true) true t v d ps := ⟨fuel, hx⟩
      obtain ⟨b, rfl, _⟩ := open_bool hu hv hd'
      rfl
    · obtain ⟨a, l, cp, rfl⟩ := okWide_slice hu hv; rfl
  rw [hcv] at h1
  simpa using h1

theorem weights_nil {q : List TypeId} : (DataW.weightsEach P q ([] : List (DataW H))) = [] := by cases q <;> rfl
end
end Go.Proofs.YtaiefncoholnnaaDoor.Fw

namespace Go.Proofs.YtaiefncoholnnaaDoor.Fw
open Go Go.RowKit

/-! ### Rows of elements in a block -/
theorem putAt_app_right : ∀ (vs a b : List Value) (k : Nat), putAt (a ++ b) (a.length + k) vs = a ++ putAt b k vs
  | [], _, _, _ => rfl
  | v :: vs, a, b, k => by
    rw [putAt, putAt, List.set_append_right _ _ (by omega), show a.length + k - a.length = k by omega, Nat.add_assoc]
    exact putAt_app_right vs a _ (k + 1)
theorem putAt_app_left : ∀ (vs a b : List Value) (k : Nat), k + vs.length ≤ a.length → putAt (a ++ b) k vs = putAt a k vs ++ b
  | [], _, _, _, _ => rfl
  | v :: vs, a, b, k, h => by
    simp only [List.length_cons] at h
    rw [putAt, putAt, List.set_append_left _ _ (by omega)]
    exact putAt_app_left vs _ b (k + 1) (by simp; omega)
theorem putAt_flat {α : Type} [Inhabited α] (E : El α) (p : α) (off : Nat) (vs : List Value) (hv : off + vs.length ≤ E.esz) : ∀ (tb : List α) (i : Nat), i < tb.length → E.enc p = putAt (E.enc (gt tb i)) off vs →
    putAt (tb.flatMap E.enc) (i * E.esz + off) vs = (tb.set i p).flatMap E.enc
  | [], i, h, _ => absurd h (by simp)
  | a :: l, 0, _, hp => by
    rw [Nat.zero_mul, Nat.zero_add, List.flatMap_cons, putAt_app_left _ _ _ _ (by rw [E.len]; exact hv), List.set_cons_zero, List.flatMap_cons, hp]
    rfl
  | a :: l, i + 1, h, hp => by
    rw [List.flatMap_cons, show (i + 1) * E.esz + off = (E.enc a).length + (i * E.esz + off) by rw [E.len, Nat.add_mul]; omega, putAt_app_right, List.set_cons_succ, List.flatMap_cons,
      putAt_flat E p off vs hv l i (by simpa using h) (by simpa [gt] using hp)]
theorem flat_part {α : Type} [Inhabited α] (E : El α) : ∀ (tb : List α) (i : Nat), i < tb.length → ((tb.flatMap E.enc).drop (i * E.esz)).take E.esz = E.enc (gt tb i)
  | [], i, h => absurd h (by simp)
  | a :: l, 0, _ => by
    rw [Nat.zero_mul, List.drop_zero, List.flatMap_cons, List.take_append_of_le_length (by rw [E.len]; exact Nat.le_refl _), List.take_of_length_le (by rw [E.len]; exact Nat.le_refl _)]
    rfl
  | a :: l, i + 1, h => by
    rw [List.flatMap_cons, show (i + 1) * E.esz = (E.enc a).length + i * E.esz by rw [E.len, Nat.add_mul]; omega, List.drop_append, List.drop_of_length_le (by omega), List.nil_append, show (E.enc a).length + i * E.esz - (E.enc a).length = i * E.esz by omega,
      flat_part E l i (by simpa using h)]
    simp [gt]
theorem flat_bound {α : Type} (E : El α) {tb : List α} {i : Nat} (h : i < tb.length) : i * E.esz + E.esz ≤ (tb.flatMap E.enc).length := by
  rw [flatMap_len tb fun a _ => E.len a, ← Nat.succ_mul]
  exact Nat.mul_le_mul_right _ h

section
variable {P : Program} {T : Tab} {C : Cx} {ops : Array Oper} {o : Oper} {r r' : RS} {s : St} {Q : Post} {N : Nat} {SL : Slots} {BL : List Blk} {OW : List Own} {FA : List Pred} {c : Code}

theorem q_idxB {t e n esz g : Nat} {x y : Operand} {g0 g1 G b : Bool} {k : IntKind} {iv : Int} (i : Nat) (ho : o.op = .indexAddr t x y)
    (he : ev SL x = some (g0, .pointer (some ⟨g, 0, none⟩))) (hg0 : G = true → g0 = true) (hy : ev SL y = some (g1, .int k iv)) (hg1 : G = true → g1 = true)
    (ht : T.arr t = some (n, e)) (hz : T.siz e = some (esz, b)) (hn1 : Nat.blt 1 n = true) (hi : G = true → iv = (i : Int)) (hlt : G = true → i < n) :
    Quiet P T SL BL FA o G (.pointer (some ⟨g, i * esz, none⟩)) :=
  fun hT hG a w hsl hw => by
    obtain ⟨ti, d, q1, q2, q3, q4⟩ := hT.siz _ _ _ hz
    have h1 := ev_ok hsl he (hg0 hG)
    have h2 := ev_ok hsl hy (hg1 hG)
    have hlt := hlt hG
    have hi := hi hG
    have hn1 := Nat.le_of_ble_eq_true hn1
    subst hi
    have hu := hT.arr _ _ _ ht
    simp only [execOp, ho, h1, h2, Instr.indexAt, asIntOf, Sem.run_bind, Sem.run_pure, Result.andThen_ok, run_underlying hu, Instr.sureAddr]
    rw [if_pos (by omega)]
    simp [run_sizeOf' q1, q2, add_none]

theorem q_ltA {α : Type} [Inhabited α] (E : El α) {t g t' off esz : Nat} {x : Operand} {g0 G : Bool} {tb : List α} (i : Nat) (ho : o.op = .load t x) (he : ev SL x = some (g0, .pointer (some ⟨g, off, none⟩))) (hg0 : G = true → g0 = true)
    (hs : T.siz t = some (esz, true)) (hes : E.esz = esz) (hoff : off = i * esz) (hm : ⟨g, t', tb.flatMap E.enc⟩ ∈ BL) (hlt : G = true → i < tb.length) : Quiet P T SL BL FA o G (.agg ⟨E.enc (gt tb i)⟩) :=
  q_load_gen ho he hg0 fun hT hG _ hw => by
    subst hes; subst hoff
    rw [← flat_part E tb i (hlt hG)]
    exact blk_load_agg hs hm (Nat.ble_eq_true_of_le (flat_bound E (hlt hG))) hT hw

theorem q_lt1 {α : Type} [Inhabited α] (E : El α) {t g t' off o2 n esz : Nat} {x : Operand} {g0 G : Bool} {tb : List α} {v : Value} (i : Nat) (ho : o.op = .load t x) (he : ev SL x = some (g0, .pointer (some ⟨g, off, none⟩))) (hg0 : G = true → g0 = true)
    (hs : T.siz t = some (n, false)) (hes : E.esz = esz) (hoff : off = i * esz + o2) (hm : ⟨g, t', tb.flatMap E.enc⟩ ∈ BL) (hlt : G = true → i < tb.length) (hv : (E.enc (gt tb i))[o2]? = some v) : Quiet P T SL BL FA o G v :=
  q_load_gen ho he hg0 fun hT hG w hw => run_loadVar_one hT hs (by
    subst hes; subst hoff
    rw [blk_cell (hw.bl _ hm)]
    rw [gt_eq (hlt hG)] at hv
    exact flatMap_at tb (fun a _ => E.len a) i (hlt hG) o2 v hv)

/-- An element of an array that is a value. -/
theorem q_ixA {α : Type} [Inhabited α] (E : El α) {t e n esz : Nat} {x y : Operand} {g0 g1 G : Bool} {k : IntKind} {iv : Int} {tb : List α} (i : Nat) (ho : o.op = .index t x y) (he : ev SL x = some (g0, .agg ⟨tb.flatMap E.enc⟩)) (hg0 : G = true → g0 = true) (hy : ev SL y = some (g1, .int k iv)) (hg1 : G = true → g1 = true)
    (ht : T.arr t = some (n, e)) (hz : T.siz e = some (esz, true)) (hes : E.esz = esz) (hi : G = true → iv = (i : Int)) (hln : tb.length = n) (hlt : G = true → i < n) : Quiet P T SL BL FA o G (.agg ⟨E.enc (gt tb i)⟩) :=
  fun hT hG a w hsl hw => by
    obtain ⟨ti, d, q1, q2, q3, q4⟩ := hT.siz _ _ _ hz
    have h1 := ev_ok hsl he (hg0 hG)
    have h2 := ev_ok hsl hy (hg1 hG)
    have hlt := hlt hG
    have hi := hi hG
    subst hi; subst hes; subst hln
    have hu := hT.arr _ _ _ ht
    simp only [execOp, ho, h1, h2, Instr.index, asIntOf, Sem.run_bind, Sem.run_pure, Result.andThen_ok, run_underlying hu]
    rw [if_pos (by omega)]
    simp only [Sem.run_bind, run_sizeOf' q1, Result.andThen_ok, q2, Int.toNat_natCast]
    have hp : partL T e (tb.flatMap E.enc) (i * E.esz) = some (.agg ⟨E.enc (gt tb i)⟩) := by
      unfold partL
      rw [hz]
      simp only [flat_part E tb i hlt]
    rw [partL_ok hT (cs := ⟨tb.flatMap E.enc⟩) hp]
    rfl

/-- An element of an array that is a value, at a number. -/
theorem q_ixL {t e n esz : Nat} {x y : Operand} {g0 g1 G b : Bool} {k : IntKind} {iv : Int} {cs : List Value} {v : Value} (i : Nat) (ho : o.op = .index t x y) (he : ev SL x = some (g0, .agg ⟨cs⟩)) (hg0 : G = true → g0 = true) (hy : ev SL y = some (g1, .int k iv)) (hg1 : G = true → g1 = true)
    (ht : T.arr t = some (n, e)) (hz : T.siz e = some (esz, b)) (hi : iv = (i : Int)) (hlt : Nat.blt i n = true) (hp : partL T e cs (i * esz) = some v) : Quiet P T SL BL FA o G v :=
  fun hT hG a w hsl hw => by
    obtain ⟨ti, d, q1, q2, q3, q4⟩ := hT.siz _ _ _ hz
    have h1 := ev_ok hsl he (hg0 hG)
    have h2 := ev_ok hsl hy (hg1 hG)
    have hlt := Nat.le_of_ble_eq_true hlt
    subst hi
    have hu := hT.arr _ _ _ ht
    simp only [execOp, ho, h1, h2, Instr.index, asIntOf, Sem.run_bind, Sem.run_pure, Result.andThen_ok, run_underlying hu]
    rw [if_pos (by omega)]
    simp only [Sem.run_bind, run_sizeOf' q1, Result.andThen_ok, q2, Int.toNat_natCast]
    rw [partL_ok hT (cs := ⟨cs⟩) hp]
    rfl

theorem fill_range {n esz : Nat} : ∀ (vs : List (Nat × Value)) (cs0 r : List Value), fillL ((List.range n).map fun i => (i * esz, esz)) cs0 vs = some r → Instr.fill (fun i => some (i * esz, esz)) cs0.toArray vs = some r.toArray := by
  intro vs
  induction vs with
  | nil => intro cs0 r h; simp [fillL] at h; simp [Instr.fill, h]
  | cons p vs ih =>
    intro cs0 r h
    obtain ⟨i, v⟩ := p
    simp only [fillL] at h
    split at h
    · cases h
    · rename_i off sz hi
      have hoff : off = i * esz ∧ sz = esz := by
        simp only [List.getElem?_map] at hi
        cases hri : (List.range n)[i]? with
        | none => simp [hri] at hi
        | some k =>
          simp [hri] at hi
          have := List.getElem?_eq_some_iff.1 hri
          obtain ⟨h1, h2⟩ := this
          simp at h2
          exact ⟨by rw [← hi.1, ← h2], hi.2.symm⟩
      obtain ⟨rfl, rfl⟩ := hoff
      split at h
      · rename_i h1 h2
        have h1 := Nat.eq_of_beq_eq_true h1
        have h2 := Nat.le_of_ble_eq_true h2
        simp only [Instr.fill]
        have h1' : v.cells.size = sz := by simpa using h1
        rw [if_neg (by simp [h1']; omega)]
        have := ih _ _ h
        rw [← this]
        congr 1
        apply Array.ext'
        rw [← Array.foldl_toList, Array.toList_zipIdx]
        exact fold_putAt v.cells.toList cs0.toArray 0 (i * sz)
      · cases h

theorem q_buildA {t n e esz : Nat} {b g G : Bool} {parts : Array (Nat × Operand)} {vs : List (Nat × Value)} {z cs : List Value} (ho : o.op = .build t parts) (he : evp SL parts.toList = some (g, vs)) (hg : G = true → g = true) (ht : T.arr t = some (n, e)) (hz : T.siz e = some (esz, b)) (hzz : T.zer t = some z)
    (hf : fillL ((List.range n).map fun i => (i * esz, esz)) z vs = some cs) : Quiet P T SL BL FA o G (.agg ⟨cs⟩) :=
  fun hT hG a w hsl _ => by
    obtain ⟨ti, d, q1, q2, q3, q4⟩ := hT.siz _ _ _ hz
    obtain ⟨ti', zv, p1, p2, p3⟩ := hT.zer _ _ hzz
    have hv := evp_ok hsl he (hg hG)
    have hu := hT.arr _ _ _ ht
    have hvs : (parts.map fun (i, x) => (i, a.eval x)).toList = vs := by rw [← hv]; simp
    have hz2 : zv.cells = z.toArray := by apply Array.ext'; simp [p3]
    simp only [execOp, ho, Instr.build, Sem.run_bind, run_zero' p1 p2, Result.andThen_ok, run_underlying hu, run_sizeOf' q1, q2, hvs, hz2, fill_range vs z cs hf, Sem.run_pure]

theorem rw_stS {t : Nat} {x y : Operand} {g0 g1 : Bool} {g n off : Nat} {b : Bool} {cs vs : List Value} {v : Value} {bl' : List Blk} {D : List Nat} (hf : Front ops r o D r') (hgD : (∃ l, r = .sq l) ∨ g ∈ D) (hg : Guard ops SL o true) (hd : o.dst = none) (ho : o.op = .store t x y)
    (he : ev SL x = some (g0, .pointer (some ⟨g, off, none⟩))) (hg0 : g0 = true) (hev : ev SL y = some (g1, v)) (hg1 : g1 = true) (hs : T.siz t = some (n, b)) (hvc : v.cells = vs.toArray) (hvn : vs.length = n)
    (hone : vs.all (·.oneCell') = true) (hu : UpdB BL g cs (putAt cs off vs) bl') (hle : off + n ≤ cs.length)
    (h : RW P T C ops r' ⟨N, SL, bl', OW, FA⟩ Q) : RW P T C ops r ⟨N, SL, BL, OW, FA⟩ Q :=
  rw_st hf hgD hg hd ho he hg0 hev hg1 hs hvc hvn hone hu (Nat.ble_eq_true_of_le hle) h

/-- An element of an array that stands in a block is written. -/
theorem rw_stT {α : Type} [Inhabited α] (E : El α) (tb : List α) (i : Nat) (p : α) {t esz : Nat} {x y : Operand} {g0 g1 : Bool} {g off : Nat} {bl' : List Blk} {D : List Nat} (hf : Front ops r o D r') (hgD : (∃ l, r = .sq l) ∨ g ∈ D) (hg : Guard ops SL o true) (hd : o.dst = none) (ho : o.op = .store t x y)
    (he : ev SL x = some (g0, .pointer (some ⟨g, off, none⟩))) (hg0 : g0 = true) (hev : ev SL y = some (g1, .agg ⟨E.enc p⟩)) (hg1 : g1 = true) (hs : T.siz t = some (esz, true)) (hes : E.esz = esz) (hoff : off = i * esz) (hlt : i < tb.length)
    (hu : UpdB BL g (tb.flatMap E.enc) ((tb.set i p).flatMap E.enc) bl')
    (h : RW P T C ops r' ⟨N, SL, bl', OW, FA⟩ Q) : RW P T C ops r ⟨N, SL, BL, OW, FA⟩ Q := by
  subst hes; subst hoff
  have hp : putAt (tb.flatMap E.enc) (i * E.esz) (E.enc p) = (tb.set i p).flatMap E.enc := by
    have h1 : E.enc p = putAt (E.enc (gt tb i)) 0 (E.enc p) := by
      have h2 := putAt_all (E.enc p) [] (E.enc (gt tb i)) (by rw [E.len, E.len])
      exact h2.symm
    exact putAt_flat E p 0 (E.enc p) (by rw [E.len]; omega) tb i hlt h1
  rw [← hp] at hu
  exact rw_stS (vs := E.enc p) hf hgD hg hd ho he hg0 hev hg1 hs rfl (E.len p) (by rw [List.all_eq_true]; exact fun u hu => E.one p u hu) hu (flat_bound E hlt) h

/-- A cell of an element of such an array is written. -/
theorem rw_stT1 {α : Type} [Inhabited α] (E : El α) (tb : List α) (i o2 : Nat) (p : α) {t n esz : Nat} {x y : Operand} {g0 g1 : Bool} {g off : Nat} {v : Value} {bl' : List Blk} {D : List Nat} (hf : Front ops r o D r') (hgD : (∃ l, r = .sq l) ∨ g ∈ D) (hg : Guard ops SL o true) (hd : o.dst = none) (ho : o.op = .store t x y)
    (he : ev SL x = some (g0, .pointer (some ⟨g, off, none⟩))) (hg0 : g0 = true) (hev : ev SL y = some (g1, v)) (hg1 : g1 = true) (hs : T.siz t = some (n, false)) (hn1 : n = 1) (hvc : v.oneCell' = true) (hes : E.esz = esz) (hoff : off = i * esz + o2) (ho2 : Nat.blt o2 esz = true) (hlt : i < tb.length) (hp : E.enc p = (E.enc (gt tb i)).set o2 v)
    (hu : UpdB BL g (tb.flatMap E.enc) ((tb.set i p).flatMap E.enc) bl')
    (h : RW P T C ops r' ⟨N, SL, bl', OW, FA⟩ Q) : RW P T C ops r ⟨N, SL, BL, OW, FA⟩ Q := by
  subst hes; subst hoff; subst hn1
  have ho2 := Nat.le_of_ble_eq_true ho2
  have hp' : putAt (tb.flatMap E.enc) (i * E.esz + o2) [v] = (tb.set i p).flatMap E.enc := putAt_flat E p o2 [v] (by simpa using ho2) tb i hlt hp
  rw [← hp'] at hu
  have hb := flat_bound E hlt
  exact rw_stS (vs := [v]) hf hgD hg hd ho he hg0 hev hg1 hs (by cases v <;> first | rfl | (simp [Value.oneCell'] at hvc)) rfl (by simp [hvc]) hu (by omega) h

theorem flat_len {α : Type} (E : El α) {tb : List α} {n m : Nat} (h : tb.length = n) (hm : n * E.esz = m) : (tb.flatMap E.enc).length = m := by rw [flatMap_len tb fun a _ => E.len a, h, hm]
theorem flat_one {α : Type} (E : El α) (tb : List α) : (tb.flatMap E.enc).all (·.oneCell') = true := by
  rw [List.all_eq_true]
  intro u hu
  obtain ⟨a, _, ha⟩ := List.mem_flatMap.1 hu
  exact E.one a u ha

/-- A whole array is written. -/
theorem rw_stAr {α : Type} (E : El α) (tb : List α) {t n m : Nat} {x y : Operand} {g0 g1 : Bool} {g : Nat} {cs : List Value} {bl' : List Blk} {D : List Nat} (hf : Front ops r o D r') (hgD : (∃ l, r = .sq l) ∨ g ∈ D) (hg : Guard ops SL o true) (hd : o.dst = none) (ho : o.op = .store t x y)
    (he : ev SL x = some (g0, .pointer (some ⟨g, 0, none⟩))) (hg0 : g0 = true) (hev : ev SL y = some (g1, .agg ⟨tb.flatMap E.enc⟩)) (hg1 : g1 = true) (hs : T.siz t = some (m, true)) (hln : tb.length = n) (hm : n * E.esz = m)
    (hu : UpdB BL g cs (tb.flatMap E.enc) bl') (hcl : cs.length = m)
    (h : RW P T C ops r' ⟨N, SL, bl', OW, FA⟩ Q) : RW P T C ops r ⟨N, SL, BL, OW, FA⟩ Q := by
  have hl := flat_len E hln hm
  have hp : putAt cs 0 (tb.flatMap E.enc) = tb.flatMap E.enc := by
    have := putAt_all (tb.flatMap E.enc) [] cs (by rw [hl, hcl])
    exact this
  rw [← hp] at hu
  exact rw_stS (vs := tb.flatMap E.enc) hf hgD hg hd ho he hg0 hev hg1 hs rfl hl (flat_one E tb) hu (by omega) h

/-! ### What is owned, read by a call that changes nothing -/
theorem OwnOk.rd {α : Type} {E : El α} {e : TypeId} {X : SlV} {b : Option Nat} {l : List α} {w : World} {M : Nat → Prop} (ho : OwnOk C w (ownL E e X b l)) (hM : ∀ g, b = some g → ¬ M g) : RdL E X l M w := by
  have hl : ∀ e ∈ l, (E.enc e).length = E.esz := fun e _ => E.len e
  obtain ⟨h1, h2, h3⟩ := ho
  simp only at h1 h2 h3
  cases b with
  | none =>
    obtain ⟨h0, A, hA⟩ := h3
    have hA : X.val l.length = .slice A 0 0 := hA
    simp only [SlV.val, Value.slice.injEq] at hA
    exact ⟨by omega, by omega, h2.2, fun hp => by omega⟩
  | some g =>
    obtain ⟨hg, cap, cur, hv, hh, hnc, hcap, hcs, htake⟩ := h3
    simp only [SlV.val, Value.slice.injEq, true_and] at hv
    obtain ⟨hva, hvc⟩ := hv
    refine ⟨by rw [hvc]; exact hnc, by rw [hvc]; exact hcap, h2.2, fun hp => ⟨⟨g, 0, none⟩, hva, heap_lt hh, hM g rfl, fun i hi' j v hv => ?_⟩⟩
    rw [add_none]
    simp only [World.cell?, hh]
    obtain ⟨hjlt, _⟩ := List.getElem?_eq_some_iff.1 hv
    have hel := hl _ (List.getElem_mem hi')
    have hij : i * E.esz + j < l.length * E.esz := by
      have : (i + 1) * E.esz ≤ l.length * E.esz := Nat.mul_le_mul_right _ hi'
      rw [Nat.add_mul] at this
      omega
    have hflat : (l.flatMap E.enc)[i * E.esz + j]? = some v := flatMap_at l hl i hi' j v hv
    rw [← htake, List.getElem?_take, if_pos hij] at hflat
    simpa using hflat

inductive PreR : List Pred → List Own → List Pred → Prop
  | nil (FA : List Pred) (OW : List Own) : PreR FA OW []
  | fact {FA : List Pred} {OW : List Own} {F : Pred} {r : List Pred} (h : F ∈ FA) (hr : PreR FA OW r) : PreR FA OW (F :: r)
  | own {FA : List Pred} {OW : List Own} {α : Type} {E : El α} {e : TypeId} {X : SlV} {b : Option Nat} {l : List α} {r : List Pred} (h : ownL E e X b l ∈ OW) (hr : PreR FA OW r) : PreR FA OW (RdL E X l :: r)

theorem PreR.ok {pre : List Pred} {w : World} (h : PreR FA OW pre) (hw : WOk C ⟨N, SL, BL, OW, FA⟩ w) : ∀ F ∈ pre, Stab F ∧ F (fun b => C.M0 b ∨ b ∈ BL.map (·.g)) w := by
  induction h with
  | nil => simp
  | fact h _ ih =>
    intro F hF
    cases hF with
    | head =>
      have h1 := hw.fa _ h
      exact ⟨h1.1, h1.1.st _ _ w w h1.2 ⟨Nat.le_refl _, fun _ _ _ => rfl⟩ fun k _ hm => by
        rcases hm with hm | hm
        · exact .inl hm
        · exact .inr (List.mem_append_left _ hm)⟩
    | tail _ hF => exact ih F hF
  | own h _ ih =>
    intro F hF
    cases hF with
    | head =>
      have ho := hw.ow _ h
      refine ⟨inferInstance, ho.rd fun g hg hm => ?_⟩
      have hgi : g ∈ OW.filterMap (·.b) := List.mem_filterMap.2 ⟨_, h, hg⟩
      rcases hm with hm | hm
      · rcases (ids_lt hw (b := g) (List.mem_append_right _ hgi)).2 with h2 | h2
        · have := C.hM g hm; omega
        · exact (C.hB g h2).2 hm
      · exact (List.nodup_append.1 hw.nd).2.2 g hm g hgi rfl
    | tail _ hF => exact ih F hF

theorem callR_wp {a : Act} {w : World} {d : Nat} {f : FuncId} {args : List Value} {pre : List Pred} {X : Type} {val : X → Value}
    (hS : Does P f args pre val (fun _ => [])) (hx : (execOp a.eval o).run P w = .ok (.enter f args.toArray) w) (hd : o.dst = some d) (hrep : Rep C ⟨N, SL, BL, OW, FA⟩ a w) (hpre : PreR FA OW pre) {K : Act → World → Prop}
    (hK : ∀ x w', WOk C ⟨N, SL, BL, OW, FA⟩ w' → Keeps [] w w' → K (a.put (some d) (val x)) w') : o.wp P a w K noG := by
  unfold Oper.wp
  rw [hx, Oper.upon_enter]
  have h1 := hpre.ok hrep.wo
  have := hS.ok ⟨w, fun b => C.M0 b ∨ b ∈ BL.map (·.g), [], fun b hb => by
    rcases hb with hb | hb
    · exact Nat.lt_of_lt_of_le (C.hM b hb) hrep.wo.be.size
    · exact (ids_lt hrep.wo (b := b) (List.mem_append_left _ hb)).1, fun b hb => by cases hb⟩ rfl ⟨Blw.refl _ _ _, by simp, by simp, by simp [ids], fun F hF => ⟨(h1 F hF).1, (h1 F hF).1.st _ _ w w (h1 F hF).2 ⟨Nat.le_refl _, fun _ _ _ => rfl⟩ fun k _ hm => by
      rcases hm with hm | hm
      · exact hm
      · simp [ids] at hm⟩⟩
  refine this.mono ?_
  rintro e w' ⟨x, rfl, hw⟩
  simp only [hd]
  have hb : Below w.heap.size w w' := hw.be.below
  exact hK x w' (hrep.wo.grow hb) (Keeps.of_below hb)

theorem rw_callR {D : List Nat} {d : Nat} {f : FuncId} {xs : Array Operand} {ts : Array TypeId} {g : Bool} {vs : List Value} {pre : List Pred} {X : Type} {val : X → Value}
    (hS : Does P f vs pre val (fun _ => [])) (hfr : Front ops r o D r') (hg : Guard ops SL o true) (hd : o.dst = some d) (hn : Nat.blt d N = true) (ho : o.op = .call ⟨.value (.func f), xs, ts⟩) (hf : T.fnb f = true)
    (he : evs SL xs.toList = some (g, vs)) (hgt : g = true) (hpre : PreR FA OW pre)
    (h : ∀ x, RW P T C ops r' ⟨N, (d, .v (val x)) :: SL, BL, OW, FA⟩ Q) : RW P T C ops r ⟨N, SL, BL, OW, FA⟩ Q :=
  rw_l hfr hg (K := fun s' => ∃ x, s' = ⟨N, (d, .v (val x)) :: SL, BL, OW, FA⟩) (fun hT a w hrep => callR_wp hS (exec_call hT ho hf hrep.sl he hgt w) hd hrep hpre fun x w' hw hk =>
    ⟨_, ⟨x, rfl⟩, hrep.putv (Nat.le_of_ble_eq_true hn) (x := .v (val x)) (u := val x) rfl ⟨hw.be, hw.bl, hw.ow, hw.nd, hw.fa⟩, hk.mono (by simp)⟩) (fun s' ⟨x, e⟩ => by subst e; exact h x)

theorem rw_callgR {D : List Nat} {d : Nat} {f : FuncId} {xs : Array Operand} {ts : Array TypeId} {g G : Bool} {vs : List Value} {pre : List Pred} {X : Type} {val : X → Value} {v : Value}
    (hS : G = true → Does P f vs pre val (fun _ => [])) (hval : ∀ x, val x = v) (hfr : Front ops r o D r') (hG : Guard ops SL o G) (hd : o.dst = some d) (hn : Nat.blt d N = true) (ho : o.op = .call ⟨.value (.func f), xs, ts⟩) (hf : T.fnb f = true)
    (he : evs SL xs.toList = some (g, vs)) (hgt : G = true → g = true) (hpre : PreR FA OW pre)
    (h : RW P T C ops r' ⟨N, (d, .o G v) :: SL, BL, OW, FA⟩ Q) : RW P T C ops r ⟨N, SL, BL, OW, FA⟩ Q := by
  intro hT a w hrep
  have hno : G = false → Rep C ⟨N, (d, .o G v) :: SL, BL, OW, FA⟩ (a.put (some d) undef) w := fun hGv =>
    hrep.putv (Nat.le_of_ble_eq_true hn) (x := .o G v) (u := undef) (by simp [SV.ok, hGv]) hrep.wo
  have hyes : G = true → o.wp P a w (fun a' w' => Rep C ⟨N, (d, .o G v) :: SL, BL, OW, FA⟩ a' w' ∧ Keeps D w w') noG := fun hGv =>
    callR_wp (hS hGv) (exec_call hT ho hf hrep.sl he (hgt hGv) w) hd hrep hpre fun x w' hw hk => by
      rw [hval]
      exact ⟨hrep.putv (Nat.le_of_ble_eq_true hn) (x := .o G v) (u := v) (by simp [SV.ok, hGv]) (bl := BL) (ow := OW) (fa := FA) ⟨hw.be, hw.bl, hw.ow, hw.nd, hw.fa⟩, hk.mono (by simp)⟩
  cases hfr with
  | sq =>
    show wpList P ops (postOf C Q) (o :: _) a w
    unfold wpList
    rw [hG a hrep.sl]
    cases hGv : G with
    | true =>
      rw [if_pos rfl]
      have := hyes hGv
      rw [hGv] at h this
      exact .inl (Oper.wp_mono (fun a' w' ⟨h1, _⟩ => h hT a' w' h1) (Oper.wp_no this))
    | false =>
      rw [if_neg (by simp), hd]
      exact h hT _ _ (hno hGv)
  | an hi hDD =>
    unfold wpR wpOp
    simp only [hi]
    rw [hG a hrep.sl]
    cases hGv : G with
    | true =>
      rw [if_pos rfl]
      have := hyes hGv
      rw [hGv] at h this
      exact .inl (Oper.wp_mono (fun a' w' ⟨h1, h2⟩ => ⟨by rw [hDD]; exact h2, h hT a' w' h1⟩) this)
    | false =>
      rw [if_neg (by simp), hd]
      exact ⟨KeepsO.refl _ _, h hT _ _ (hno hGv)⟩
  | lo _ hi hDD =>
    unfold wpR wpOp
    simp only [hi]
    rw [hG a hrep.sl]
    cases hGv : G with
    | true =>
      rw [if_pos rfl]
      have := hyes hGv
      rw [hGv] at h this
      exact .inl (Oper.wp_mono (fun a' w' ⟨h1, h2⟩ => ⟨by rw [hDD]; exact trivial, h hT a' w' h1⟩) this)
    | false =>
      rw [if_neg (by simp), hd]
      exact ⟨KeepsO.refl _ _, h hT _ _ (hno hGv)⟩

/-! ### Facts at hand that stand in a list that is not known -/
theorem SubM.skip {F : Pred} {l r : List Pred} (h : SubM l r) : SubM (F :: l) r := by
  induction h with
  | nil => exact .nil _
  | cons h _ ih => exact .cons (.tail _ h) ih
theorem SubM.all : ∀ l : List Pred, SubM l l
  | [] => .nil _
  | _ :: l => .cons (.head _) (SubM.skip (SubM.all l))
theorem PreR.skip {F : Pred} {l r : List Pred} {OW : List Own} (h : PreR l OW r) : PreR (F :: l) OW r := by
  induction h with
  | nil => exact .nil _ _
  | fact h _ ih => exact .fact (.tail _ h) ih
  | own h _ ih => exact .own h ih
end
end Go.Proofs.YtaiefncoholnnaaDoor.Fw
