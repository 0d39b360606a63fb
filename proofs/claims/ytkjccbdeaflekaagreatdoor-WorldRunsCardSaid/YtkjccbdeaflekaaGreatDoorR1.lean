/- Part of this claim. No condition. -/
import Derived.OrdersHeld
import Derived.Below
import Derived.Laws.StructEq
import Derived.Tactics
set_option linter.unusedVariables false
set_option linter.unusedSimpArgs false
namespace Go.Proofs.YtkjccbdeaflekaaGreatDoor.Fw
open Go Go.RowKit
theorem Bd : (∀ b : Bool, (b && false) = false) ∧ (∀ b : Bool, (false && b) = false) ∧ (∀ b : Bool, (b || true) = true) ∧ (∀ b : Bool, (true || b) = true) ∧ (∀ b : Bool, (b || false) = b) ∧ (∀ b : Bool, (false || b) = b) ∧ (∀ b : Bool, (b && true) = b) ∧ (∀ b : Bool, (true && b) = b) ∧ ((!true) = false) ∧ ((!false) = true) := by simp
theorem Bo : (∀ a b : Bool, ((a || b) = false) = (a = false ∧ b = false)) ∧ (∀ (p : Prop) [Decidable p], (decide p = false) = ¬p) := by simp
theorem Ba : (∀ a b : Bool, ((a && b) = true) = (a = true ∧ b = true)) ∧ (∀ (p : Prop) [Decidable p], (decide p = true) = p) := by simp
theorem Bq : (∀ a b : Bool, ((a || b) = true) = (a = true ∨ b = true)) ∧ (∀ (p : Prop) [Decidable p], (decide p = true) = p) := by simp
theorem Ln : (∀ {α : Type} (l m : List α), (l ++ m).length = l.length + m.length) ∧ (∀ {α : Type} (a : α) (l : List α), (a :: l).length = l.length + 1) ∧ (∀ {α : Type}, ([] : List α).length = 0) := by simp
theorem Lf : (∀ {α : Type} (l : List α) (L : List (List α)), (l :: L).flatten = l ++ L.flatten) ∧ (∀ {α : Type}, ([] : List (List α)).flatten = []) ∧ (∀ {α : Type} (l m : List α), (l ++ m).length = l.length + m.length) ∧ (∀ {α : Type}, ([] : List α).length = 0) := by simp
variable {n : Nat}
theorem Dl {α : Type} {l : List α} (h : l.length ≤ n) : l.drop n = [] := List.drop_of_length_le h
theorem N0 : 0 ≤ n := Nat.zero_le n
theorem Nr : n ≤ n := Nat.le_refl n
inductive SV where
 | v (x : Value)
 | o (g : Bool) (x : Value)
abbrev Slots := List (Nat × SV)
def getS : Slots → Nat → Option SV
 | [], _ => none
 | (k, x) :: r, n => match Nat.beq k n with | true => some x | false => getS r n
@[simp] def SV.gd : SV → Bool | .v _ => true | .o g _ => g
@[simp] def SV.val : SV → Value | .v x => x | .o _ x => x
def SV.ok (x : SV) (u : Option Value) : Prop :=
 match x with
 | .v x => u = some x
 | .o g x => u = some (bif g then x else undef)
def nE (s : Slots) (a : Act) : Prop := ∀ n x, getS s n = some x → x.ok a.tmps[n]?
def ev (s : Slots) : Operand → Option (Bool × Value)
 | .tmp t => match getS s t with | some (.v x) => some (true, x) | some (.o g x) => some (g, x) | none => none
 | .const v => some (true, v)
 | .func f => some (true, .func (.func f) #[] #[])
 | .global _ => none
variable {v : Value} {x : Operand}
theorem ev_ok {s : Slots} {a : Act} (h : nE s a) {g : Bool} (he : ev s x = some (g, v)) (hg : g = true) : a.eval x = v := by
 cases x with
 | tmp t =>
  simp only [ev] at he;cases hs : getS s t with
  | none => simp [hs] at he
  | some y =>
   have := h t y hs;cases y with
   | v y => simp only [hs, Option.some.injEq, Prod.mk.injEq] at he; simp [SV.ok] at this; simp [Act.eval, this, he.2]
   | o g' y =>
    simp only [hs, Option.some.injEq, Prod.mk.injEq] at he;simp [SV.ok] at this;obtain ⟨h1, h2⟩ := he;subst h1; subst hg; subst h2;simp at this;simp [Act.eval, this]
 | const v' => simp only [ev, Option.some.injEq, Prod.mk.injEq] at he; simp [Act.eval, he.2]
 | func f => simp only [ev, Option.some.injEq, Prod.mk.injEq] at he; simp [Act.eval, ← he.2]
 | global g => simp [ev] at he
def evs (s : Slots) : List Operand → Option (Bool × List Value)
 | [] => some (true, [])
 | x :: r => match ev s x, evs s r with
  | some (g, v), some (g', vs) => some (g && g', v :: vs)
  | _, _ => none
theorem wF {s : Slots} {a : Act} (h : nE s a) : ∀ {l : List Operand} {g : Bool} {vs : List Value}, evs s l = some (g, vs) → g = true → l.map a.eval = vs
 | [], g, vs, he, _ => by simp [evs] at he; simp [he.2]
 | x :: r, g, vs, he, hg => by
  simp only [evs] at he;cases h1 : ev s x with
  | none => simp [h1] at he
  | some p =>
   obtain ⟨g1, v1⟩ := p;cases h2 : evs s r with
   | none => simp [h1, h2] at he
   | some q =>
    obtain ⟨g2, v2⟩ := q;simp only [h1, h2, Option.some.injEq, Prod.mk.injEq] at he;obtain ⟨he1, he2⟩ := he;subst he1;simp at hg;rw [List.map_cons, ev_ok h h1 hg.1, wF h h2 hg.2, he2]
def evp (s : Slots) : List (Nat × Operand) → Option (Bool × List (Nat × Value))
 | [] => some (true, [])
 | (i, x) :: r => match ev s x, evp s r with
  | some (g, v), some (g', vs) => some (g && g', (i, v) :: vs)
  | _, _ => none
theorem yD {s : Slots} {a : Act} (h : nE s a) : ∀ {l : List (Nat × Operand)} {g : Bool} {vs : List (Nat × Value)}, evp s l = some (g, vs) → g = true → l.map (fun (i, x) => (i, a.eval x)) = vs
 | [], g, vs, he, _ => by simp [evp] at he; simp [he.2]
 | (i, x) :: r, g, vs, he, hg => by
  simp only [evp] at he;cases h1 : ev s x with
  | none => simp [h1] at he
  | some p =>
   obtain ⟨g1, v1⟩ := p;cases h2 : evp s r with
   | none => simp [h1, h2] at he
   | some q =>
    obtain ⟨g2, v2⟩ := q;simp only [h1, h2, Option.some.injEq, Prod.mk.injEq] at he;obtain ⟨he1, he2⟩ := he;subst he1;simp at hg;rw [List.map_cons, yD h h2 hg.2, ← he2];simp [ev_ok h h1 hg.1]
structure Tab where
 fld : Nat → Nat → Option (Nat × Nat)
 siz : Nat → Option (Nat × Bool)
 zer : Nat → Option (List Value)
 str : Nat → Option (List (Nat × Nat))
 slc : Nat → Option Nat
 arr : Nat → Option (Nat × Nat)
 byt : Nat → Option Nat
 eqs : Nat → Bool
 isS : Nat → Bool
 fnb : Nat → Bool
def aggD : TypeDesc → Bool | .struct _ | .array _ _ => true | _ => false
structure TabOk (T : Tab) (P : Program) : Prop where
 mixed : P.follows .mixedOrders = true
 fld : ∀ t i o ft, T.fld t i = some (o, ft) → ∃ fs f, P.underlying t = some (.struct fs) ∧ fs[i]? = some f ∧ f.offset = o ∧ f.type = ft
 siz : ∀ t n b, T.siz t = some (n, b) → ∃ ti d, P.info? t = some ti ∧ ti.size = n ∧ P.underlying t = some d ∧ aggD d = b
 zer : ∀ t l, T.zer t = some l → ∃ ti z, P.info? t = some ti ∧ ti.zero = some z ∧ z.cells.toList = l
 str : ∀ t l, T.str t = some l → ∃ fs, P.underlying t = some (.struct fs) ∧ ∃ tis : List TypeInfo, fs.toList.map (fun f => P.info? f.type) = tis.map some ∧ (fs.toList.zip tis).map (fun p => (p.1.offset, p.2.size)) = l
 slc : ∀ t e, T.slc t = some e → P.underlying t = some (.slice e)
 arr : ∀ t n e, T.arr t = some (n, e) → P.underlying t = some (.array n e)
 byt : ∀ t n, T.byt t = some n → ∃ ti, P.info? t = some ti ∧ ti.bytes = n
 isS : ∀ t, T.isS t = true → P.underlying t = some .string
 fnb : ∀ f, T.fnb f = true → ∃ fn, P.funcs[f]? = some fn ∧ (fn.name == "runtime.NumGoroutine") = false ∧ fn.body.isNone = false
def cmpB (op : BinOp) (x y : Int) : Option Bool :=
 match op with
 | .eql => some (x == y) | .neq => some (x != y) | .lss => some (decide (x < y)) | .leq => some (decide (x ≤ y))
 | .gtr => some (decide (x > y)) | .geq => some (decide (x ≥ y)) | _ => none
def pbin (op : BinOp) (x y : Value) : Option Value :=
 match x, y with
 | .int k a, .int k' b => match decide (k = k') with
  | true => match cmpB op a b with | some r => some (.bool r) | none => none
  | false => none
 | _, _ => none
def addO : Addr → Nat → Option Addr
 | ⟨b, n, none⟩, k => some ⟨b, n + k, none⟩
 | ⟨_, _, some _⟩, _ => none
theorem DN {a b : Addr} {k : Nat} (h : addO a k = some b) : a.add k = b := by
 obtain ⟨bl, n, sp⟩ := a;cases sp with
 | none =>
  simp [addO] at h;subst h;unfold Addr.add;split
  ·rename_i h; simp [h]
  ·rfl
 | some x => simp [addO] at h
def putAt : List Value → Nat → List Value → List Value
 | cs, _, [] => cs
 | cs, n, v :: vs => putAt (cs.set n v) (n + 1) vs
def fillL (pl : List (Nat × Nat)) : List Value → List (Nat × Value) → Option (List Value)
 | cs, [] => some cs
 | cs, (i, v) :: r => match pl[i]? with
  | none => none
  | some (off, sz) => match Nat.beq v.cells.toList.length sz, Nat.ble (off + sz) cs.length with
   | true, true => fillL pl (putAt cs off v.cells.toList) r
   | _, _ => none
def partL (T : Tab) (ft : Nat) (cs : List Value) (off : Nat) : Option Value :=
 match T.siz ft with
 | some (n, true) => some (.agg ((cs.drop off).take n).toArray)
 | some (_, false) => cs[off]?
 | none => none
def pev (T : Tab) (s : Slots) : Op → Option (Bool × Value)
 | .move x | .assign x => ev s x
 | .field t x i => match ev s x with
  | some (g, .agg cs) => match T.fld t i with
   | some (off, ft) => match partL T ft cs.toList off with
    | some v => some (g, v)
    | none => none
   | none => none
  | _ => none
 | .fieldAddr t x i => match ev s x with
  | some (g, .pointer (some a)) => match T.fld t i with
   | some (off, ft) => match T.siz ft with
    | some (_ + 1, _) => match addO a off with
     | some b => some (g, .pointer (some b))
     | none => none
    | _ => none
   | none => none
  | _ => none
 | .binOp op _ x y _ => match ev s x, ev s y with
  | some (g, a), some (g', b) => match pbin op a b with
   | some v => some (g && g', v)
   | none => none
  | _, _ => none
 | .unOp .not _ x => match ev s x with
  | some (g, .bool b) => some (g, .bool (!b))
  | _ => none
 | .build t parts => match evp s parts.toList with
  | some (g, vs) => match T.zer t, T.str t with
   | some z, some pl => match fillL pl z vs with
    | some cs => some (g, .agg cs.toArray)
    | none => none
   | _, _ => none
  | none => none
 | .extract x i => match ev s x with
  | some (g, .tuple vs) => match vs.toList[i]? with
   | some v => some (g, v)
   | none => none
  | _ => none
 | .nilCheck x => match ev s x with
  | some (g, .func (.func f) a b) => some (g, .func (.func f) a b)
  | some (g, .pointer (some a)) => some (g, .pointer (some a))
  | _ => none
 | .makeFunc (.func f) first cap => match evs s first.toList, evs s cap.toList with
  | some (g, vs), some (g', ws) => some (g && g', .func (.func f) vs.toArray ws.toArray)
  | _, _ => none
 | .pick c (.const (.bool true)) y => match ev s c, ev s y with
  | some (gc, .bool t), some (gy, .bool b) => some (gc && (t || gy), .bool (t || b))
  | _, _ => none
 | .pick c x (.const (.bool false)) => match ev s c, ev s x with
  | some (gc, .bool t), some (gx, .bool b) => some (gc && (!t || gx), .bool (t && b))
  | _, _ => none
 | .call ⟨.builtin .len, ⟨[x]⟩, ⟨[t]⟩⟩ => match ev s x with
  | some (g, .slice _ n _) => match T.slc t with
   | some _ => some (g, .int .i64 (n : Int))
   | none => none
  | _ => none
 | _ => none
theorem pz (a : Act) (v : Value) : a.eval (.const v) = v := rfl
variable {P : Program} {i : TypeInfo} {t : TypeId}
theorem nk (h : P.info? t = some i) (w : World) : (typeInfo t).run P w = .ok i w := by
 simp [typeInfo, h]
theorem dR (h : P.info? t = some i) (w : World) : (sizeOf t).run P w = .ok i.size w := by
 simp [sizeOf, nk h]
theorem kr {d : TypeDesc} (h : P.underlying t = some d) (w : World) : (isAgg t).run P w = .ok (aggD d) w := by
 simp only [isAgg, Sem.run_bind, run_underlying h, Result.andThen_ok];cases d <;> simp [aggD]
theorem lz {z : Value} (h : P.info? t = some i) (hz : i.zero = some z) (w : World) : (zeroValue t).run P w = .ok z w := by
 simp [zeroValue, nk h, hz]
variable {T : Tab}
theorem vo (hT : TabOk T P) {ft : Nat} {cs : Array Value} {off : Nat} (h : partL T ft cs.toList off = some v) (w : World) :
  (part ft cs off).run P w = .ok v w := by
 unfold partL at h;cases hs : T.siz ft with
 | none => simp [hs] at h
 | some q =>
  obtain ⟨n, b⟩ := q;obtain ⟨ti, d, h1, h2, h3, h4⟩ := hT.siz _ _ _ hs;cases b with
  | true =>
   simp only [hs, Option.some.injEq] at h;simp only [part, Sem.run_bind, kr h3, Result.andThen_ok, h4, if_true, dR h1, h2, Sem.run_pure];rw [← h];congr 2;apply Array.ext';simp [Array.toList_extract, List.extract]
  | false =>
   simp only [hs] at h;have : cs[off]? = some v := by simpa using h
   simp [part, Sem.run_bind, kr h3, h4, this]
theorem lY : ∀ (vs cs : List Value) (n : Nat), (putAt cs n vs).length = cs.length
 | [], _, _ => rfl
 | v :: vs, cs, n => by rw [putAt, lY vs]; simp
theorem pv : ∀ (vs : List Value) (cs : Array Value) (k off : Nat),
  ((vs.zipIdx k).foldl (fun cs (p : Value × Nat) => cs.setIfInBounds (off + p.2) p.1) cs).toList = putAt cs.toList (off + k) vs
 | [], _, _, _ => rfl
 | v :: vs, cs, k, off => by
  rw [List.zipIdx_cons, List.foldl_cons, pv vs];simp [putAt, Nat.add_assoc]
theorem yC {pl : List (Nat × Nat)} {place : Nat → Option (Nat × Nat)} (hp : ∀ i, place i = pl[i]?) : ∀ {vs : List (Nat × Value)} {cs : Array Value} {r : List Value},
  fillL pl cs.toList vs = some r → Instr.fill place cs vs = some r.toArray
 | [], cs, r, h => by simp [fillL] at h; simp [Instr.fill, ← h]
 | (i, v) :: vs, cs, r, h => by
  simp only [fillL] at h;cases hi : pl[i]? with
  | none => simp [hi] at h
  | some q =>
   obtain ⟨off, sz⟩ := q;simp only [hi] at h;split at h
   ·rename_i h1 h2;have h1 := Nat.eq_of_beq_eq_true h1;have h2 := Nat.le_of_ble_eq_true h2;simp only [Instr.fill, hp, hi];have h1' : v.cells.size = sz := by simpa using h1
    have h2' : off + sz ≤ cs.size := by simpa using h2
    rw [if_neg (by simp [h1']; omega)];refine yC hp ?_;rw [← h];congr 1;rw [← Array.foldl_toList, Array.toList_zipIdx];exact pv v.cells.toList cs 0 off
   ·cases h
theorem Ds {op : BinOp} {t : Nat} {y : Operand} {a b : Value} (h : pbin op a b = some v) (w : World) :
  (do eqGuard op t x y a b; binOp op t a b : Sem Value).run P w = .ok v w := by
 unfold pbin at h;split at h
 ·rename_i k a k' b;split at h
  ·rename_i hk;have hk : k = k' := by simpa using hk
   subst hk;have hgd : (eqGuard op t x y (.int k a) (.int k b)).run P w = .ok () w := by
    cases op <;> simp [eqGuard]
   simp only [Sem.run_bind, hgd, Result.andThen_ok];cases op <;> simp [cmpB] at h <;> subst h <;> simp [binOp, Op.intCmp]
  ·cases h
 ·cases h
variable {o : Oper}
theorem pev_ok (hT : TabOk T P) {s : Slots} {a : Act} (hs : nE s a) {g : Bool} (h : pev T s o.op = some (g, v)) (hg : g = true) (w : World) :
  (execOp a.eval o).run P w = .ok (.value v) w := by
 obtain ⟨dst, op, ty, ps, af, gd⟩ := o;simp only at h;unfold pev at h;split at h
 ·rename_i x; simp [execOp, ev_ok hs h hg]
 ·rename_i x; simp [execOp, ev_ok hs h hg]
 ·
  rename_i t x i;split at h
  ·rename_i g' cs he;split at h
   ·rename_i off ft hf;split at h
    ·rename_i v' hp;simp only [Option.some.injEq, Prod.mk.injEq] at h;obtain ⟨h1, h2⟩ := h;subst h1; subst h2;obtain ⟨fs, f, hu, hfi, ho, hft⟩ := hT.fld _ _ _ _ hf;subst ho; subst hft;have hx := ev_ok hs he hg;simp only [execOp, hx, Instr.field, Sem.run_bind, run_underlying hu, Result.andThen_ok, hfi, asAgg, Sem.run_pure, vo hT hp]
    ·cases h
   ·cases h
  ·cases h
 ·
  rename_i t x i;split at h
  ·rename_i g' ad he;split at h
   ·rename_i off ft hf;split at h
    ·rename_i n b hsz;split at h
     ·rename_i b' hb;simp only [Option.some.injEq, Prod.mk.injEq] at h;obtain ⟨h1, h2⟩ := h;subst h1; subst h2;obtain ⟨fs, f, hu, hfi, ho, hft⟩ := hT.fld _ _ _ _ hf;subst ho; subst hft;obtain ⟨ti, d, q1, q2, q3, q4⟩ := hT.siz _ _ _ hsz;have hx := ev_ok hs he hg;simp only [execOp, hx, Instr.fieldAt, Sem.run_bind, run_underlying hu, Result.andThen_ok, hfi, Instr.sureAddr, Sem.run_pure, fieldPlace, dR q1, q2];simp [DN hb]
     ·cases h
    ·cases h
   ·cases h
  ·cases h
 ·
  rename_i op t x y ty';split at h
  ·rename_i g1 a1 g2 b1 he1 he2;split at h
   ·rename_i v' hp;simp only [Option.some.injEq, Prod.mk.injEq] at h;obtain ⟨h1, h2⟩ := h;subst h1; subst h2;simp at hg;have h1 := ev_ok hs he1 hg.1;have h2 := ev_ok hs he2 hg.2;have := Ds (P := P) (t := t) (x := x) (y := y) hp w;simp only [execOp, h1, h2];rw [Sem.run_bind, this];simp
   ·cases h
  ·cases h
 ·
  rename_i t x;split at h
  ·rename_i g' b he;simp only [Option.some.injEq, Prod.mk.injEq] at h;obtain ⟨h1, h2⟩ := h;subst h1; subst h2;simp [execOp, ev_ok hs he hg, Op.unary]
  ·cases h
 ·
  rename_i t parts;split at h
  ·rename_i g' vs he;split at h
   ·rename_i z pl hz hpl;split at h
    ·rename_i cs hf;simp only [Option.some.injEq, Prod.mk.injEq] at h;obtain ⟨h1, h2⟩ := h;subst h1; subst h2;have hv := yD hs he hg;obtain ⟨ti, z', q1, q2, q3⟩ := hT.zer _ _ hz;obtain ⟨fs, hu, tis, r1, r2⟩ := hT.str _ _ hpl;have hm : ∀ (l : List Field) (tis : List TypeInfo), l.map (fun f => P.info? f.type) = tis.map some → ∀ w, (l.mapM fun f => (do pure (f.offset, ← sizeOf f.type) : Sem (Nat × Nat))).run P w = .ok ((l.zip tis).map (fun p => (p.1.offset, p.2.size))) w := by
      intro l;induction l with
      | nil => intro tis ht w; simp
      | cons f l ih =>
       intro tis ht w;cases tis with
       | nil => simp at ht
       | cons ti tis =>
        simp only [List.map_cons, List.cons.injEq] at ht;have := ih tis ht.2 w;simp only [List.mapM_cons, Sem.run_bind, dR ht.1, Result.andThen_ok, this, Sem.run_pure, List.zip_cons_cons, List.map_cons]
     have hpl' : (fs.mapM fun f => (do pure (f.offset, ← sizeOf f.type) : Sem (Nat × Nat))).run P w = .ok pl.toArray w := by
      rw [← Array.toArray_toList (xs := fs), List.mapM_toArray];have := hm fs.toList tis r1 w;rw [r2] at this;simp only [Sem.run_map, this, Result.andThen_ok]
     have hvs : (parts.map fun (i, x) => (i, a.eval x)).toList = vs := by rw [← hv]; simp
     simp only [execOp, Instr.build, Sem.run_bind, lz q1 q2, Result.andThen_ok, run_underlying hu, hpl', hvs];rw [yC (pl := pl) (r := cs) (by intro i; simp) (by rw [q3]; exact hf)];simp
    ·cases h
   ·cases h
  ·cases h
 ·
  rename_i x i;split at h
  ·rename_i g' vs he;split at h
   ·rename_i v' hv;simp only [Option.some.injEq, Prod.mk.injEq] at h;obtain ⟨h1, h2⟩ := h;subst h1; subst h2;have hv' : vs[i]? = some v' := by simpa using hv
    simp [execOp, ev_ok hs he hg, Instr.extract, hv']
   ·cases h
  ·cases h
 ·
  rename_i x;split at h
  ·rename_i g' f a1 b1 he;simp only [Option.some.injEq, Prod.mk.injEq] at h;obtain ⟨h1, h2⟩ := h;subst h1; subst h2;simp [execOp, ev_ok hs he hg]
  ·rename_i g' ad he;simp only [Option.some.injEq, Prod.mk.injEq] at h;obtain ⟨h1, h2⟩ := h;subst h1; subst h2;simp [execOp, ev_ok hs he hg]
  ·cases h
 ·
  rename_i f first cap
  split at h
  ·rename_i g1 vs g2 ws he1 he2;simp only [Option.some.injEq, Prod.mk.injEq] at h;obtain ⟨h1, h2⟩ := h;subst h1; subst h2;simp at hg;have h1 := wF hs he1 hg.1;have h2 := wF hs he2 hg.2;have e1 : first.map a.eval = vs.toArray := by apply Array.ext'; simp [h1]
   have e2 : cap.map a.eval = ws.toArray := by apply Array.ext'; simp [h2]
   simp [execOp, Instr.makeFunc, e1, e2]
  ·cases h
 ·
  rename_i c y;split at h
  ·rename_i gc t gy b he1 he2;simp only [Option.some.injEq, Prod.mk.injEq] at h;obtain ⟨h1, h2⟩ := h;subst h1; subst h2;simp at hg;have h1 := ev_ok hs he1 hg.1;cases t with
   | true => simp [execOp, h1, asBool, pz]
   | false => simp at hg; simp [execOp, h1, asBool, ev_ok hs he2 hg.2]
  ·cases h
 ·
  rename_i c x _;split at h
  ·rename_i gc t gx b he1 he2;simp only [Option.some.injEq, Prod.mk.injEq] at h;obtain ⟨h1, h2⟩ := h;subst h1; subst h2;simp at hg;have h1 := ev_ok hs he1 hg.1;cases t with
   | false => simp [execOp, h1, asBool, pz]
   | true => simp at hg; simp [execOp, h1, asBool, ev_ok hs he2 hg.2]
  ·cases h
 ·
  rename_i x t;split at h
  ·rename_i g' A n c he;split at h
   ·rename_i e hsl;simp only [Option.some.injEq, Prod.mk.injEq] at h;obtain ⟨h1, h2⟩ := h;subst h1; subst h2;simp [execOp, resolve, invoke, builtin, ev_ok hs he hg, Builtin.len_, run_underlying (hT.slc _ _ hsl), goInt]
   ·cases h
  ·cases h
 ·cases h
abbrev Pred := (Nat → Prop) → World → Prop
def Ext (M : Nat → Prop) (w w' : World) : Prop := w.heap.size ≤ w'.heap.size ∧ ∀ k, k < w.heap.size → ¬ M k → w'.heap[k]? = w.heap[k]?
class Stab (F : Pred) : Prop where
 st : ∀ M M' w w', F M w → Ext M w w' → (∀ k, k < w.heap.size → M' k → M k) → F M' w'
class StabL (l : List Pred) : Prop where
 st : ∀ F ∈ l, Stab F
instance : StabL [] := ⟨fun _ h => by cases h⟩
instance {F : Pred} {l : List Pred} [h : Stab F] [h' : StabL l] : StabL (F :: l) := ⟨fun G hG => by
 cases hG with
 | head => exact h
 | tail _ hG => exact h'.st G hG⟩
structure Blk where
 g : Nat
 t : TypeId
 cs : List Value
structure Own where
 v : Value
 b : Option Nat
 e : TypeId
 esz : Nat
 by_ : Nat
 n : Nat
 xs : List Value
structure St where
 n : Nat
 sl : Slots
 bl : List Blk
 ow : List Own
 fa : List Pred
structure Blw (B : List Nat) (n : Nat) (w w' : World) : Prop where
 os : w'.os = w.os
 tape : w'.tape = w.tape
 output : w'.output = w.output
 size : w.heap.size ≤ w'.heap.size
 block : ∀ k, k < n → k ∉ B → w'.heap[k]? = w.heap[k]?
theorem Blw.refl (B : List Nat) (n : Nat) (w : World) : Blw B n w w := ⟨rfl, rfl, rfl, Nr, fun _ _ _ => rfl⟩
variable {B : List Nat} {a b c : World}
theorem Blw.trans (h : Blw B n a b) (k : Blw B n b c) : Blw B n a c :=
 ⟨k.os.trans h.os, k.tape.trans h.tape, k.output.trans h.output, Nat.le_trans h.size k.size, fun i hi hB => (k.block i hi hB).trans (h.block i hi hB)⟩
theorem Blw.of {m : Nat} (h : Below m a b) (hn : n ≤ m) : Blw B n a b := ⟨h.os, h.tape, h.output, h.size, fun k hk _ => h.block k (Nat.lt_of_lt_of_le hk hn)⟩
theorem Blw.below (h : Blw [] n a b) : Below n a b := ⟨h.os, h.tape, h.output, h.size, fun k hk => h.block k hk (by simp)⟩
structure Cx where
 w0 : World
 M0 : Nat → Prop
 B0 : List Nat
 hM : ∀ b, M0 b → b < w0.heap.size
 hB : ∀ b, b ∈ B0 → b < w0.heap.size ∧ ¬ M0 b
def Cx.mine (C : Cx) (g : Nat) : Prop := C.w0.heap.size ≤ g ∨ g ∈ C.B0
def ids (s : St) : List Nat := s.bl.map (·.g) ++ s.ow.filterMap (·.b)
def Mset (C : Cx) (s : St) : Nat → Prop := fun b => C.M0 b ∨ b ∈ ids s
def BlkOk (C : Cx) (w : World) (k : Blk) : Prop := w.heap[k.g]? = some (.cells k.cs.toArray k.t (0, 0)) ∧ C.mine k.g
def OwnOk (C : Cx) (w : World) (o : Own) : Prop :=
 o.xs.length = o.n * o.esz ∧ (o.n ≤ 9223372036854775807 ∧ o.n * o.by_ ≤ 140737488355328) ∧
 match o.b with
 | none => o.n = 0 ∧ ∃ A, o.v = .slice A 0 0
 | some g => C.mine g ∧ ∃ cap cur, o.v = .slice (some ⟨g, 0, none⟩) o.n cap ∧ w.heap[g]? = some (.cells cur o.e (0, 0)) ∧ o.n ≤ cap ∧ cap ≤ 9223372036854775807 ∧
   cur.size = cap * o.esz ∧ cur.toList.take (o.n * o.esz) = o.xs
structure WOk (C : Cx) (s : St) (w : World) : Prop where
 be : Blw C.B0 C.w0.heap.size C.w0 w
 bl : ∀ k ∈ s.bl, BlkOk C w k
 ow : ∀ o ∈ s.ow, OwnOk C w o
 nd : (ids s).Nodup
 fa : ∀ F ∈ s.fa, Stab F ∧ F (Mset C s) w
structure Rep (C : Cx) (s : St) (a : Act) (w : World) : Prop where
 sz : a.tmps.size = s.n
 df : a.defers = []
 sl : nE s.sl a
 wo : WOk C s w
variable {g : Nat} {w : World}
theorem ke {o : Obj} (h : w.heap[g]? = some o) : g < w.heap.size := (Array.getElem?_eq_some_iff.1 h).1
variable {C : Cx} {s : St}
theorem kK (h : WOk C s w) {b : Nat} (hb : b ∈ ids s) : b < w.heap.size ∧ C.mine b := by
 rcases List.mem_append.1 hb with hb | hb
 ·obtain ⟨k, hk, rfl⟩ := List.mem_map.1 hb;exact ⟨ke (h.bl k hk).1, (h.bl k hk).2⟩
 ·obtain ⟨o, ho, hob⟩ := List.mem_filterMap.1 hb;have := h.ow o ho;unfold OwnOk at this;rw [hob] at this;obtain ⟨_, _, hg, cap, cur, _, hh, _⟩ := this;exact ⟨ke hh, hg⟩
theorem xP (h : WOk C s w) {b : Nat} (hb : Mset C s b) : b < w.heap.size := by
 rcases hb with hb | hb
 ·exact Nat.lt_of_lt_of_le (C.hM b hb) h.be.size
 ·exact (kK h hb).1
variable {w' : World}
theorem BlkOk.of_eq {k : Blk} (h : BlkOk C w k) (he : w'.heap[k.g]? = w.heap[k.g]?) : BlkOk C w' k := ⟨he.trans h.1, h.2⟩
theorem OwnOk.of_eq {o : Own} (h : OwnOk C w o) (he : ∀ g, o.b = some g → w'.heap[g]? = w.heap[g]?) : OwnOk C w' o := by
 unfold OwnOk at *;refine ⟨h.1, h.2.1, ?_⟩;have h2 := h.2.2;cases hb : o.b with
 | none => rw [hb] at h2; exact h2
 | some g =>
  rw [hb] at h2;obtain ⟨hg, cap, cur, hv, hh, r⟩ := h2;exact ⟨hg, cap, cur, hv, (he g hb).trans hh, r⟩
theorem WOk.grow (h : WOk C s w) (hb : Below w.heap.size w w') : WOk C s w' where
 be := h.be.trans (.of hb h.be.size)
 bl k hk := (h.bl k hk).of_eq (hb.block _ (ke (h.bl k hk).1))
 ow o ho := (h.ow o ho).of_eq fun g hg => hb.block _ (kK h (List.mem_append_right _ (List.mem_filterMap.2 ⟨o, ho, hg⟩))).1
 nd := h.nd
 fa F hF := ⟨(h.fa F hF).1, (h.fa F hF).1.st _ _ w w' (h.fa F hF).2 ⟨hb.size, fun k hk _ => hb.block k hk⟩ fun _ _ hm => hm⟩
theorem WOk.drew (h : WOk C s w) : WOk C s { w with drawn := w.drawn + 1 } :=
 h.grow ⟨rfl, rfl, rfl, Nr, fun _ _ => rfl⟩
theorem WOk.alloc (h : WOk C s w) (t : TypeId) (cs : List Value) :
  WOk C { s with bl := ⟨w.heap.size, t, cs⟩ :: s.bl } { w with heap := w.heap.push (.cells cs.toArray t) } := by
 have hb : Below w.heap.size w { w with heap := w.heap.push (.cells cs.toArray t) } :=
  ⟨rfl, rfl, rfl, by simp, fun k hk => by simp only; rw [Array.getElem?_push, if_neg (by omega)]⟩
 have hg := h.grow hb;refine ⟨hg.be, ?_, hg.ow, ?_, ?_⟩
 ·intro k hk;cases hk with
  | head => exact ⟨by simp, .inl h.be.size⟩
  | tail _ hk => exact hg.bl k hk
 ·show (w.heap.size :: ids s).Nodup;exact List.nodup_cons.2 ⟨fun hm => Nat.lt_irrefl _ (kK h hm).1, h.nd⟩
 ·intro F hF;refine ⟨(h.fa F hF).1, (h.fa F hF).1.st _ _ w _ (h.fa F hF).2 ⟨hb.size, fun k hk _ => hb.block k hk⟩ ?_⟩;intro k hk hm;rcases hm with hm | hm
  ·exact .inl hm
  ·have hm : k ∈ w.heap.size :: ids s := hm;rcases List.mem_cons.1 hm with hm | hm
   ·omega
   ·exact .inr hm
inductive UpdB : List Blk → Nat → List Value → List Value → List Blk → Prop
 | here (g : Nat) (t : TypeId) (cs cs' : List Value) (r : List Blk) : UpdB (⟨g, t, cs⟩ :: r) g cs cs' (⟨g, t, cs'⟩ :: r)
 | there (k : Blk) {r r' : List Blk} {g : Nat} {cs cs' : List Value} (h : UpdB r g cs cs' r') : UpdB (k :: r) g cs cs' (k :: r')
variable {cs cs' : List Value} {l l' : List Blk}
theorem UpdB.map (h : UpdB l g cs cs' l') : l'.map (·.g) = l.map (·.g) := by
 induction h with
 | here => rfl
 | there k _ ih => simp [ih]
theorem UpdB.mem (h : UpdB l g cs cs' l') : ∃ t, ⟨g, t, cs⟩ ∈ l ∧
  ((l.map (·.g)).Nodup → ∀ k ∈ l', k = ⟨g, t, cs'⟩ ∨ (k ∈ l ∧ k.g ≠ g)) := by
 induction h with
 | here g t cs cs' r =>
  refine ⟨t, .head _, fun hn k hk => ?_⟩;cases hk with
  | head => exact .inl rfl
  | tail _ hk =>
   refine .inr ⟨.tail _ hk, fun e => ?_⟩;rw [List.map_cons, List.nodup_cons] at hn;exact hn.1 (by rw [← e]; exact List.mem_map.2 ⟨k, hk, rfl⟩)
 | there k0 h ih =>
  obtain ⟨t, hm, hr⟩ := ih;refine ⟨t, .tail _ hm, fun hn k hk => ?_⟩;rw [List.map_cons, List.nodup_cons] at hn;cases hk with
  | head => exact .inr ⟨.head _, fun e => hn.1 (by rw [e]; exact List.mem_map.2 ⟨_, hm, rfl⟩)⟩
  | tail _ hk =>
   rcases hr hn.2 k hk with h1 | ⟨h1, h2⟩
   ·exact .inl h1
   ·exact .inr ⟨.tail _ h1, h2⟩
structure SetB (w w' : World) (g : Nat) (o : Obj) : Prop where
 os : w'.os = w.os
 tape : w'.tape = w.tape
 output : w'.output = w.output
 size : w'.heap.size = w.heap.size
 at_ : w'.heap[g]? = some o
 far : ∀ k, k ≠ g → w'.heap[k]? = w.heap[k]?
theorem WOk.store {bl' : List Blk} (h : WOk C s w) (hu : UpdB s.bl g cs cs' bl')
  (ht : ∀ t', ⟨g, t', cs⟩ ∈ s.bl → t' = t)
  (hw : SetB w w' g (.cells cs'.toArray t (0, 0))) : WOk C { s with bl := bl' } w' := by
 obtain ⟨t', hm, hr⟩ := hu.mem;have := ht t' hm;subst this;have hgi : g ∈ ids s := List.mem_append_left _ (List.mem_map.2 ⟨_, hm, rfl⟩);have hids : ids { s with bl := bl' } = ids s := by unfold ids; rw [hu.map]
 have hnb : (s.bl.map (·.g)).Nodup := (List.nodup_append.1 h.nd).1;have hex : Ext (Mset C s) w w' := ⟨by rw [hw.size]; exact Nr, fun k _ hk => hw.far k fun e => hk (.inr (e ▸ hgi))⟩;have hlt := (kK h hgi);refine ⟨?_, ?_, ?_, by rw [hids]; exact h.nd, ?_⟩
 ·exact h.be.trans ⟨hw.os, hw.tape, hw.output, by rw [hw.size]; exact Nr, fun k hk hB => hw.far k fun e => by
   subst e;rcases hlt.2 with h2 | h2
   ·omega
   ·exact hB h2⟩
 ·intro k hk;rcases hr hnb k hk with rfl | ⟨h1, h2⟩
  ·exact ⟨hw.at_, hlt.2⟩
  ·exact (h.bl k h1).of_eq (hw.far _ h2)
 ·intro o ho;refine (h.ow o ho).of_eq fun g' hg' => hw.far _ fun e => ?_;subst e;exact (List.nodup_append.1 h.nd).2.2 g' (List.mem_map.2 ⟨_, hm, rfl⟩) g' (List.mem_filterMap.2 ⟨o, ho, hg'⟩) rfl
 ·intro F hF;refine ⟨(h.fa F hF).1, (h.fa F hF).1.st _ _ w w' (h.fa F hF).2 hex fun k _ hm => ?_⟩;rcases hm with hm | hm
  ·exact .inl hm
  ·exact .inr (hids ▸ hm)
theorem jH (g n k : Nat) : (⟨g, n, none⟩ : Addr).add k = ⟨g, n + k, none⟩ := by
 unfold Addr.add;split
 ·rename_i h; simp [h]
 ·rfl
theorem jd (a : Addr) (i j : Nat) : (a.add i).add j = a.add (i + j) := by
 unfold Addr.add;by_cases hi : i = 0 <;> by_cases hj : j = 0 <;> simp [hi, hj, Nat.add_assoc]
theorem lp (a : Addr) (n : Nat) : (a.add n).block = a.block := by unfold Addr.add; split <;> rfl
theorem rQ {P : Program} {w : World} {a : Addr} : ∀ (vs : List Value) (i : Nat) (acc : Array Value),
  (∀ j v, vs[j]? = some v → w.cell? (a.add (i + j)) = some v) → (loadCellsFrom a i vs.length acc).run P w = .ok (acc ++ vs.toArray) w
 | [], i, acc, _ => by simp [loadCellsFrom]
 | v :: vs, i, acc, h => by
  have h0 : w.cell? (a.add i) = some v := by simpa using h 0 v rfl
  have ih := rQ (P := P) (w := w) (a := a) vs (i + 1) (acc.push v) (fun j u hj => by
   have := h (j + 1) u (by simpa using hj);rw [Nat.add_assoc, Nat.add_comm 1 j]; exact this)
  simp only [List.length_cons, loadCellsFrom, Sem.run_bind, run_load, h0, Result.andThen_ok, ih];congr 1;apply Array.ext';simp
variable {vs : List Value}
theorem qz {a : Addr} (hn : vs.length = n)
  (h : ∀ j v, vs[j]? = some v → w.cell? (a.add j) = some v) : (loadCells a n).run P w = .ok vs.toArray w := by
 subst hn;have := rQ (P := P) (w := w) (a := a) vs 0 #[] (by simpa using h);simpa [loadCells] using this
theorem j7 (hT : TabOk T P) {a : Addr} {t : Nat} (ht : T.siz t = some (n, true)) (hn : vs.length = n)
  (h : ∀ j v, vs[j]? = some v → w.cell? (a.add j) = some v) : (loadVar t a).run P w = .ok (.agg vs.toArray) w := by
 obtain ⟨ti, d, q1, q2, q3, q4⟩ := hT.siz _ _ _ ht;simp [loadVar, Sem.run_bind, kr q3, q4, dR q1, q2, qz hn h]
theorem i5 (hT : TabOk T P) {a : Addr} {t : Nat} (ht : T.siz t = some (n, false))
  (h : w.cell? a = some v) : (loadVar t a).run P w = .ok v w := by
 obtain ⟨ti, d, q1, q2, q3, q4⟩ := hT.siz _ _ _ ht;simp [loadVar, Sem.run_bind, kr q3, q4, h]
theorem le {t : Nat} (h : w.heap[g]? = some (.cells cs.toArray t (0, 0))) (i : Nat) : w.cell? ⟨g, i, none⟩ = cs[i]? := by
 simp [World.cell?, h]
theorem jz {P : Program} {g t : Nat} : ∀ (vs : List Value) (w : World) (cs : List Value) (i off : Nat),
  w.heap[g]? = some (.cells cs.toArray t (0, 0)) → off + i + vs.length ≤ cs.length → (∀ v ∈ vs, v.oneCell' = true) →
  ∃ w', (storeCells ⟨g, off, none⟩ vs i).run P w = .ok () w' ∧ SetB w w' g (.cells (putAt cs (off + i) vs).toArray t (0, 0))
 | [], w, cs, i, off, h, _, _ => ⟨w, by simp [storeCells], rfl, rfl, rfl, rfl, h, fun _ _ => rfl⟩
 | v :: vs, w, cs, i, off, h, hl, h1 => by
  have hv := h1 v (.head _);simp only [List.length_cons] at hl;have hc : w.cell? ⟨g, off + i, none⟩ = some (cs[off + i]'(by omega)) := by rw [le h]; exact List.getElem?_eq_getElem (by omega)
  have hf : w.frozen? ⟨g, off + i, none⟩ = false := by simp [World.frozen?, h]
  have hg := ke h;have hset : (w.setCell ⟨g, off + i, none⟩ v).heap[g]? = some (.cells (cs.set (off + i) v).toArray t (0, 0)) := by
   simp [World.setCell, Array.getElem?_modify, h]
  obtain ⟨w', hr, hS⟩ := jz (P := P) vs (w.setCell ⟨g, off + i, none⟩ v) (cs.set (off + i) v) (i + 1) off hset (by simp; omega) (fun u hu => h1 u (.tail _ hu));refine ⟨w', ?_, ?_⟩
  ·rw [storeCells, Sem.run_bind, jH, run_store P w _ v _ hv];simp only [hc, hf];simpa using hr
  ·refine ⟨hS.os, hS.tape, hS.output, by rw [hS.size]; simp [World.setCell], ?_, fun k hk => ?_⟩
   ·rw [hS.at_, ← Nat.add_assoc]; rfl
   ·rw [hS.far k hk];simp only [World.setCell, Array.getElem?_modify];rw [if_neg (by omega)]
abbrev Post := Exit → St → Prop
def lZ (C : Cx) (Q : Post) : Exit → Act → World → Prop
 | .panic _, _, _ => False
 | .goto _, _, _ => False
 | .outgrown, _, _ => False
 | .normal, a, w => ∃ s, Q .normal s ∧ Rep C s a w
 | .ret, a, w => ∃ s, Q .ret s ∧ Rep C s a w
 | .exit i, a, w => ∃ s, Q (.exit i) s ∧ Rep C s a w
def St.put (s : St) (d : Nat) (x : SV) : St := { s with sl := (d, x) :: s.sl }
theorem tv (k : Nat) (x : SV) (r : Slots) (n : Nat) : getS ((k, x) :: r) n = if k = n then some x else getS r n := by
 simp only [getS];by_cases h : k = n
 ·subst h; simp
 ·have : Nat.beq k n = false := by
   cases hb : Nat.beq k n with
   | false => rfl
   | true => exact absurd (Nat.eq_of_beq_eq_true hb) h
  simp [this, h]
theorem Rep.putv {a : Act} (h : Rep C s a w) {d : Nat} (hd : d < s.n) {x : SV} {u : Value} (hx : x.ok (some u)) {bl : List Blk} {ow : List Own} {fa : List Pred}
  (hw : WOk C { s with bl := bl, ow := ow, fa := fa } w') :
  Rep C { n := s.n, sl := (d, x) :: s.sl, bl := bl, ow := ow, fa := fa } (a.put (some d) u) w' where
 sz := by simp [Act.put, h.sz]
 df := h.df
 sl n y hy := by
  rw [tv] at hy;have hsz := h.sz;by_cases hn : d = n
  ·subst hn;simp at hy;subst hy;have : (a.put (some d) u).tmps[d]? = some u := by simp [Act.put, hsz, hd]
   rw [this]; exact hx
  ·simp [hn] at hy;have : (a.put (some d) u).tmps[n]? = a.tmps[n]? := by simp [Act.put, Array.getElem?_setIfInBounds_ne hn]
   rw [this]; exact h.sl n y hy
 wo := ⟨hw.be, hw.bl, hw.ow, hw.nd, hw.fa⟩
def Keeps (D : List Nat) (w w' : World) : Prop := w.heap.size ≤ w'.heap.size ∧ ∀ k, k < w.heap.size → k ∉ D → w'.heap[k]? = w.heap[k]?
theorem Keeps.refl (D : List Nat) (w : World) : Keeps D w w := ⟨Nr, fun _ _ _ => rfl⟩
theorem Keeps.trans {D : List Nat} (h : Keeps D a b) (k : Keeps D b c) : Keeps D a c :=
 ⟨Nat.le_trans h.1 k.1, fun i hi hd => (k.2 i (Nat.lt_of_lt_of_le hi h.1) hd).trans (h.2 i hi hd)⟩
theorem Keeps.mono {D D' : List Nat} (h : Keeps D a b) (hd : ∀ g ∈ D, g ∈ D') : Keeps D' a b := ⟨h.1, fun i hi hn => h.2 i hi fun hm => hn (hd i hm)⟩
theorem Keeps.of_below {D : List Nat} (h : Below a.heap.size a b) : Keeps D a b := ⟨h.size, fun k hk _ => h.block k hk⟩
theorem pu (D : List Nat) (w : World) (o : Obj) : Keeps D w { w with heap := w.heap.push o } :=
 ⟨by simp, fun k hk _ => by simp only; rw [Array.getElem?_push, if_neg (by omega)]⟩
def hY : Option (List Nat) → World → World → Prop
 | none, _, _ => True
 | some D, w, w' => Keeps D w w'
theorem hY.refl : ∀ (D : Option (List Nat)) (w : World), hY D w w
 | none, _ => trivial
 | some D, w => Keeps.refl D w
theorem hY.trans : ∀ {D : Option (List Nat)} {a b c : World}, hY D a b → hY D b c → hY D a c
 | none, _, _, _, _, _ => trivial
 | some _, _, _, _, h, k => Keeps.trans h k
def subO : Option (List Nat) → Option (List Nat) → Prop
 | _, none => True
 | some l, some D => ∀ g ∈ l, g ∈ D
 | none, some _ => False
theorem hY.mono : ∀ {D D' : Option (List Nat)} {a b : World}, hY D a b → subO D D' → hY D' a b
 | _, none, _, _, _, _ => trivial
 | some _, some _, _, _, h, k => Keeps.mono h k
 | none, some _, _, _, _, k => k.elim
def noG (_ : Exit) (_ : Act) (_ : World) : Prop := False
def rF (P : Program) (ops : Array Oper) (Q : Exit → Act → World → Prop) (fp : Nat → Option (List Nat)) : Nat → Array Bool → Act → World → Prop
 | 0, listed, a, w => Region.ready .any ops listed = [] ∧ Q .normal a w
 | fuel + 1, listed, a, w =>
  (Region.ready .any ops listed = [] → Q .normal a w) ∧
  ∀ i ∈ Region.ready .any ops listed, wpOp P ops noG i (fun a' w' => hY (fp i) w w' ∧ rF P ops Q fp fuel (listed.setIfInBounds i true) a' w') a w
variable {K : Act → World → Prop} {Q : Exit → Act → World → Prop}
theorem Oper.wp_no {a : Act} (h : o.wp P a w K noG) : o.wp P a w K Q := by
 unfold Oper.wp at *;generalize (execOp a.eval o).run P w = r at *;cases r with
 | ok n w' =>
  cases n <;> simp only [Oper.upon] at h ⊢ <;>
   first
    | exact h
    | exact Calls.mono h (fun e w'' he => by cases e <;> first | exact he | exact he.elim | exact (he.2 : False).elim | (obtain ⟨_, _, he⟩ := he; exact he.elim))
 | halt x w' => cases x <;> simp only [Oper.upon] at h ⊢ <;> exact h.elim
variable {ops : Array Oper}
theorem C6 {i : Nat} {a : Act} (h : wpOp P ops noG i K a w) : wpOp P ops Q i K a w := by
 unfold wpOp at *;split
 ·rename_i ho; simp only [ho] at h; exact h
 ·rename_i o ho;simp only [ho] at h;split
  ·rename_i hw;simp only [hw, if_true] at h;rcases h with h | ⟨_, _, _, h⟩
   ·exact .inl (Oper.wp_no h)
   ·exact h.elim
  ·rename_i hw; simp only [hw] at h; exact h
theorem vS {P : Program} {ops : Array Oper} {Q : Exit → Act → World → Prop} {fp : Nat → Option (List Nat)} : ∀ (fuel : Nat) (listed : Array Bool) (a : Act) (w : World), rF P ops Q fp fuel listed a w → wpAny P .any ops Q fuel listed a w
 | 0, _, _, _, h => h
 | fuel + 1, _, _, _, h => ⟨h.1, fun i hi => wpOp_mono (fun a' w' h' => vS fuel _ a' w' h'.2) (C6 (h.2 i hi))⟩
def jO (P : Program) (ops : Array Oper) (D : Option (List Nat)) (o : Oper) (v : Value) (a : Act) (w : World) : Prop :=
 (Region.wanted o (yielded ops a.tmps) = true ∧ ∀ w', hY D w w' → (execOp a.eval o).run P w' = .ok (.value v) w') ∨
 (Region.wanted o (yielded ops a.tmps) = false ∧ v = undef)
theorem jO.wpOp {P : Program} {ops : Array Oper} {D : Option (List Nat)} {i : Nat} {o : Oper} {v : Value} {a : Act} {w : World} (hi : ops[i]? = some o) (hy : jO P ops D o v a w)
  {K : Act → World → Prop} {Q : Exit → Act → World → Prop} (h : K (a.put o.dst v) w) : wpOp P ops Q i K a w := by
 unfold Go.wpOp;simp only [hi];rcases hy with ⟨hw, hv⟩ | ⟨hw, rfl⟩
 ·simp only [hw, if_true, Oper.wp, hv w (hY.refl _ _), Oper.upon]; exact .inl h
 ·simp only [hw, Bool.false_eq_true, if_false]; exact h
variable {D : Option (List Nat)}
theorem jO.of_same {a a' : Act} (hy : jO P ops D o v a w) (he : execOp a'.eval o = execOp a.eval o)
  (hw : Region.wanted o (yielded ops a'.tmps) = Region.wanted o (yielded ops a.tmps)) (hk : hY D w w') : jO P ops D o v a' w' := by
 unfold jO at *;rw [he, hw];exact hy.imp (fun ⟨h1, h2⟩ => ⟨h1, fun w'' h => h2 w'' (hk.trans h)⟩) id
variable {oi : Oper}
theorem zI {j : Nat} {oj : Oper} (hj : ops[j]? = some oj) (hap : oi.apart ops oj = true)
  (hsi : ∀ cs b, oi.op ≠ .select cs b) (hsj : ∀ cs b, oj.op ≠ .select cs b) {a : Act} (hK : ∀ a' w', K a' w' → hY D w w')
  (hy : jO P ops D oi v a w) (h : wpOp P ops noG j K (a.put oi.dst v) w) :
  wpOp P ops noG j (fun a' w' => jO P ops D oi v a' w' ∧ K (a'.put oi.dst v) w') a w := by
 obtain ⟨h1, h2, h3⟩ := Oper.apart_spec hap;have keep : ∀ (a : Act), jO P ops D oi v a w → ∀ u w', hY D w w' → jO P ops D oi v (a.put oj.dst u) w' := fun a hy u w' hk =>
  hy.of_same (execOp_put oi hsi a oj.dst u h3) (wanted_put oi a oj.dst u h3) hk
 have keepD : ∀ d, jO P ops D oi v { a with defers := d :: a.defers } w := fun d => hy.of_same rfl rfl (hY.refl _ _);unfold wpOp at *;simp only [hj] at *;rw [wanted_put oj a oi.dst v h1] at h;split
 ·rename_i hw;simp only [hw, if_true] at h;rcases h with h | ⟨_, _, _, h⟩;case inr => exact h.elim
  refine .inl ?_;unfold Oper.wp at *;rw [execOp_put oj hsj a oi.dst v h1] at h;generalize (execOp a.eval oj).run P w = r at *;cases r with
  | ok n w' =>
   cases n <;> simp only [Oper.upon] at h ⊢;case value u => exact ⟨keep a hy u _ (hK _ _ h), by rw [← Act.put_comm a v u h2]; exact h⟩
   case skip => exact ⟨keep a hy _ _ (hK _ _ h), by rw [← Act.put_comm a v undef h2]; exact h⟩
   case defer d =>
    refine ⟨keep _ (keepD d) _ _ (hK _ _ h), ?_⟩;rw [← Act.put_comm _ v undef h2, ← Act.put_defers];exact h
   case enter f args =>
    refine Calls.mono h fun e w'' he => ?_;cases e with
    | returned u => exact ⟨keep a hy u _ (hK _ _ he), by rw [← Act.put_comm a v u h2]; exact he⟩
    | panicked c => exact he.elim
    | outgrown => exact he
   case row row args => exact Rows.mono h fun u w'' he => ⟨keep a hy u _ (hK _ _ he), by rw [← Act.put_comm a v u h2]; exact he⟩
  | halt x w' =>
   cases x <;> simp only [Oper.upon] at h ⊢;case panic u => exact h.elim
 ·rename_i hw;simp only [hw] at h;exact ⟨keep a hy _ _ (hK _ _ h), by rw [← Act.put_comm a v undef h2]; exact h⟩
def mf (ops : Array Oper) (listed : Array Bool) (i : Nat) (B : List Nat) : Bool :=
 B.all fun j => !(listed.getD j true) && match ops[j]? with | some oj => oj.after.any fun e => Region.binds .any e && (e.on == i || B.contains e.on) | none => false
theorem qk {fp : Nat → Option (List Nat)} {i : Nat} (hi : ops[i]? = some oi) (hsel : ∀ (j : Nat) (o : Oper) cs b, ops[j]? = some o → o.op ≠ .select cs b) :
  ∀ (fuel : Nat) (listed : Array Bool) (a : Act) (w : World),
   mf ops listed i B = true →
   (∀ j oj, ops[j]? = some oj → j ≠ i → listed.getD j true = false → (∀ e ∈ oj.after, Region.binds .any e = true → e.on ≠ i) → j ∉ B → oi.apart ops oj = true ∧ subO (fp j) D) →
   i ∈ Region.ready .any ops listed → jO P ops D oi v a w →
   rF P ops Q fp fuel (listed.setIfInBounds i true) (a.put oi.dst v) w → rF P ops Q fp (fuel + 1) listed a w := by
 intro fuel;induction fuel with
 | zero =>
  intro listed a w _ _ hr hy H;refine ⟨fun h => (by rw [h] at hr; cases hr), fun j hj => ?_⟩;by_cases hji : j = i
  ·subst hji; exact hy.wpOp hi ⟨hY.refl _ _, H⟩
  ·have := ready_mono hj hji;rw [H.1] at this;cases this
 | succ fuel ih =>
  intro listed a w hB hfree hr hy H;refine ⟨fun h => (by rw [h] at hr; cases hr), fun j hj => ?_⟩;by_cases hji : j = i
  ·subst hji; exact hy.wpOp hi ⟨hY.refl _ _, H⟩
  ·have h1 := H.2 j (ready_mono hj hji);obtain ⟨hjun, oj, hoj, hall⟩ := mem_ready.1 hj;have hnot : ∀ e ∈ oj.after, Region.binds .any e = true → e.on ≠ i := fun e he hb heq => by
    have h1 := hall e he hb;have h0 := (mem_ready.1 hr).1;rw [heq] at h1;rcases Nat.lt_or_ge i listed.size with h' | h'
    ·simp [h'] at h0 h1; rw [h0] at h1; cases h1
    ·simp [Array.getElem?_eq_none h'] at h1
   have hjB : j ∉ B := fun hm => by
    have hb := List.all_eq_true.1 hB j hm;simp only [hoj, Bool.and_eq_true] at hb;obtain ⟨e, he, hx⟩ := Array.any_eq_true'.1 hb.2;simp only [Bool.and_eq_true, Bool.or_eq_true, beq_iff_eq, List.contains_iff_mem] at hx;obtain ⟨hx1, hx2 | hx2⟩ := hx
    ·exact hnot e he hx1 hx2
    ·have h1 := hall e he hx1;have h2 := List.all_eq_true.1 hB _ hx2;simp only [Bool.and_eq_true, Bool.not_eq_true'] at h2;have h3 := h2.1;rcases Nat.lt_or_ge e.on listed.size with h' | h'
     ·simp [h'] at h3 h1; rw [h3] at h1; cases h1
     ·simp [Array.getElem?_eq_none h'] at h1
   obtain ⟨hap, hfp⟩ := hfree j oj hoj hji hjun hnot hjB;have h2 := zI (D := D) hoj hap (fun cs b => hsel i oi cs b hi) (fun cs b => hsel j oj cs b hoj) (fun a' w' h => h.1.mono hfp) hy h1;have hB' : mf ops (listed.setIfInBounds j true) i B = true := by
    refine List.all_eq_true.2 fun k hk => ?_;have hb := List.all_eq_true.1 hB k hk;have hjk : j ≠ k := fun e => hjB (e ▸ hk);rw [getD_set_ne true hjk];exact hb
   have hfree' : ∀ k ok, ops[k]? = some ok → k ≠ i → (listed.setIfInBounds j true).getD k true = false →
     (∀ e ∈ ok.after, Region.binds .any e = true → e.on ≠ i) → k ∉ B → oi.apart ops ok = true ∧ subO (fp k) D := fun k ok hk hki hun hno => by
    refine hfree k ok hk hki ?_ hno;by_cases hjk : j = k
    ·subst hjk; exact hjun
    ·rw [getD_set_ne true hjk] at hun; exact hun
   refine wpOp_mono (fun a' w' h3 => ⟨h3.2.1, ih (listed.setIfInBounds j true) a' w' hB' hfree' (ready_mono hr (Ne.symm hji)) h3.1 ?_⟩) h2;rw [Array.setIfInBounds_comm _ _ hji];exact h3.2.2
inductive RS where
 | sq (l : List Oper)
 | an (fp : Nat → Option (List Nat)) (fuel : Nat) (listed : Array Bool)
 | at_ (fp : Nat → Option (List Nat)) (fuel : Nat) (listed : Array Bool) (i : Nat)
def wpR (P : Program) (ops : Array Oper) (Q : Exit → Act → World → Prop) : RS → Act → World → Prop
 | .sq l => wpList P ops Q l
 | .an fp fuel listed => rF P ops Q fp fuel listed
 | .at_ fp fuel listed i => fun a w => wpOp P ops noG i (fun a' w' => hY (fp i) w w' ∧ rF P ops Q fp fuel (listed.setIfInBounds i true) a' w') a w
section
variable (P : Program) (T : Tab) (C : Cx)
def RW (ops : Array Oper) (rest : RS) (s : St) (Q : Post) : Prop :=
 TabOk T P → ∀ a w, Rep C s a w → wpR P ops (lZ C Q) rest a w
def CW (c : Code) (s : St) (Q : Post) : Prop :=
 TabOk T P → ∀ a w, Rep C s a w → c.wp P (lZ C Q) a w
end
inductive Front (ops : Array Oper) : RS → Oper → List Nat → RS → Prop
 | sq {o : Oper} {l : List Oper} : Front ops (.sq (o :: l)) o [] (.sq l)
 | an {fp : Nat → Option (List Nat)} {fuel : Nat} {listed : Array Bool} {i : Nat} {o : Oper} {D : List Nat} (hi : ops[i]? = some o) (hD : fp i = some D) : Front ops (.at_ fp fuel listed i) o D (.an fp fuel (listed.setIfInBounds i true))
 | lo {fp : Nat → Option (List Nat)} {fuel : Nat} {listed : Array Bool} {i : Nat} {o : Oper} (D : List Nat) (hi : ops[i]? = some o) (hD : fp i = none) : Front ops (.at_ fp fuel listed i) o D (.an fp fuel (listed.setIfInBounds i true))
def others (ops : Array Oper) (listed : Array Bool) (i : Nat) : List Nat :=
 (List.range ops.size).filter fun j => !(j == i) && !(listed.getD j true) && match ops[j]? with | some oj => !(oj.after.any fun e => Region.binds .any e && e.on == i) | none => false
def sumO (fp : Nat → Option (List Nat)) : List Nat → Option (List Nat)
 | [] => some []
 | j :: r => match fp j, sumO fp r with
  | some a, some b => some (a ++ b)
  | _, _ => none
theorem xW {fp : Nat → Option (List Nat)} : ∀ {js : List Nat} {j : Nat}, j ∈ js → subO (fp j) (sumO fp js)
 | k :: r, j, h => by
  rw [sumO];cases hk : fp k with
  | none => cases fp j <;> exact trivial
  | some a =>
   cases hr : sumO fp r with
   | none => cases fp j <;> exact trivial
   | some b =>
    rcases List.mem_cons.1 h with rfl | h
    ·rw [hk]; exact fun g hg => List.mem_append_left _ hg
    ·have := xW (fp := fp) h;rw [hr] at this;cases hj : fp j with
     | none => rw [hj] at this; exact this.elim
     | some l => rw [hj] at this; exact fun g hg => List.mem_append_right _ (this g hg)
inductive jf (ops : Array Oper) : RS → Oper → Option (List Nat) → RS → Prop
 | sq {o : Oper} {l : List Oper} : jf ops (.sq (o :: l)) o (some []) (.sq l)
 | an {fp : Nat → Option (List Nat)} {fuel : Nat} {listed : Array Bool} {i : Nat} {o : Oper} {js : List Nat} (hi : ops[i]? = some o) (hs : Region.noSelect ops = true) (hf : Region.free .any ops listed i = true)
   (hr : (Region.ready .any ops listed).contains i = true) (hj : others ops listed i = js) : jf ops (.an fp (fuel + 1) listed) o (sumO fp js) (.an fp fuel (listed.setIfInBounds i true))
 | ab {fp : Nat → Option (List Nat)} {fuel : Nat} {listed : Array Bool} {i : Nat} {o : Oper} {js : List Nat} (B : List Nat) (hi : ops[i]? = some o) (hs : Region.noSelect ops = true) (hf : Region.free .any ops listed i = true)
   (hr : (Region.ready .any ops listed).contains i = true) (hB : mf ops listed i B = true) (hj : (others ops listed i).filter (fun j => !B.contains j) = js) : jf ops (.an fp (fuel + 1) listed) o (sumO fp js) (.an fp fuel (listed.setIfInBounds i true))
theorem jf.first {ops : Array Oper} {o : Oper} {r r' : RS} {D : Option (List Nat)} (hf : jf ops r o D r') : (∃ l, r = .sq (o :: l) ∧ r' = .sq l) ∨
  ∃ fp fuel listed i, r = .an fp (fuel + 1) listed ∧ r' = .an fp fuel (listed.setIfInBounds i true) ∧ ∀ {P : Program} {Q : Exit → Act → World → Prop} {v : Value} {a : Act} {w : World}, jO P ops D o v a w → rF P ops Q fp fuel (listed.setIfInBounds i true) (a.put o.dst v) w → rF P ops Q fp (fuel + 1) listed a w := by
 have key : ∀ {fp : Nat → Option (List Nat)} {listed : Array Bool} {i : Nat} {B js : List Nat} {j : Nat} {oj : Oper}, (others ops listed i).filter (fun j => !B.contains j) = js → ops[j]? = some oj → j ≠ i → listed.getD j true = false → (∀ e ∈ oj.after, Region.binds .any e = true → e.on ≠ i) → j ∉ B → subO (fp j) (sumO fp js) := by
  intro fp listed i B js j oj hj hoj hne hun hno hnB;refine xW ?_;rw [← hj, List.mem_filter];refine ⟨?_, by simpa using hnB⟩;unfold others;rw [List.mem_filter, List.mem_range];refine ⟨(Array.getElem?_eq_some_iff.1 hoj).1, ?_⟩;simp only [hoj, hun, Bool.not_false, Bool.and_true, Bool.and_eq_true, Bool.not_eq_true', beq_eq_false_iff_ne, ne_eq, hne, not_false_eq_true, true_and];cases hany : oj.after.any (fun e => Region.binds .any e && e.on == i) with
  | false => rfl
  | true =>
   obtain ⟨e, he, hb⟩ := Array.any_eq_true'.1 hany;simp only [Bool.and_eq_true, beq_iff_eq] at hb;exact absurd hb.2 (hno e he hb.1)
 cases hf with
 | sq => exact .inl ⟨_, rfl, rfl⟩
 | an hi hsel hfree hr hj =>
  rename_i fp fuel listed i js;refine .inr ⟨fp, fuel, listed, i, rfl, rfl, fun hy H => qk (B := []) hi (Region.noSelect_spec hsel) fuel listed _ _ rfl (fun j oj hoj hne hun hno hnB => ⟨Region.free_spec hi hfree j oj hoj hne hun hno, key (by rw [← hj]; simp) hoj hne hun hno hnB⟩) (by simpa using hr) hy H⟩
 | ab B hi hsel hfree hr hB hj =>
  rename_i fp fuel listed i js;exact .inr ⟨fp, fuel, listed, i, rfl, rfl, fun hy H => qk hi (Region.noSelect_spec hsel) fuel listed _ _ hB (fun j oj hoj hne hun hno hnB => ⟨Region.free_spec hi hfree j oj hoj hne hun hno, key hj hoj hne hun hno hnB⟩) (by simpa using hr) hy H⟩
section
variable {P : Program} {T : Tab} {C : Cx} {ops : Array Oper} {o : Oper} {r r' : RS} {s : St} {Q : Post} {N : Nat} {SL : Slots} {BL : List Blk} {OW : List Own} {FA : List Pred}
theorem eF (h : Q .normal s) : RW P T C ops (.sq []) s Q := fun _ _ _ hr => ⟨s, h, hr⟩
variable {fp : Nat → Option (List Nat)} {fuel : Nat} {listed : Array Bool}
theorem ra_nil (hr : Region.ready .any ops listed = []) (h : Q .normal s) : RW P T C ops (.an fp fuel listed) s Q := fun _ a w hrep => by
 cases fuel with
 | zero => exact ⟨hr, s, h, hrep⟩
 | succ n => exact ⟨fun _ => ⟨s, h, hrep⟩, by rw [hr]; simp⟩
theorem ra_one (i : Nat) (hr : Region.ready .any ops listed = [i]) (h : RW P T C ops (.at_ fp fuel listed i) s Q) : RW P T C ops (.an fp (fuel + 1) listed) s Q := fun hT a w hrep =>
 ⟨by rw [hr]; simp, by rw [hr]; intro j hj; rw [List.mem_singleton] at hj; subst hj; exact h hT a w hrep⟩
theorem ra_two (i j : Nat) (hr : Region.ready .any ops listed = [i, j]) (h : RW P T C ops (.at_ fp fuel listed i) s Q) (h' : RW P T C ops (.at_ fp fuel listed j) s Q) : RW P T C ops (.an fp (fuel + 1) listed) s Q := fun hT a w hrep =>
 ⟨by rw [hr]; simp, by
  rw [hr]; intro k hk;rcases List.mem_cons.1 hk with rfl | hk
  ·exact h hT a w hrep
  ·rw [List.mem_singleton] at hk; subst hk; exact h' hT a w hrep⟩
theorem xb {o : Oper} {y : Nat → Option Bool} (h : o.guard = none) : Region.wanted o y = true := by simp [Region.wanted, h]
def Guard (ops : Array Oper) (SL : Slots) (o : Oper) (G : Bool) : Prop := ∀ a, nE SL a → Region.wanted o (yielded ops a.tmps) = G
theorem au (hg : o.guard = none) : Guard ops SL o true := fun _ _ => xb hg
variable {b : Bool} {j tj : Nat} {sv : SV}
theorem qT {want : Bool} (hg : o.guard = some (j, want)) (hj : (ops[j]?).bind (·.dst) = some tj) (hs : getS SL tj = some sv)
  (hb : sv.val = .bool b) : Guard ops SL o (sv.gd && (b == want)) := by
 intro a hsl;have hsv := hsl tj sv hs;have hy : yielded ops a.tmps j = if sv.gd = true then some b else none := by
  unfold yielded;rw [hj, Option.bind_some];cases sv with
  | v x => simp [SV.ok, SV.val] at hsv hb; simp [hsv, hb, SV.gd]
  | o g' x =>
   simp [SV.ok, SV.val] at hsv hb;rw [hsv, hb];cases g' <;> simp [SV.gd, undef]
 unfold Region.wanted;rw [hg];simp only [hy];cases sv.gd <;> cases b <;> cases want <;> rfl
theorem ce (hg : o.guard = some (j, true)) (hj : (ops[j]?).bind (·.dst) = some tj) (hs : getS SL tj = some (.v (.bool b))) : Guard ops SL o b := by
 have := qT hg hj hs rfl; simpa [SV.gd] using this
theorem fH (hg : o.guard = some (j, false)) (hj : (ops[j]?).bind (·.dst) = some tj) (hs : getS SL tj = some (.v (.bool b))) : Guard ops SL o (!b) := by
 have := qT hg hj hs rfl; simpa [SV.gd] using this
theorem gI {g : Bool} (hg : o.guard = some (j, true)) (hj : (ops[j]?).bind (·.dst) = some tj) (hs : getS SL tj = some (.o g (.bool b))) : Guard ops SL o (g && b) := by
 have := qT hg hj hs rfl; simpa [SV.gd] using this
theorem fI {g : Bool} (hg : o.guard = some (j, false)) (hj : (ops[j]?).bind (·.dst) = some tj) (hs : getS SL tj = some (.o g (.bool b))) : Guard ops SL o (g && !b) := by
 have := qT hg hj hs rfl; simpa [SV.gd] using this
structure WQ (BL : List Blk) (FA : List Pred) (w : World) : Prop where
 bl : ∀ k ∈ BL, w.heap[k.g]? = some (.cells k.cs.toArray k.t (0, 0))
 fa : ∀ F ∈ FA, ∃ M, F M w
def Quiet (P : Program) (T : Tab) (SL : Slots) (BL : List Blk) (FA : List Pred) (o : Oper) (G : Bool) (v : Value) : Prop :=
 TabOk T P → G = true → ∀ a w, nE SL a → WQ BL FA w → (execOp a.eval o).run P w = .ok (.value v) w
inductive iL : List Blk → List Blk → List Nat → Prop
 | nil : iL [] [] []
 | keep {k : Blk} {l l' : List Blk} {D : List Nat} (h : iL l l' D) : iL (k :: l) (k :: l') D
 | drop {k : Blk} {l l' : List Blk} {D : List Nat} (h : iL l l' D) : iL (k :: l) l' (k.g :: D)
theorem iL.all : ∀ l : List Blk, iL l l []
 | [] => .nil
 | _ :: l => .keep (iL.all l)
variable {D : List Nat}
theorem iL.sub {l l' : List Blk} (h : iL l l' D) : l'.Sublist l ∧ (∀ g ∈ D, g ∈ l.map (·.g)) ∧ ((l.map (·.g)).Nodup → ∀ k ∈ l', k.g ∉ D) := by
 induction h with
 | nil => exact ⟨.slnil, by simp, by simp⟩
 | keep _ ih =>
  obtain ⟨h1, h2, h3⟩ := ih;refine ⟨.cons_cons _ h1, fun g hg => .tail _ (h2 g hg), fun hn k hk => ?_⟩;rw [List.map_cons, List.nodup_cons] at hn;cases hk with
  | head => exact fun hd => hn.1 (h2 _ hd)
  | tail _ hk => exact h3 hn.2 k hk
 | drop _ ih =>
  obtain ⟨h1, h2, h3⟩ := ih;refine ⟨.cons _ h1, fun g hg => ?_, fun hn k hk => ?_⟩
  ·cases hg with
   | head => exact .head _
   | tail _ hg => exact .tail _ (h2 g hg)
  ·rw [List.map_cons, List.nodup_cons] at hn;intro hd;rcases List.mem_cons.1 hd with hd | hd
   ·exact hn.1 (hd ▸ List.mem_map.2 ⟨k, h1.subset hk, rfl⟩)
   ·exact h3 hn.2 k hk hd
variable {BL' : List Blk} {D' : List Nat} {w w' : World}
theorem Bw (h : WOk C ⟨N, SL, BL, OW, FA⟩ w) (hs : iL BL BL' D') (hD : ∀ g ∈ D, g ∈ D' ∨ ∃ q ∈ OW, q.b = some g) (hk : Keeps D w w') : WQ BL' FA w' := by
 obtain ⟨h1, h2, h3⟩ := hs.sub;have hnb : (BL.map (·.g)).Nodup := (List.nodup_append.1 h.nd).1;refine ⟨fun k hk' => ?_, fun F hF => ⟨Mset C ⟨N, SL, BL, OW, FA⟩, ?_⟩⟩
 ·have hb := (h.bl k (h1.subset hk')).1;rw [hk.2 _ (ke hb) ?_]
  ·exact hb
  ·intro hd;rcases hD _ hd with hd | ⟨q, hq, hqb⟩
   ·exact h3 hnb k hk' hd
   ·exact (List.nodup_append.1 h.nd).2.2 k.g (List.mem_map.2 ⟨k, h1.subset hk', rfl⟩) k.g (List.mem_filterMap.2 ⟨q, hq, hqb⟩) rfl
 ·refine (h.fa F hF).1.st _ _ w w' (h.fa F hF).2 ⟨hk.1, fun k hk' hm => hk.2 k hk' fun hd => hm (.inr ?_)⟩ fun _ _ hm => hm;rcases hD _ hd with hd | ⟨q, hq, hqb⟩
  ·exact List.mem_append_left _ (h2 _ hd)
  ·exact List.mem_append_right _ (List.mem_filterMap.2 ⟨q, hq, hqb⟩)
def Bi (BL : List Blk) (OW : List Own) (FA : List Pred) : Option (List Nat) → List Blk → List Pred → Prop
 | none, BL', FA' => BL' = [] ∧ FA' = []
 | some D, BL', FA' => FA' = FA ∧ ∃ D', iL BL BL' D' ∧ ∀ g ∈ D, g ∈ D' ∨ ∃ q ∈ OW, q.b = some g
variable {FA' : List Pred}
theorem qj {D : Option (List Nat)} (h : WOk C ⟨N, SL, BL, OW, FA⟩ w) (hs : Bi BL OW FA D BL' FA') (hk : hY D w w') : WQ BL' FA' w' := by
 cases D with
 | none => obtain ⟨rfl, rfl⟩ := hs; exact ⟨(fun _ h => nomatch h), (fun _ h => nomatch h)⟩
 | some D => obtain ⟨rfl, D', hs, hD⟩ := hs; exact Bw h hs hD hk
theorem WOk.wq (h : WOk C ⟨N, SL, BL, OW, FA⟩ w) : WQ BL FA w := ⟨fun k hk => (h.bl k hk).1, fun F hF => ⟨_, (h.fa F hF).2⟩⟩
variable {G : Bool} {d : Nat} {v : Value}
theorem rw_qG {D : Option (List Nat)} (hf : jf ops r o D r') (hG : Guard ops SL o G) (hd : o.dst = some d) (hn : Nat.blt d N = true) (hq : Quiet P T SL BL' FA' o G v)
  (hs : Bi BL OW FA D BL' FA') (hsv : sv.ok (some (bif G then v else undef)))
  (h : RW P T C ops r' ⟨N, (d, sv) :: SL, BL, OW, FA⟩ Q) : RW P T C ops r ⟨N, SL, BL, OW, FA⟩ Q := by
 intro hT a w hrep;have hput : ∀ u, u = (bif G then v else undef) → Rep C ⟨N, (d, sv) :: SL, BL, OW, FA⟩ (a.put (some d) u) w := fun u hu => by
  subst hu;exact hrep.putv (Nat.le_of_ble_eq_true hn) hsv hrep.wo
 rcases hf.first with ⟨l, rfl, rfl⟩ | ⟨fp, fuel, listed, i, rfl, rfl, hfirst⟩
 ·have hk := qj hrep.wo hs (hY.refl _ _);show wpList P ops (lZ C Q) (o :: _) a w;unfold wpList;rw [hG a hrep.sl];cases hGv : G with
  | true =>
   rw [if_pos rfl];refine .inl ?_;unfold Oper.wp;rw [hq hT hGv a w hrep.sl hk, Oper.upon_value, hd];exact h hT _ _ (hput _ (by simp [hGv]))
  | false =>
   rw [if_neg (by simp), hd];exact h hT _ _ (hput _ (by simp [hGv]))
 ·have hy : jO P ops D o (bif G then v else undef) a w := by
   cases hGv : G with
   | true => exact .inl ⟨by rw [hG a hrep.sl, hGv], fun w' hk => by simpa using hq hT hGv a w' hrep.sl (qj hrep.wo hs hk)⟩
   | false => exact .inr ⟨by rw [hG a hrep.sl, hGv], rfl⟩
  have hH := h hT _ _ (hput _ rfl);exact hfirst hy (by rw [hd]; exact hH)
variable {l : List Oper}
theorem rw_q (hg : o.guard = none) (hd : o.dst = some d) (hn : Nat.blt d N = true) (hq : Quiet P T SL BL FA o true v)
  (h : RW P T C ops (.sq l) ⟨N, (d, .v v) :: SL, BL, OW, FA⟩ Q) : RW P T C ops (.sq (o :: l)) ⟨N, SL, BL, OW, FA⟩ Q :=
 rw_qG .sq (au hg) hd hn hq ⟨rfl, _, iL.all _, by simp⟩ (by simp [SV.ok]) h
theorem rw_qg (hG : Guard ops SL o G) (hd : o.dst = some d) (hn : Nat.blt d N = true) (hq : Quiet P T SL BL FA o G v)
  (h : RW P T C ops (.sq l) ⟨N, (d, .o G v) :: SL, BL, OW, FA⟩ Q) : RW P T C ops (.sq (o :: l)) ⟨N, SL, BL, OW, FA⟩ Q :=
 rw_qG .sq hG hd hn hq ⟨rfl, _, iL.all _, by simp⟩ (by simp [SV.ok]) h
theorem ra_q (hf : jf ops r o (some D) r') (hs : iL BL BL' D') (hD : ∀ g ∈ D, g ∈ D' ∨ ∃ q ∈ OW, q.b = some g) (hg : o.guard = none) (hd : o.dst = some d) (hn : Nat.blt d N = true) (hq : Quiet P T SL BL' FA o true v)
  (h : RW P T C ops r' ⟨N, (d, .v v) :: SL, BL, OW, FA⟩ Q) : RW P T C ops r ⟨N, SL, BL, OW, FA⟩ Q :=
 rw_qG hf (au hg) hd hn hq ⟨rfl, _, hs, hD⟩ (by simp [SV.ok]) h
theorem ra_p (hf : jf ops r o none r') (hg : o.guard = none) (hd : o.dst = some d) (hn : Nat.blt d N = true) (hq : Quiet P T SL [] [] o true v)
  (h : RW P T C ops r' ⟨N, (d, .v v) :: SL, BL, OW, FA⟩ Q) : RW P T C ops r ⟨N, SL, BL, OW, FA⟩ Q :=
 rw_qG hf (au hg) hd hn hq ⟨rfl, rfl⟩ (by simp [SV.ok]) h
theorem ra_qg (hf : jf ops r o (some D) r') (hs : iL BL BL' D') (hD : ∀ g ∈ D, g ∈ D' ∨ ∃ q ∈ OW, q.b = some g) (hG : Guard ops SL o G) (hd : o.dst = some d) (hn : Nat.blt d N = true) (hq : Quiet P T SL BL' FA o G v)
  (h : RW P T C ops r' ⟨N, (d, .o G v) :: SL, BL, OW, FA⟩ Q) : RW P T C ops r ⟨N, SL, BL, OW, FA⟩ Q :=
 rw_qG hf hG hd hn hq ⟨rfl, _, hs, hD⟩ (by simp [SV.ok]) h
theorem vA (h : Guard ops SL o G) (e : G = true) : Guard ops SL o true := e ▸ h
theorem yf (_ : Front ops r o D r') (_ : Guard ops SL o G) (h1 : G = true → RW P T C ops r ⟨N, SL, BL, OW, FA⟩ Q) (h2 : G = false → RW P T C ops r ⟨N, SL, BL, OW, FA⟩ Q) : RW P T C ops r ⟨N, SL, BL, OW, FA⟩ Q := by
 cases hG : G with
 | true => exact h1 hG
 | false => exact h2 hG
theorem xh (hf : Front ops r o D r') (hG : Guard ops SL o G) (e : G = false) (hd : o.dst = some d) (hn : Nat.blt d N = true)
  (h : RW P T C ops r' ⟨N, (d, .o false (.bool false)) :: SL, BL, OW, FA⟩ Q) : RW P T C ops r ⟨N, SL, BL, OW, FA⟩ Q := by
 subst e;intro hT a w hrep;have h2 : Rep C ⟨N, (d, .o false (.bool false)) :: SL, BL, OW, FA⟩ (a.put (some d) undef) w :=
  hrep.putv (Nat.le_of_ble_eq_true hn) (x := .o false (.bool false)) (u := undef) (by simp [SV.ok]) hrep.wo
 cases hf with
 | sq =>
  show wpList P ops (lZ C Q) (o :: _) a w;unfold wpList;rw [if_neg (by rw [hG a hrep.sl]; simp), hd];exact h hT _ _ h2
 | an hi =>
  unfold wpR wpOp;simp only [hi];rw [if_neg (by rw [hG a hrep.sl]; simp), hd];exact ⟨hY.refl _ _, h hT _ _ h2⟩
 | lo _ hi =>
  unfold wpR wpOp;simp only [hi];rw [if_neg (by rw [hG a hrep.sl]; simp), hd];exact ⟨hY.refl _ _, h hT _ _ h2⟩
def Loud (P : Program) (T : Tab) (C : Cx) (s : St) (o : Oper) (D : List Nat) (K : St → Prop) : Prop :=
 TabOk T P → ∀ a w, Rep C s a w → o.wp P a w (fun a' w' => ∃ s', K s' ∧ Rep C s' a' w' ∧ Keeps D w w') noG
theorem rw_l {K : St → Prop} (hf : Front ops r o D r') (hg : Guard ops s.sl o true) (hl : Loud P T C s o D K) (h : ∀ s', K s' → RW P T C ops r' s' Q) : RW P T C ops r s Q := by
 intro hT a w hrep;cases hf with
 | sq =>
  show wpList P ops (lZ C Q) (o :: _) a w;unfold wpList;rw [if_pos (hg a hrep.sl)];exact .inl (Oper.wp_mono (fun a' w' ⟨s', h1, h2, _⟩ => h s' h1 hT a' w' h2) (Oper.wp_no (hl hT a w hrep)))
 | an hi hD =>
  unfold wpR wpOp;simp only [hi];rw [if_pos (hg a hrep.sl)];exact .inl (Oper.wp_mono (fun a' w' ⟨s', h1, h2, h3⟩ => ⟨by rw [hD]; exact h3, h s' h1 hT a' w' h2⟩) (hl hT a w hrep))
 | lo _ hi hD =>
  unfold wpR wpOp;simp only [hi];rw [if_pos (hg a hrep.sl)];exact .inl (Oper.wp_mono (fun a' w' ⟨s', h1, h2, h3⟩ => ⟨by rw [hD]; exact trivial, h s' h1 hT a' w' h2⟩) (hl hT a w hrep))
theorem rO {K : St → Prop} (hg : Guard ops s.sl o true) (hl : Loud P T C s o D K) (h : ∀ s', K s' → RW P T C ops (.sq l) s' Q) : RW P T C ops (.sq (o :: l)) s Q := by
 intro hT a w hrep;show wpList P ops (lZ C Q) (o :: _) a w;unfold wpList;rw [if_pos (hg a hrep.sl)];exact .inl (Oper.wp_mono (fun a' w' ⟨s', h1, h2, _⟩ => h s' h1 hT a' w' h2) (Oper.wp_no (hl hT a w hrep)))
variable {K : Value → List Blk → List Own → List Pred → Prop}
theorem qH (hd : o.dst = some d) (hn : Nat.blt d N = true) 
  (hr : TabOk T P → ∀ a w, Rep C ⟨N, SL, BL, OW, FA⟩ a w → ∃ u w' bl ow fa, (execOp a.eval o).run P w = .ok (.value u) w' ∧ WOk C ⟨N, SL, bl, ow, fa⟩ w' ∧ Keeps D w w' ∧ K u bl ow fa) :
  Loud P T C ⟨N, SL, BL, OW, FA⟩ o D (fun s' => ∃ u bl ow fa, K u bl ow fa ∧ s' = ⟨N, (d, .v u) :: SL, bl, ow, fa⟩) := by
 intro hT a w hrep;obtain ⟨u, w', bl, ow, fa, h1, h2, h3, h4⟩ := hr hT a w hrep;unfold Oper.wp;rw [h1, Oper.upon_value, hd];exact ⟨_, ⟨u, bl, ow, fa, h4, rfl⟩, hrep.putv (Nat.le_of_ble_eq_true hn) (x := .v u) (u := u) rfl h2, h3⟩
theorem uo (hf : Front ops r o D r') (hg : Guard ops SL o true) (hd : o.dst = some d) (hn : Nat.blt d N = true)
  
  (hr : TabOk T P → ∀ a w, Rep C ⟨N, SL, BL, OW, FA⟩ a w → ∃ u w' bl ow fa, (execOp a.eval o).run P w = .ok (.value u) w' ∧ WOk C ⟨N, SL, bl, ow, fa⟩ w' ∧ Keeps D w w' ∧ K u bl ow fa)
  (h : ∀ u bl ow fa, K u bl ow fa → RW P T C ops r' ⟨N, (d, .v u) :: SL, bl, ow, fa⟩ Q) : RW P T C ops r ⟨N, SL, BL, OW, FA⟩ Q :=
 rw_l hf hg (qH hd hn hr) (fun s' ⟨u, bl, ow, fa, h1, h2⟩ => by subst h2; exact h u bl ow fa h1)
theorem q_pev {g : Bool} (he : pev T SL o.op = some (g, v)) (hgt : G = true → g = true) : Quiet P T SL BL FA o G v :=
 fun hT hG _ w hsl _ => pev_ok hT hsl he (hgt hG) w
def subL (cs : List Value) (off n : Nat) : List Value := (cs.drop off).take n
variable {g0 : Bool} {t : Nat} {x : Operand}
theorem iR {ad : Addr} (ho : o.op = .load t x)
  (he : ev SL x = some (g0, .pointer (some ad))) (hg0 : G = true → g0 = true) (hl : TabOk T P → G = true → ∀ w, WQ BL FA w → (loadVar t ad).run P w = .ok v w) : Quiet P T SL BL FA o G v :=
 fun hT hG a w hsl hw => by
  simp only [execOp, ho, Instr.loadAt, ev_ok hsl he (hg0 hG), Instr.sureAddr, Sem.run_bind, Sem.run_pure, Result.andThen_ok, hl hT hG w hw]
variable {cs : List Value} {g n off t' : Nat}
theorem md (hs : T.siz t = some (n, true)) (hm : ⟨g, t', cs⟩ ∈ BL) (hle : Nat.ble (off + n) cs.length = true) (hT : TabOk T P) (hw : WQ BL FA w) :
  (loadVar t ⟨g, off, none⟩).run P w = .ok (.agg (subL cs off n).toArray) w := by
 have hle := Nat.le_of_ble_eq_true hle;refine j7 hT hs (by simp [subL]; omega) fun j v hj => ?_;rw [jH, le (hw.bl _ hm), ← hj];simp only [subL, List.getElem?_take, List.getElem?_drop];rw [if_pos];have := List.getElem?_eq_some_iff.1 hj;obtain ⟨hlt, _⟩ := this;simp [subL] at hlt;omega
theorem q_ld1 (ho : o.op = .load t x)
  (he : ev SL x = some (g0, .pointer (some ⟨g, off, none⟩))) (hg0 : G = true → g0 = true) (hs : T.siz t = some (n, false)) (hm : ⟨g, t', cs⟩ ∈ BL) (hv : cs[off]? = some v) : Quiet P T SL BL FA o G v :=
 iR ho he hg0 fun hT _ w hw => i5 hT hs (by rw [le (hw.bl _ hm)]; exact hv)
theorem q_ldA (ho : o.op = .load t x)
  (he : ev SL x = some (g0, .pointer (some ⟨g, 0, none⟩))) (hg0 : G = true → g0 = true) (hs : T.siz t = some (n, true)) (hm : ⟨g, t', cs⟩ ∈ BL) (hl : cs.length = n) : Quiet P T SL BL FA o G (.agg ⟨cs⟩) :=
 iR ho he hg0 fun hT _ w hw => by
  have := md (P := P) (FA := FA) hs hm (off := 0) (by simp [hl]) hT hw;rw [this];simp [subL, ← hl]
theorem q_ldP (ho : o.op = .load t x)
  (he : ev SL x = some (g0, .pointer (some ⟨g, off, none⟩))) (hg0 : G = true → g0 = true) (hs : T.siz t = some (n, true)) (hm : ⟨g, t', cs⟩ ∈ BL) (hl : Nat.ble (off + n) cs.length = true) : Quiet P T SL BL FA o G (.agg ⟨subL cs off n⟩) :=
 iR ho he hg0 fun hT _ _ hw => md hs hm hl hT hw
theorem uZ (n : Int) (h : -9223372036854775808 ≤ n ∧ n ≤ 9223372036854775807) : IntKind.i64.wrap n = n := by
 rw [IntKind.wrap_i64]; omega
variable {g1 : Bool} {y : Operand}
theorem xm {op : BinOp} {a b r : Int} (ho : o.op = .binOp op t x y t') (he : ev SL x = some (g0, .int .i64 a)) (hg0 : G = true → g0 = true)
  (hy : ev SL y = some (g1, .int .i64 b)) (hg1 : G = true → g1 = true) (hr : (op = .add ∧ r = a + b) ∨ (op = .sub ∧ r = a - b) ∨ (op = .mul ∧ r = a * b))
  (hb : G = true → -9223372036854775808 ≤ r ∧ r ≤ 9223372036854775807) : Quiet P T SL BL FA o G (.int .i64 r) :=
 fun hT hG a' w hsl hw => by
  have h1 := ev_ok hsl he (hg0 hG);have h2 := ev_ok hsl hy (hg1 hG);have h3 := uZ r (hb hG);rcases hr with ⟨rfl, rfl⟩ | ⟨rfl, rfl⟩ | ⟨rfl, rfl⟩ <;> simp [execOp, ho, h1, h2, eqGuard, binOp, Op.intArith, h3]
variable {a : Int}
theorem q_add {b : Int} (ho : o.op = .binOp .add t x y t') (he : ev SL x = some (g0, .int .i64 a)) (hg0 : G = true → g0 = true)
  (hy : ev SL y = some (g1, .int .i64 b)) (hg1 : G = true → g1 = true) (hb : G = true → -9223372036854775808 ≤ a + b ∧ a + b ≤ 9223372036854775807) : Quiet P T SL BL FA o G (.int .i64 (a + b)) :=
 xm ho he hg0 hy hg1 (.inl ⟨rfl, rfl⟩) hb
theorem q_sub {b : Int} (ho : o.op = .binOp .sub t x y t') (he : ev SL x = some (g0, .int .i64 a)) (hg0 : G = true → g0 = true)
  (hy : ev SL y = some (g1, .int .i64 b)) (hg1 : G = true → g1 = true) (hb : G = true → -9223372036854775808 ≤ a - b ∧ a - b ≤ 9223372036854775807) : Quiet P T SL BL FA o G (.int .i64 (a - b)) :=
 xm ho he hg0 hy hg1 (.inr (.inl ⟨rfl, rfl⟩)) hb
theorem q_mul {b : Int} (ho : o.op = .binOp .mul t x y t') (he : ev SL x = some (g0, .int .i64 a)) (hg0 : G = true → g0 = true)
  (hy : ev SL y = some (g1, .int .i64 b)) (hg1 : G = true → g1 = true) (hb : G = true → -9223372036854775808 ≤ a * b ∧ a * b ≤ 9223372036854775807) : Quiet P T SL BL FA o G (.int .i64 (a * b)) :=
 xm ho he hg0 hy hg1 (.inr (.inr ⟨rfl, rfl⟩)) hb
theorem BG {z : List Value} (hf : Front ops r o D r') (hg : Guard ops SL o true) (hd : o.dst = some d) (hn : Nat.blt d N = true) (ho : o.op = .alloc t) (hz : T.zer t = some z)
  (h : ∀ g, RW P T C ops r' ⟨N, (d, .v (.pointer (some ⟨g, 0, none⟩))) :: SL, ⟨g, t, z⟩ :: BL, OW, FA⟩ Q) : RW P T C ops r ⟨N, SL, BL, OW, FA⟩ Q :=
 uo hf hg hd hn (K := fun u bl ow fa => ∃ g, u = .pointer (some ⟨g, 0, none⟩) ∧ bl = ⟨g, t, z⟩ :: BL ∧ ow = OW ∧ fa = FA)
  (fun hT a w hr => by
   obtain ⟨ti, zv, q1, q2, q3⟩ := hT.zer _ _ hz;refine ⟨.pointer (some ⟨w.heap.size, 0, none⟩), _, _, OW, FA, ?_, hr.wo.alloc t z, pu _ _ _, w.heap.size, rfl, rfl, rfl, rfl⟩;simp only [execOp, ho, Instr.alloc, Sem.run_bind, lz q1 q2, Result.andThen_ok, newVar, newRow, run_newObj, Sem.run_pure];simp [← q3])
  (fun u bl ow fa ⟨g, e1, e2, e3, e4⟩ => by subst e1; subst e2; subst e3; subst e4; exact h g)
theorem yh (hf : Front ops r o D r') (hg : Guard ops SL o true) (hd : o.dst = some d) (hn : Nat.blt d N = true) (ho : o.op = .box t x)
  (he : ev SL x = some (g0, v)) (hg0 : g0 = true) (hv : v.cells = cs.toArray)
  (h : ∀ g, RW P T C ops r' ⟨N, (d, .v (.pointer (some ⟨g, 0, none⟩))) :: SL, ⟨g, t, cs⟩ :: BL, OW, FA⟩ Q) : RW P T C ops r ⟨N, SL, BL, OW, FA⟩ Q :=
 uo hf hg hd hn (K := fun u bl ow fa => ∃ g, u = .pointer (some ⟨g, 0, none⟩) ∧ bl = ⟨g, t, cs⟩ :: BL ∧ ow = OW ∧ fa = FA)
  (fun _ a w hr => by
   refine ⟨.pointer (some ⟨w.heap.size, 0, none⟩), _, _, OW, FA, ?_, hr.wo.alloc t cs, pu _ _ _, w.heap.size, rfl, rfl, rfl, rfl⟩;simp only [execOp, ho, Instr.box, ev_ok hr.sl he hg0, newVar, newRow, Sem.run_bind, run_newObj, Result.andThen_ok, Sem.run_pure, hv])
  (fun u bl ow fa ⟨g, e1, e2, e3, e4⟩ => by subst e1; subst e2; subst e3; subst e4; exact h g)
theorem y0 (hf : Front ops r o D r') (hg : Guard ops SL o true) (hd : o.dst = some d) (hn : Nat.blt d N = true) (ho : o.op = .box t x)
  (he : ev SL x = some (g0, .agg ⟨cs⟩)) (hg0 : g0 = true)
  (h : ∀ g, RW P T C ops r' ⟨N, (d, .v (.pointer (some ⟨g, 0, none⟩))) :: SL, ⟨g, t, cs⟩ :: BL, OW, FA⟩ Q) : RW P T C ops r ⟨N, SL, BL, OW, FA⟩ Q :=
 yh hf hg hd hn ho he hg0 rfl h
variable {bl' : List Blk} {vs : List Value}
theorem rw_st (hf : Front ops r o D r') (hgD : (∃ l, r = .sq l) ∨ g ∈ D) (hg : Guard ops SL o true) (hd : o.dst = none) (ho : o.op = .store t x y)
  (he : ev SL x = some (g0, .pointer (some ⟨g, off, none⟩))) (hg0 : g0 = true) (hev : ev SL y = some (g1, v)) (hg1 : g1 = true) (hs : T.siz t = some (n, b)) (hvc : v.cells = vs.toArray) (hvn : vs.length = n)
  (hone : vs.all (·.oneCell') = true) (hu : UpdB BL g cs (putAt cs off vs) bl') (hle : Nat.ble (off + n) cs.length = true)
  (h : RW P T C ops r' ⟨N, SL, bl', OW, FA⟩ Q) : RW P T C ops r ⟨N, SL, BL, OW, FA⟩ Q := by
 have key : Loud P T C ⟨N, SL, BL, OW, FA⟩ o [g] (fun s' => s' = ⟨N, SL, bl', OW, FA⟩) := by
  intro hT a w hrep;obtain ⟨ti, d, q1, q2, q3, q4⟩ := hT.siz _ _ _ hs;have hle := Nat.le_of_ble_eq_true hle;obtain ⟨t', hm, _⟩ := hu.mem;have hB := (hrep.wo.bl _ hm);obtain ⟨w', hr, hS⟩ := jz (P := P) vs w cs 0 off hB.1 (by omega) (by simpa using hone);have hrun : (execOp a.eval o).run P w = .ok .skip w' := by
   simp only [execOp, ho, Instr.storeAt, ev_ok hrep.sl he hg0, ev_ok hrep.sl hev hg1, Instr.sureAddr, Sem.run_bind, Sem.run_pure, Result.andThen_ok, storeVar, dR q1, hvc];rw [if_neg (by simp [hvn, q2])];rw [hr];simp
  unfold Oper.wp;rw [hrun, Oper.upon_skip, hd];have huniq : ∀ t'', ⟨g, t'', cs⟩ ∈ BL → t'' = t' := by
   intro t'' hm'';have h1 := (hrep.wo.bl _ hm'').1;have h2 := hB.1;simp only at h1 h2;rw [h1] at h2;simp at h2;exact h2
  refine ⟨_, rfl, ⟨hrep.sz, hrep.df, hrep.sl, hrep.wo.store (t := t') hu huniq hS⟩, by rw [hS.size]; exact Nr, fun k _ hk => hS.far k fun e => hk (by simp [e])⟩
 have h' : ∀ s', s' = ⟨N, SL, bl', OW, FA⟩ → RW P T C ops r' s' Q := fun s' e => by subst e; exact h
 cases hf with
 | sq => exact rO hg key h'
 | lo _ hi hDD => exact rw_l (.lo [g] hi hDD) hg key h'
 | an hi hDD =>
  refine rw_l (.an hi hDD) hg (fun hT a w hrep => Oper.wp_mono (fun a' w' ⟨s', h1, h2, h3⟩ => ⟨s', h1, h2, h3.mono fun k hk => ?_⟩) (key hT a w hrep)) h';rw [List.mem_singleton] at hk;subst hk;rcases hgD with ⟨_, e⟩ | e
  ·cases e
  ·exact e
theorem ye (hf : Front ops r o D r') (hgD : (∃ l, r = .sq l) ∨ g ∈ D) (hg : Guard ops SL o true) (hd : o.dst = none) (ho : o.op = .store t x y)
  (he : ev SL x = some (g0, .pointer (some ⟨g, off, none⟩))) (hg0 : g0 = true) (hev : ev SL y = some (g1, v)) (hg1 : g1 = true) (hs : T.siz t = some (n, false)) (hn1 : n = 1) (hvc : v.oneCell' = true)
  (hu : UpdB BL g cs (cs.set off v) bl') (hle : Nat.blt off cs.length = true)
  (h : RW P T C ops r' ⟨N, SL, bl', OW, FA⟩ Q) : RW P T C ops r ⟨N, SL, BL, OW, FA⟩ Q :=
 rw_st (vs := [v]) hf hgD hg hd ho he hg0 hev hg1 hs (by cases v <;> first | rfl | (simp [Value.oneCell'] at hvc)) (by simp [hn1]) (by simp [hvc]) hu
  (by subst hn1; exact hle) h
theorem qE : ∀ (vs pre cs : List Value), cs.length = vs.length → putAt (pre ++ cs) pre.length vs = pre ++ vs
 | [], pre, cs, h => by cases cs <;> simp_all [putAt]
 | v :: vs, pre, [], h => by simp at h
 | v :: vs, pre, c :: cs, h => by
  have := qE vs (pre ++ [v]) cs (by simpa using h);simp only [putAt];simpa using this
theorem yd (hf : Front ops r o D r') (hgD : (∃ l, r = .sq l) ∨ g ∈ D) (hg : Guard ops SL o true) (hd : o.dst = none) (ho : o.op = .store t x y)
  (he : ev SL x = some (g0, .pointer (some ⟨g, 0, none⟩))) (hg0 : g0 = true) (hev : ev SL y = some (g1, .agg ⟨vs⟩)) (hg1 : g1 = true) (hs : T.siz t = some (n, true)) (hvn : vs.length = n)
  (hone : vs.all (·.oneCell') = true) (hu : UpdB BL g cs vs bl') (hle : cs.length = n)
  (h : RW P T C ops r' ⟨N, SL, bl', OW, FA⟩ Q) : RW P T C ops r ⟨N, SL, BL, OW, FA⟩ Q :=
 rw_st (vs := vs) (cs := cs) (off := 0) hf hgD hg hd ho he hg0 hev hg1 hs rfl hvn hone (by rw [show putAt cs 0 vs = vs from qE vs [] cs (by omega)]; exact hu) (by simp [hle]) h
theorem rw_stP (hf : Front ops r o D r') (hgD : (∃ l, r = .sq l) ∨ g ∈ D) (hg : Guard ops SL o true) (hd : o.dst = none) (ho : o.op = .store t x y)
  (he : ev SL x = some (g0, .pointer (some ⟨g, off, none⟩))) (hg0 : g0 = true) (hev : ev SL y = some (g1, .agg ⟨vs⟩)) (hg1 : g1 = true) (hs : T.siz t = some (n, true)) (hvn : vs.length = n)
  (hone : vs.all (·.oneCell') = true) (hu : UpdB BL g cs (putAt cs off vs) bl') (hle : Nat.ble (off + n) cs.length = true)
  (h : RW P T C ops r' ⟨N, SL, bl', OW, FA⟩ Q) : RW P T C ops r ⟨N, SL, BL, OW, FA⟩ Q :=
 rw_st hf hgD hg hd ho he hg0 hev hg1 hs rfl hvn hone hu hle h
end
section
variable {P : Program} {T : Tab} {C : Cx} {s : St} {Q : Post} {N : Nat} {SL : Slots} {BL : List Blk} {OW : List Own} {FA : List Pred}
theorem xn {Q Q' : Post} (h : ∀ e s, Q e s → Q' e s) (e : Exit) (a : Act) (w : World) (hq : lZ C Q e a w) : lZ C Q' e a w := by
 cases e <;> first | exact hq.elim | (obtain ⟨s, h1, h2⟩ := hq; exact ⟨s, h _ _ h1, h2⟩)
def thenQ (P : Program) (T : Tab) (C : Cx) (y : Code) (Q : Post) : Post
 | .normal, s => CW P T C y s Q
 | e, s => Q e s
variable {x y : Code}
theorem er (h : CW P T C x s (thenQ P T C y Q)) : CW P T C (.seq x y) s Q := fun hT a w hr =>
 wp_seq (Code.wp_mono (fun e a w hq => by
  cases e with
  | normal => obtain ⟨s', h1, h2⟩ := hq; exact h1 hT a w h2
  | exit i => exact hq
  | ret => exact hq
  | goto l => exact hq.elim
  | panic c => exact hq.elim
  | outgrown => exact hq.elim) (h hT a w hr))
theorem rx (h : Q .normal s) : CW P T C .skip s Q := fun _ _ _ hr => wp_skip ⟨s, h, hr⟩
theorem AW {i : Nat} (h : Q (.exit i) s) : CW P T C (.exit i) s Q := fun _ _ _ hr => wp_exit ⟨s, h, hr⟩
theorem f4 (h : Q .ret s) : CW P T C .ret s Q := fun _ _ _ hr => wp_ret ⟨s, h, hr⟩
variable {id : Nat} {l : List Oper}
theorem kk (h : RW P T C ⟨l⟩ (.sq l) s Q) : CW P T C (.region id ⟨l⟩ false) s Q := fun hT a w hr =>
 wp_region_lit (h hT a w hr)
theorem uL (fp : Nat → Option (List Nat)) (h : RW P T C ⟨l⟩ (.an fp l.length (Array.replicate l.length false)) s Q) : CW P T C (.region id ⟨l⟩ true) s Q := fun hT a w hr =>
 wp_region_any hT.mixed (vS _ _ _ _ (h hT a _ ⟨hr.sz, hr.df, hr.sl, hr.wo.drew⟩))
def CY (id : Nat) (Q : Post) : Post
 | .exit i, s => match Nat.beq i id with | true => Q .normal s | false => Q (.exit i) s
 | e, s => Q e s
variable {c : Code}
theorem pA (h : CW P T C c s (CY id Q)) : CW P T C (.block id c) s Q := fun hT a w hr =>
 wp_block (Code.wp_mono (fun e a w hq => by
  cases e with
  | normal => exact hq
  | exit i =>
   obtain ⟨s', h1, h2⟩ := hq;simp only [CY] at h1;simp only [Exit.inBlock];by_cases hi : i = id
   ·subst hi; rw [if_pos rfl]; simp at h1; exact ⟨s', h1, h2⟩
   ·rw [if_neg hi];have : Nat.beq i id = false := by
     cases hb : Nat.beq i id with
     | false => rfl
     | true => exact absurd (Nat.eq_of_beq_eq_true hb) hi
    rw [this] at h1;exact ⟨s', h1, h2⟩
  | ret => exact hq
  | goto l => exact hq.elim
  | panic c => exact hq.elim
  | outgrown => exact hq.elim) (h hT a w hr))
theorem kX {c : Operand} {g0 b : Bool} (he : ev SL c = some (g0, .bool b)) (hg : g0 = true) (ht : b = true → CW P T C x ⟨N, SL, BL, OW, FA⟩ Q) (hf : b = false → CW P T C y ⟨N, SL, BL, OW, FA⟩ Q) : CW P T C (.cond c x y) ⟨N, SL, BL, OW, FA⟩ Q :=
 fun hT a w hr => wp_cond_split (ev_ok hr.sl he hg) (fun h => ht h hT a w hr) (fun h => hf h hT a w hr)
def Le (C : Cx) (s s' : St) : Prop := ∀ a w, Rep C s a w → Rep C s' a w
variable {s' : St}
theorem cw_le (h : Le C s s') (hc : CW P T C c s' Q) : CW P T C c s Q := fun hT a w hr => hc hT a w (h a w hr)
theorem rw_le {ops : Array Oper} {l : RS} (h : Le C s s') (hc : RW P T C ops l s' Q) : RW P T C ops l s Q := fun hT a w hr => hc hT a w (h a w hr)
def loopQ {ι : Type} (C : Cx) (I : ι → St) (c : ι → Prop) (μ : ι → Nat) (i : ι) (Q : Post) : Post
 | .normal, s' => ∃ j, c j ∧ μ j < μ i ∧ Le C s' (I j)
 | e, s' => Q e s'
variable {b : Code} {ι : Type}
theorem AV (I : ι → St) (c : ι → Prop) (μ : ι → Nat) (i0 : ι) (h0 : c i0) (hs : Le C s (I i0))
  (hround : ∀ i, c i → CW P T C b (I i) (loopQ C I c μ i Q)) : CW P T C (.loop b) s Q := by
 intro hT a w hr b' k cs;have key : ∀ n, ∀ i, μ i = n → c i → ∀ a w, Rep C (I i) a w →
   ∃ e a' w', lZ C Q e a' w' ∧ Arrives P (lone (b'.at a (.code b :: .inLoop b :: k)) cs w) b' k cs e a' w' := by
  intro n;induction n using Nat.strongRecOn with
  | _ n ih =>
   intro i hn hc a w hr;obtain ⟨e, a₁, w₁, hq, harr⟩ := hround i hc hT a w hr b' (.inLoop b :: k) cs;cases e with
   | normal =>
    obtain ⟨s', ⟨j, hj, hlt, hle⟩, hr'⟩ := hq;obtain ⟨e₂, a₂, w₂, hq₂, harr₂⟩ := ih (μ j) (hn ▸ hlt) j rfl hj a₁ w₁ (hle _ _ hr');exact ⟨e₂, a₂, w₂, hq₂, .of_steps (Steps.trans harr (.one step_inLoop)) harr₂⟩
   | exit id => exact ⟨.exit id, a₁, w₁, (show lZ C Q (.exit id) a₁ w₁ from hq), .pass (x := .inLoop b) rfl (fun _ _ => .inl (by simp)) harr⟩
   | ret => exact ⟨.ret, a₁, w₁, (show lZ C Q .ret a₁ w₁ from hq), .pass (x := .inLoop b) rfl (fun _ _ => .inl (by simp)) harr⟩
   | goto l => exact hq.elim
   | panic ch => exact hq.elim
   | outgrown => exact hq.elim
 obtain ⟨e, a', w', hq, harr⟩ := key _ i0 rfl h0 a w (hs a w hr);exact ⟨e, a', w', hq, .of_steps (.one step_loop) harr⟩
inductive SubS : Slots → Slots → Prop
 | nil (s : Slots) : SubS s []
 | cons {s : Slots} {n : Nat} {x : SV} {r : Slots} (h : getS s n = some x) (hr : SubS s r) : SubS s ((n, x) :: r)
theorem SubS.ok {s s' : Slots} (h : SubS s s') : ∀ n x, getS s' n = some x → getS s n = some x := by
 induction h with
 | nil => intro n x h; simp [getS] at h
 | cons h hr ih =>
  intro n x hx;rw [tv] at hx;split at hx
  ·rename_i e;subst e;cases hx;exact h
  ·exact ih n x hx
inductive SubM : List Pred → List Pred → Prop
 | nil (l : List Pred) : SubM l []
 | cons {l : List Pred} {F : Pred} {r : List Pred} (h : F ∈ l) (hr : SubM l r) : SubM l (F :: r)
theorem SubM.mem {l l' : List Pred} (h : SubM l l') : ∀ F ∈ l', F ∈ l := by
 induction h with
 | nil => intro F h; cases h
 | cons h hr ih => intro F hF; cases hF with | head => exact h | tail _ hF => exact ih F hF
inductive Pick {α : Type} : α → List α → List α → Prop
 | here (a : α) (r : List α) : Pick a (a :: r) r
 | there (k : α) {a : α} {r r' : List α} (h : Pick a r r') : Pick a (k :: r) (k :: r')
inductive SubP {α : Type} : List α → List α → Prop
 | nil (l : List α) : SubP l []
 | cons {a : α} {l l' r : List α} (h : Pick a l l') (hr : SubP l' r) : SubP l (a :: r)
variable {α : Type}
theorem Pick.perm {a : α} {l l' : List α} (h : Pick a l l') : l.Perm (a :: l') := by
 induction h with
 | here => exact .refl _
 | there k _ ih => exact (ih.cons k).trans (.swap _ _ _)
theorem SubP.ex {l r : List α} (h : SubP l r) : ∃ x, l.Perm (r ++ x) := by
 induction h with
 | nil l => exact ⟨l, .refl _⟩
 | cons h _ ih =>
  obtain ⟨x, hx⟩ := ih;exact ⟨x, h.perm.trans (hx.cons _)⟩
theorem SubP.refl : ∀ l : List α, SubP l l
 | [] => .nil _
 | a :: l => .cons (.here a l) (SubP.refl l)
theorem Le.of {s s' : St} (hn : s.n = s'.n) (hs : SubS s.sl s'.sl) (hb : SubP s.bl s'.bl) (ho : SubP s.ow s'.ow) (hf : SubM s.fa s'.fa) : Le C s s' := by
 intro a w hr;obtain ⟨x, hx⟩ := hb.ex;obtain ⟨y, hy⟩ := ho.ex;have hi : (ids s).Perm (ids s' ++ (x.map (·.g) ++ y.filterMap (·.b))) := by
  have h1 := hx.map (·.g);have h2 := hy.filterMap (·.b);rw [List.map_append] at h1;rw [List.filterMap_append] at h2;refine (h1.append h2).trans ?_;unfold ids;simp only [List.append_assoc];refine List.Perm.append_left _ ?_;rw [← List.append_assoc, ← List.append_assoc];exact List.Perm.append_right _ List.perm_append_comm
 have hsub : ∀ k, k ∈ ids s' → k ∈ ids s := fun k hk => hi.symm.subset (List.mem_append_left _ hk);refine ⟨hr.sz.trans hn, hr.df, fun n x hx => hr.sl n x (hs.ok n x hx), hr.wo.be, fun k hk => hr.wo.bl k (hx.symm.subset (List.mem_append_left _ hk)), fun o h => hr.wo.ow o (hy.symm.subset (List.mem_append_left _ h)),
  (List.nodup_append.1 (hi.nodup_iff.1 hr.wo.nd)).1, fun F hF => ?_⟩
 have h1 := hr.wo.fa F (hf.mem F hF);refine ⟨h1.1, h1.1.st _ _ w w h1.2 ⟨Nr, fun _ _ _ => rfl⟩ fun k _ hm => ?_⟩;rcases hm with hm | hm
 ·exact .inl hm
 ·exact .inr (hsub _ hm)
theorem Le.refl : Le C s s := fun _ _ h => h
theorem Le.trans {s s' s'' : St} (h : Le C s s') (h' : Le C s' s'') : Le C s s'' := fun a w hr => h' a w (h a w hr)
inductive Sel : Slots → List Nat → Slots → Prop
 | nil (s : Slots) : Sel s [] []
 | cons {s : Slots} {n : Nat} {x : SV} {r : List Nat} {s' : Slots} (h : getS s n = some x) (hr : Sel s r s') : Sel s (n :: r) ((n, x) :: s')
inductive SelB : List Blk → List Bool → List Blk → Prop
 | nil : SelB [] [] []
 | keep {k : Blk} {l l' : List Blk} {m : List Bool} (h : SelB l m l') : SelB (k :: l) (true :: m) (k :: l')
 | drop {k : Blk} {l l' : List Blk} {m : List Bool} (h : SelB l m l') : SelB (k :: l) (false :: m) l'
theorem B1 (keep : List Nat) (mask : List Bool) (mS : ι → Slots) (mB : ι → List Blk) (mO : ι → List Own) (mF : ι → List Pred) (c : ι → Prop) (μ : ι → Nat) (i0 : ι) {SL' : Slots} {BL' : List Blk}
  (_hsel : Sel SL keep SL') (_hB : SelB BL mask BL') (h0 : c i0) (hs : Le C ⟨N, SL, BL, OW, FA⟩ ⟨N, mS i0 ++ SL', mB i0 ++ BL', mO i0, mF i0 ++ FA⟩)
  (hround : ∀ i, c i → CW P T C b ⟨N, mS i ++ SL', mB i ++ BL', mO i, mF i ++ FA⟩ (loopQ C (fun i => ⟨N, mS i ++ SL', mB i ++ BL', mO i, mF i ++ FA⟩) c μ i Q)) : CW P T C (.loop b) ⟨N, SL, BL, OW, FA⟩ Q :=
 AV (fun i => ⟨N, mS i ++ SL', mB i ++ BL', mO i, mF i ++ FA⟩) c μ i0 h0 hs hround
end
structure SlV where
 a : Option Addr
 c : Nat
def SlV.val (x : SlV) (n : Nat) : Value := .slice x.a n x.c
structure El (α : Type) where
 enc : α → List Value
 esz : Nat
 by_ : Nat
 len : ∀ a, (enc a).length = esz
 one : ∀ a, ∀ u ∈ enc a, u.oneCell' = true
def RdL {α : Type} (E : El α) (x : SlV) (l : List α) : Pred := fun M w =>
 l.length ≤ x.c ∧ x.c ≤ 9223372036854775807 ∧ l.length * E.by_ ≤ 140737488355328 ∧
 (0 < l.length → ∃ ad, x.a = some ad ∧ ad.block < w.heap.size ∧ ¬ M ad.block ∧
  ∀ (i : Nat) (h : i < l.length) (j : Nat) (v : Value), (E.enc l[i])[j]? = some v → w.cell? (ad.add (i * E.esz + j)) = some v)
instance {α : Type} (E : El α) (x : SlV) (l : List α) : Stab (RdL E x l) where
 st M M' w w' h hx hM := by
  obtain ⟨h1, h2, h3, h4⟩ := h;refine ⟨h1, h2, h3, fun hl => ?_⟩;obtain ⟨ad, ha, hb, hm, hc⟩ := h4 hl;refine ⟨ad, ha, Nat.lt_of_lt_of_le hb hx.1, fun h => hm (hM _ hb h), fun i hi j v hv => ?_⟩;rw [← hc i hi j v hv];exact World.cell?_of_block (by rw [lp]; exact hx.2 _ hb hm)
variable {α : Type} {l : List α}
theorem RdL.len {E : El α} {x : SlV} {M : Nat → Prop} {w : World} (h : RdL E x l M w) : l.length * E.by_ ≤ 140737488355328 := h.2.2.1
def gt {α : Type} [Inhabited α] (l : List α) (i : Nat) : α := l.getD i default
variable {i : Nat}
theorem gt_eq [Inhabited α] (h : i < l.length) : gt l i = l[i] := by simp [gt, List.getD, List.getElem?_eq_getElem h]
theorem aK [Inhabited α] (h : i < l.length) : l.drop i = gt l i :: l.drop (i + 1) := by rw [gt_eq h]; exact List.drop_eq_getElem_cons h
theorem gJ [Inhabited α] (h : i < l.length) : gt l i ∈ l := by rw [gt_eq h]; exact List.getElem_mem h
def epA (A : Option Addr) (i esz off : Nat) : Addr := (A.getD ⟨0, 0, none⟩).add (i * esz + off)
section
variable {P : Program} {T : Tab} {C : Cx} {s : St} {o : Oper} {N : Nat} {SL : Slots} {BL : List Blk} {OW : List Own} {FA : List Pred}
variable {A : Option Addr} {G b g0 : Bool} {esz i off t : Nat} {x : Operand}
theorem q_fae {f g0n o' ft : Nat} (ho : o.op = .fieldAddr t x f) (he : ev SL x = some (g0, .pointer (some (epA A i esz off)))) (hg0 : G = true → g0 = true)
  (hf : T.fld t f = some (o', ft)) (hz : T.siz ft = some (g0n + 1, b)) : Quiet P T SL BL FA o G (.pointer (some (epA A i esz (off + o')))) :=
 fun hT hG a w hsl _ => by
  obtain ⟨fs, f', hu, hfi, ho', hft⟩ := hT.fld _ _ _ _ hf;subst ho'; subst hft;obtain ⟨ti, d, q1, q2, q3, q4⟩ := hT.siz _ _ _ hz;have hx := ev_ok hsl he (hg0 hG);simp only [execOp, ho, hx, Instr.fieldAt, Sem.run_bind, run_underlying hu, Result.andThen_ok, hfi, Instr.sureAddr, Sem.run_pure, fieldPlace, dR q1, q2];simp [epA, jd, Nat.add_assoc]
variable {c n : Nat} {α : Type} {l : List α}
theorem q_idx (E : El α) {e : Nat} {y : Operand} {g1 : Bool} {k : IntKind} {iv : Int} (i : Nat) (ho : o.op = .indexAddr t x y)
  (he : ev SL x = some (g0, .slice A n c)) (hg0 : G = true → g0 = true) (hy : ev SL y = some (g1, .int k iv)) (hg1 : G = true → g1 = true)
  (ht : T.slc t = some e) (hz : T.siz e = some (esz, b)) (hes : E.esz = esz) (hm : RdL E ⟨A, c⟩ l ∈ FA) (hn : n = l.length) (hi : G = true → iv = (i : Int)) (hlt : G = true → i < l.length) :
  Quiet P T SL BL FA o G (.pointer (some (epA A i esz 0))) :=
 fun hT hG a w hsl hw => by
  obtain ⟨ti, d, q1, q2, q3, q4⟩ := hT.siz _ _ _ hz;have h1 := ev_ok hsl he (hg0 hG);have h2 := ev_ok hsl hy (hg1 hG);have hlt := hlt hG;have hi := hi hG;obtain ⟨_, _, _, _, h4⟩ := hw.fa _ hm;obtain ⟨ad, ha, _⟩ := h4 (by omega);simp only at ha;subst hn; subst ha; subst hi;have hu := hT.slc _ _ ht;simp only [execOp, ho, h1, h2, Instr.indexAt, asIntOf, Sem.run_bind, Sem.run_pure, Result.andThen_ok, run_underlying hu];rw [if_pos (by omega)];simp [dR q1, q2, epA]
variable {v : Value}
theorem z4 [Inhabited α] {E : El α} (hm : RdL E ⟨A, c⟩ l ∈ FA) {w : World} (hw : WQ BL FA w) (hlt : i < l.length) 
  (hv : (E.enc (gt l i))[off]? = some v) : w.cell? (epA A i E.esz off) = some v := by
 obtain ⟨_, _, _, _, h4⟩ := hw.fa _ hm;obtain ⟨ad, ha, _, _, hc⟩ := h4 (by omega);simp only at ha;subst ha;rw [gt_eq hlt] at hv;exact hc i hlt off v hv
theorem q_le1 [Inhabited α] (E : El α) (ho : o.op = .load t x)
  (he : ev SL x = some (g0, .pointer (some (epA A i esz off)))) (hg0 : G = true → g0 = true) (hs : T.siz t = some (n, false)) (hes : E.esz = esz) (hm : RdL E ⟨A, c⟩ l ∈ FA) (hlt : G = true → i < l.length)
  (hv : (E.enc (gt l i))[off]? = some v) : Quiet P T SL BL FA o G v :=
 iR ho he hg0 fun hT hG w hw => i5 hT hs (by subst hes; exact z4 hm hw (hlt hG) hv)
theorem q_leP [Inhabited α] (E : El α) (ho : o.op = .load t x)
  (he : ev SL x = some (g0, .pointer (some (epA A i esz off)))) (hg0 : G = true → g0 = true) (hs : T.siz t = some (n, true)) (hes : E.esz = esz) (hm : RdL E ⟨A, c⟩ l ∈ FA) (hlt : G = true → i < l.length)
  (hl : Nat.ble (off + n) esz = true) : Quiet P T SL BL FA o G (.agg ⟨subL (E.enc (gt l i)) off n⟩) :=
 iR ho he hg0 fun hT hG w hw => by
  subst hes;have hl := Nat.le_of_ble_eq_true hl;have hlt := hlt hG;have hlen : (E.enc (gt l i)).length = E.esz := E.len _;refine j7 hT hs (by simp [subL]; omega) fun j v hj => ?_;have hj' : (E.enc (gt l i))[off + j]? = some v := by
   rw [← hj];simp only [subL, List.getElem?_take, List.getElem?_drop];rw [if_pos];obtain ⟨hlt', _⟩ := List.getElem?_eq_some_iff.1 hj;simp [subL] at hlt';omega
  have := z4 hm hw hlt hj';rw [← this];congr 1;simp [epA, jd, Nat.add_assoc]
theorem q_leA [Inhabited α] (E : El α) (ho : o.op = .load t x)
  (he : ev SL x = some (g0, .pointer (some (epA A i esz 0)))) (hg0 : G = true → g0 = true) (hs : T.siz t = some (esz, true)) (hes : E.esz = esz) (hm : RdL E ⟨A, c⟩ l ∈ FA) (hlt : G = true → i < l.length) : Quiet P T SL BL FA o G (.agg ⟨E.enc (gt l i)⟩) :=
 fun hT hG a w hsl hw => by
  have hlen : (E.enc (gt l i)).length = esz := by rw [E.len, hes]
  have := q_leP (P := P) (BL := BL) E (off := 0) ho he hg0 hs hes hm hlt (by simp) hT hG a w hsl hw;rw [this];simp [subL, ← hlen]
end
def AllF (l : List Pred) (M : Nat → Prop) (w : World) : Prop := ∀ F ∈ l, F M w
structure Lent where
 bl : List Blk
 ow : List Own
def Lent.ids (L : Lent) : List Nat := L.bl.map (·.g) ++ L.ow.filterMap (·.b)
structure DoesG (P : Program) (f : FuncId) (args : List Value) (pre : List Pred) (L : Lent) {X : Type} (val : X → Value) (post : X → List Pred) (L' : X → Lent) : Prop where
 st : ∀ x, StabL (post x)
 ok : ∀ C : Cx, C.B0 = L.ids → WOk C ⟨0, [], L.bl, L.ow, pre⟩ C.w0 →
  Calls P f args.toArray C.w0 (fun e w' => ∃ x, e = .returned (val x) ∧ WOk C ⟨0, [], (L' x).bl, (L' x).ow, post x⟩ w')
abbrev Does (P : Program) (f : FuncId) (args : List Value) (pre : List Pred) {X : Type} (val : X → Value) (post : X → List Pred) : Prop :=
 DoesG P f args pre ⟨[], []⟩ val post (fun _ => ⟨[], []⟩)
inductive Take {α : Type} : List α → List α → List α → Prop
 | nil (l : List α) : Take l [] l
 | cons {a : α} {l l' r x : List α} (h : Pick a l l') (hr : Take l' r x) : Take l (a :: r) x
theorem Take.perm {α : Type} {l r x : List α} (h : Take l r x) : l.Perm (r ++ x) := by
 induction h with
 | nil l => exact .refl _
 | cons h _ ih => exact h.perm.trans (ih.cons _)
theorem vy {n : Nat} {sl : Slots} {BL : List Blk} {OW : List Own} {FA : List Pred} {L : Lent} {RB : List Blk} {RO : List Own} (hb : BL.Perm (L.bl ++ RB)) (ho : OW.Perm (L.ow ++ RO)) :
  (ids ⟨n, sl, BL, OW, FA⟩).Perm (L.ids ++ (RB.map (·.g) ++ RO.filterMap (·.b))) := by
 have h1 := hb.map (·.g);have h2 := ho.filterMap (·.b);rw [List.map_append] at h1;rw [List.filterMap_append] at h2;refine (h1.append h2).trans ?_;unfold Lent.ids;simp only [List.append_assoc];refine List.Perm.append_left _ ?_;rw [← List.append_assoc, ← List.append_assoc];exact List.Perm.append_right _ List.perm_append_comm
section
variable {C : Cx} {N : Nat} {SL : Slots} {BL RB : List Blk} {OW RO : List Own} {FA pre : List Pred} {w w' : World} {L L' : Lent}
theorem WOk.lend (h : WOk C ⟨N, SL, BL, OW, FA⟩ w) (hb : BL.Perm (L.bl ++ RB)) (ho : OW.Perm (L.ow ++ RO)) (hp : ∀ F ∈ pre, F ∈ FA) :
  ∃ C' : Cx, C'.w0 = w ∧ C'.B0 = L.ids ∧ (∀ b, C'.M0 b ↔ (Mset C ⟨N, SL, BL, OW, FA⟩ b ∧ b ∉ L.ids)) ∧ WOk C' ⟨0, [], L.bl, L.ow, pre⟩ C'.w0 := by
 have hi : (ids ⟨N, SL, BL, OW, FA⟩).Perm (L.ids ++ (RB.map (·.g) ++ RO.filterMap (·.b))) := vy hb ho;have hsub : ∀ k, k ∈ L.ids → k ∈ ids ⟨N, SL, BL, OW, FA⟩ := fun k hk => hi.symm.subset (List.mem_append_left _ hk);refine ⟨⟨w, fun b => Mset C ⟨N, SL, BL, OW, FA⟩ b ∧ b ∉ L.ids, L.ids, fun b hm => xP h hm.1, fun b hm => ⟨(kK h (hsub b hm)).1, fun hx => hx.2 hm⟩⟩, rfl, rfl, fun _ => Iff.rfl, ?_⟩;refine ⟨Blw.refl _ _ _, fun k hk => ⟨(h.bl k (hb.symm.subset (List.mem_append_left _ hk))).1, .inr (List.mem_append_left _ (List.mem_map.2 ⟨k, hk, rfl⟩))⟩, fun q hq => ?_, (List.nodup_append.1 (hi.nodup_iff.1 h.nd)).1, fun F hF => ?_⟩
 ·have h1 := h.ow q (ho.symm.subset (List.mem_append_left _ hq));unfold OwnOk at h1 ⊢;refine ⟨h1.1, h1.2.1, ?_⟩;have h2 := h1.2.2;cases hqb : q.b with
  | none => rw [hqb] at h2; exact h2
  | some g => rw [hqb] at h2; exact ⟨.inr (List.mem_append_right _ (List.mem_filterMap.2 ⟨q, hq, hqb⟩)), h2.2⟩
 ·have h1 := h.fa F (hp F hF);refine ⟨h1.1, h1.1.st _ _ w w h1.2 ⟨Nr, fun _ _ _ => rfl⟩ fun k _ hm => ?_⟩;rcases hm with hm | hm
  ·exact hm.1
  ·exact .inr (hsub k hm)
theorem WOk.back (h : WOk C ⟨N, SL, BL, OW, FA⟩ w) (hb : BL.Perm (L.bl ++ RB)) (ho : OW.Perm (L.ow ++ RO)) {C' : Cx} (e1 : C'.w0 = w) (e2 : C'.B0 = L.ids)
  (e3 : ∀ b, C'.M0 b ↔ (Mset C ⟨N, SL, BL, OW, FA⟩ b ∧ b ∉ L.ids)) {post : List Pred} (h' : WOk C' ⟨0, [], L'.bl, L'.ow, post⟩ w') :
  WOk C ⟨N, SL, L'.bl ++ RB, L'.ow ++ RO, post ++ FA⟩ w' := by
 have hi : (ids ⟨N, SL, BL, OW, FA⟩).Perm (L.ids ++ (RB.map (·.g) ++ RO.filterMap (·.b))) := vy hb ho;have hnd := hi.nodup_iff.1 h.nd;have hsub : ∀ k, k ∈ L.ids → k ∈ ids ⟨N, SL, BL, OW, FA⟩ := fun k hk => hi.symm.subset (List.mem_append_left _ hk);have hsubR : ∀ k, k ∈ RB.map (·.g) ++ RO.filterMap (·.b) → k ∈ ids ⟨N, SL, BL, OW, FA⟩ := fun k hk => hi.symm.subset (List.mem_append_right _ hk);have hRL : ∀ k, k ∈ RB.map (·.g) ++ RO.filterMap (·.b) → k ∉ L.ids := fun k hk hl => (List.nodup_append.1 hnd).2.2 k hl k hk rfl;have hbe := h'.be;rw [e1, e2] at hbe;have hL' : ∀ k, k ∈ L'.ids → k ∈ L.ids ∨ w.heap.size ≤ k := fun k hk => by
  have h1 := (kK h' (b := k) hk).2;rcases h1 with h1 | h1
  ·rw [e1] at h1; exact .inr h1
  ·rw [e2] at h1; exact .inl h1
 have hmine : ∀ k, k ∈ L'.ids → C.mine k := fun k hk => by
  rcases hL' k hk with h1 | h1
  ·exact (kK h (hsub k h1)).2
  ·exact .inl (Nat.le_trans h.be.size h1)
 have hperm' : (ids ⟨N, SL, L'.bl ++ RB, L'.ow ++ RO, post ++ FA⟩).Perm (L'.ids ++ (RB.map (·.g) ++ RO.filterMap (·.b))) := vy (.refl _) (.refl _);have hids' : ∀ k, k ∈ ids ⟨N, SL, L'.bl ++ RB, L'.ow ++ RO, post ++ FA⟩ → k ∈ L'.ids ∨ k ∈ RB.map (·.g) ++ RO.filterMap (·.b) := fun k hk => List.mem_append.1 (hperm'.subset hk);have hblk : ∀ k, k < w.heap.size → k ∉ L.ids → w'.heap[k]? = w.heap[k]? := fun k hk hl => hbe.block k hk hl;refine ⟨h.be.trans ⟨hbe.os, hbe.tape, hbe.output, hbe.size, fun k hk hB => hblk k (Nat.lt_of_lt_of_le hk h.be.size) fun hl => ?_⟩, fun k hk => ?_, fun q hq => ?_, ?_, fun F hF => ?_⟩
 ·rcases (kK h (hsub k hl)).2 with h1 | h1
  ·omega
  ·exact hB h1
 ·rcases List.mem_append.1 hk with hk | hk
  ·exact ⟨(h'.bl k hk).1, hmine _ (List.mem_append_left _ (List.mem_map.2 ⟨k, hk, rfl⟩))⟩
  ·have hm : k.g ∈ RB.map (·.g) ++ RO.filterMap (·.b) := List.mem_append_left _ (List.mem_map.2 ⟨k, hk, rfl⟩);exact (h.bl k (hb.symm.subset (List.mem_append_right _ hk))).of_eq (hblk _ (kK h (hsubR _ hm)).1 (hRL _ hm))
 ·rcases List.mem_append.1 hq with hq | hq
  ·have h1 := h'.ow q hq;unfold OwnOk at h1 ⊢;refine ⟨h1.1, h1.2.1, ?_⟩;have h2 := h1.2.2;cases hqb : q.b with
   | none => rw [hqb] at h2; exact h2
   | some g => rw [hqb] at h2; exact ⟨hmine g (List.mem_append_right _ (List.mem_filterMap.2 ⟨q, hq, hqb⟩)), h2.2⟩
  ·refine (h.ow q (ho.symm.subset (List.mem_append_right _ hq))).of_eq fun g hg => ?_;have hm : g ∈ RB.map (·.g) ++ RO.filterMap (·.b) := List.mem_append_right _ (List.mem_filterMap.2 ⟨q, hq, hg⟩);exact hblk g (kK h (hsubR _ hm)).1 (hRL _ hm)
 ·refine hperm'.nodup_iff.2 (List.nodup_append.2 ⟨h'.nd, (List.nodup_append.1 hnd).2.1, fun a ha b hb e => ?_⟩);subst e;rcases hL' a ha with h1 | h1
  ·exact hRL a hb h1
  ·have := (kK h (hsubR a hb)).1;omega
 ·rcases List.mem_append.1 hF with hF | hF
  ·have h1 := h'.fa F hF;refine ⟨h1.1, h1.1.st _ _ w' w' h1.2 ⟨Nr, fun _ _ _ => rfl⟩ fun k _ hm => ?_⟩;rcases hm with hm | hm
   ·refine .inl ((e3 k).2 ⟨.inl hm, fun hl => ?_⟩);rcases (kK h (hsub k hl)).2 with h2 | h2
    ·have := C.hM k hm; omega
    ·exact (C.hB k h2).2 hm
   ·rcases hids' k hm with hm | hm
    ·exact .inr hm
    ·exact .inl ((e3 k).2 ⟨.inr (hsubR k hm), hRL k hm⟩)
  ·have h1 := h.fa F hF;refine ⟨h1.1, h1.1.st _ _ w w' h1.2 ⟨hbe.size, fun k hk hm => hblk k hk fun hl => hm (.inr (hsub k hl))⟩ fun k hk hm => ?_⟩;rcases hm with hm | hm
   ·exact .inl hm
   ·rcases hids' k hm with hm | hm
    ·rcases hL' k hm with h2 | h2
     ·exact .inr (hsub k h2)
     ·omega
    ·exact .inr (hsubR k hm)
end
inductive ResV (T : Tab) (s : St) : ResultVar → Value → Prop
 | tmp {t : Nat} {v : Value} (h : getS s.sl t = some (.v v)) : ResV T s (.tmp t) v
 | agg {t g n ty ty' : Nat} {cs : List Value} (h : getS s.sl t = some (.v (.pointer (some ⟨g, 0, none⟩)))) (hs : T.siz ty = some (n, true)) (hm : ⟨g, ty', cs⟩ ∈ s.bl) (hl : cs.length = n) : ResV T s (.cell t ty) (.agg ⟨cs⟩)
 | one {t g n ty ty' : Nat} {c : Value} (h : getS s.sl t = some (.v (.pointer (some ⟨g, 0, none⟩)))) (hs : T.siz ty = some (n, false)) (hm : ⟨g, ty', [c]⟩ ∈ s.bl) : ResV T s (.cell t ty) c
inductive ResVs (T : Tab) (s : St) : List ResultVar → List Value → Prop
 | nil : ResVs T s [] []
 | cons {r : ResultVar} {v : Value} {rs : List ResultVar} {vs : List Value} (h : ResV T s r v) (hr : ResVs T s rs vs) : ResVs T s (r :: rs) (v :: vs)
def yl : List Value → Value
 | [v] => v
 | vs => .tuple ⟨vs⟩
def argS : Nat → List Value → Slots
 | _, [] => []
 | n, v :: vs => (n, .v v) :: argS (n + 1) vs
def finQ {X : Type} (T : Tab) (rs : List ResultVar) (val : X → Value) (post : X → List Pred) (L' : X → Lent) : Post
 | .ret, s | .normal, s => ∃ x vs, ResVs T s rs vs ∧ val x = yl vs ∧ SubM s.fa (post x) ∧ SubP s.bl (L' x).bl ∧ SubP s.ow (L' x).ow
 | _, _ => False
section
variable {P : Program} {T : Tab}
def ym (a : Act) : ResultVar → Sem Value
 | .tmp t => pure (a.tmps.getD t undef)
 | .cell x t => do loadVar t (← asAddr (a.tmps.getD x undef))
variable {a : Act} {v : Value} {w : World}
theorem ResV.ok (hT : TabOk T P) {C : Cx} {s : St} (hr : Rep C s a w) {r : ResultVar} (h : ResV T s r v) :
  (ym a r).run P w = .ok v w := by
 unfold ym;cases h with
 | tmp h => have := hr.sl _ _ h; simp [SV.ok] at this; simp [this]
 | agg h hs hm hl =>
  have := hr.sl _ _ h;simp only [SV.ok] at this;have h2 := md (P := P) (FA := s.fa) hs hm (off := 0) (by simp [hl]) hT (WOk.wq (N := s.n) (SL := s.sl) (OW := s.ow) hr.wo);simp only [Array.getD_eq_getD_getElem?, this, Option.getD_some, asAddr, Sem.run_bind, Sem.run_pure, Result.andThen_ok, h2];simp [subL, ← hl]
 | one h hs hm =>
  have := hr.sl _ _ h;simp only [SV.ok] at this;have h2 := i5 (P := P) hT hs (w := w) (a := ⟨_, 0, none⟩) (by rw [le (hr.wo.bl _ hm).1]; rfl);simp only [Array.getD_eq_getD_getElem?, this, Option.getD_some, asAddr, Sem.run_bind, Sem.run_pure, Result.andThen_ok, h2]
variable {fn : Func} {vs : List Value}
theorem ResVs.ok (hT : TabOk T P) {C : Cx} {s : St} (hr : Rep C s a w) (h : ResVs T s fn.results.toList vs) :
  (results fn a.tmps).run P w = .ok (yl vs) w := by
 have key : ∀ (rs : List ResultVar) (vs : List Value), ResVs T s rs vs → (rs.mapM (ym a)).run P w = .ok vs w := by
  intro rs vs h;induction h with
  | nil => simp
  | cons h _ ih => simp only [List.mapM_cons, Sem.run_bind, h.ok hT hr, Result.andThen_ok, ih, Sem.run_pure]
 have he : results fn a.tmps = (do let vs ← fn.results.mapM (ym a); pure (if h : vs.size = 1 then vs[0] else .tuple vs)) := rfl;rw [he, Sem.run_bind];have hm := key _ _ h;rw [← Array.toArray_toList (xs := fn.results), List.mapM_toArray];simp only [Sem.run_map];rw [hm];simp only [Result.andThen_ok, Sem.run_pure]
 match vs with
 | [] => rfl
 | [v] => rfl
 | v :: u :: vs => rfl
theorem yL : ∀ (vs : List Value) (k n : Nat) (x : SV), getS (argS k vs) n = some x → ∃ j v, n = k + j ∧ vs[j]? = some v ∧ x = .v v
 | [], k, n, x, h => by simp [argS, getS] at h
 | v :: vs, k, n, x, h => by
  rw [argS, tv] at h;split at h
  ·rename_i e;cases h;exact ⟨0, v, by omega, rfl, rfl⟩
  ·obtain ⟨j, u, h1, h2, h3⟩ := yL vs (k + 1) n x h;exact ⟨j + 1, u, by omega, by simpa using h2, h3⟩
variable {L : Lent} {X : Type} {L' : X → Lent} {args : List Value} {c : Code} {f : FuncId} {post : X → List Pred} {pre : List Pred} {rs : List ResultVar} {val : X → Value}
theorem yI {N : Nat} (hT : TabOk T P)
  (hf : P.funcs[f]? = some fn) (hb : fn.body = some c) (hN : fn.ntmps = N) (hrs : fn.results = ⟨rs⟩) (hle : Nat.ble args.length N = true) (_hpre : StabL pre) (hpost : ∀ x, StabL (post x))
  (h : ∀ C : Cx, CW P T C c ⟨N, argS 0 args, L.bl, L.ow, pre⟩ (finQ T rs val post L')) : DoesG P f args pre L val post L' where
 st := hpost
 ok C hCB hw := by
  have hle := Nat.le_of_ble_eq_true hle;refine calls_of_wp hf hb ?_;refine Code.wp_mono (fun e a w' hq => ?_) (h C hT _ C.w0 ?_)
  ·have fin : ∀ s', finQ T rs val post L' .ret s' → Rep C s' a w' → a.defers = [] ∧ ∃ v, (results fn a.tmps).run P w' = .ok v w' ∧ ∃ x, Ending.returned v = .returned (val x) ∧ WOk C ⟨0, [], (L' x).bl, (L' x).ow, post x⟩ w' := by
    intro s' h1 h2;obtain ⟨x, vs, hres, hval, hsub, hbl, how⟩ := h1;have h3 : Rep C ⟨s'.n, [], (L' x).bl, (L' x).ow, post x⟩ a w' := (Le.of (s := s') (s' := ⟨s'.n, [], (L' x).bl, (L' x).ow, post x⟩) rfl (.nil _) hbl how hsub) a w' h2;exact ⟨h2.df, _, ResVs.ok hT h2 (by rw [hrs]; exact hres), x, by rw [hval], ⟨h3.wo.be, h3.wo.bl, h3.wo.ow, h3.wo.nd, h3.wo.fa⟩⟩
   cases e with
   | normal => obtain ⟨s', h1, h2⟩ := hq; exact fin s' h1 h2
   | ret => obtain ⟨s', h1, h2⟩ := hq; exact fin s' h1 h2
   | exit i => obtain ⟨s', h1, _⟩ := hq; exact h1.elim
   | goto l => exact hq.elim
   | panic c => exact hq.elim
   | outgrown => exact hq.elim
  ·refine ⟨by simp [hN]; omega, rfl, fun n x hx => ?_, ⟨hw.be, hw.bl, hw.ow, hw.nd, hw.fa⟩⟩;obtain ⟨j, v, h1, h2, rfl⟩ := yL args 0 n x hx;have hn : n = j := by omega
   subst hn;obtain ⟨hlt, _⟩ := List.getElem?_eq_some_iff.1 h2;simp only [SV.ok];rw [Array.getElem?_append_left (by simpa using hlt)];simpa using h2
theorem DI {N : Nat} (hT : TabOk T P)
  (hf : P.funcs[f]? = some fn) (hb : fn.body = some c) (hN : fn.ntmps = N) (hrs : fn.results = ⟨rs⟩) (hle : Nat.ble args.length N = true) (hpre : StabL pre) (hpost : ∀ x, StabL (post x))
  (h : ∀ C : Cx, CW P T C c ⟨N, argS 0 args, [], [], pre⟩ (finQ T rs val post (fun _ => ⟨[], []⟩))) : Does P f args pre val post :=
 yI hT hf hb hN hrs hle hpre hpost h
theorem DoesG.calls (h : Does P f args pre val post) (w : World) (hp : ∀ F ∈ pre, Stab F ∧ F (fun _ => False) w) :
  Calls P f args.toArray w (fun e w' => ∃ x, e = .returned (val x) ∧ Below w.heap.size w w' ∧ AllF (post x) (fun _ => False) w') :=
 (h.ok ⟨w, fun _ => False, [], fun _ h => h.elim, fun _ h => by cases h⟩ rfl ⟨Blw.refl _ _ _, by simp, by simp, by simp [ids], fun F hF => ⟨(hp F hF).1, (hp F hF).1.st _ _ w w (hp F hF).2 ⟨Nr, fun _ _ _ => rfl⟩ fun k _ hm => by
  rcases hm with hm | hm
  ·exact hm
  ·simp [ids] at hm⟩⟩).mono fun e w' ⟨x, he, hw⟩ => ⟨x, he, hw.be.below, fun F hF => (hw.fa F hF).1.st _ _ w' w' (hw.fa F hF).2 ⟨Nr, fun _ _ _ => rfl⟩ fun _ _ hm => hm.elim⟩
variable {C : Cx} {ops : Array Oper} {o : Oper} {r r' : RS} {s : St} {Q : Post} {N : Nat} {SL : Slots} {BL : List Blk} {OW : List Own} {FA : List Pred}
theorem yi (hT : TabOk T P) (hf : T.fnb f = true) (args : Array Value) (w : World) : (callFunc f args).run P w = .ok (.enter f args) w := by
 obtain ⟨fn, h1, h2, h3⟩ := hT.fnb f hf;simp only [callFunc, Sem.run_bind, run_program, Result.andThen_ok, h1, h2, h3];simp
variable {g : Bool} {ts : Array TypeId} {xs : Array Operand}
theorem qU (hT : TabOk T P) (ho : o.op = .call ⟨.value (.func f), xs, ts⟩) (hf : T.fnb f = true) (hsl : nE s.sl a)
  (he : evs s.sl xs.toList = some (g, vs)) (hg : g = true) (w : World) : (execOp a.eval o).run P w = .ok (.enter f vs.toArray) w := by
 have hv := wF hsl he hg;have : xs.map a.eval = vs.toArray := by apply Array.ext'; simp [hv]
 simp [execOp, ho, resolve, Deferred.ofValue, invoke, this, Act.eval, yi hT hf]
variable {RB : List Blk} {RO : List Own} {d : Nat}
theorem vF 
  (hS : DoesG P f args pre L val post L') (hx : (execOp a.eval o).run P w = .ok (.enter f args.toArray) w) (hd : o.dst = some d) (hrep : Rep C ⟨N, SL, BL, OW, FA⟩ a w) (hpre : ∀ F ∈ pre, F ∈ FA)
  (hb : BL.Perm (L.bl ++ RB)) (ho : OW.Perm (L.ow ++ RO)) {K : Act → World → Prop}
  (hK : ∀ x w', WOk C ⟨N, SL, (L' x).bl ++ RB, (L' x).ow ++ RO, post x ++ FA⟩ w' → Keeps L.ids w w' → K (a.put (some d) (val x)) w') : o.wp P a w K noG := by
 unfold Oper.wp;rw [hx, Oper.upon_enter];obtain ⟨C', e1, e2, e3, hl⟩ := hrep.wo.lend (pre := pre) hb ho hpre;have := hS.ok C' e2 hl;rw [e1] at this;refine this.mono ?_;rintro e w' ⟨x, rfl, hw⟩;simp only [hd];refine hK x w' (hrep.wo.back hb ho e1 e2 e3 hw) ?_;have hbe := hw.be;rw [e1, e2] at hbe;exact ⟨hbe.size, fun k hk hD => hbe.block k hk hD⟩
theorem uz 
  (hS : DoesG P f vs pre L val post L') (hd : o.dst = some d) (hn : Nat.blt d N = true) (ho : o.op = .call ⟨.value (.func f), xs, ts⟩) (hf : T.fnb f = true)
  (he : evs SL xs.toList = some (g, vs)) (hgt : g = true) (hpre : SubM FA pre) (hb : Take BL L.bl RB) (hw : Take OW L.ow RO) :
  Loud P T C ⟨N, SL, BL, OW, FA⟩ o L.ids (fun s' => ∃ x, s' = ⟨N, (d, .v (val x)) :: SL, (L' x).bl ++ RB, (L' x).ow ++ RO, post x ++ FA⟩) := by
 intro hT a w hrep;refine vF hS (qU hT ho hf hrep.sl he hgt w) hd hrep hpre.mem hb.perm hw.perm fun x w' hw hk => ?_;exact ⟨_, ⟨x, rfl⟩, hrep.putv (Nat.le_of_ble_eq_true hn) (x := .v (val x)) (u := val x) rfl ⟨hw.be, hw.bl, hw.ow, hw.nd, hw.fa⟩, hk⟩
variable {D : List Nat}
theorem Loud.wide {D' : List Nat} {s : St} {K : St → Prop} (h : Loud P T C s o D K) (hD : ∀ g ∈ D, g ∈ D') : Loud P T C s o D' K := fun hT a w hrep =>
 Oper.wp_mono (fun _ _ ⟨s', h1, h2, h3⟩ => ⟨s', h1, h2, h3.mono hD⟩) (h hT a w hrep)
theorem vh 
  (hS : DoesG P f vs pre L val post L') (hfr : Front ops r o D r') (hD : (∃ l, r = .sq l) ∨ ∀ g ∈ L.ids, g ∈ D) (hg : Guard ops SL o true) (hd : o.dst = some d) (hn : Nat.blt d N = true) (ho : o.op = .call ⟨.value (.func f), xs, ts⟩) (hf : T.fnb f = true)
  (he : evs SL xs.toList = some (g, vs)) (hgt : g = true) (hpre : SubM FA pre) (hb : Take BL L.bl RB) (hw : Take OW L.ow RO)
  (h : ∀ x, RW P T C ops r' ⟨N, (d, .v (val x)) :: SL, (L' x).bl ++ RB, (L' x).ow ++ RO, post x ++ FA⟩ Q) : RW P T C ops r ⟨N, SL, BL, OW, FA⟩ Q := by
 have key := uz (C := C) hS hd hn ho hf he hgt hpre hb hw;cases hfr with
 | sq => exact rO hg key (fun s' ⟨x, e⟩ => by subst e; exact h x)
 | lo _ hi hDD => exact rw_l (.lo L.ids hi hDD) hg key (fun s' ⟨x, e⟩ => by subst e; exact h x)
 | an hi hDD =>
  refine rw_l (.an hi hDD) hg (key.wide fun g hg => ?_) (fun s' ⟨x, e⟩ => by subst e; exact h x);rcases hD with ⟨_, e⟩ | e
  ·cases e
  ·exact e g hg
theorem AC 
  (hS : Does P f vs pre val post) (hd : o.dst = some d) (hn : Nat.blt d N = true) (ho : o.op = .call ⟨.value (.func f), xs, ts⟩) (hf : T.fnb f = true)
  (he : evs SL xs.toList = some (g, vs)) (hgt : g = true) (hpre : SubM FA pre) :
  Loud P T C ⟨N, SL, BL, OW, FA⟩ o D (fun s' => ∃ x, s' = ⟨N, (d, .v (val x)) :: SL, BL, OW, post x ++ FA⟩) :=
 (uz (C := C) hS hd hn ho hf he hgt hpre (.nil _) (.nil _)).wide (by simp [Lent.ids])
theorem Dh 
  (hS : Does P f vs pre val post) (hfr : Front ops r o D r') (hg : Guard ops SL o true) (hd : o.dst = some d) (hn : Nat.blt d N = true) (ho : o.op = .call ⟨.value (.func f), xs, ts⟩) (hf : T.fnb f = true)
  (he : evs SL xs.toList = some (g, vs)) (hgt : g = true) (hpre : SubM FA pre)
  (h : ∀ x, RW P T C ops r' ⟨N, (d, .v (val x)) :: SL, BL, OW, post x ++ FA⟩ Q) : RW P T C ops r ⟨N, SL, BL, OW, FA⟩ Q :=
 rw_l hfr hg (AC hS hd hn ho hf he hgt hpre) (fun s' ⟨x, e⟩ => by subst e; exact h x)
theorem BF {G : Bool} 
  (hS : G = true → Does P f vs pre val post) (hval : ∀ x, val x = v) (hfr : Front ops r o D r') (hG : Guard ops SL o G) (hd : o.dst = some d) (hn : Nat.blt d N = true) (ho : o.op = .call ⟨.value (.func f), xs, ts⟩) (hf : T.fnb f = true)
  (he : evs SL xs.toList = some (g, vs)) (hgt : G = true → g = true) (hpre : SubM FA pre)
  (h : RW P T C ops r' ⟨N, (d, .o G v) :: SL, BL, OW, FA⟩ Q) : RW P T C ops r ⟨N, SL, BL, OW, FA⟩ Q := by
 intro hT a w hrep;have hno : G = false → Rep C ⟨N, (d, .o G v) :: SL, BL, OW, FA⟩ (a.put (some d) undef) w := fun hGv =>
  hrep.putv (Nat.le_of_ble_eq_true hn) (x := .o G v) (u := undef) (by simp [SV.ok, hGv]) hrep.wo
 have hyes : G = true → o.wp P a w (fun a' w' => Rep C ⟨N, (d, .o G v) :: SL, BL, OW, FA⟩ a' w' ∧ Keeps D w w') noG := fun hGv => by
  refine vF (hS hGv) (qU hT ho hf hrep.sl he (hgt hGv) w) hd hrep hpre.mem (RB := BL) (RO := OW) (.refl _) (.refl _) fun x w' hw hk => ?_;rw [hval];exact ⟨hrep.putv (Nat.le_of_ble_eq_true hn) (x := .o G v) (u := v) (by simp [SV.ok, hGv]) (bl := BL) (ow := OW) (fa := FA) ⟨hw.be, hw.bl, hw.ow, hw.nd, fun F hF => hw.fa F (List.mem_append_right _ hF)⟩, hk.mono (by simp [Lent.ids])⟩
 cases hfr with
 | sq =>
  show wpList P ops (lZ C Q) (o :: _) a w;unfold wpList;rw [hG a hrep.sl];cases hGv : G with
  | true =>
   rw [if_pos rfl];have := hyes hGv;rw [hGv] at h this;exact .inl (Oper.wp_mono (fun a' w' ⟨h1, _⟩ => h hT a' w' h1) (Oper.wp_no this))
  | false =>
   rw [if_neg (by simp), hd];exact h hT _ _ (hno hGv)
 | an hi hDD =>
  unfold wpR wpOp;simp only [hi];rw [hG a hrep.sl];cases hGv : G with
  | true =>
   rw [if_pos rfl];have := hyes hGv;rw [hGv] at h this;exact .inl (Oper.wp_mono (fun a' w' ⟨h1, h2⟩ => ⟨by rw [hDD]; exact h2, h hT a' w' h1⟩) this)
  | false =>
   rw [if_neg (by simp), hd];exact ⟨hY.refl _ _, h hT _ _ (hno hGv)⟩
 | lo _ hi hDD =>
  unfold wpR wpOp;simp only [hi];rw [hG a hrep.sl];cases hGv : G with
  | true =>
   rw [if_pos rfl];have := hyes hGv;rw [hGv] at h this;exact .inl (Oper.wp_mono (fun a' w' ⟨h1, h2⟩ => ⟨by rw [hDD]; exact trivial, h hT a' w' h1⟩) this)
  | false =>
   rw [if_neg (by simp), hd];exact ⟨hY.refl _ _, h hT _ _ (hno hGv)⟩
variable {F : Pred}
theorem iq [hF : Stab F] (pre : List Pred) (hpre : SubM FA pre) (hd : ∀ M w, AllF pre M w → F M w) (h : RW P T C ops r ⟨N, SL, BL, OW, F :: FA⟩ Q) : RW P T C ops r ⟨N, SL, BL, OW, FA⟩ Q :=
 rw_le (s' := { n := N, sl := SL, bl := BL, ow := OW, fa := F :: FA }) (fun a w hr => ⟨hr.sz, hr.df, hr.sl, hr.wo.be, hr.wo.bl, hr.wo.ow, hr.wo.nd, fun G hG => by
  cases hG with
  | head => exact ⟨hF, hd _ _ fun F hF => (hr.wo.fa F (hpre.mem F hF)).2⟩
  | tail _ hG => exact hr.wo.fa G hG⟩) h
theorem o0 [hF : Stab F] (pre : List Pred) (hpre : SubM FA pre) (hd : ∀ M w, AllF pre M w → F M w) (h : CW P T C c ⟨N, SL, BL, OW, F :: FA⟩ Q) : CW P T C c ⟨N, SL, BL, OW, FA⟩ Q :=
 cw_le (s' := { n := N, sl := SL, bl := BL, ow := OW, fa := F :: FA }) (fun a w hr => ⟨hr.sz, hr.df, hr.sl, hr.wo.be, hr.wo.bl, hr.wo.ow, hr.wo.nd, fun G hG => by
  cases hG with
  | head => exact ⟨hF, hd _ _ fun F hF => (hr.wo.fa F (hpre.mem F hF)).2⟩
  | tail _ hG => exact hr.wo.fa G hG⟩) h
end
def lk {α : Type} : List (Nat × α) → Nat → Option α
 | [], _ => none
 | (k, x) :: r, n => match Nat.beq k n with | true => some x | false => lk r n
theorem rV {α : Type} : ∀ {l : List (Nat × α)} {n : Nat} {x : α}, lk l n = some x → (n, x) ∈ l
 | [], n, x, h => by simp [lk] at h
 | (k, y) :: r, n, x, h => by
  simp only [lk] at h;split at h
  ·rename_i hb;have := Nat.eq_of_beq_eq_true hb;subst this;cases h;exact .head _
  ·exact .tail _ (rV h)
structure TRows where
 fld : List (Nat × List (Nat × Nat))
 siz : List (Nat × (Nat × Bool))
 zer : List (Nat × List Value)
 str : List (Nat × List (Nat × Nat))
 slc : List (Nat × Nat)
 arr : List (Nat × (Nat × Nat))
 byt : List (Nat × Nat)
 isS : List Nat
 fnb : List Nat
def tabOf (R : TRows) : Tab where
 fld t i := match lk R.fld t with | some l => l[i]? | none => none
 siz := lk R.siz
 zer := lk R.zer
 str := lk R.str
 slc := lk R.slc
 arr := lk R.arr
 byt := lk R.byt
 eqs _ := false
 isS t := R.isS.any (Nat.beq t)
 fnb f := R.fnb.any (Nat.beq f)
def vEq : Value → Value → Bool
 | .int k a, .int k' b => decide (k = k') && decide (a = b)
 | .bool a, .bool b => a == b
 | .string a, .string b => decide (a.data.toList = b.data.toList)
 | .slice none a b, .slice none c d => Nat.beq a c && Nat.beq b d
 | .pointer none, .pointer none => true
 | .nilFunc, .nilFunc => true
 | .nilIface, .nilIface => true
 | _, _ => false
theorem vEq_ok {a b : Value} (h : vEq a b = true) : a = b := by
 unfold vEq at h;split at h
 ·simp at h; rw [h.1, h.2]
 ·simp at h; rw [h]
 ·rename_i a b;have h : a.data.toList = b.data.toList := by simpa using h
  obtain ⟨⟨a⟩⟩ := a;obtain ⟨⟨b⟩⟩ := b;simp at h; rw [h]
 ·simp at h;rw [h.1, h.2]
 ·rfl
 ·rfl
 ·rfl
 ·cases h
def vsEq : List Value → List Value → Bool
 | [], [] => true
 | a :: l, b :: r => vEq a b && vsEq l r
 | _, _ => false
theorem zJ : ∀ {a b : List Value}, vsEq a b = true → a = b
 | [], [], _ => rfl
 | a :: l, b :: r, h => by simp [vsEq] at h; rw [vEq_ok h.1, zJ h.2]
 | [], _ :: _, h => by simp [vsEq] at h
 | _ :: _, [], h => by simp [vsEq] at h
def uH : List Field → List (Nat × Nat) → Bool
 | [], [] => true
 | f :: fs, (o, t) :: r => Nat.beq f.offset o && Nat.beq f.type t && uH fs r
 | _, _ => false
theorem wA : ∀ {fs : List Field} {l : List (Nat × Nat)} {i o t : Nat}, uH fs l = true → l[i]? = some (o, t) → ∃ f, fs[i]? = some f ∧ f.offset = o ∧ f.type = t
 | [], [], i, o, t, _, h => by simp at h
 | f :: fs, (o', t') :: r, i, o, t, h, hl => by
  simp [uH] at h;cases i with
  | zero =>
   simp at hl;refine ⟨f, rfl, ?_, ?_⟩
   ·rw [← hl.1]; exact h.1.1
   ·rw [← hl.2]; exact h.1.2
  | succ i => simpa using wA h.2 (by simpa using hl)
 | [], _ :: _, _, _, _, h, _ => by simp [uH] at h
 | _ :: _, [], _, _, _, h, _ => by simp [uH] at h
def strEq (P : Program) : List Field → List (Nat × Nat) → Bool
 | [], [] => true
 | f :: fs, (o, n) :: r => Nat.beq f.offset o && (match P.info? f.type with | some ti => Nat.beq ti.size n | none => false) && strEq P fs r
 | _, _ => false
theorem xX {P : Program} : ∀ {fs : List Field} {l : List (Nat × Nat)}, strEq P fs l = true → ∃ tis : List TypeInfo, fs.map (fun f => P.info? f.type) = tis.map some ∧ (fs.zip tis).map (fun p => (p.1.offset, p.2.size)) = l
 | [], [], _ => ⟨[], rfl, rfl⟩
 | f :: fs, (o, n) :: r, h => by
  simp only [strEq, Bool.and_eq_true] at h;obtain ⟨⟨h1, h2⟩, h3⟩ := h;obtain ⟨tis, q1, q2⟩ := xX h3;cases hi : P.info? f.type with
  | none => simp [hi] at h2
  | some ti =>
   simp only [hi] at h2;exact ⟨ti :: tis, by simp [hi, q1], by simp [q2, Nat.eq_of_beq_eq_true h1, Nat.eq_of_beq_eq_true h2]⟩
 | [], _ :: _, h => by simp [strEq] at h
 | _ :: _, [], h => by simp [strEq] at h
def CU (P : Program) (p : Nat × List (Nat × Nat)) : Bool := match P.underlying p.1 with | some (.struct fs) => uH fs.toList p.2 | _ => false
def CP (P : Program) (p : Nat × List (Nat × Nat)) : Bool := match P.underlying p.1 with | some (.struct fs) => strEq P fs.toList p.2 | _ => false
def CR (P : Program) (p : Nat × (Nat × Bool)) : Bool := match P.info? p.1, P.underlying p.1 with | some ti, some d => Nat.beq ti.size p.2.1 && (aggD d == p.2.2) | _, _ => false
def CO (P : Program) (p : Nat × List Value) : Bool := match P.info? p.1 with | some ti => (match ti.zero with | some z => vsEq z.cells.toList p.2 | none => false) | _ => false
def CQ (P : Program) (p : Nat × Nat) : Bool := match P.underlying p.1 with | some (.slice e) => Nat.beq e p.2 | _ => false
def CX (P : Program) (p : Nat × (Nat × Nat)) : Bool := match P.underlying p.1 with | some (.array n e) => Nat.beq n p.2.1 && Nat.beq e p.2.2 | _ => false
def CV (P : Program) (p : Nat × Nat) : Bool := match P.info? p.1 with | some ti => Nat.beq ti.bytes p.2 | _ => false
def CS (P : Program) (t : Nat) : Bool := match P.underlying t with | some .string => true | _ => false
def CT (P : Program) (f : Nat) : Bool := match P.funcs[f]? with | some fn => !(fn.name == "runtime.NumGoroutine") && !fn.body.isNone | none => false
structure ROk (R : TRows) (P : Program) : Prop where
 mixed : P.follows .mixedOrders = true
 fld : R.fld.all (CU P) = true
 siz : R.siz.all (CR P) = true
 zer : R.zer.all (CO P) = true
 str : R.str.all (CP P) = true
 slc : R.slc.all (CQ P) = true
 arr : R.arr.all (CX P) = true
 byt : R.byt.all (CV P) = true
 isS : R.isS.all (CS P) = true
 fnb : R.fnb.all (CT P) = true
theorem BC {R : TRows} {P : Program} (h : ROk R P) : TabOk (tabOf R) P where
 mixed := h.mixed
 fld t i o ft ht := by
  simp only [tabOf] at ht;split at ht
  ·rename_i l hl;have := List.all_eq_true.1 h.fld _ (rV hl);unfold CU at this;simp only at this;split at this
   ·rename_i fs hu;obtain ⟨f, h1, h2, h3⟩ := wA this ht;exact ⟨fs, f, hu, by simpa using h1, h2, h3⟩
   ·cases this
  ·cases ht
 siz t n b ht := by
  have := List.all_eq_true.1 h.siz _ (rV ht);unfold CR at this;simp only at this;split at this
  ·rename_i ti d h1 h2;simp at this;exact ⟨ti, d, h1, this.1, h2, this.2⟩
  ·cases this
 zer t l ht := by
  have := List.all_eq_true.1 h.zer _ (rV ht);unfold CO at this;simp only at this;split at this
  ·rename_i ti h1;split at this
   ·rename_i z hz;exact ⟨ti, z, h1, hz, zJ this⟩
   ·cases this
  ·cases this
 str t l ht := by
  have := List.all_eq_true.1 h.str _ (rV ht);unfold CP at this;simp only at this;split at this
  ·rename_i fs hu;exact ⟨fs, hu, xX this⟩
  ·cases this
 slc t e ht := by
  have := List.all_eq_true.1 h.slc _ (rV ht);unfold CQ at this;simp only at this;split at this
  ·rename_i e' hu;rw [hu, Nat.eq_of_beq_eq_true this]
  ·cases this
 arr t n e ht := by
  have := List.all_eq_true.1 h.arr _ (rV ht);unfold CX at this;simp only at this;split at this
  ·rename_i n' e' hu;simp at this;rw [hu, this.1, this.2]
  ·cases this
 byt t n ht := by
  have := List.all_eq_true.1 h.byt _ (rV ht);unfold CV at this;simp only at this;split at this
  ·rename_i ti h1;exact ⟨ti, h1, Nat.eq_of_beq_eq_true this⟩
  ·cases this
 isS t ht := by
  simp only [tabOf] at ht;obtain ⟨t', h1, h2⟩ := List.any_eq_true.1 ht;have := List.all_eq_true.1 h.isS _ h1;have e := Nat.eq_of_beq_eq_true h2;subst e;unfold CS at this;split at this
  ·assumption
  ·cases this
 fnb t ht := by
  simp only [tabOf] at ht;obtain ⟨t', h1, h2⟩ := List.any_eq_true.1 ht;have := List.all_eq_true.1 h.fnb _ h1;have e := Nat.eq_of_beq_eq_true h2;subst e;unfold CT at this;split at this
  ·rename_i fn hf;simp only [Bool.and_eq_true, Bool.not_eq_true'] at this;exact ⟨fn, hf, this.1, this.2⟩
  ·cases this
end Go.Proofs.YtkjccbdeaflekaaGreatDoor.Fw
