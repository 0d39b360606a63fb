/- Part of this claim. No condition. -/
import Derived.Test.YtkialfeahkdiaaaTTab
set_option linter.unusedVariables false
set_option linter.unusedSimpArgs false
namespace Go.Proofs.Ytkialfeahkdiaaa
open Go Go.Proofs.Ytkialfeahkdiaaa.Fw Go.Proofs

/-! ### Plain data, and how it lies in cells -/
structure Place where
  node : Int
  parent : Int
  name : Int
  deriving DecidableEq
structure Op where
  time : Int
  who : Int
  node : Int
  parent : Int
  name : Int
  life : Int
  seq : Int
  deriving DecidableEq
structure Step where
  o : Op
  did : Bool
  was : Place
  deriving DecidableEq
instance : Inhabited Place := ⟨⟨0, 0, 0⟩⟩
instance : Inhabited Op := ⟨⟨0, 0, 0, 0, 0, 0, 0⟩⟩
instance : Inhabited Step := ⟨⟨default, false, default⟩⟩

def intC (n : Int) : List Value := [.int .i64 n]
def placeC (p : Place) : List Value := [.int .i64 p.node, .int .i64 p.parent, .int .i64 p.name]
def opC (o : Op) : List Value := [.int .i64 o.time, .int .i64 o.who, .int .i64 o.node, .int .i64 o.parent, .int .i64 o.name, .int .i64 o.life, .int .i64 o.seq]
def stepC (s : Step) : List Value := [.int .i64 s.o.time, .int .i64 s.o.who, .int .i64 s.o.node, .int .i64 s.o.parent, .int .i64 s.o.name, .int .i64 s.o.life, .int .i64 s.o.seq, .bool s.did, .int .i64 s.was.node, .int .i64 s.was.parent, .int .i64 s.was.name]

theorem flatEq_int (a b : Int) : flatEq (intC a) (intC b) = decide (a = b) := by rw [Bool.eq_iff_iff]; simp [flatEq, intC]
theorem flatEq_place (a b : Place) : flatEq (placeC a) (placeC b) = decide (a = b) := by
  cases a; cases b; rw [Bool.eq_iff_iff]; simp [flatEq, placeC]
theorem flatEq_op (a b : Op) : flatEq (opC a) (opC b) = decide (a = b) := by
  cases a; cases b; rw [Bool.eq_iff_iff]; simp [flatEq, opC]
theorem flatEq_step (a b : Step) : flatEq (stepC a) (stepC b) = decide (a = b) := by
  obtain ⟨o, d, p⟩ := a; obtain ⟨o', d', p'⟩ := b
  cases o; cases p; cases o'; cases p'
  rw [Bool.eq_iff_iff]; simp [flatEq, stepC, and_assoc]

theorem eqT_place : EqT Try.prog 35 [true, true, true] := ⟨by kernel_rfl, by kernel_rfl⟩
theorem eqT_op : EqT Try.prog 33 [true, true, true, true, true, true, true] := ⟨by kernel_rfl, by kernel_rfl⟩
theorem eqT_step : EqT Try.prog 37 [true, true, true, true, true, true, true, false, true, true, true] := ⟨by kernel_rfl, by kernel_rfl⟩
theorem eqT_stamp : EqT Try.prog 31 [true, true] := ⟨by kernel_rfl, by kernel_rfl⟩

theorem one_int : ∀ l : List Int, ∀ e ∈ l, ∀ u ∈ intC e, u.oneCell' = true := fun _ e _ u hu => kinds_one (ks := [true]) (l := intC e) rfl u hu
theorem one_place : ∀ l : List Place, ∀ e ∈ l, ∀ u ∈ placeC e, u.oneCell' = true := fun _ e _ u hu => kinds_one (ks := [true, true, true]) (l := placeC e) rfl u hu
theorem one_op : ∀ l : List Op, ∀ e ∈ l, ∀ u ∈ opC e, u.oneCell' = true := fun _ e _ u hu => kinds_one (ks := [true, true, true, true, true, true, true]) (l := opC e) rfl u hu
theorem one_step : ∀ l : List Step, ∀ e ∈ l, ∀ u ∈ stepC e, u.oneCell' = true := fun _ e _ u hu => kinds_one (ks := [true, true, true, true, true, true, true, false, true, true, true]) (l := stepC e) rfl u hu

theorem enc_int : Encs [true] intC := ⟨fun _ => rfl, fun cs h => by
  match cs, h with
  | [.int .i64 n], _ => exact ⟨n, rfl⟩⟩
theorem enc_place : Encs [true, true, true] placeC := ⟨fun _ => rfl, fun cs h => by
  match cs, h with
  | [.int .i64 a, .int .i64 b, .int .i64 c], _ => exact ⟨⟨a, b, c⟩, rfl⟩⟩
theorem enc_op : Encs [true, true, true, true, true, true, true] opC := ⟨fun _ => rfl, fun cs h => by
  match cs, h with
  | [.int .i64 a, .int .i64 b, .int .i64 c, .int .i64 d, .int .i64 e, .int .i64 f, .int .i64 g], _ => exact ⟨⟨a, b, c, d, e, f, g⟩, rfl⟩⟩
theorem enc_step : Encs [true, true, true, true, true, true, true, false, true, true, true] stepC := ⟨fun _ => rfl, fun cs h => by
  match cs, h with
  | [.int .i64 a, .int .i64 b, .int .i64 c, .int .i64 d, .int .i64 e, .int .i64 f, .int .i64 g, .bool x, .int .i64 h', .int .i64 i, .int .i64 j], _ => exact ⟨⟨⟨a, b, c, d, e, f, g⟩, x, ⟨h', i, j⟩⟩, rfl⟩⟩

/-! ### tree -/
def find : List Place → Int → Place
  | [], _ => ⟨0, 0, 0⟩
  | p :: r, n => bif p.node == n then p else find r n
def place (p : Place) : Int := bif (decide (p.node < 1) || decide (p.node ≥ 16) || decide (p.parent < 0) || decide (p.parent > 16) || decide (p.name < 0) || decide (p.name > 99)) then 3 else 0
def standsF (l : List Place) (top : Int) : Nat → Int → Bool
  | 0, _ => false
  | k + 1, nd => bif nd == top then true else bif (find l nd).node == 0 then false else standsF l top k (find l nd).parent
def stands (l : List Place) (nd top : Int) : Bool := standsF l top (l.length + 1) nd
/-- the first loop of Check: from place number k on -/
def chk1 (l : List Place) : Nat → Nat → Int
  | 0, _ => 0
  | f + 1, k => bif place (gt l k) != 0 then place (gt l k) else bif (decide ((k : Int) > 0) && decide ((gt l (k - 1)).node ≥ (gt l k).node)) then 6 else chk1 l f (k + 1)
def chk2 (t : List Place) : List Place → Int
  | [] => 0
  | p :: r => bif stands t p.parent p.node then 4 else chk2 t r
def checkT (l : List Place) : Int := bif chk1 l l.length 0 != 0 then chk1 l l.length 0 else chk2 l l
def put (p : Place) : Bool → List Place → List Place
  | d, [] => bif !d then [p] else []
  | d, q :: r => bif (!d && decide (q.node ≥ p.node)) then p :: (bif q.node != p.node then q :: put p true r else put p true r) else (bif q.node != p.node then q :: put p d r else put p d r)
def putT (l : List Place) (p : Place) : List Place := put p (decide (p.parent < 0)) l
end Go.Proofs.Ytkialfeahkdiaaa
