/- Part of this claim. No condition. -/
import Derived.Test.YtchdacbjiomplaaW2
import Derived.Test.YtchdacbjiomplaaLSmall
set_option linter.unusedVariables false
set_option linter.unusedSimpArgs false
namespace Go.Proofs.Ytchdacbjiomplaa
open Go Go.Proofs.Ytchdacbjiomplaa.Fw Go.Proofs
/-! ### tree -/
def find : List Place → Int → Place
  | [], _ => ⟨0, 0, 0⟩
  | p :: r, n => bif p.node == n then p else find r n
def place (p : Place) : Int := bif (decide (p.node < 1) || decide (p.node ≥ 16) || decide (p.parent < 0) || decide (p.parent > 16) || decide (p.name < 0) || decide (p.name > 99)) then 3 else 0
def standsF (l : List Place) (top : Int) : Nat → Int → Bool
  | 0, _ => false
  | k + 1, nd => bif nd == top then true else bif (find l nd).node == 0 then false else standsF l top k (find l nd).parent
def stands (l : List Place) (nd top : Int) : Bool := standsF l top (l.length + 1) nd
/-- the first loop of Check: from place number k on -/
def chk1 (l : List Place) : Nat → Nat → Int
  | 0, _ => 0
  | f + 1, k => bif place (gt l k) != 0 then place (gt l k) else bif (decide ((k : Int) > 0) && decide ((gt l (k - 1)).node ≥ (gt l k).node)) then 6 else chk1 l f (k + 1)
def chk2 (t : List Place) : List Place → Int
  | [] => 0
  | p :: r => bif stands t p.parent p.node then 4 else chk2 t r
def checkT (l : List Place) : Int := bif chk1 l l.length 0 != 0 then chk1 l l.length 0 else chk2 l l
def put (p : Place) : Bool → List Place → List Place
  | d, [] => bif !d then [p] else []
  | d, q :: r => bif (!d && decide (q.node ≥ p.node)) then p :: (bif q.node != p.node then q :: put p true r else put p true r) else (bif q.node != p.node then q :: put p d r else put p d r)
def putT (l : List Place) (p : Place) : List Place := put p (decide (p.parent < 0)) l
def under (l : List Place) (nd top : Int) : Bool × Int := bif checkT l != 0 then (false, checkT l) else bif (decide (nd < 0) || decide (nd > 16) || decide (top < 0) || decide (top > 16)) then (false, 5) else (stands l nd top, 0)

/-! ### move -/
def chkO (o : Op) : Int := bif (decide (o.time < 1) || decide (o.time > 10000) || decide (o.who < 0) || decide (o.who ≥ 3) || decide (o.node < 1) || decide (o.node ≥ 16) || decide (o.parent < 0) || decide (o.parent > 16) || decide (o.name < 0) || decide (o.name > 99) || decide (o.life < 1) || decide (o.life > 50) || decide (o.seq < 1) || decide (o.seq > 30)) then 3 else 0
def moveDo (l : List Place) (o : Op) : List Place × Step × Int :=
  bif checkT l != 0 then ([], default, checkT l) else bif chkO o != 0 then ([], default, chkO o) else
  bif stands l o.parent o.node then (l, ⟨o, false, find l o.node⟩, 0) else (putT l ⟨o.node, o.parent, o.name⟩, ⟨o, true, find l o.node⟩, 0)
def wasOf (s : Step) : Place := bif s.was.node == 0 then ⟨s.o.node, -1, 0⟩ else s.was
def moveUndo (l : List Place) (s : Step) : List Place × Int :=
  bif checkT l != 0 then ([], checkT l) else bif chkO s.o != 0 then ([], chkO s.o) else bif !s.did then (l, 0) else
  bif ((wasOf s).node != s.o.node || find l s.o.node != ⟨s.o.node, s.o.parent, s.o.name⟩) then ([], 4) else
  bif checkT (putT l (wasOf s)) != 0 then ([], checkT (putT l (wasOf s))) else (putT l (wasOf s), 0)
end Go.Proofs.Ytchdacbjiomplaa
