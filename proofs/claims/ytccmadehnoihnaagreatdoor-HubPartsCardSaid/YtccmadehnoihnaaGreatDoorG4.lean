/- Part of this claim. No condition. -/
import Derived.Test.YtccmadehnoihnaaGreatDoorG3
set_option linter.unusedVariables false
set_option linter.unusedSimpArgs false
namespace Go.Proofs.YtccmadehnoihnaaGreatDoor.Fw
open Go Go.RowKit

section
variable {P : Program} {T : Tab} {C : Cx} {ops : Array Oper} {o : Oper} {r r' : RS} {s : St} {Q : Post} {N : Nat} {SL : Slots} {BL : List Blk} {OW : List Own} {FA : List Pred} {c : Code}
/-! ### Steps that want no word -/
theorem isR {l : List Oper} (h : RW P T C ops (.sq l) s Q) : RW P T C ops (.sq l) s Q := h
theorem isG {l : List Oper} {j : Nat × Bool} (_ : o.guard = some j) (h : RW P T C ops (.sq (o :: l)) s Q) : RW P T C ops (.sq (o :: l)) s Q := h
theorem isL {l : List Oper} {t : TypeId} {x : Operand} (_ : o.op = .load t x) (h : RW P T C ops (.sq (o :: l)) s Q) : RW P T C ops (.sq (o :: l)) s Q := h
theorem isS {l : List Oper} {t : TypeId} {x y : Operand} (_ : o.op = .store t x y) (h : RW P T C ops (.sq (o :: l)) s Q) : RW P T C ops (.sq (o :: l)) s Q := h
theorem isC (h : CW P T C c s Q) : CW P T C c s Q := h
theorem Tx {p q : Prop} (h : q) (f : q → p := by
    intro hq_
    repeat (first
      | refine Rp rfl rfl rfl rfl ?_
      | (refine isR ?_; first
          | refine rw_nil ?_
          | (refine isG rfl ?_; first
              | refine rw_qg (guard_vf rfl rfl rfl) rfl rfl (q_pev rfl Bt) ?_
              | refine rw_qg (guard_vt rfl rfl rfl) rfl rfl (q_pev rfl Bt) ?_
              | refine rw_qg (guard_of rfl rfl rfl) rfl rfl (q_pev rfl Bt) ?_
              | refine rw_qg (guard_ot rfl rfl rfl) rfl rfl (q_pev rfl Bt) ?_
              | (refine isL rfl ?_; first
                  | refine rw_qg (guard_vf rfl rfl rfl) rfl rfl (q_ld1 rfl rfl Bt rfl Mm rfl) ?_
                  | refine rw_qg (guard_vt rfl rfl rfl) rfl rfl (q_ld1 rfl rfl Bt rfl Mm rfl) ?_
                  | refine rw_qg (guard_of rfl rfl rfl) rfl rfl (q_ld1 rfl rfl Bt rfl Mm rfl) ?_
                  | refine rw_qg (guard_ot rfl rfl rfl) rfl rfl (q_ld1 rfl rfl Bt rfl Mm rfl) ?_
                  | refine rw_qg (guard_vf rfl rfl rfl) rfl rfl (q_ldA rfl rfl Bt rfl Mm rfl) ?_
                  | refine rw_qg (guard_vt rfl rfl rfl) rfl rfl (q_ldA rfl rfl Bt rfl Mm rfl) ?_
                  | refine rw_qg (guard_of rfl rfl rfl) rfl rfl (q_ldA rfl rfl Bt rfl Mm rfl) ?_
                  | refine rw_qg (guard_ot rfl rfl rfl) rfl rfl (q_ldA rfl rfl Bt rfl Mm rfl) ?_
                  | refine rw_qg (guard_vf rfl rfl rfl) rfl rfl (q_ldP rfl rfl Bt rfl Mm rfl) ?_
                  | refine rw_qg (guard_vt rfl rfl rfl) rfl rfl (q_ldP rfl rfl Bt rfl Mm rfl) ?_
                  | refine rw_qg (guard_of rfl rfl rfl) rfl rfl (q_ldP rfl rfl Bt rfl Mm rfl) ?_
                  | refine rw_qg (guard_ot rfl rfl rfl) rfl rfl (q_ldP rfl rfl Bt rfl Mm rfl) ?_))
          | (refine isL rfl ?_; first
              | refine rw_q rfl rfl rfl (q_ld1 rfl rfl (fun _ => rfl) rfl Mm rfl) ?_
              | refine rw_q rfl rfl rfl (q_ldA rfl rfl (fun _ => rfl) rfl Mm rfl) ?_
              | refine rw_q rfl rfl rfl (q_ldP rfl rfl (fun _ => rfl) rfl Mm rfl) ?_
              | refine rw_q rfl rfl rfl (q_lf1 rfl rfl (fun _ => rfl) rfl Mm rfl) ?_
              | refine rw_q rfl rfl rfl (q_lfA rfl rfl (fun _ => rfl) rfl Mm rfl) ?_
              | refine rw_q rfl rfl rfl (q_lfP rfl rfl (fun _ => rfl) rfl Mm rfl) ?_)
          | (refine isS rfl ?_; first
              | refine rw_stA .sq (.inl ⟨_, rfl⟩) (guard_none rfl) rfl rfl rfl rfl rfl rfl rfl rfl rfl Ub rfl ?_
              | refine rw_st1 .sq (.inl ⟨_, rfl⟩) (guard_none rfl) rfl rfl rfl rfl rfl rfl rfl rfl rfl Ub rfl ?_)
          | refine rw_q rfl rfl rfl (q_pev rfl Bt) ?_)
      | (refine isC ?_; first
          | refine cw_seq ?_
          | refine cw_region ?_
          | refine cw_skip ?_
          | refine cw_block ?_
          | refine cw_exit ?_))
    exact hq_) : p := f h
/-- The same, but no block is entered. -/
theorem Ty {p q : Prop} (h : q) (f : q → p := by
    intro hq_
    repeat (first
      | refine Rp rfl rfl rfl rfl ?_
      | (refine isR ?_; first
          | refine rw_nil ?_
          | (refine isG rfl ?_; first
              | refine rw_qg (guard_vf rfl rfl rfl) rfl rfl (q_pev rfl Bt) ?_
              | refine rw_qg (guard_vt rfl rfl rfl) rfl rfl (q_pev rfl Bt) ?_)
          | (refine isL rfl ?_; first
              | refine rw_q rfl rfl rfl (q_ld1 rfl rfl (fun _ => rfl) rfl Mm rfl) ?_
              | refine rw_q rfl rfl rfl (q_ldA rfl rfl (fun _ => rfl) rfl Mm rfl) ?_
              | refine rw_q rfl rfl rfl (q_ldP rfl rfl (fun _ => rfl) rfl Mm rfl) ?_)
          | (refine isS rfl ?_; first
              | refine rw_stA .sq (.inl ⟨_, rfl⟩) (guard_none rfl) rfl rfl rfl rfl rfl rfl rfl rfl rfl Ub rfl ?_
              | refine rw_st1 .sq (.inl ⟨_, rfl⟩) (guard_none rfl) rfl rfl rfl rfl rfl rfl rfl rfl rfl Ub rfl ?_)
          | refine rw_q rfl rfl rfl (q_pev rfl Bt) ?_)
      | (refine isC ?_; first
          | refine cw_seq ?_
          | refine cw_region ?_
          | refine cw_skip ?_))
    exact hq_) : p := f h
/-! ### Short words for single steps -/
theorem Al {d t : Nat} {z : List Value} {l : List Oper} (h : ∀ g, RW P T C ops (.sq l) ⟨N, (d, .v (.pointer (some ⟨g, 0, none⟩))) :: SL, ⟨g, t, z⟩ :: BL, OW, FA⟩ Q) (hg : o.guard = none := by rfl) (hd : o.dst = some d := by rfl) (hn : Nat.blt d N = true := by rfl) (ho : o.op = .alloc t := by rfl) (hz : T.zer t = some z := by rfl) : RW P T C ops (.sq (o :: l)) ⟨N, SL, BL, OW, FA⟩ Q :=
  rw_alloc .sq (guard_none hg) hd hn ho hz h
theorem Bx {d t : Nat} {x : Operand} {g0 : Bool} {cs : List Value} {l : List Oper} (h : ∀ g, RW P T C ops (.sq l) ⟨N, (d, .v (.pointer (some ⟨g, 0, none⟩))) :: SL, ⟨g, t, cs⟩ :: BL, OW, FA⟩ Q) (hg : o.guard = none := by rfl) (hd : o.dst = some d := by rfl) (hn : Nat.blt d N = true := by rfl) (ho : o.op = .box t x := by rfl)
    (he : ev SL x = some (g0, .agg ⟨cs⟩) := by rfl) (hg0 : g0 = true := by rfl) : RW P T C ops (.sq (o :: l)) ⟨N, SL, BL, OW, FA⟩ Q :=
  rw_box_agg .sq (guard_none hg) hd hn ho he hg0 h
theorem Cl {d : Nat} {f : FuncId} {xs : Array Operand} {ts : Array TypeId} {g : Bool} {vs : List Value} {pre : List Pred} {X : Type} {val : X → Value} {post : X → List Pred} {l : List Oper}
    (hS : Does P f vs pre val post) (h : ∀ x, RW P T C ops (.sq l) ⟨N, (d, .v (val x)) :: SL, BL, OW, post x ++ FA⟩ Q) (hg : o.guard = none := by rfl) (hd : o.dst = some d := by rfl) (hn : Nat.blt d N = true := by rfl) (ho : o.op = .call ⟨.value (.func f), xs, ts⟩ := by rfl) (hf : T.fnb f = true := by kernel_rfl)
    (he : evs SL xs.toList = some (g, vs) := by rfl) (hgt : g = true := by rfl) (hpre : SubM FA pre := by exact Sm) : RW P T C ops (.sq (o :: l)) ⟨N, SL, BL, OW, FA⟩ Q :=
  rw_call hS .sq (guard_none hg) hd hn ho hf he hgt hpre h
theorem Cg {d : Nat} {f : FuncId} {xs : Array Operand} {ts : Array TypeId} {g : Bool} {vs : List Value} {pre : List Pred} {X : Type} {val : X → Value} {post : X → List Pred} {L' : X → Lent} {l : List Oper}
    (hS : DoesG P f vs pre ⟨[], []⟩ val post L') (h : ∀ x, RW P T C ops (.sq l) ⟨N, (d, .v (val x)) :: SL, (L' x).bl ++ BL, (L' x).ow ++ OW, post x ++ FA⟩ Q) (hg : o.guard = none := by rfl) (hd : o.dst = some d := by rfl) (hn : Nat.blt d N = true := by rfl) (ho : o.op = .call ⟨.value (.func f), xs, ts⟩ := by rfl) (hf : T.fnb f = true := by kernel_rfl)
    (he : evs SL xs.toList = some (g, vs) := by rfl) (hgt : g = true := by rfl) (hpre : SubM FA pre := by exact Sm) : RW P T C ops (.sq (o :: l)) ⟨N, SL, BL, OW, FA⟩ Q :=
  rw_callG hS .sq (.inl ⟨_, rfl⟩) (guard_none hg) hd hn ho hf he hgt hpre (.nil _) (.nil _) h
theorem Pc {α : Type} (E : El α) (X : SlV) (l : List α) (n : Nat) (h : l.length * n ≤ 140737488355328 → CW P T C c ⟨N, SL, BL, OW, FA⟩ Q) (hm : RdL E X l ∈ FA := by exact Mm) (hn : E.by_ = n := by rfl) : CW P T C c ⟨N, SL, BL, OW, FA⟩ Q :=
  cw_pure [RdL E X l] (.cons hm (.nil _)) (fun M w h => by have := (allF1 h).len; rwa [hn] at this) h
theorem Pn {α : Type} [Inhabited α] (E : En α) (X : SlV) (l : List α) (n : Nat) (h : l.length * n ≤ 140737488355328 → CW P T C c ⟨N, SL, BL, OW, FA⟩ Q) (hm : RdN E X l ∈ FA := by exact Mm) (hn : E.E.by_ = n := by rfl) : CW P T C c ⟨N, SL, BL, OW, FA⟩ Q :=
  cw_pure [RdN E X l] (.cons hm (.nil _)) (fun M w h => by have := (allF1 h).len; rwa [hn] at this) h
theorem Pr {α : Type} (E : El α) (X : SlV) (l : List α) (n : Nat) (h : l.length * n ≤ 140737488355328 → RW P T C ops r ⟨N, SL, BL, OW, FA⟩ Q) (hm : RdL E X l ∈ FA := by exact Mm) (hn : E.by_ = n := by rfl) : RW P T C ops r ⟨N, SL, BL, OW, FA⟩ Q :=
  rw_pure [RdL E X l] (.cons hm (.nil _)) (fun M w h => by have := (allF1 h).len; rwa [hn] at this) h
theorem Pm {α : Type} [Inhabited α] (E : En α) (X : SlV) (l : List α) (n : Nat) (h : l.length * n ≤ 140737488355328 → RW P T C ops r ⟨N, SL, BL, OW, FA⟩ Q) (hm : RdN E X l ∈ FA := by exact Mm) (hn : E.E.by_ = n := by rfl) : RW P T C ops r ⟨N, SL, BL, OW, FA⟩ Q :=
  rw_pure [RdN E X l] (.cons hm (.nil _)) (fun M w h => by have := (allF1 h).len; rwa [hn] at this) h
theorem Fc {α : Type} (E : El α) (h : CW P T C c ⟨N, SL, BL, OW, RdL E ⟨none, 0⟩ [] :: FA⟩ Q) : CW P T C c ⟨N, SL, BL, OW, FA⟩ Q :=
  cw_fact [] (.nil _) (fun M w _ => RdL.nil _ _ _ (by omega) M w) h
theorem Fr {α : Type} (E : El α) (h : RW P T C ops r ⟨N, SL, BL, OW, RdL E ⟨none, 0⟩ [] :: FA⟩ Q) : RW P T C ops r ⟨N, SL, BL, OW, FA⟩ Q :=
  rw_fact [] (.nil _) (fun M w _ => RdL.nil _ _ _ (by omega) M w) h
theorem Cd {k : Operand} {x y : Code} {g0 b : Bool} (ht : b = true → CW P T C x ⟨N, SL, BL, OW, FA⟩ Q) (hf : b = false → CW P T C y ⟨N, SL, BL, OW, FA⟩ Q) (he : ev SL k = some (g0, .bool b) := by rfl) (hg : g0 = true := by rfl) : CW P T C (.cond k x y) ⟨N, SL, BL, OW, FA⟩ Q := cw_cond he hg ht hf
theorem Sb {α : Type} {l r : List α} (h : SubP l r := by repeat (first | exact .nil _ | refine .cons (by repeat (first | exact .here _ _ | apply Pick.there)) ?_)) : SubP l r := h
theorem Vn : ResVs T s [] [] := .nil
theorem Vt {t : Nat} {v : Value} {rs : List ResultVar} {vs : List Value} (hr : ResVs T s rs vs) (h : getS s.sl t = some (.v v) := by rfl) : ResVs T s (.tmp t :: rs) (v :: vs) := .cons (.tmp h) hr
theorem Va {t g n ty ty' : Nat} {cs : List Value} {rs : List ResultVar} {vs : List Value} (hr : ResVs T s rs vs) (h : getS s.sl t = some (.v (.pointer (some ⟨g, 0, none⟩))) := by rfl) (hs : T.siz ty = some (n, true) := by rfl) (hm : ⟨g, ty', cs⟩ ∈ s.bl := by exact Mm) (hl : cs.length = n := by rfl) : ResVs T s (.cell t ty :: rs) (.agg ⟨cs⟩ :: vs) := .cons (.agg h hs hm hl) hr
theorem Re {X : Type} {rs : List ResultVar} {val : X → Value} {post : X → List Pred} {L' : X → Lent} (x : X) {vs : List Value} (h1 : ResVs T s rs vs) (h2 : val x = resVal vs := by rfl) (h3 : SubM s.fa (post x) := by exact Sm) (h4 : SubP s.bl (L' x).bl := by exact Sb) (h5 : SubP s.ow (L' x).ow := by exact Sb) : finQ T rs val post L' .ret s := ⟨x, vs, h1, h2, h3, h4, h5⟩
theorem Ra {d : Nat} {v : Value} {fp : Nat → Option (List Nat)} {fuel : Nat} {listed : Array Bool} (i : Nat) (js : List Nat) (hi : ops[i]? = some o) (hq : Quiet P T SL BL FA o true v) (h : RW P T C ops (.an fp fuel (listed.setIfInBounds i true)) ⟨N, (d, .v v) :: SL, BL, OW, FA⟩ Q) (hg : o.guard = none := by rfl) (hd : o.dst = some d := by rfl) (hn : Nat.blt d N = true := by rfl)
    (hs : Region.noSelect ops = true := by kernel_rfl) (hf : Region.free .any ops listed i = true := by kernel_rfl) (hr : (Region.ready .any ops listed).contains i = true := by kernel_rfl) (hj : others ops listed i = js := by kernel_rfl) (hD : sumO fp js = some [] := by rfl) : RW P T C ops (.an fp (fuel + 1) listed) ⟨N, SL, BL, OW, FA⟩ Q :=
  ra_q (D := []) (hD ▸ FrontQ.an hi hs hf hr hj) (SplitB.all _) (by simp) hg hd hn hq h
theorem Rb {d : Nat} {v : Value} {fp : Nat → Option (List Nat)} {fuel : Nat} {listed : Array Bool} (i : Nat) (js B : List Nat) (hi : ops[i]? = some o) (hq : Quiet P T SL BL FA o true v) (h : RW P T C ops (.an fp fuel (listed.setIfInBounds i true)) ⟨N, (d, .v v) :: SL, BL, OW, FA⟩ Q) (hg : o.guard = none := by rfl) (hd : o.dst = some d := by rfl) (hn : Nat.blt d N = true := by rfl)
    (hs : Region.noSelect ops = true := by kernel_rfl) (hf : Region.free .any ops listed i = true := by kernel_rfl) (hr : (Region.ready .any ops listed).contains i = true := by kernel_rfl) (hB : behindOk ops listed i B = true := by kernel_rfl) (hj : (others ops listed i).filter (fun j => !B.contains j) = js := by kernel_rfl) (hD : sumO fp js = some [] := by rfl) : RW P T C ops (.an fp (fuel + 1) listed) ⟨N, SL, BL, OW, FA⟩ Q :=
  ra_q (D := []) (hD ▸ FrontQ.ab B hi hs hf hr hB hj) (SplitB.all _) (by simp) hg hd hn hq h
theorem Ga {d : Nat} {v : Value} {G : Bool} {fp : Nat → Option (List Nat)} {fuel : Nat} {listed : Array Bool} (i : Nat) (js : List Nat) (hi : ops[i]? = some o) (hG : Guard ops SL o G) (hq : Quiet P T SL BL FA o G v) (h : RW P T C ops (.an fp fuel (listed.setIfInBounds i true)) ⟨N, (d, .o G v) :: SL, BL, OW, FA⟩ Q) (hd : o.dst = some d := by rfl) (hn : Nat.blt d N = true := by rfl)
    (hs : Region.noSelect ops = true := by kernel_rfl) (hf : Region.free .any ops listed i = true := by kernel_rfl) (hr : (Region.ready .any ops listed).contains i = true := by kernel_rfl) (hj : others ops listed i = js := by kernel_rfl) (hD : sumO fp js = some [] := by rfl) : RW P T C ops (.an fp (fuel + 1) listed) ⟨N, SL, BL, OW, FA⟩ Q :=
  ra_qg (D := []) (hD ▸ FrontQ.an hi hs hf hr hj) (SplitB.all _) (by simp) hG hd hn hq h
theorem Gb {d : Nat} {v : Value} {G : Bool} {fp : Nat → Option (List Nat)} {fuel : Nat} {listed : Array Bool} (i : Nat) (js B : List Nat) (hi : ops[i]? = some o) (hG : Guard ops SL o G) (hq : Quiet P T SL BL FA o G v) (h : RW P T C ops (.an fp fuel (listed.setIfInBounds i true)) ⟨N, (d, .o G v) :: SL, BL, OW, FA⟩ Q) (hd : o.dst = some d := by rfl) (hn : Nat.blt d N = true := by rfl)
    (hs : Region.noSelect ops = true := by kernel_rfl) (hf : Region.free .any ops listed i = true := by kernel_rfl) (hr : (Region.ready .any ops listed).contains i = true := by kernel_rfl) (hB : behindOk ops listed i B = true := by kernel_rfl) (hj : (others ops listed i).filter (fun j => !B.contains j) = js := by kernel_rfl) (hD : sumO fp js = some [] := by rfl) : RW P T C ops (.an fp (fuel + 1) listed) ⟨N, SL, BL, OW, FA⟩ Q :=
  ra_qg (D := []) (hD ▸ FrontQ.ab B hi hs hf hr hB hj) (SplitB.all _) (by simp) hG hd hn hq h
theorem Qp {g G : Bool} {v : Value} (he : pev T SL o.op = some (g, v) := by rfl) (hgt : G = true → g = true := by exact fun _ => rfl) : Quiet P T SL BL FA o G v := q_pev he hgt
theorem Q1 {t : Nat} {x : Operand} {g0 G : Bool} {g n t' off : Nat} {cs : List Value} {v : Value} (ho : o.op = .load t x := by rfl) (he : ev SL x = some (g0, .pointer (some ⟨g, off, none⟩)) := by rfl) (hg0 : G = true → g0 = true := by exact fun _ => rfl) (hs : T.siz t = some (n, false) := by rfl) (hm : ⟨g, t', cs⟩ ∈ BL := by exact Mm) (hv : cs[off]? = some v := by rfl) : Quiet P T SL BL FA o G v := q_ld1 ho he hg0 hs hm hv
structure Ls where
  sl : Slots
  bl : List Blk
  ow : List Own
  fa : List Pred
  inv : Prop
  mu : Nat
def loopD {ι : Type} (C : Cx) (N : Nat) (d : ι → Ls) (SL' : Slots) (BL' : List Blk) (FA : List Pred) (i : ι) (Q : Post) : Post
  | .normal, s' => ∃ j, (d j).inv ∧ (d j).mu < (d i).mu ∧ Le C s' ⟨N, (d j).sl ++ SL', (d j).bl ++ BL', (d j).ow, (d j).fa ++ FA⟩
  | e, s' => Q e s'
theorem Sn : Sel SL [] [] := .nil _
theorem Sc {n : Nat} {x : SV} {r : List Nat} {s' : Slots} (hr : Sel SL r s') (h : getS SL n = some x := by rfl) : Sel SL (n :: r) ((n, x) :: s') := .cons h hr
/-- A loop: what stands at its head, all in one. -/
theorem Lp {ι : Type} (keep : List Nat) (mask : List Bool) (d : ι → Ls) (i0 : ι) {b : Code} {SL' : Slots} {BL' : List Blk} (hsel : Sel SL keep SL') (hB : SelB BL mask BL') (h0 : (d i0).inv) (hs : Le C ⟨N, SL, BL, OW, FA⟩ ⟨N, (d i0).sl ++ SL', (d i0).bl ++ BL', (d i0).ow, (d i0).fa ++ FA⟩)
    (h : ∀ i, (d i).inv → CW P T C b ⟨N, (d i).sl ++ SL', (d i).bl ++ BL', (d i).ow, (d i).fa ++ FA⟩ (loopD C N d SL' BL' FA i Q)) : CW P T C (.loop b) ⟨N, SL, BL, OW, FA⟩ Q :=
  cw_loopS keep mask (fun i => (d i).sl) (fun i => (d i).bl) (fun i => (d i).ow) (fun i => (d i).fa) (fun i => (d i).inv) (fun i => (d i).mu) i0 hsel hB h0 hs fun i hi => cw_mono (fun e s' hq => by
    cases e with
    | normal => exact hq
    | exit i => exact hq
    | ret => exact hq
    | goto l => exact hq
    | panic c => exact hq
    | outgrown => exact hq) (h i hi)
end
end Go.Proofs.YtccmadehnoihnaaGreatDoor.Fw

set_option maxHeartbeats 2000000
namespace Go.Proofs.YtccmadehnoihnaaGreatDoor
open Go Go.Proofs.YtccmadehnoihnaaGreatDoor.Fw Go.Proofs
attribute [local irreducible] RW CW
theorem slices_Clone_Int_spec (x : SlV) (l : List Int) : DoesG Tryz.prog 33 [x.val l.length] [RdL EInt x l] ⟨[], []⟩ (fun (X : SlV × Option Nat) => X.1.val l.length) (fun (_ : SlV × Option Nat) => []) (fun (X : SlV × Option Nat) => ⟨[], [ownL EInt 3 X.1 X.2 l]⟩) := by
  refine does_ofG tab_ok Tryz.func33 rfl Tryz.ntmps33 Tryz.results33 rfl inferInstance (fun _ => inferInstance) fun C => ?_
  refine cw_pure (φ := l.length * EInt.by_ ≤ 140737488355328) [RdL EInt x l] Sm (fun M w h => (allF1 h).len) fun hlen => ?_
  refine Tx ?_
  refine rw_q rfl rfl rfl (q_eqnil rfl rfl (fun _ => rfl) rfl) ?_
  refine rw_nil ?_
  (repeat refine cw_seq ?_); refine cw_cond rfl rfl (fun hc0 => ?_) (fun hc0 => ?_)
  · refine cw_pure [RdL EInt x l] Sm (fun M w h => (allF1 h).nil_of hc0) fun hnil => ?_
    subst hnil
    refine cw_le (le_nilL EInt 3) ?_
    refine Tx ?_
    (repeat refine cw_seq ?_); refine cw_ret ?_
    exact ⟨(⟨none, 0⟩, none), _, (.cons (.tmp rfl) .nil), rfl, .nil _, .nil _, Sp⟩
  · refine Tx ?_
    refine rw_bsliceL EInt [] .sq (guard_none rfl) rfl rfl rfl rfl rfl rfl rfl rfl rfl rfl rfl rfl rfl rfl rfl fun x1 x1b => ?_
    refine Rp rfl rfl rfl rfl ?_
    refine rw_appendL EInt [] l (b := x1b) .sq (fun _ _ => .inl ⟨_, rfl⟩) (guard_none rfl) rfl rfl rfl rfl rfl rfl rfl (fun _ _ => Uo) rfl rfl rfl rfl rfl rfl rfl (reads_rdL Mm) (by simpa using hlen) fun x2 x2b => ?_
    refine Tx ?_
    (repeat refine cw_seq ?_); refine cw_ret ?_
    exact ⟨(x2, x2b), _, (.cons (.tmp rfl) .nil), rfl, .nil _, .nil _, Sp⟩

theorem slices_Clone_Place_spec (x : SlV) (l : List Place) : DoesG Tryz.prog 77 [x.val l.length] [RdL EPlace x l] ⟨[], []⟩ (fun (X : SlV × Option Nat) => X.1.val l.length) (fun (_ : SlV × Option Nat) => []) (fun (X : SlV × Option Nat) => ⟨[], [ownL EPlace 96 X.1 X.2 l]⟩) := by
  refine does_ofG tab_ok Tryz.func77 rfl Tryz.ntmps77 Tryz.results77 rfl inferInstance (fun _ => inferInstance) fun C => ?_
  refine cw_pure (φ := l.length * EPlace.by_ ≤ 140737488355328) [RdL EPlace x l] Sm (fun M w h => (allF1 h).len) fun hlen => ?_
  refine Tx ?_
  refine rw_q rfl rfl rfl (q_eqnil rfl rfl (fun _ => rfl) rfl) ?_
  refine rw_nil ?_
  (repeat refine cw_seq ?_); refine cw_cond rfl rfl (fun hc0 => ?_) (fun hc0 => ?_)
  · refine cw_pure [RdL EPlace x l] Sm (fun M w h => (allF1 h).nil_of hc0) fun hnil => ?_
    subst hnil
    refine cw_le (le_nilL EPlace 96) ?_
    refine Tx ?_
    (repeat refine cw_seq ?_); refine cw_ret ?_
    exact ⟨(⟨none, 0⟩, none), _, (.cons (.tmp rfl) .nil), rfl, .nil _, .nil _, Sp⟩
  · refine Tx ?_
    refine rw_bsliceL EPlace [] .sq (guard_none rfl) rfl rfl rfl rfl rfl rfl rfl rfl rfl rfl rfl rfl rfl rfl rfl fun x1 x1b => ?_
    refine Rp rfl rfl rfl rfl ?_
    refine rw_appendL EPlace [] l (b := x1b) .sq (fun _ _ => .inl ⟨_, rfl⟩) (guard_none rfl) rfl rfl rfl rfl rfl rfl rfl (fun _ _ => Uo) rfl rfl rfl rfl rfl rfl rfl (reads_rdL Mm) (by simpa using hlen) fun x2 x2b => ?_
    refine Tx ?_
    (repeat refine cw_seq ?_); refine cw_ret ?_
    exact ⟨(x2, x2b), _, (.cons (.tmp rfl) .nil), rfl, .nil _, .nil _, Sp⟩

theorem slices_Clone_Op_spec (x : SlV) (l : List Op) : DoesG Tryz.prog 69 [x.val l.length] [RdL EOp x l] ⟨[], []⟩ (fun (X : SlV × Option Nat) => X.1.val l.length) (fun (_ : SlV × Option Nat) => []) (fun (X : SlV × Option Nat) => ⟨[], [ownL EOp 41 X.1 X.2 l]⟩) := by
  refine does_ofG tab_ok Tryz.func69 rfl Tryz.ntmps69 Tryz.results69 rfl inferInstance (fun _ => inferInstance) fun C => ?_
  refine cw_pure (φ := l.length * EOp.by_ ≤ 140737488355328) [RdL EOp x l] Sm (fun M w h => (allF1 h).len) fun hlen => ?_
  refine Tx ?_
  refine rw_q rfl rfl rfl (q_eqnil rfl rfl (fun _ => rfl) rfl) ?_
  refine rw_nil ?_
  (repeat refine cw_seq ?_); refine cw_cond rfl rfl (fun hc0 => ?_) (fun hc0 => ?_)
  · refine cw_pure [RdL EOp x l] Sm (fun M w h => (allF1 h).nil_of hc0) fun hnil => ?_
    subst hnil
    refine cw_le (le_nilL EOp 41) ?_
    refine Tx ?_
    (repeat refine cw_seq ?_); refine cw_ret ?_
    exact ⟨(⟨none, 0⟩, none), _, (.cons (.tmp rfl) .nil), rfl, .nil _, .nil _, Sp⟩
  · refine Tx ?_
    refine rw_bsliceL EOp [] .sq (guard_none rfl) rfl rfl rfl rfl rfl rfl rfl rfl rfl rfl rfl rfl rfl rfl rfl fun x1 x1b => ?_
    refine Rp rfl rfl rfl rfl ?_
    refine rw_appendL EOp [] l (b := x1b) .sq (fun _ _ => .inl ⟨_, rfl⟩) (guard_none rfl) rfl rfl rfl rfl rfl rfl rfl (fun _ _ => Uo) rfl rfl rfl rfl rfl rfl rfl (reads_rdL Mm) (by simpa using hlen) fun x2 x2b => ?_
    refine Tx ?_
    (repeat refine cw_seq ?_); refine cw_ret ?_
    exact ⟨(x2, x2b), _, (.cons (.tmp rfl) .nil), rfl, .nil _, .nil _, Sp⟩

theorem slices_Clone_Step_spec (x : SlV) (l : List Step) : DoesG Tryz.prog 56 [x.val l.length] [RdL EStep x l] ⟨[], []⟩ (fun (X : SlV × Option Nat) => X.1.val l.length) (fun (_ : SlV × Option Nat) => []) (fun (X : SlV × Option Nat) => ⟨[], [ownL EStep 98 X.1 X.2 l]⟩) := by
  refine does_ofG tab_ok Tryz.func56 rfl Tryz.ntmps56 Tryz.results56 rfl inferInstance (fun _ => inferInstance) fun C => ?_
  refine cw_pure (φ := l.length * EStep.by_ ≤ 140737488355328) [RdL EStep x l] Sm (fun M w h => (allF1 h).len) fun hlen => ?_
  refine Tx ?_
  refine rw_q rfl rfl rfl (q_eqnil rfl rfl (fun _ => rfl) rfl) ?_
  refine rw_nil ?_
  (repeat refine cw_seq ?_); refine cw_cond rfl rfl (fun hc0 => ?_) (fun hc0 => ?_)
  · refine cw_pure [RdL EStep x l] Sm (fun M w h => (allF1 h).nil_of hc0) fun hnil => ?_
    subst hnil
    refine cw_le (le_nilL EStep 98) ?_
    refine Tx ?_
    (repeat refine cw_seq ?_); refine cw_ret ?_
    exact ⟨(⟨none, 0⟩, none), _, (.cons (.tmp rfl) .nil), rfl, .nil _, .nil _, Sp⟩
  · refine Tx ?_
    refine rw_bsliceL EStep [] .sq (guard_none rfl) rfl rfl rfl rfl rfl rfl rfl rfl rfl rfl rfl rfl rfl rfl rfl fun x1 x1b => ?_
    refine Rp rfl rfl rfl rfl ?_
    refine rw_appendL EStep [] l (b := x1b) .sq (fun _ _ => .inl ⟨_, rfl⟩) (guard_none rfl) rfl rfl rfl rfl rfl rfl rfl (fun _ _ => Uo) rfl rfl rfl rfl rfl rfl rfl (reads_rdL Mm) (by simpa using hlen) fun x2 x2b => ?_
    refine Tx ?_
    (repeat refine cw_seq ?_); refine cw_ret ?_
    exact ⟨(x2, x2b), _, (.cons (.tmp rfl) .nil), rfl, .nil _, .nil _, Sp⟩

theorem cat_step {α : Type} [Inhabited α] (ls : List (List α)) {k : Nat} (h : k < ls.length) : (ls.take (k + 1)).flatten = (ls.take k).flatten ++ gt ls k ∧ (ls.take k).flatten.length + (gt ls k).length ≤ ls.flatten.length := by
  have h1 : (ls.take (k + 1)).flatten = (ls.take k).flatten ++ gt ls k := by
    rw [gt_eq h, ← List.take_append_getElem h, List.flatten_append]; simp only [List.flatten_cons, List.flatten_nil, List.append_nil]
  refine ⟨h1, ?_⟩
  have h2 : ls.flatten = (ls.take (k + 1)).flatten ++ (ls.drop (k + 1)).flatten := by rw [← List.flatten_append, List.take_append_drop]
  rw [h2, h1]; simp only [List.length_append]; omega

def slices_Equal_Int_L0 (s2 : List Int) : List Int → Nat → Bool
  | [], n1 => true
  | pn1 :: rn1, n1 => (bif (pn1 != (gt s2 n1)) then false else (slices_Equal_Int_L0 s2 rn1 (n1 + 1)))
def slices_Equal_Int (s1 : List Int) (s2 : List Int) : Bool :=
  (bif ((s1.length : Int) != (s2.length : Int)) then false else (slices_Equal_Int_L0 s2 s1 0))
theorem slices_Equal_Int_spec (y1 : SlV) (s1 : List Int) (y2 : SlV) (s2 : List Int) : Does Tryz.prog 29 [y1.val s1.length, y2.val s2.length] [RdL EInt y1 s1, RdL EInt y2 s2] (fun (_ : Unit) => .bool (slices_Equal_Int s1 s2)) (fun (_ : Unit) => []) := by
  refine does_of tab_ok Tryz.func29 rfl Tryz.ntmps29 Tryz.results29 rfl inferInstance (fun _ => inferInstance) fun C => ?_
  refine Pc EInt y1 s1 8 fun hlen1 => ?_
  refine Pc EInt y2 s2 8 fun hlen2 => ?_
  refine Tx ?_
  refine Cd (b := ((s1.length : Int) != (s2.length : Int))) (fun hc1 => ?_) fun hc1 => ?_
  · have hc1p := bne_iff_ne.1 hc1
    refine Tx ?_
    have hr1 : (slices_Equal_Int s1 s2) = false := by simp only [slices_Equal_Int, hc1, cond_true, cond_false]
    refine cw_ret ?_; rw [hr1]; exact Re () (Vt Vn)
  · have hc1p := eq_of_bne_false hc1
    refine Tx ?_
    (repeat refine cw_seq ?_); refine Lp [0,1,4,12] [] (fun (n1 : Nat) => (⟨[(13, .v (.int .i64 (n1 : Int)))], [], [], [], (n1 ≤ s1.length) ∧ (slices_Equal_Int_L0 s2 (s1.drop n1) n1) = (slices_Equal_Int s1 s2), s1.length - n1⟩ : Ls)) 0 (Sc (Sc (Sc (Sc Sn)))) (.nil) ⟨Nat.zero_le _, (by simp only [slices_Equal_Int, hc1, cond_true, cond_false] : (slices_Equal_Int s1 s2) = (slices_Equal_Int_L0 s2 s1 0)).symm⟩ Le4 ?_
    rintro n1 ⟨hkn1, hf1⟩
    simp only [List.cons_append, List.nil_append]
    refine Tx ?_
    refine Cd (b := decide ((n1 : Int) < (s1.length : Int))) (fun hc2 => ?_) fun hc2 => ?_
    · have hlt0 : n1 < s1.length := Int.ofNat_lt.1 (of_decide_eq_true hc2)
      refine Tx ?_
      (repeat refine cw_seq ?_); refine cw_regionA (fun _ => some []) ?_
      refine Rb 0 [1,4,5,6,7] [2,3,8] rfl Qp ?_
      refine Rb 1 [4,5,6,7] [2,3,8] rfl Qp ?_
      refine Rb 2 [4,5,6,7] [3,8] rfl (q_idx EInt n1 rfl rfl (fun _ => rfl) rfl (fun _ => rfl) rfl rfl rfl Mm rfl (fun _ => rfl) (fun _ => by first | assumption | omega)) ?_
      refine Ra 3 [4,5,6,7] rfl (q_le1 EInt rfl rfl (fun _ => rfl) rfl rfl Mm (fun _ => by first | assumption | omega) rfl) ?_
      refine Rb 4 [5] [6,7,8] rfl Qp ?_
      refine Rb 5 [] [6,7,8] rfl Qp ?_
      refine Rb 6 [] [7,8] rfl (q_idx EInt n1 rfl rfl (fun _ => rfl) rfl (fun _ => rfl) rfl rfl rfl Mm rfl (fun _ => rfl) (fun _ => by first | assumption | omega)) ?_
      refine Ra 7 [] rfl (q_le1 EInt rfl rfl (fun _ => rfl) rfl rfl Mm (fun _ => by first | assumption | omega) rfl) ?_
      refine Ra 8 [] rfl Qp ?_
      refine ra_nil Kr ?_
      (repeat refine cw_seq ?_)
      refine Cd (b := ((gt s1 n1) != (gt s2 n1))) (fun hc3 => ?_) fun hc3 => ?_
      · have hc3p := bne_iff_ne.1 hc3
        refine Tx ?_
        have hr2 : (slices_Equal_Int s1 s2) = false := by rw [← hf1, drop_gt hlt0]; simp only [slices_Equal_Int_L0, hc3, cond_true, cond_false]
        refine cw_ret ?_; rw [hr2]; exact Re () (Vt Vn)
      · have hc3p := eq_of_bne_false hc3
        refine Tx ?_
        refine rw_q rfl rfl rfl (q_add rfl rfl (fun _ => rfl) rfl (fun _ => rfl) (fun _ => by omega)) ?_
        refine Tx ?_
        refine ⟨(n1 + 1), ⟨hlt0, (by rw [← hf1, drop_gt hlt0]; simp only [slices_Equal_Int_L0, hc3, cond_true, cond_false] : (slices_Equal_Int s1 s2) = (slices_Equal_Int_L0 s2 (s1.drop (n1 + 1)) (n1 + 1))).symm⟩, (by simp only []; omega), Le4⟩
    · have hge0 : s1.length ≤ n1 := by have := of_decide_eq_false hc2; omega
      refine Tx ?_
      have hr3 : (slices_Equal_Int s1 s2) = true := by rw [← hf1, List.drop_of_length_le hge0]; simp only [slices_Equal_Int_L0, cond_true, cond_false]
      refine cw_ret ?_; rw [hr3]; exact Re () (Vt Vn)
theorem slices_Equal_Int_eq (a b : List Int) : slices_Equal_Int a b = decide (a = b) := by
  have key : ∀ (l : List Int) (k : Nat), l.length + k = b.length → slices_Equal_Int_L0 b l k = decide (l = b.drop k) := by
    intro l
    induction l with
    | nil => intro k hk; rw [slices_Equal_Int_L0, List.drop_of_length_le (by simp at hk; omega)]; simp
    | cons p r ih =>
      intro k hk
      simp only [List.length_cons] at hk
      rw [slices_Equal_Int_L0, ih (k + 1) (by omega), drop_gt (by omega : k < b.length)]
      by_cases h : p = gt b k <;> simp [h]
  rw [slices_Equal_Int]
  by_cases h : a.length = b.length
  · rw [key a 0 (by omega)]; simp [h]
  · have : a ≠ b := fun e => h (by rw [e])
    simp [this, Int.ofNat_inj, h]
theorem slices_Equal_Int_spec' (y1 y2 : SlV) (a b : List Int) : Does Tryz.prog 29 [y1.val a.length, y2.val b.length] [RdL EInt y1 a, RdL EInt y2 b] (fun (_ : Unit) => .bool (decide (a = b))) (fun (_ : Unit) => []) := by
  have := slices_Equal_Int_spec y1 a y2 b
  rw [slices_Equal_Int_eq] at this
  exact this

def slices_Equal_Place_L0 (s2 : List Place) : List Place → Nat → Bool
  | [], n1 => true
  | pn1 :: rn1, n1 => (bif (!(decide (pn1 = (gt s2 n1)))) then false else (slices_Equal_Place_L0 s2 rn1 (n1 + 1)))
def slices_Equal_Place (s1 : List Place) (s2 : List Place) : Bool :=
  (bif ((s1.length : Int) != (s2.length : Int)) then false else (slices_Equal_Place_L0 s2 s1 0))
theorem slices_Equal_Place_spec (y1 : SlV) (s1 : List Place) (y2 : SlV) (s2 : List Place) : Does Tryz.prog 42 [y1.val s1.length, y2.val s2.length] [RdL EPlace y1 s1, RdL EPlace y2 s2] (fun (_ : Unit) => .bool (slices_Equal_Place s1 s2)) (fun (_ : Unit) => []) := by
  refine does_of tab_ok Tryz.func42 rfl Tryz.ntmps42 Tryz.results42 rfl inferInstance (fun _ => inferInstance) fun C => ?_
  refine Pc EPlace y1 s1 24 fun hlen1 => ?_
  refine Pc EPlace y2 s2 24 fun hlen2 => ?_
  refine Tx ?_
  refine Cd (b := ((s1.length : Int) != (s2.length : Int))) (fun hc1 => ?_) fun hc1 => ?_
  · have hc1p := bne_iff_ne.1 hc1
    refine Tx ?_
    have hr1 : (slices_Equal_Place s1 s2) = false := by simp only [slices_Equal_Place, hc1, cond_true, cond_false]
    refine cw_ret ?_; rw [hr1]; exact Re () (Vt Vn)
  · have hc1p := eq_of_bne_false hc1
    refine Tx ?_
    (repeat refine cw_seq ?_); refine Lp [0,1,4,12] [] (fun (n1 : Nat) => (⟨[(13, .v (.int .i64 (n1 : Int)))], [], [], [], (n1 ≤ s1.length) ∧ (slices_Equal_Place_L0 s2 (s1.drop n1) n1) = (slices_Equal_Place s1 s2), s1.length - n1⟩ : Ls)) 0 (Sc (Sc (Sc (Sc Sn)))) (.nil) ⟨Nat.zero_le _, (by simp only [slices_Equal_Place, hc1, cond_true, cond_false] : (slices_Equal_Place s1 s2) = (slices_Equal_Place_L0 s2 s1 0)).symm⟩ Le4 ?_
    rintro n1 ⟨hkn1, hf1⟩
    simp only [List.cons_append, List.nil_append]
    refine Tx ?_
    refine Cd (b := decide ((n1 : Int) < (s1.length : Int))) (fun hc2 => ?_) fun hc2 => ?_
    · have hlt0 : n1 < s1.length := Int.ofNat_lt.1 (of_decide_eq_true hc2)
      refine Tx ?_
      (repeat refine cw_seq ?_); refine cw_regionA (fun _ => some []) ?_
      refine Rb 0 [1,4,5,6,7] [2,3,8] rfl Qp ?_
      refine Rb 1 [4,5,6,7] [2,3,8] rfl Qp ?_
      refine Rb 2 [4,5,6,7] [3,8] rfl (q_idx EPlace n1 rfl rfl (fun _ => rfl) rfl (fun _ => rfl) rfl rfl rfl Mm rfl (fun _ => rfl) (fun _ => by first | assumption | omega)) ?_
      refine Ra 3 [4,5,6,7] rfl (q_leA EPlace rfl rfl (fun _ => rfl) rfl rfl Mm (fun _ => by first | assumption | omega)) ?_
      refine Rb 4 [5] [6,7,8] rfl Qp ?_
      refine Rb 5 [] [6,7,8] rfl Qp ?_
      refine Rb 6 [] [7,8] rfl (q_idx EPlace n1 rfl rfl (fun _ => rfl) rfl (fun _ => rfl) rfl rfl rfl Mm rfl (fun _ => rfl) (fun _ => by first | assumption | omega)) ?_
      refine Ra 7 [] rfl (q_leA EPlace rfl rfl (fun _ => rfl) rfl rfl Mm (fun _ => by first | assumption | omega)) ?_
      refine Ra 8 [] rfl (q_neE eqT_Place (flatEq_Place (gt s1 n1) (gt s2 n1)) rfl rfl (fun _ => rfl) rfl (fun _ => rfl) rfl rfl) ?_
      refine ra_nil Kr ?_
      (repeat refine cw_seq ?_)
      refine Cd (b := (!(decide ((gt s1 n1) = (gt s2 n1))))) (fun hc3 => ?_) fun hc3 => ?_
      · refine Tx ?_
        have hr2 : (slices_Equal_Place s1 s2) = false := by rw [← hf1, drop_gt hlt0]; simp only [slices_Equal_Place_L0, hc3, cond_true, cond_false]
        refine cw_ret ?_; rw [hr2]; exact Re () (Vt Vn)
      · refine Tx ?_
        refine rw_q rfl rfl rfl (q_add rfl rfl (fun _ => rfl) rfl (fun _ => rfl) (fun _ => by omega)) ?_
        refine Tx ?_
        refine ⟨(n1 + 1), ⟨hlt0, (by rw [← hf1, drop_gt hlt0]; simp only [slices_Equal_Place_L0, hc3, cond_true, cond_false] : (slices_Equal_Place s1 s2) = (slices_Equal_Place_L0 s2 (s1.drop (n1 + 1)) (n1 + 1))).symm⟩, (by simp only []; omega), Le4⟩
    · have hge0 : s1.length ≤ n1 := by have := of_decide_eq_false hc2; omega
      refine Tx ?_
      have hr3 : (slices_Equal_Place s1 s2) = true := by rw [← hf1, List.drop_of_length_le hge0]; simp only [slices_Equal_Place_L0, cond_true, cond_false]
      refine cw_ret ?_; rw [hr3]; exact Re () (Vt Vn)
theorem slices_Equal_Place_eq (a b : List Place) : slices_Equal_Place a b = decide (a = b) := by
  have key : ∀ (l : List Place) (k : Nat), l.length + k = b.length → slices_Equal_Place_L0 b l k = decide (l = b.drop k) := by
    intro l
    induction l with
    | nil => intro k hk; rw [slices_Equal_Place_L0, List.drop_of_length_le (by simp at hk; omega)]; simp
    | cons p r ih =>
      intro k hk
      simp only [List.length_cons] at hk
      rw [slices_Equal_Place_L0, ih (k + 1) (by omega), drop_gt (by omega : k < b.length)]
      by_cases h : p = gt b k <;> simp [h]
  rw [slices_Equal_Place]
  by_cases h : a.length = b.length
  · rw [key a 0 (by omega)]; simp [h]
  · have : a ≠ b := fun e => h (by rw [e])
    simp [this, Int.ofNat_inj, h]
theorem slices_Equal_Place_spec' (y1 y2 : SlV) (a b : List Place) : Does Tryz.prog 42 [y1.val a.length, y2.val b.length] [RdL EPlace y1 a, RdL EPlace y2 b] (fun (_ : Unit) => .bool (decide (a = b))) (fun (_ : Unit) => []) := by
  have := slices_Equal_Place_spec y1 a y2 b
  rw [slices_Equal_Place_eq] at this
  exact this


def slices_Equal_Step_L0 (s2 : List Step) : List Step → Nat → Bool
  | [], n1 => true
  | pn1 :: rn1, n1 => (bif (!(decide (pn1 = (gt s2 n1)))) then false else (slices_Equal_Step_L0 s2 rn1 (n1 + 1)))
def slices_Equal_Step (s1 : List Step) (s2 : List Step) : Bool :=
  (bif ((s1.length : Int) != (s2.length : Int)) then false else (slices_Equal_Step_L0 s2 s1 0))
theorem slices_Equal_Step_spec (y1 : SlV) (s1 : List Step) (y2 : SlV) (s2 : List Step) : Does Tryz.prog 41 [y1.val s1.length, y2.val s2.length] [RdL EStep y1 s1, RdL EStep y2 s2] (fun (_ : Unit) => .bool (slices_Equal_Step s1 s2)) (fun (_ : Unit) => []) := by
  refine does_of tab_ok Tryz.func41 rfl Tryz.ntmps41 Tryz.results41 rfl inferInstance (fun _ => inferInstance) fun C => ?_
  refine Pc EStep y1 s1 88 fun hlen1 => ?_
  refine Pc EStep y2 s2 88 fun hlen2 => ?_
  refine Tx ?_
  refine Cd (b := ((s1.length : Int) != (s2.length : Int))) (fun hc1 => ?_) fun hc1 => ?_
  · have hc1p := bne_iff_ne.1 hc1
    refine Tx ?_
    have hr1 : (slices_Equal_Step s1 s2) = false := by simp only [slices_Equal_Step, hc1, cond_true, cond_false]
    refine cw_ret ?_; rw [hr1]; exact Re () (Vt Vn)
  · have hc1p := eq_of_bne_false hc1
    refine Tx ?_
    (repeat refine cw_seq ?_); refine Lp [0,1,4,12] [] (fun (n1 : Nat) => (⟨[(13, .v (.int .i64 (n1 : Int)))], [], [], [], (n1 ≤ s1.length) ∧ (slices_Equal_Step_L0 s2 (s1.drop n1) n1) = (slices_Equal_Step s1 s2), s1.length - n1⟩ : Ls)) 0 (Sc (Sc (Sc (Sc Sn)))) (.nil) ⟨Nat.zero_le _, (by simp only [slices_Equal_Step, hc1, cond_true, cond_false] : (slices_Equal_Step s1 s2) = (slices_Equal_Step_L0 s2 s1 0)).symm⟩ Le4 ?_
    rintro n1 ⟨hkn1, hf1⟩
    simp only [List.cons_append, List.nil_append]
    refine Tx ?_
    refine Cd (b := decide ((n1 : Int) < (s1.length : Int))) (fun hc2 => ?_) fun hc2 => ?_
    · have hlt0 : n1 < s1.length := Int.ofNat_lt.1 (of_decide_eq_true hc2)
      refine Tx ?_
      (repeat refine cw_seq ?_); refine cw_regionA (fun _ => some []) ?_
      refine Rb 0 [1,4,5,6,7] [2,3,8] rfl Qp ?_
      refine Rb 1 [4,5,6,7] [2,3,8] rfl Qp ?_
      refine Rb 2 [4,5,6,7] [3,8] rfl (q_idx EStep n1 rfl rfl (fun _ => rfl) rfl (fun _ => rfl) rfl rfl rfl Mm rfl (fun _ => rfl) (fun _ => by first | assumption | omega)) ?_
      refine Ra 3 [4,5,6,7] rfl (q_leA EStep rfl rfl (fun _ => rfl) rfl rfl Mm (fun _ => by first | assumption | omega)) ?_
      refine Rb 4 [5] [6,7,8] rfl Qp ?_
      refine Rb 5 [] [6,7,8] rfl Qp ?_
      refine Rb 6 [] [7,8] rfl (q_idx EStep n1 rfl rfl (fun _ => rfl) rfl (fun _ => rfl) rfl rfl rfl Mm rfl (fun _ => rfl) (fun _ => by first | assumption | omega)) ?_
      refine Ra 7 [] rfl (q_leA EStep rfl rfl (fun _ => rfl) rfl rfl Mm (fun _ => by first | assumption | omega)) ?_
      refine Ra 8 [] rfl (q_neE eqT_Step (flatEq_Step (gt s1 n1) (gt s2 n1)) rfl rfl (fun _ => rfl) rfl (fun _ => rfl) rfl rfl) ?_
      refine ra_nil Kr ?_
      (repeat refine cw_seq ?_)
      refine Cd (b := (!(decide ((gt s1 n1) = (gt s2 n1))))) (fun hc3 => ?_) fun hc3 => ?_
      · refine Tx ?_
        have hr2 : (slices_Equal_Step s1 s2) = false := by rw [← hf1, drop_gt hlt0]; simp only [slices_Equal_Step_L0, hc3, cond_true, cond_false]
        refine cw_ret ?_; rw [hr2]; exact Re () (Vt Vn)
      · refine Tx ?_
        refine rw_q rfl rfl rfl (q_add rfl rfl (fun _ => rfl) rfl (fun _ => rfl) (fun _ => by omega)) ?_
        refine Tx ?_
        refine ⟨(n1 + 1), ⟨hlt0, (by rw [← hf1, drop_gt hlt0]; simp only [slices_Equal_Step_L0, hc3, cond_true, cond_false] : (slices_Equal_Step s1 s2) = (slices_Equal_Step_L0 s2 (s1.drop (n1 + 1)) (n1 + 1))).symm⟩, (by simp only []; omega), Le4⟩
    · have hge0 : s1.length ≤ n1 := by have := of_decide_eq_false hc2; omega
      refine Tx ?_
      have hr3 : (slices_Equal_Step s1 s2) = true := by rw [← hf1, List.drop_of_length_le hge0]; simp only [slices_Equal_Step_L0, cond_true, cond_false]
      refine cw_ret ?_; rw [hr3]; exact Re () (Vt Vn)
theorem slices_Equal_Step_eq (a b : List Step) : slices_Equal_Step a b = decide (a = b) := by
  have key : ∀ (l : List Step) (k : Nat), l.length + k = b.length → slices_Equal_Step_L0 b l k = decide (l = b.drop k) := by
    intro l
    induction l with
    | nil => intro k hk; rw [slices_Equal_Step_L0, List.drop_of_length_le (by simp at hk; omega)]; simp
    | cons p r ih =>
      intro k hk
      simp only [List.length_cons] at hk
      rw [slices_Equal_Step_L0, ih (k + 1) (by omega), drop_gt (by omega : k < b.length)]
      by_cases h : p = gt b k <;> simp [h]
  rw [slices_Equal_Step]
  by_cases h : a.length = b.length
  · rw [key a 0 (by omega)]; simp [h]
  · have : a ≠ b := fun e => h (by rw [e])
    simp [this, Int.ofNat_inj, h]
theorem slices_Equal_Step_spec' (y1 y2 : SlV) (a b : List Step) : Does Tryz.prog 41 [y1.val a.length, y2.val b.length] [RdL EStep y1 a, RdL EStep y2 b] (fun (_ : Unit) => .bool (decide (a = b))) (fun (_ : Unit) => []) := by
  have := slices_Equal_Step_spec y1 a y2 b
  rw [slices_Equal_Step_eq] at this
  exact this
end Go.Proofs.YtccmadehnoihnaaGreatDoor

set_option maxHeartbeats 2000000
namespace Go.Proofs.YtccmadehnoihnaaGreatDoor
open Go Go.Proofs.YtccmadehnoihnaaGreatDoor.Fw Go.Proofs
attribute [local irreducible] RW CW
def tree_place (p1 : Place) : Int :=
  (bif (((((decide (p1.node < 1) || decide (p1.node ≥ 16)) || decide (p1.parent < 0)) || decide (p1.parent > 16)) || decide (p1.name < 0)) || decide (p1.name > 99)) then 3 else 0)
theorem tree_place_spec (p1 : Place) : Does Tryz.prog 64 [.agg ⟨[.int .i64 p1.node, .int .i64 p1.parent, .int .i64 p1.name]⟩] [] (fun (_ : Unit) => .int .i64 (tree_place p1)) (fun (_ : Unit) => []) := by
  refine does_of tab_ok Tryz.func64 rfl Tryz.ntmps64 Tryz.results64 rfl inferInstance (fun _ => inferInstance) fun C => ?_
  refine Tx ?_
  refine Bx fun g1 => ?_
  refine Tx ?_
  refine Cd (b := (((((decide (p1.node < 1) || decide (p1.node ≥ 16)) || decide (p1.parent < 0)) || decide (p1.parent > 16)) || decide (p1.name < 0)) || decide (p1.name > 99))) (fun hc1 => ?_) fun hc1 => ?_
  · refine Tx ?_
    have hr1 : (tree_place p1) = 3 := by simp only [tree_place, hc1, cond_true, cond_false]
    refine cw_ret ?_; rw [hr1]; exact Re () (Vt Vn)
  · refine Tx ?_
    have hr2 : (tree_place p1) = 0 := by simp only [tree_place, hc1, cond_true, cond_false]
    refine cw_ret ?_; rw [hr2]; exact Re () (Vt Vn)

def tree_Find_L0 (node1 : Int) : List Place → Place
  | [] => (⟨0, 0, 0⟩ : Place)
  | pn1 :: rn1 => (bif ((pn1.node) == node1) then pn1 else (tree_Find_L0 node1 rn1))
def tree_Find (t1 : List Place) (node1 : Int) : Place :=
  (tree_Find_L0 node1 t1)
theorem tree_Find_spec (y1 : SlV) (t1 : List Place) (node1 : Int) : Does Tryz.prog 79 [.agg ⟨[y1.val t1.length]⟩, .int .i64 node1] [RdL EPlace y1 t1] (fun (_ : Unit) => .agg ⟨[.int .i64 ((tree_Find t1 node1).node), .int .i64 ((tree_Find t1 node1).parent), .int .i64 ((tree_Find t1 node1).name)]⟩) (fun (_ : Unit) => []) := by
  refine does_of tab_ok Tryz.func79 rfl Tryz.ntmps79 Tryz.results79 rfl inferInstance (fun _ => inferInstance) fun C => ?_
  refine Pc EPlace y1 t1 24 fun hlen1 => ?_
  refine Tx ?_
  refine Bx fun g1 => ?_
  refine Al fun g2 => ?_
  refine Tx ?_
  (repeat refine cw_seq ?_); refine Lp [1,4,8,9] [true, true] (fun (n1 : Nat) => (⟨[(10, .v (.int .i64 (n1 : Int)))], [], [], [], (n1 ≤ t1.length) ∧ (tree_Find_L0 node1 (t1.drop n1)) = (tree_Find t1 node1), t1.length - n1⟩ : Ls)) 0 (Sc (Sc (Sc (Sc Sn)))) (.keep (.keep (.nil))) ⟨Nat.zero_le _, (by simp only [tree_Find, cond_true, cond_false] : (tree_Find t1 node1) = (tree_Find_L0 node1 t1)).symm⟩ Le4 ?_
  rintro n1 ⟨hkn1, hf1⟩
  simp only [List.cons_append, List.nil_append]
  refine Tx ?_
  refine Cd (b := decide ((n1 : Int) < (t1.length : Int))) (fun hc1 => ?_) fun hc1 => ?_
  · have hlt0 : n1 < t1.length := Int.ofNat_lt.1 (of_decide_eq_true hc1)
    refine Tx ?_
    refine rw_q rfl rfl rfl (q_idx EPlace n1 rfl rfl (fun _ => rfl) rfl (fun _ => rfl) rfl rfl rfl Mm rfl (fun _ => rfl) (fun _ => by first | assumption | omega)) ?_
    refine rw_q rfl rfl rfl (q_leA EPlace rfl rfl (fun _ => rfl) rfl rfl Mm (fun _ => by first | assumption | omega)) ?_
    refine Al fun g3 => ?_
    refine Tx ?_
    refine Cd (b := (((gt t1 n1).node) == node1)) (fun hc2 => ?_) fun hc2 => ?_
    · have hc2p := eq_of_beq hc2
      refine Tx ?_
      have hr1 : (tree_Find t1 node1) = (gt t1 n1) := by rw [← hf1, drop_gt hlt0]; simp only [tree_Find_L0, hc2, cond_true, cond_false]
      refine cw_ret ?_; rw [hr1]; exact Re () (Va Vn)
    · have hc2p := ne_of_beq_false hc2
      refine Tx ?_
      refine rw_q rfl rfl rfl (q_add rfl rfl (fun _ => rfl) rfl (fun _ => rfl) (fun _ => by omega)) ?_
      refine Tx ?_
      refine ⟨(n1 + 1), ⟨hlt0, (by rw [← hf1, drop_gt hlt0]; simp only [tree_Find_L0, hc2, cond_true, cond_false] : (tree_Find t1 node1) = (tree_Find_L0 node1 (t1.drop (n1 + 1)))).symm⟩, (by simp only []; omega), Le4⟩
  · have hge0 : t1.length ≤ n1 := by have := of_decide_eq_false hc1; omega
    refine Tx ?_
    have hr2 : (tree_Find t1 node1) = (⟨0, 0, 0⟩ : Place) := by rw [← hf1, List.drop_of_length_le hge0]; simp only [tree_Find_L0, cond_true, cond_false]
    refine cw_ret ?_; rw [hr2]; exact Re () (Va Vn)

def tree_Stands_L0 (t1 : List Place) (top1 : Int) : Nat → Int → Bool
  | 0, node2 => false
  | fn1 + 1, node2 => (bif (node2 == top1) then true else (bif (((tree_Find t1 node2).node) == 0) then false else (tree_Stands_L0 t1 top1 fn1 ((tree_Find t1 node2).parent))))
def tree_Stands (t1 : List Place) (node1 : Int) (top1 : Int) : Bool :=
  (tree_Stands_L0 t1 top1 ((t1.length + 1) - 0) node1)
theorem tree_Stands_spec (y1 : SlV) (t1 : List Place) (node1 : Int) (top1 : Int) : Does Tryz.prog 65 [.agg ⟨[y1.val t1.length]⟩, .int .i64 node1, .int .i64 top1] [RdL EPlace y1 t1] (fun (_ : Unit) => .bool (tree_Stands t1 node1 top1)) (fun (_ : Unit) => []) := by
  refine does_of tab_ok Tryz.func65 rfl Tryz.ntmps65 Tryz.results65 rfl inferInstance (fun _ => inferInstance) fun C => ?_
  refine Pc EPlace y1 t1 24 fun hlen1 => ?_
  refine Tx ?_
  refine Bx fun g1 => ?_
  refine Tx ?_
  refine rw_q rfl rfl rfl (q_add rfl rfl (fun _ => rfl) rfl (fun _ => rfl) (fun _ => by omega)) ?_
  refine Tx ?_
  (repeat refine cw_seq ?_); refine Lp [2,3,6,11] [true] (fun (i_ : Int × Nat) => match i_ with | ⟨node2, n1⟩ => (⟨[(1, .v (.int .i64 node2)), (12, .v (.int .i64 (n1 : Int)))], [], [], [], (n1 ≤ (t1.length + 1)) ∧ (tree_Stands_L0 t1 top1 ((t1.length + 1) - n1) node2) = (tree_Stands t1 node1 top1), (t1.length + 1) - n1⟩ : Ls)) ⟨node1, 0⟩ (Sc (Sc (Sc (Sc Sn)))) (.keep (.nil)) ⟨(Nat.zero_le _), (by simp only [tree_Stands, cond_true, cond_false] : (tree_Stands t1 node1 top1) = (tree_Stands_L0 t1 top1 ((t1.length + 1) - 0) node1)).symm⟩ Le4 ?_
  rintro ⟨node2, n1⟩ ⟨hkn1, hf1⟩
  simp only [List.cons_append, List.nil_append]
  refine Tx ?_
  refine Cd (b := decide ((n1 : Int) < ((t1.length : Int) + 1))) (fun hc1 => ?_) fun hc1 => ?_
  · have hlt0 : n1 < (t1.length + 1) := by have := of_decide_eq_true hc1; omega
    have hlt0_ : (t1.length + 1) - n1 = ((t1.length + 1) - (n1 + 1)) + 1 := by omega
    refine Tx ?_
    refine Cd (b := (node2 == top1)) (fun hc2 => ?_) fun hc2 => ?_
    · have hc2p := eq_of_beq hc2
      refine Tx ?_
      have hr1 : (tree_Stands t1 node1 top1) = true := by rw [← hf1]; (conv => lhs; rw [hlt0_]); simp only [tree_Stands_L0, hc2, cond_true, cond_false]
      refine cw_ret ?_; rw [hr1]; exact Re () (Vt Vn)
    · have hc2p := ne_of_beq_false hc2
      refine Tx ?_
      refine Cl (tree_Find_spec y1 t1 node2) fun _ => ?_
      refine Al fun g2 => ?_
      refine Tx ?_
      refine Cd (b := (((tree_Find t1 node2).node) == 0)) (fun hc3 => ?_) fun hc3 => ?_
      · have hc3p := eq_of_beq hc3
        refine Tx ?_
        have hr2 : (tree_Stands t1 node1 top1) = false := by rw [← hf1]; (conv => lhs; rw [hlt0_]); simp only [tree_Stands_L0, hc2, hc3, cond_true, cond_false]
        refine cw_ret ?_; rw [hr2]; exact Re () (Vt Vn)
      · have hc3p := ne_of_beq_false hc3
        refine Tx ?_
        refine rw_q rfl rfl rfl (q_add rfl rfl (fun _ => rfl) rfl (fun _ => rfl) (fun _ => by omega)) ?_
        refine Tx ?_
        refine ⟨⟨(tree_Find t1 node2).parent, (n1 + 1)⟩, ⟨hlt0, (by rw [← hf1]; (conv => lhs; rw [hlt0_]); simp only [tree_Stands_L0, hc2, hc3, cond_true, cond_false] : (tree_Stands t1 node1 top1) = (tree_Stands_L0 t1 top1 ((t1.length + 1) - (n1 + 1)) ((tree_Find t1 node2).parent))).symm⟩, (by simp only []; omega), Le4⟩
  · have hge0 : (t1.length + 1) ≤ n1 := by have := of_decide_eq_false hc1; omega
    have hge0_ : (t1.length + 1) - n1 = 0 := by omega
    refine Tx ?_
    have hr3 : (tree_Stands t1 node1 top1) = false := by rw [← hf1, hge0_]; simp only [tree_Stands_L0, cond_true, cond_false]
    refine cw_ret ?_; rw [hr3]; exact Re () (Vt Vn)

def tree_Check_L1 (t1 : List Place) : List Place → Int
  | [] => 0
  | pn2 :: rn2 => (bif (tree_Stands t1 (pn2.parent) (pn2.node)) then 4 else (tree_Check_L1 t1 rn2))
def tree_Check_L0 (t1 : List Place) : List Place → Nat → Int
  | [], n1 => (tree_Check_L1 t1 t1)
  | pn1 :: rn1, n1 => (bif ((tree_place pn1) != 0) then (tree_place pn1) else (bif (decide ((n1 : Int) > 0) && decide (((gt t1 (n1 - 1)).node) ≥ (pn1.node))) then 6 else (tree_Check_L0 t1 rn1 (n1 + 1))))
def tree_Check (t1 : List Place) : Int :=
  (tree_Check_L0 t1 t1 0)
theorem tree_Check_spec (y1 : SlV) (t1 : List Place) : Does Tryz.prog 47 [.agg ⟨[y1.val t1.length]⟩] [RdL EPlace y1 t1] (fun (_ : Unit) => .int .i64 (tree_Check t1)) (fun (_ : Unit) => []) := by
  refine does_of tab_ok Tryz.func47 rfl Tryz.ntmps47 Tryz.results47 rfl inferInstance (fun _ => inferInstance) fun C => ?_
  refine Pc EPlace y1 t1 24 fun hlen1 => ?_
  refine Tx ?_
  refine Bx fun g1 => ?_
  refine Tx ?_
  (repeat refine cw_seq ?_); refine Lp [1,2,9,10] [true] (fun (n1 : Nat) => (⟨[(11, .v (.int .i64 (n1 : Int)))], [], [], [], (n1 ≤ t1.length) ∧ (tree_Check_L0 t1 (t1.drop n1) n1) = (tree_Check t1), t1.length - n1⟩ : Ls)) 0 (Sc (Sc (Sc (Sc Sn)))) (.keep (.nil)) ⟨Nat.zero_le _, (by simp only [tree_Check, cond_true, cond_false] : (tree_Check t1) = (tree_Check_L0 t1 t1 0)).symm⟩ Le4 ?_
  rintro n1 ⟨hkn1, hf1⟩
  simp only [List.cons_append, List.nil_append]
  refine Tx ?_
  refine Cd (b := decide ((n1 : Int) < (t1.length : Int))) (fun hc1 => ?_) fun hc1 => ?_
  · have hlt0 : n1 < t1.length := Int.ofNat_lt.1 (of_decide_eq_true hc1)
    refine Tx ?_
    refine rw_q rfl rfl rfl (q_idx EPlace n1 rfl rfl (fun _ => rfl) rfl (fun _ => rfl) rfl rfl rfl Mm rfl (fun _ => rfl) (fun _ => by first | assumption | omega)) ?_
    refine rw_q rfl rfl rfl (q_leA EPlace rfl rfl (fun _ => rfl) rfl rfl Mm (fun _ => by first | assumption | omega)) ?_
    refine Al fun g2 => ?_
    refine Tx ?_
    refine Cl (tree_place_spec (gt t1 n1)) fun _ => ?_
    refine Tx ?_
    refine Cd (b := ((tree_place (gt t1 n1)) != 0)) (fun hc2 => ?_) fun hc2 => ?_
    · have hc2p := bne_iff_ne.1 hc2
      refine Tx ?_
      have hr1 : (tree_Check t1) = (tree_place (gt t1 n1)) := by rw [← hf1, drop_gt hlt0]; simp only [tree_Check_L0, hc2, cond_true, cond_false]
      refine cw_ret ?_; rw [hr1]; exact Re () (Vt Vn)
    · have hc2p := eq_of_bne_false hc2
      refine Tx ?_
      (repeat refine cw_seq ?_); refine cw_regionA (fun _ => some []) ?_
      refine Rb 0 [] [1,2,3,4,5,6,7,8,9,10,11,12,13] rfl Qp ?_
      refine Rb 1 [] [2,3,4,5,6,7,8,9,10,11,12,13] rfl Qp ?_
      refine Ra 2 [] rfl Qp ?_
      refine Gb 3 [5,6,10,11] [4,7,8,9,12,13] rfl (guard_vt rfl rfl rfl) (q_pev rfl Bt) ?_
      refine Gb 4 [5,6,10,11] [7,8,9,12,13] rfl (guard_vt rfl rfl rfl) (q_ld1 rfl rfl Bt rfl Mm rfl) ?_
      refine Gb 5 [10,11] [6,7,8,9,12,13] rfl (guard_vt rfl rfl rfl) (q_pev rfl Bt) ?_
      refine Gb 6 [10,11] [7,8,9,12,13] rfl (guard_vt rfl rfl rfl) (q_sub rfl rfl Bt rfl Bt (by intro h; first | omega | (simp at h; omega))) ?_
      refine Gb 7 [10,11] [8,9,12,13] rfl (guard_vt rfl rfl rfl) (q_idx EPlace (n1 - 1) rfl rfl Bt rfl Bt rfl rfl rfl Mm rfl (by intro h; first | omega | rfl | (simp at h; omega)) (by first | (intro _; first | assumption | omega) | (intro h; simp at h; omega))) ?_
      refine Gb 8 [10,11] [9,12,13] rfl (guard_vt rfl rfl rfl) (q_fae rfl rfl Bt rfl rfl) ?_
      refine Gb 9 [10,11] [12,13] rfl (guard_vt rfl rfl rfl) (q_le1 EPlace rfl rfl Bt rfl rfl Mm (by first | (intro _; first | assumption | omega) | (intro h; simp at h; omega)) rfl) ?_
      refine Gb 10 [] [11,12,13] rfl (guard_vt rfl rfl rfl) (q_pev rfl Bt) ?_
      refine Gb 11 [] [12,13] rfl (guard_vt rfl rfl rfl) (q_ld1 rfl rfl Bt rfl Mm rfl) ?_
      refine Ga 12 [] rfl (guard_vt rfl rfl rfl) (q_pev rfl Bt) ?_
      refine Ra 13 [] rfl (q_pev rfl Bt) ?_
      refine ra_nil Kr ?_
      (repeat refine cw_seq ?_)
      refine Cd (b := (decide ((n1 : Int) > 0) && decide (((gt t1 (n1 - 1)).node) ≥ ((gt t1 n1).node)))) (fun hc3 => ?_) fun hc3 => ?_
      · refine Tx ?_
        have hr2 : (tree_Check t1) = 6 := by rw [← hf1, drop_gt hlt0]; simp only [tree_Check_L0, hc2, hc3, cond_true, cond_false]
        refine cw_ret ?_; rw [hr2]; exact Re () (Vt Vn)
      · refine Tx ?_
        refine rw_q rfl rfl rfl (q_add rfl rfl (fun _ => rfl) rfl (fun _ => rfl) (fun _ => by omega)) ?_
        refine Tx ?_
        refine ⟨(n1 + 1), ⟨hlt0, (by rw [← hf1, drop_gt hlt0]; simp only [tree_Check_L0, hc2, hc3, cond_true, cond_false] : (tree_Check t1) = (tree_Check_L0 t1 (t1.drop (n1 + 1)) (n1 + 1))).symm⟩, (by simp only []; omega), Le4⟩
  · have hge0 : t1.length ≤ n1 := by have := of_decide_eq_false hc1; omega
    refine Tx ?_
    (repeat refine cw_seq ?_); refine Lp [1,2,37,38] [true] (fun (n2 : Nat) => (⟨[(39, .v (.int .i64 (n2 : Int)))], [], [], [], (n2 ≤ t1.length) ∧ (tree_Check_L1 t1 (t1.drop n2)) = (tree_Check t1), t1.length - n2⟩ : Ls)) 0 (Sc (Sc (Sc (Sc Sn)))) (.keep (.nil)) ⟨Nat.zero_le _, (by rw [← hf1, List.drop_of_length_le hge0]; simp only [tree_Check_L0, cond_true, cond_false] : (tree_Check t1) = (tree_Check_L1 t1 t1)).symm⟩ Le4 ?_
    rintro n2 ⟨hkn2, hf2⟩
    simp only [List.cons_append, List.nil_append]
    refine Tx ?_
    refine Cd (b := decide ((n2 : Int) < (t1.length : Int))) (fun hc4 => ?_) fun hc4 => ?_
    · have hlt1 : n2 < t1.length := Int.ofNat_lt.1 (of_decide_eq_true hc4)
      refine Tx ?_
      refine rw_q rfl rfl rfl (q_idx EPlace n2 rfl rfl (fun _ => rfl) rfl (fun _ => rfl) rfl rfl rfl Mm rfl (fun _ => rfl) (fun _ => by first | assumption | omega)) ?_
      refine rw_q rfl rfl rfl (q_leA EPlace rfl rfl (fun _ => rfl) rfl rfl Mm (fun _ => by first | assumption | omega)) ?_
      refine Al fun g3 => ?_
      refine Tx ?_
      refine Cl (tree_Stands_spec y1 t1 ((gt t1 n2).parent) ((gt t1 n2).node)) fun _ => ?_
      refine rw_nil ?_
      (repeat refine cw_seq ?_)
      refine Cd (b := (tree_Stands t1 ((gt t1 n2).parent) ((gt t1 n2).node))) (fun hc5 => ?_) fun hc5 => ?_
      · refine Tx ?_
        have hr3 : (tree_Check t1) = 4 := by rw [← hf2, drop_gt hlt1]; simp only [tree_Check_L1, hc5, cond_true, cond_false]
        refine cw_ret ?_; rw [hr3]; exact Re () (Vt Vn)
      · refine Tx ?_
        refine rw_q rfl rfl rfl (q_add rfl rfl (fun _ => rfl) rfl (fun _ => rfl) (fun _ => by omega)) ?_
        refine Tx ?_
        refine ⟨(n2 + 1), ⟨hlt1, (by rw [← hf2, drop_gt hlt1]; simp only [tree_Check_L1, hc5, cond_true, cond_false] : (tree_Check t1) = (tree_Check_L1 t1 (t1.drop (n2 + 1)))).symm⟩, (by simp only []; omega), Le4⟩
    · have hge1 : t1.length ≤ n2 := by have := of_decide_eq_false hc4; omega
      refine Tx ?_
      have hr4 : (tree_Check t1) = 0 := by rw [← hf2, List.drop_of_length_le hge1]; simp only [tree_Check_L1, cond_true, cond_false]
      refine cw_ret ?_; rw [hr4]; exact Re () (Vt Vn)

def tree_Copy (t1 : List Place) : List Place :=
  t1
theorem tree_Copy_spec (y1 : SlV) (t1 : List Place) : DoesG Tryz.prog 57 [.agg ⟨[y1.val t1.length]⟩] [RdL EPlace y1 t1] ⟨[], []⟩ (fun (X : SlV × Option Nat) => .agg ⟨[X.1.val (tree_Copy t1).length]⟩) (fun (X : SlV × Option Nat) => []) (fun (X : SlV × Option Nat) => ⟨[], [ownL EPlace 96 X.1 X.2 (tree_Copy t1)]⟩) := by
  refine does_ofG tab_ok Tryz.func57 rfl Tryz.ntmps57 Tryz.results57 rfl inferInstance (fun _ => inferInstance) fun C => ?_
  refine Pc EPlace y1 t1 24 fun hlen1 => ?_
  refine Tx ?_
  refine Bx fun g1 => ?_
  refine Al fun g2 => ?_
  refine Tx ?_
  refine Cg (slices_Clone_Place_spec y1 t1) fun x1 => ?_
  refine Tx ?_
  have hr1 : (tree_Copy t1) = t1 := by simp only [tree_Copy, cond_true, cond_false]
  refine cw_ret ?_; rw [hr1]; exact Re ⟨x1.1, x1.2⟩ (Va Vn)


def tree_Put_L0 (p1 : Place) : List Place → Bool → (List Place) → (List Place)
  | [], done1, p2 => (bif (!done1) then (p2 ++ [p1]) else p2)
  | pn1 :: rn1, done1, p2 => (bif ((!done1) && decide ((pn1.node) ≥ p1.node)) then (bif ((pn1.node) != p1.node) then (tree_Put_L0 p1 rn1 true ((p2 ++ [p1]) ++ [pn1])) else (tree_Put_L0 p1 rn1 true (p2 ++ [p1]))) else (bif ((pn1.node) != p1.node) then (tree_Put_L0 p1 rn1 done1 (p2 ++ [pn1])) else (tree_Put_L0 p1 rn1 done1 p2)))
def tree_Put (t1 : List Place) (p1 : Place) : List Place :=
  (tree_Put_L0 p1 t1 (decide (p1.parent < 0)) [])
theorem tree_Put_spec (y1 : SlV) (t1 : List Place) (p1 : Place) (hl : t1.length ≤ 1000000) : Does Tryz.prog 80 [.agg ⟨[y1.val t1.length]⟩, .agg ⟨[.int .i64 p1.node, .int .i64 p1.parent, .int .i64 p1.name]⟩] [RdL EPlace y1 t1] (fun (X : SlV) => .agg ⟨[X.val (tree_Put t1 p1).length]⟩) (fun (X : SlV) => [RdL EPlace X (tree_Put t1 p1)]) := by
  refine does_of tab_ok Tryz.func80 rfl Tryz.ntmps80 Tryz.results80 rfl inferInstance (fun _ => inferInstance) fun C => ?_
  refine Pc EPlace y1 t1 24 fun hlen1 => ?_
  refine Tx ?_
  refine Bx fun g1 => ?_
  refine Bx fun g2 => ?_
  refine Al fun g3 => ?_
  refine Tx ?_
  refine Al fun g4 => ?_
  refine Tx ?_
  (repeat refine cw_seq ?_); refine Lp [3,4,5,13,14] [false, true, true, true] (fun (i_ : Bool × Nat × List Place × SlV × Option Nat) => match i_ with | ⟨done1, n1, p2, x1, x1b⟩ => (⟨[(6, .v (.bool done1)), (15, .v (.int .i64 (n1 : Int)))], [⟨g4, 26, [x1.val p2.length]⟩], [ownL EPlace 96 x1 x1b p2], [], (n1 ≤ t1.length) ∧ (p2.length ≤ 2 * n1) ∧ (tree_Put_L0 p1 (t1.drop n1) done1 p2) = (tree_Put t1 p1), t1.length - n1⟩ : Ls)) ⟨decide (p1.parent < 0), 0, [], ⟨none, 0⟩, none⟩ (Sc (Sc (Sc (Sc (Sc Sn))))) (.drop (.keep (.keep (.keep (.nil))))) ⟨Nat.zero_le _, (by first | exact Nat.le_refl _ | exact Nat.zero_le _ | omega), (by simp only [tree_Put, cond_true, cond_false] : (tree_Put t1 p1) = (tree_Put_L0 p1 t1 (decide (p1.parent < 0)) [])).symm⟩ (Le.trans (le_nilL EPlace 96) Le4) ?_
  rintro ⟨done1, n1, p2, x1, x1b⟩ ⟨hkn1, hp2, hf1⟩
  simp only [List.cons_append, List.nil_append]
  refine Tx ?_
  refine Cd (b := decide ((n1 : Int) < (t1.length : Int))) (fun hc1 => ?_) fun hc1 => ?_
  · have hlt0 : n1 < t1.length := Int.ofNat_lt.1 (of_decide_eq_true hc1)
    refine Tx ?_
    refine rw_q rfl rfl rfl (q_idx EPlace n1 rfl rfl (fun _ => rfl) rfl (fun _ => rfl) rfl rfl rfl Mm rfl (fun _ => rfl) (fun _ => by first | assumption | omega)) ?_
    refine rw_q rfl rfl rfl (q_leA EPlace rfl rfl (fun _ => rfl) rfl rfl Mm (fun _ => by first | assumption | omega)) ?_
    refine Al fun g5 => ?_
    refine Tx ?_
    refine Cd (b := ((!done1) && decide (((gt t1 n1).node) ≥ p1.node))) (fun hc2 => ?_) fun hc2 => ?_
    · refine Tx ?_
      refine rw_bsliceL EPlace [p1] .sq (guard_none rfl) rfl rfl rfl rfl rfl rfl rfl rfl rfl rfl rfl rfl rfl rfl rfl fun x2 x2b => ?_
      refine rw_appendL EPlace p2 [p1] (b := x1b) .sq (fun _ _ => .inl ⟨_, rfl⟩) (guard_none rfl) rfl rfl rfl rfl rfl rfl rfl (fun _ _ => Uo) rfl rfl rfl rfl rfl rfl rfl (reads_ownL (e := 96) (b := x2b) Mm) (by show (p2.length + 1) * 24 ≤ 140737488355328; (try simp only [List.length_append, List.length_cons, List.length_nil]); omega) fun x3 x3b => ?_
      refine Tx ?_
      refine Cd (b := (((gt t1 n1).node) != p1.node)) (fun hc3 => ?_) fun hc3 => ?_
      · have hc3p := bne_iff_ne.1 hc3
        refine Tx ?_
        refine rw_bsliceL EPlace [(gt t1 n1)] .sq (guard_none rfl) rfl rfl rfl rfl rfl rfl rfl rfl rfl rfl rfl rfl rfl rfl rfl fun x4 x4b => ?_
        refine rw_appendL EPlace (p2 ++ [p1]) [(gt t1 n1)] (b := x3b) .sq (fun _ _ => .inl ⟨_, rfl⟩) (guard_none rfl) rfl rfl rfl rfl rfl rfl rfl (fun _ _ => Uo) rfl rfl rfl rfl rfl rfl rfl (reads_ownL (e := 96) (b := x4b) Mm) (by show ((p2 ++ [p1]).length + 1) * 24 ≤ 140737488355328; (try simp only [List.length_append, List.length_cons, List.length_nil]); omega) fun x5 x5b => ?_
        refine Tx ?_
        refine rw_q rfl rfl rfl (q_add rfl rfl (fun _ => rfl) rfl (fun _ => rfl) (fun _ => by omega)) ?_
        refine Tx ?_
        refine ⟨⟨true, (n1 + 1), ((p2 ++ [p1]) ++ [(gt t1 n1)]), x5, x5b⟩, ⟨hlt0, (by simp only [List.length_append, List.length_cons, List.length_nil]; omega), (by rw [← hf1, drop_gt hlt0]; simp only [tree_Put_L0, hc2, hc3, cond_true, cond_false] : (tree_Put t1 p1) = (tree_Put_L0 p1 (t1.drop (n1 + 1)) true ((p2 ++ [p1]) ++ [(gt t1 n1)]))).symm⟩, (by simp only []; omega), Le4⟩
      · have hc3p := eq_of_bne_false hc3
        refine Tx ?_
        refine rw_q rfl rfl rfl (q_add rfl rfl (fun _ => rfl) rfl (fun _ => rfl) (fun _ => by omega)) ?_
        refine Tx ?_
        refine ⟨⟨true, (n1 + 1), (p2 ++ [p1]), x3, x3b⟩, ⟨hlt0, (by simp only [List.length_append, List.length_cons, List.length_nil]; omega), (by rw [← hf1, drop_gt hlt0]; simp only [tree_Put_L0, hc2, hc3, cond_true, cond_false] : (tree_Put t1 p1) = (tree_Put_L0 p1 (t1.drop (n1 + 1)) true (p2 ++ [p1]))).symm⟩, (by simp only []; omega), Le4⟩
    · refine Tx ?_
      refine Cd (b := (((gt t1 n1).node) != p1.node)) (fun hc4 => ?_) fun hc4 => ?_
      · have hc4p := bne_iff_ne.1 hc4
        refine Tx ?_
        refine rw_bsliceL EPlace [(gt t1 n1)] .sq (guard_none rfl) rfl rfl rfl rfl rfl rfl rfl rfl rfl rfl rfl rfl rfl rfl rfl fun x6 x6b => ?_
        refine rw_appendL EPlace p2 [(gt t1 n1)] (b := x1b) .sq (fun _ _ => .inl ⟨_, rfl⟩) (guard_none rfl) rfl rfl rfl rfl rfl rfl rfl (fun _ _ => Uo) rfl rfl rfl rfl rfl rfl rfl (reads_ownL (e := 96) (b := x6b) Mm) (by show (p2.length + 1) * 24 ≤ 140737488355328; (try simp only [List.length_append, List.length_cons, List.length_nil]); omega) fun x7 x7b => ?_
        refine Tx ?_
        refine rw_q rfl rfl rfl (q_add rfl rfl (fun _ => rfl) rfl (fun _ => rfl) (fun _ => by omega)) ?_
        refine Tx ?_
        refine ⟨⟨done1, (n1 + 1), (p2 ++ [(gt t1 n1)]), x7, x7b⟩, ⟨hlt0, (by simp only [List.length_append, List.length_cons, List.length_nil]; omega), (by rw [← hf1, drop_gt hlt0]; simp only [tree_Put_L0, hc2, hc4, cond_true, cond_false] : (tree_Put t1 p1) = (tree_Put_L0 p1 (t1.drop (n1 + 1)) done1 (p2 ++ [(gt t1 n1)]))).symm⟩, (by simp only []; omega), Le4⟩
      · have hc4p := eq_of_bne_false hc4
        refine Tx ?_
        refine rw_q rfl rfl rfl (q_add rfl rfl (fun _ => rfl) rfl (fun _ => rfl) (fun _ => by omega)) ?_
        refine Tx ?_
        refine ⟨⟨done1, (n1 + 1), p2, x1, x1b⟩, ⟨hlt0, (by simp only [List.length_append, List.length_cons, List.length_nil]; omega), (by rw [← hf1, drop_gt hlt0]; simp only [tree_Put_L0, hc2, hc4, cond_true, cond_false] : (tree_Put t1 p1) = (tree_Put_L0 p1 (t1.drop (n1 + 1)) done1 p2)).symm⟩, (by simp only []; omega), Le4⟩
  · have hge0 : t1.length ≤ n1 := by have := of_decide_eq_false hc1; omega
    refine Tx ?_
    refine Cd (b := (!done1)) (fun hc5 => ?_) fun hc5 => ?_
    · refine Tx ?_
      refine rw_bsliceL EPlace [p1] .sq (guard_none rfl) rfl rfl rfl rfl rfl rfl rfl rfl rfl rfl rfl rfl rfl rfl rfl fun x8 x8b => ?_
      refine rw_appendL EPlace p2 [p1] (b := x1b) .sq (fun _ _ => .inl ⟨_, rfl⟩) (guard_none rfl) rfl rfl rfl rfl rfl rfl rfl (fun _ _ => Uo) rfl rfl rfl rfl rfl rfl rfl (reads_ownL (e := 96) (b := x8b) Mm) (by show (p2.length + 1) * 24 ≤ 140737488355328; (try simp only [List.length_append, List.length_cons, List.length_nil]); omega) fun x9 x9b => ?_
      refine Tx ?_
      refine cw_le (le_freezeL EPlace 96 x9 x9b (p2 ++ [p1]) Uo) ?_
      have hr1 : (tree_Put t1 p1) = (p2 ++ [p1]) := by rw [← hf1, List.drop_of_length_le hge0]; simp only [tree_Put_L0, hc5, cond_true, cond_false]
      refine cw_ret ?_; rw [hr1]; exact Re x9 (Va Vn)
    · refine Tx ?_
      refine cw_le (le_freezeL EPlace 96 x1 x1b p2 Uo) ?_
      have hr2 : (tree_Put t1 p1) = p2 := by rw [← hf1, List.drop_of_length_le hge0]; simp only [tree_Put_L0, hc5, cond_true, cond_false]
      refine cw_ret ?_; rw [hr2]; exact Re x1 (Va Vn)

def move_Check (o1 : Op) : Int :=
  (bif (((((((((((((decide (o1.time < 1) || decide (o1.time > 10000)) || decide (o1.who < 0)) || decide (o1.who ≥ 3)) || decide (o1.node < 1)) || decide (o1.node ≥ 16)) || decide (o1.parent < 0)) || decide (o1.parent > 16)) || decide (o1.name < 0)) || decide (o1.name > 99)) || decide (o1.life < 1)) || decide (o1.life > 50)) || decide (o1.seq < 1)) || decide (o1.seq > 30)) then 3 else 0)
theorem move_Check_spec (o1 : Op) : Does Tryz.prog 43 [.agg ⟨[.int .i64 o1.time, .int .i64 o1.who, .int .i64 o1.node, .int .i64 o1.parent, .int .i64 o1.name, .int .i64 o1.life, .int .i64 o1.seq]⟩] [] (fun (_ : Unit) => .int .i64 (move_Check o1)) (fun (_ : Unit) => []) := by
  refine does_of tab_ok Tryz.func43 rfl Tryz.ntmps43 Tryz.results43 rfl inferInstance (fun _ => inferInstance) fun C => ?_
  refine Tx ?_
  refine Bx fun g1 => ?_
  refine Tx ?_
  refine Cd (b := (((((((((((((decide (o1.time < 1) || decide (o1.time > 10000)) || decide (o1.who < 0)) || decide (o1.who ≥ 3)) || decide (o1.node < 1)) || decide (o1.node ≥ 16)) || decide (o1.parent < 0)) || decide (o1.parent > 16)) || decide (o1.name < 0)) || decide (o1.name > 99)) || decide (o1.life < 1)) || decide (o1.life > 50)) || decide (o1.seq < 1)) || decide (o1.seq > 30))) (fun hc1 => ?_) fun hc1 => ?_
  · refine Tx ?_
    have hr1 : (move_Check o1) = 3 := by simp only [move_Check, hc1, cond_true, cond_false]
    refine cw_ret ?_; rw [hr1]; exact Re () (Vt Vn)
  · refine Tx ?_
    have hr2 : (move_Check o1) = 0 := by simp only [move_Check, hc1, cond_true, cond_false]
    refine cw_ret ?_; rw [hr2]; exact Re () (Vt Vn)

def move_Before (a1 : Stamp) (b1 : Stamp) : Bool :=
  (decide (a1.time < b1.time) || ((a1.time == b1.time) && decide (a1.who < b1.who)))
theorem move_Before_spec (a1 : Stamp) (b1 : Stamp) : Does Tryz.prog 60 [.agg ⟨[.int .i64 a1.time, .int .i64 a1.who]⟩, .agg ⟨[.int .i64 b1.time, .int .i64 b1.who]⟩] [] (fun (_ : Unit) => .bool (move_Before a1 b1)) (fun (_ : Unit) => []) := by
  refine does_of tab_ok Tryz.func60 rfl Tryz.ntmps60 Tryz.results60 rfl inferInstance (fun _ => inferInstance) fun C => ?_
  refine Tx ?_
  refine Bx fun g1 => ?_
  refine Bx fun g2 => ?_
  refine Tx ?_
  have hr1 : (move_Before a1 b1) = (decide (a1.time < b1.time) || ((a1.time == b1.time) && decide (a1.who < b1.who))) := by simp only [move_Before, cond_true, cond_false]
  refine cw_ret ?_; rw [hr1]; exact Re () (Vt Vn)
end Go.Proofs.YtccmadehnoihnaaGreatDoor

namespace Go.Proofs.YtccmadehnoihnaaGreatDoor
open Go Go.Proofs.YtccmadehnoihnaaGreatDoor.Fw Go.Proofs
theorem place_ok {p : Place} (h : tree_place p = 0) : 1 ≤ p.node ∧ p.node < 16 ∧ 0 ≤ p.parent ∧ p.parent ≤ 16 ∧ 0 ≤ p.name ∧ p.name ≤ 99 := by
  unfold tree_place at h
  cases hb : (((((decide (p.node < 1) || decide (p.node ≥ 16)) || decide (p.parent < 0)) || decide (p.parent > 16)) || decide (p.name < 0)) || decide (p.name > 99)) with
  | true => rw [hb] at h; simp at h
  | false => simp at hb; omega
theorem tree_Check_L0_ok (t : List Place) : ∀ (r : List Place) (k : Nat), r = t.drop k → tree_Check_L0 t r k = 0 →
    (∀ i, k ≤ i → i < t.length → tree_place (gt t i) = 0) ∧ (∀ i, k ≤ i → i < t.length → 0 < i → (gt t (i - 1)).node < (gt t i).node) ∧ tree_Check_L1 t t = 0
  | [], k, hr, h => by
    have : t.length ≤ k := by have := congrArg List.length hr; simp at this; omega
    exact ⟨fun i h1 h2 => by omega, fun i h1 h2 => by omega, h⟩
  | p :: r, k, hr, h => by
    have hk : k < t.length := by have := congrArg List.length hr; simp at this; omega
    rw [drop_gt hk] at hr
    obtain ⟨rfl, hr'⟩ := List.cons.inj hr
    rw [tree_Check_L0] at h
    cases h1 : (tree_place (gt t k) != 0) with
    | true => rw [h1, cond_true] at h; rw [h] at h1; simp at h1
    | false =>
      rw [h1, cond_false] at h
      cases h2 : (decide ((k : Int) > 0) && decide ((gt t (k - 1)).node ≥ (gt t k).node)) with
      | true => rw [h2] at h; simp at h
      | false =>
        rw [h2, cond_false] at h
        obtain ⟨ha, hb, hc⟩ := tree_Check_L0_ok t r (k + 1) hr' h
        refine ⟨fun i hi hl => ?_, fun i hi hl hp => ?_, hc⟩
        · by_cases he : i = k
          · subst he; simpa using h1
          · exact ha i (by omega) hl
        · by_cases he : i = k
          · subst he
            have : (0 : Int) < (i : Int) := by omega
            simp [this] at h2
            omega
          · exact hb i (by omega) hl hp
theorem tree_Check_ok {t : List Place} (h : tree_Check t = 0) : (∀ i, i < t.length → tree_place (gt t i) = 0) ∧ (∀ i, i < t.length → 0 < i → (gt t (i - 1)).node < (gt t i).node) ∧ tree_Check_L1 t t = 0 := by
  obtain ⟨a, b, c⟩ := tree_Check_L0_ok t t 0 rfl h
  exact ⟨fun i hi => a i (Nat.zero_le _) hi, fun i hi hp => b i (Nat.zero_le _) hi hp, c⟩
theorem check_len {t : List Place} (h : tree_Check t = 0) : t.length ≤ 15 := by
  obtain ⟨ha, hb, _⟩ := tree_Check_ok h
  have key : ∀ i, i < t.length → (i : Int) + 1 ≤ (gt t i).node := by
    intro i
    induction i with
    | zero => intro hi; have := (place_ok (ha 0 hi)).1; omega
    | succ i ih =>
      intro hi
      have h1 := ih (by omega)
      have h2 := hb (i + 1) hi (by omega)
      simp at h2
      omega
  by_cases hl : t.length ≤ 15
  · exact hl
  · have h1 := key 15 (by omega)
    have h2 := place_ok (ha 15 (by omega))
    omega
theorem small_of (t : List Place) (h : tree_Check t = 0) : t.length ≤ 1000000 := Nat.le_trans (check_len h) (by omega)
end Go.Proofs.YtccmadehnoihnaaGreatDoor

set_option maxHeartbeats 2000000
namespace Go.Proofs.YtccmadehnoihnaaGreatDoor
open Go Go.Proofs.YtccmadehnoihnaaGreatDoor.Fw Go.Proofs
attribute [local irreducible] RW CW
def move_Do (t1 : List Place) (o1 : Op) : (List Place) × Step × Int :=
  (bif ((tree_Check t1) != 0) then (([] : List Place), (⟨(⟨0, 0, 0, 0, 0, 0, 0⟩ : Op), false, (⟨0, 0, 0⟩ : Place)⟩ : Step), (tree_Check t1)) else (bif ((move_Check o1) != 0) then (([] : List Place), (⟨(⟨0, 0, 0, 0, 0, 0, 0⟩ : Op), false, (⟨0, 0, 0⟩ : Place)⟩ : Step), (move_Check o1)) else (bif (tree_Stands t1 o1.parent o1.node) then ((tree_Copy t1), (⟨o1, false, (tree_Find t1 o1.node)⟩ : Step), 0) else ((tree_Put t1 (⟨o1.node, o1.parent, o1.name⟩ : Place)), (⟨o1, true, (tree_Find t1 o1.node)⟩ : Step), 0))))
theorem move_Do_spec (y1 : SlV) (t1 : List Place) (o1 : Op) : Does Tryz.prog 63 [.agg ⟨[y1.val t1.length]⟩, .agg ⟨[.int .i64 o1.time, .int .i64 o1.who, .int .i64 o1.node, .int .i64 o1.parent, .int .i64 o1.name, .int .i64 o1.life, .int .i64 o1.seq]⟩] [RdL EPlace y1 t1] (fun (X : SlV) => .tuple #[.agg ⟨[X.val ((move_Do t1 o1).1).length]⟩, .agg ⟨[.int .i64 ((((move_Do t1 o1).2.1).o).time), .int .i64 ((((move_Do t1 o1).2.1).o).who), .int .i64 ((((move_Do t1 o1).2.1).o).node), .int .i64 ((((move_Do t1 o1).2.1).o).parent), .int .i64 ((((move_Do t1 o1).2.1).o).name), .int .i64 ((((move_Do t1 o1).2.1).o).life), .int .i64 ((((move_Do t1 o1).2.1).o).seq), .bool (((move_Do t1 o1).2.1).did), .int .i64 ((((move_Do t1 o1).2.1).was).node), .int .i64 ((((move_Do t1 o1).2.1).was).parent), .int .i64 ((((move_Do t1 o1).2.1).was).name)]⟩, .int .i64 ((move_Do t1 o1).2.2)]) (fun (X : SlV) => [RdL EPlace X ((move_Do t1 o1).1)]) := by
  refine does_of tab_ok Tryz.func63 rfl Tryz.ntmps63 Tryz.results63 rfl inferInstance (fun _ => inferInstance) fun C => ?_
  refine Pc EPlace y1 t1 24 fun hlen1 => ?_
  refine Tx ?_
  refine Bx fun g1 => ?_
  refine Bx fun g2 => ?_
  refine Al fun g3 => ?_
  refine Al fun g4 => ?_
  refine Tx ?_
  refine Cl (tree_Check_spec y1 t1) fun _ => ?_
  refine Tx ?_
  refine Cd (b := ((tree_Check t1) != 0)) (fun hc1 => ?_) fun hc1 => ?_
  · have hc1p := bne_iff_ne.1 hc1
    refine Tx ?_
    refine Fc EPlace ?_
    have hr1 : (move_Do t1 o1) = (([] : List Place), (⟨(⟨0, 0, 0, 0, 0, 0, 0⟩ : Op), false, (⟨0, 0, 0⟩ : Place)⟩ : Step), (tree_Check t1)) := by simp only [move_Do, hc1, cond_true, cond_false]
    refine cw_ret ?_; rw [hr1]; exact Re (⟨none, 0⟩ : SlV) (Va (Va (Vt Vn)))
  · have hc1p := eq_of_bne_false hc1
    refine Tx ?_
    refine Cl (move_Check_spec o1) fun _ => ?_
    refine Tx ?_
    refine Cd (b := ((move_Check o1) != 0)) (fun hc2 => ?_) fun hc2 => ?_
    · have hc2p := bne_iff_ne.1 hc2
      refine Tx ?_
      refine Fc EPlace ?_
      have hr2 : (move_Do t1 o1) = (([] : List Place), (⟨(⟨0, 0, 0, 0, 0, 0, 0⟩ : Op), false, (⟨0, 0, 0⟩ : Place)⟩ : Step), (move_Check o1)) := by simp only [move_Do, hc1, hc2, cond_true, cond_false]
      refine cw_ret ?_; rw [hr2]; exact Re (⟨none, 0⟩ : SlV) (Va (Va (Vt Vn)))
    · have hc2p := eq_of_bne_false hc2
      refine Tx ?_
      refine cw_join [2, 3, 4, 5, 6] [true, true, true, true] (fun (g5 : Nat) => [(9, .v (.pointer (some ⟨g5, 0, none⟩)))]) (fun (g5 : Nat) => [⟨g5, 98, [.int .i64 o1.time, .int .i64 o1.who, .int .i64 o1.node, .int .i64 o1.parent, .int .i64 o1.name, .int .i64 o1.life, .int .i64 o1.seq, .bool false, .int .i64 ((tree_Find t1 o1.node).node), .int .i64 ((tree_Find t1 o1.node).parent), .int .i64 ((tree_Find t1 o1.node).name)]⟩]) (fun (g5 : Nat) => []) (fun (g5 : Nat) => []) (fun _ => True) (.cons rfl (.cons rfl (.cons rfl (.cons rfl (.cons rfl (.nil _)))))) (.keep (.keep (.keep (.keep (.nil))))) ?_ ?_
      · refine cw_regionA (fun j => match j with | 7 => none | _ => some []) ?_
        refine Ra 0 [1,2,3,4,6] rfl (q_ldA rfl rfl (fun _ => rfl) rfl Mm rfl) ?_
        refine Rb 1 [2,3,6] [4,5,7] rfl (q_ldA rfl rfl (fun _ => rfl) rfl Mm rfl) ?_
        refine Rb 2 [6] [3,4,5,7] rfl Qp ?_
        refine Rb 3 [6] [4,5,7] rfl Q1 ?_
        refine ra_two 4 6 Kr ?_ ?_
        · refine rw_call (tree_Find_spec y1 t1 o1.node) (.an rfl rfl) (guard_none rfl) rfl rfl rfl Kr rfl rfl Sm ?_
          intro _
          refine Ra 5 [6] rfl Qp ?_
          refine ra_one 6 Kr ?_
          refine rw_alloc (.an rfl rfl) (guard_none rfl) rfl rfl rfl rfl fun g6 => ?_
          refine ra_one 7 Kr ?_
          refine rw_stA (.lo [g6] rfl rfl) (.inr (by simp)) (guard_none rfl) rfl rfl rfl rfl rfl rfl rfl rfl rfl Ub rfl ?_
          refine ra_nil Kr ?_
          refine ⟨g6, trivial, Le4⟩
        · refine rw_alloc (.an rfl rfl) (guard_none rfl) rfl rfl rfl rfl fun g7 => ?_
          refine ra_one 4 Kr ?_
          refine rw_call (tree_Find_spec y1 t1 o1.node) (.an rfl rfl) (guard_none rfl) rfl rfl rfl Kr rfl rfl Sm ?_
          intro _
          refine Ra 5 [] rfl Qp ?_
          refine ra_one 7 Kr ?_
          refine rw_stA (.lo [g7] rfl rfl) (.inr (by simp)) (guard_none rfl) rfl rfl rfl rfl rfl rfl rfl rfl rfl Ub rfl ?_
          refine ra_nil Kr ?_
          refine ⟨g7, trivial, Le4⟩
      · rintro g5 -
        simp only [List.cons_append, List.nil_append]
        refine Tx ?_
        refine Cl (tree_Stands_spec y1 t1 o1.parent o1.node) fun _ => ?_
        refine rw_nil ?_
        (repeat refine cw_seq ?_)
        refine Cd (b := (tree_Stands t1 o1.parent o1.node)) (fun hc3 => ?_) fun hc3 => ?_
        · (repeat refine cw_seq ?_); refine cw_regionA (fun j => match j with | 3 => some [g3] | 4 => some [g4] | _ => some []) ?_
          refine Ra 0 [2] rfl (q_ldA rfl rfl (fun _ => rfl) rfl Mm rfl) ?_
          refine ra_q (.an (i := 2) (js := [1, 3]) rfl Kr Kr Kr Kr) (.keep (.keep (.drop (SplitB.all _)))) (by intro g hg; simp at hg; simp [hg]) rfl rfl rfl (q_ldA rfl rfl (fun _ => rfl) rfl Mm rfl) ?_
          refine ra_one 1 Kr ?_
          refine rw_callG (tree_Copy_spec y1 t1) (.an rfl rfl) (.inr (by simp [Lent.ids])) (guard_none rfl) rfl rfl rfl Kr rfl rfl Sm (.nil _) (.nil _) ?_
          intro x1
          refine ra_one 3 Kr ?_
          refine rw_stA (.an rfl rfl) (.inr (by simp)) (guard_none rfl) rfl rfl rfl rfl rfl rfl rfl rfl rfl Ub rfl ?_
          refine ra_one 4 Kr ?_
          refine rw_stA (.an rfl rfl) (.inr (by simp)) (guard_none rfl) rfl rfl rfl rfl rfl rfl rfl rfl rfl Ub rfl ?_
          refine Ra 5 [] rfl Qp ?_
          refine ra_nil Kr ?_
          (repeat refine cw_seq ?_)
          refine cw_le (le_freezeL EPlace 96 x1.1 x1.2 (tree_Copy t1) Uo) ?_
          have hr3 : (move_Do t1 o1) = ((tree_Copy t1), (⟨o1, false, (tree_Find t1 o1.node)⟩ : Step), 0) := by simp only [move_Do, hc1, hc2, hc3, cond_true, cond_false]
          refine cw_ret ?_; rw [hr3]; exact Re x1.1 (Va (Va (Vt Vn)))
        · refine Tx ?_
          (repeat refine cw_seq ?_); refine cw_regionA (fun j => match j with | 10 => some [g3] | 11 => some [g4] | _ => some []) ?_
          refine Ra 0 [1,2,3,4,5,6,7,9] rfl (q_ldA rfl rfl (fun _ => rfl) rfl Mm rfl) ?_
          refine Rb 1 [3,4,5,6,9] [2,7,8,10,11,12] rfl Qp ?_
          refine Rb 2 [3,4,5,6,9] [7,8,10,11,12] rfl Q1 ?_
          refine Rb 3 [5,6,9] [4,7,8,10,11,12] rfl Qp ?_
          refine Rb 4 [5,6,9] [7,8,10,11,12] rfl Q1 ?_
          refine Rb 5 [9] [6,7,8,10,11,12] rfl Qp ?_
          refine Rb 6 [9] [7,8,10,11,12] rfl Q1 ?_
          refine Ra 7 [9] rfl Qp ?_
          refine ra_q (.an (i := 9) (js := [8, 10]) rfl Kr Kr Kr Kr) (.keep (.keep (.drop (SplitB.all _)))) (by intro g hg; simp at hg; simp [hg]) rfl rfl rfl (q_ldA rfl rfl (fun _ => rfl) rfl Mm rfl) ?_
          refine ra_one 8 Kr ?_
          refine rw_call (tree_Put_spec y1 t1 (⟨o1.node, o1.parent, o1.name⟩ : Place) (small_of t1 (by first | assumption | simpa using hc1))) (.an rfl rfl) (guard_none rfl) rfl rfl rfl Kr rfl rfl Sm ?_
          intro x2
          refine Pr EPlace x2 (tree_Put t1 (⟨o1.node, o1.parent, o1.name⟩ : Place)) 24 fun hlen2 => ?_
          refine ra_one 10 Kr ?_
          refine rw_stA (.an rfl rfl) (.inr (by simp)) (guard_none rfl) rfl rfl rfl rfl rfl rfl rfl rfl rfl Ub rfl ?_
          refine ra_one 11 Kr ?_
          refine rw_stA (.an rfl rfl) (.inr (by simp)) (guard_none rfl) rfl rfl rfl rfl rfl rfl rfl rfl rfl Ub rfl ?_
          refine Ra 12 [] rfl Qp ?_
          refine ra_nil Kr ?_
          (repeat refine cw_seq ?_)
          have hr4 : (move_Do t1 o1) = ((tree_Put t1 (⟨o1.node, o1.parent, o1.name⟩ : Place)), (⟨o1, true, (tree_Find t1 o1.node)⟩ : Step), 0) := by simp only [move_Do, hc1, hc2, hc3, cond_true, cond_false]
          refine cw_ret ?_; rw [hr4]; exact Re x2 (Va (Va (Vt Vn)))

def move_Undo (t1 : List Place) (s1 : Step) : (List Place) × Int :=
  (bif ((tree_Check t1) != 0) then (([] : List Place), (tree_Check t1)) else (bif ((move_Check s1.o) != 0) then (([] : List Place), (move_Check s1.o)) else (bif (!s1.did) then ((tree_Copy t1), 0) else (bif (s1.was.node == 0) then (bif ((s1.o.node != s1.o.node) || (!(decide ((tree_Find t1 s1.o.node) = (⟨s1.o.node, s1.o.parent, s1.o.name⟩ : Place))))) then (([] : List Place), 4) else (bif ((tree_Check (tree_Put t1 (⟨s1.o.node, (-1), 0⟩ : Place))) != 0) then (([] : List Place), (tree_Check (tree_Put t1 (⟨s1.o.node, (-1), 0⟩ : Place)))) else ((tree_Put t1 (⟨s1.o.node, (-1), 0⟩ : Place)), 0))) else (bif ((s1.was.node != s1.o.node) || (!(decide ((tree_Find t1 s1.o.node) = (⟨s1.o.node, s1.o.parent, s1.o.name⟩ : Place))))) then (([] : List Place), 4) else (bif ((tree_Check (tree_Put t1 s1.was)) != 0) then (([] : List Place), (tree_Check (tree_Put t1 s1.was))) else ((tree_Put t1 s1.was), 0)))))))
theorem move_Undo_spec (y1 : SlV) (t1 : List Place) (s1 : Step) : Does Tryz.prog 61 [.agg ⟨[y1.val t1.length]⟩, .agg ⟨[.int .i64 s1.o.time, .int .i64 s1.o.who, .int .i64 s1.o.node, .int .i64 s1.o.parent, .int .i64 s1.o.name, .int .i64 s1.o.life, .int .i64 s1.o.seq, .bool s1.did, .int .i64 s1.was.node, .int .i64 s1.was.parent, .int .i64 s1.was.name]⟩] [RdL EPlace y1 t1] (fun (X : SlV) => .tuple #[.agg ⟨[X.val ((move_Undo t1 s1).1).length]⟩, .int .i64 ((move_Undo t1 s1).2)]) (fun (X : SlV) => [RdL EPlace X ((move_Undo t1 s1).1)]) := by
  refine does_of tab_ok Tryz.func61 rfl Tryz.ntmps61 Tryz.results61 rfl inferInstance (fun _ => inferInstance) fun C => ?_
  refine Pc EPlace y1 t1 24 fun hlen1 => ?_
  refine Tx ?_
  refine Bx fun g1 => ?_
  refine Bx fun g2 => ?_
  refine Al fun g3 => ?_
  refine Tx ?_
  refine Cl (tree_Check_spec y1 t1) fun _ => ?_
  refine Tx ?_
  refine Cd (b := ((tree_Check t1) != 0)) (fun hc1 => ?_) fun hc1 => ?_
  · have hc1p := bne_iff_ne.1 hc1
    refine Tx ?_
    refine Fc EPlace ?_
    have hr1 : (move_Undo t1 s1) = (([] : List Place), (tree_Check t1)) := by simp only [move_Undo, hc1, cond_true, cond_false]
    refine cw_ret ?_; rw [hr1]; exact Re (⟨none, 0⟩ : SlV) (Va (Vt Vn))
  · have hc1p := eq_of_bne_false hc1
    refine Tx ?_
    refine Cl (move_Check_spec s1.o) fun _ => ?_
    refine Tx ?_
    refine Cd (b := ((move_Check s1.o) != 0)) (fun hc2 => ?_) fun hc2 => ?_
    · have hc2p := bne_iff_ne.1 hc2
      refine Tx ?_
      refine Fc EPlace ?_
      have hr2 : (move_Undo t1 s1) = (([] : List Place), (move_Check s1.o)) := by simp only [move_Undo, hc1, hc2, cond_true, cond_false]
      refine cw_ret ?_; rw [hr2]; exact Re (⟨none, 0⟩ : SlV) (Va (Vt Vn))
    · have hc2p := eq_of_bne_false hc2
      refine Tx ?_
      refine Cd (b := (!s1.did)) (fun hc3 => ?_) fun hc3 => ?_
      · refine Tx ?_
        refine Cg (tree_Copy_spec y1 t1) fun x1 => ?_
        refine Tx ?_
        refine cw_le (le_freezeL EPlace 96 x1.1 x1.2 (tree_Copy t1) Uo) ?_
        have hr3 : (move_Undo t1 s1) = ((tree_Copy t1), 0) := by simp only [move_Undo, hc1, hc2, hc3, cond_true, cond_false]
        refine cw_ret ?_; rw [hr3]; exact Re x1.1 (Va (Vt Vn))
      · refine Tx ?_
        refine Al fun g4 => ?_
        refine Tx ?_
        refine Cd (b := (s1.was.node == 0)) (fun hc4 => ?_) fun hc4 => ?_
        · have hc4p := eq_of_beq hc4
          refine Tx ?_
          refine Al fun g5 => ?_
          refine Tx ?_
          (repeat refine cw_seq ?_); refine cw_regionA (fun _ => some []) ?_
          refine Rb 0 [2,3,4] [1,5,6,7,8,9,10,11,12,13,14] rfl Qp ?_
          refine Rb 1 [2,3,4] [5,6,7,8,9,10,11,12,13,14] rfl Q1 ?_
          refine Rb 2 [] [3,4,5,6,7,8,9,10,11,12,13,14] rfl Qp ?_
          refine Rb 3 [] [4,5,6,7,8,9,10,11,12,13,14] rfl Qp ?_
          refine Rb 4 [] [5,6,7,8,9,10,11,12,13,14] rfl Q1 ?_
          refine Rb 5 [] [6,7,8,9,10,11,12,13,14] rfl Qp ?_
          refine Ra 6 [] rfl Qp ?_
          refine Gb 7 [8,9,10,12] [11,13,14] rfl (guard_vf rfl rfl rfl) (q_ldA rfl rfl Bt rfl Mm rfl) ?_
          refine Gb 8 [12] [9,10,11,13,14] rfl (guard_vf rfl rfl rfl) (q_pev rfl Bt) ?_
          refine Gb 9 [12] [10,11,13,14] rfl (guard_vf rfl rfl rfl) (q_pev rfl Bt) ?_
          refine Gb 10 [12] [11,13,14] rfl (guard_vf rfl rfl rfl) (q_ld1 rfl rfl Bt rfl Mm rfl) ?_
          refine Gb 12 [11] [13,14] rfl (guard_vf rfl rfl rfl) (q_ldA rfl rfl Bt rfl Mm rfl) ?_
          refine ra_one 11 Kr ?_
          refine rw_callg (fun hG_ => tree_Find_spec y1 t1 s1.o.node) (fun _ => rfl) (.an rfl rfl) (guard_vf rfl rfl rfl) rfl rfl rfl Kr rfl Bt Sm ?_
          refine Ga 13 [] rfl (guard_vf rfl rfl rfl) (q_neE eqT_Place (flatEq_Place (tree_Find t1 s1.o.node) (⟨s1.o.node, s1.o.parent, s1.o.name⟩ : Place)) rfl rfl Bt rfl Bt rfl rfl) ?_
          refine Ra 14 [] rfl (q_pev rfl Bt) ?_
          refine ra_nil Kr ?_
          (repeat refine cw_seq ?_)
          refine Cd (b := ((s1.o.node != s1.o.node) || (!(decide ((tree_Find t1 s1.o.node) = (⟨s1.o.node, s1.o.parent, s1.o.name⟩ : Place)))))) (fun hc5 => ?_) fun hc5 => ?_
          · refine Tx ?_
            refine Fc EPlace ?_
            have hr4 : (move_Undo t1 s1) = (([] : List Place), 4) := by simp only [move_Undo, hc1, hc2, hc3, hc4, hc5, cond_true, cond_false]
            refine cw_ret ?_; rw [hr4]; exact Re (⟨none, 0⟩ : SlV) (Va (Vt Vn))
          · refine Tx ?_
            refine Cl (tree_Put_spec y1 t1 (⟨s1.o.node, (-1), 0⟩ : Place) (small_of t1 (by first | assumption | simpa using hc1))) fun x2 => ?_
            refine Pr EPlace x2 (tree_Put t1 (⟨s1.o.node, (-1), 0⟩ : Place)) 24 fun hlen2 => ?_
            refine Tx ?_
            refine Cl (tree_Check_spec x2 (tree_Put t1 (⟨s1.o.node, (-1), 0⟩ : Place))) fun _ => ?_
            refine Tx ?_
            refine Cd (b := ((tree_Check (tree_Put t1 (⟨s1.o.node, (-1), 0⟩ : Place))) != 0)) (fun hc6 => ?_) fun hc6 => ?_
            · have hc6p := bne_iff_ne.1 hc6
              refine Tx ?_
              refine Fc EPlace ?_
              have hr5 : (move_Undo t1 s1) = (([] : List Place), (tree_Check (tree_Put t1 (⟨s1.o.node, (-1), 0⟩ : Place)))) := by simp only [move_Undo, hc1, hc2, hc3, hc4, hc5, hc6, cond_true, cond_false]
              refine cw_ret ?_; rw [hr5]; exact Re (⟨none, 0⟩ : SlV) (Va (Vt Vn))
            · have hc6p := eq_of_bne_false hc6
              refine Tx ?_
              have hr6 : (move_Undo t1 s1) = ((tree_Put t1 (⟨s1.o.node, (-1), 0⟩ : Place)), 0) := by simp only [move_Undo, hc1, hc2, hc3, hc4, hc5, hc6, cond_true, cond_false]
              refine cw_ret ?_; rw [hr6]; exact Re x2 (Va (Vt Vn))
        · have hc4p := ne_of_beq_false hc4
          refine Tx ?_
          refine Al fun g6 => ?_
          refine Tx ?_
          (repeat refine cw_seq ?_); refine cw_regionA (fun _ => some []) ?_
          refine Rb 0 [2,3,4] [1,5,6,7,8,9,10,11,12,13,14] rfl Qp ?_
          refine Rb 1 [2,3,4] [5,6,7,8,9,10,11,12,13,14] rfl Q1 ?_
          refine Rb 2 [] [3,4,5,6,7,8,9,10,11,12,13,14] rfl Qp ?_
          refine Rb 3 [] [4,5,6,7,8,9,10,11,12,13,14] rfl Qp ?_
          refine Rb 4 [] [5,6,7,8,9,10,11,12,13,14] rfl Q1 ?_
          refine Rb 5 [] [6,7,8,9,10,11,12,13,14] rfl Qp ?_
          refine Ra 6 [] rfl Qp ?_
          refine Gb 7 [8,9,10,12] [11,13,14] rfl (guard_vf rfl rfl rfl) (q_ldA rfl rfl Bt rfl Mm rfl) ?_
          refine Gb 8 [12] [9,10,11,13,14] rfl (guard_vf rfl rfl rfl) (q_pev rfl Bt) ?_
          refine Gb 9 [12] [10,11,13,14] rfl (guard_vf rfl rfl rfl) (q_pev rfl Bt) ?_
          refine Gb 10 [12] [11,13,14] rfl (guard_vf rfl rfl rfl) (q_ld1 rfl rfl Bt rfl Mm rfl) ?_
          refine Gb 12 [11] [13,14] rfl (guard_vf rfl rfl rfl) (q_ldA rfl rfl Bt rfl Mm rfl) ?_
          refine ra_one 11 Kr ?_
          refine rw_callg (fun hG_ => tree_Find_spec y1 t1 s1.o.node) (fun _ => rfl) (.an rfl rfl) (guard_vf rfl rfl rfl) rfl rfl rfl Kr rfl Bt Sm ?_
          refine Ga 13 [] rfl (guard_vf rfl rfl rfl) (q_neE eqT_Place (flatEq_Place (tree_Find t1 s1.o.node) (⟨s1.o.node, s1.o.parent, s1.o.name⟩ : Place)) rfl rfl Bt rfl Bt rfl rfl) ?_
          refine Ra 14 [] rfl (q_pev rfl Bt) ?_
          refine ra_nil Kr ?_
          (repeat refine cw_seq ?_)
          refine Cd (b := ((s1.was.node != s1.o.node) || (!(decide ((tree_Find t1 s1.o.node) = (⟨s1.o.node, s1.o.parent, s1.o.name⟩ : Place)))))) (fun hc7 => ?_) fun hc7 => ?_
          · refine Tx ?_
            refine Fc EPlace ?_
            have hr7 : (move_Undo t1 s1) = (([] : List Place), 4) := by simp only [move_Undo, hc1, hc2, hc3, hc4, hc7, cond_true, cond_false]
            refine cw_ret ?_; rw [hr7]; exact Re (⟨none, 0⟩ : SlV) (Va (Vt Vn))
          · refine Tx ?_
            refine Cl (tree_Put_spec y1 t1 s1.was (small_of t1 (by first | assumption | simpa using hc1))) fun x3 => ?_
            refine Pr EPlace x3 (tree_Put t1 s1.was) 24 fun hlen3 => ?_
            refine Tx ?_
            refine Cl (tree_Check_spec x3 (tree_Put t1 s1.was)) fun _ => ?_
            refine Tx ?_
            refine Cd (b := ((tree_Check (tree_Put t1 s1.was)) != 0)) (fun hc8 => ?_) fun hc8 => ?_
            · have hc8p := bne_iff_ne.1 hc8
              refine Tx ?_
              refine Fc EPlace ?_
              have hr8 : (move_Undo t1 s1) = (([] : List Place), (tree_Check (tree_Put t1 s1.was))) := by simp only [move_Undo, hc1, hc2, hc3, hc4, hc7, hc8, cond_true, cond_false]
              refine cw_ret ?_; rw [hr8]; exact Re (⟨none, 0⟩ : SlV) (Va (Vt Vn))
            · have hc8p := eq_of_bne_false hc8
              refine Tx ?_
              have hr9 : (move_Undo t1 s1) = ((tree_Put t1 s1.was), 0) := by simp only [move_Undo, hc1, hc2, hc3, hc4, hc7, hc8, cond_true, cond_false]
              refine cw_ret ?_; rw [hr9]; exact Re x3 (Va (Vt Vn))
end Go.Proofs.YtccmadehnoihnaaGreatDoor

namespace Go.Proofs.YtccmadehnoihnaaGreatDoor
open Go Go.Proofs.YtccmadehnoihnaaGreatDoor.Fw
/-! ### Sorting by insertion, in plain words -/
def insR {α : Type} (lt : α → α → Bool) (x : α) : List α → List α → List α
  | [], s => x :: s
  | y :: r, s => bif lt x y then insR lt x r (y :: s) else (y :: r).reverse ++ x :: s
theorem insR_eq {α : Type} (lt : α → α → Bool) (x : α) : ∀ (r s : List α), insR lt x r s = (r.dropWhile (lt x)).reverse ++ x :: ((r.takeWhile (lt x)).reverse ++ s)
  | [], s => rfl
  | y :: r, s => by
    rw [insR]
    cases h : lt x y with
    | true => rw [cond_true, insR_eq lt x r]; simp [List.dropWhile_cons, List.takeWhile_cons, h]
    | false => simp [List.dropWhile_cons, List.takeWhile_cons, h]
def isort {α : Type} (lt : α → α → Bool) : List α → List α → List α
  | acc, [] => acc
  | acc, x :: r => isort lt (insR lt x acc.reverse []) r
theorem insR_len {α : Type} (lt : α → α → Bool) (x : α) (r s : List α) : (insR lt x r s).length = r.length + s.length + 1 := by
  rw [insR_eq]
  have := congrArg List.length (List.takeWhile_append_dropWhile (p := lt x) (l := r))
  simp only [List.length_append] at this
  simp; omega
theorem insR_perm {α : Type} (lt : α → α → Bool) (x : α) (r s : List α) : (insR lt x r s).Perm (x :: (r.reverse ++ s)) := by
  rw [insR_eq]
  refine List.perm_middle.trans (.cons _ ?_)
  rw [← List.append_assoc, ← List.reverse_append, List.takeWhile_append_dropWhile]
theorem isort_perm {α : Type} (lt : α → α → Bool) : ∀ (r acc : List α), (isort lt acc r).Perm (acc ++ r)
  | [], acc => by simp [isort]
  | x :: r, acc => by
    rw [isort]
    refine (isort_perm lt r _).trans ?_
    refine ((insR_perm lt x acc.reverse []).append_right r).trans ?_
    simp only [List.reverse_reverse, List.append_nil, List.cons_append]
    exact List.perm_middle.symm
theorem insR_app {α : Type} (lt : α → α → Bool) (x : α) (r s : List α) : insR lt x r s = insR lt x r [] ++ s := by simp [insR_eq]
theorem gt_mid {α : Type} [Inhabited α] (A : List α) (b : α) (C : List α) (i : Nat) (h : i = A.length) : gt (A ++ b :: C) i = b := by subst h; simp [gt]
theorem set_mid {α : Type} (A : List α) (b c : α) (C : List α) (i : Nat) (h : i = A.length) : (A ++ b :: C).set i c = A ++ c :: C := by subst h; simp
/-- sorted: none is ahead of one before it -/
def Sorted {α : Type} (lt : α → α → Bool) (l : List α) : Prop := l.Pairwise (fun a b => lt b a = false)
theorem insR_sorted {α : Type} {lt : α → α → Bool} (htr : ∀ a b c, lt c b = false → lt b a = false → lt c a = false) (has : ∀ a b, lt a b = true → lt b a = false) (x : α) (l : List α) (h : Sorted lt l) : Sorted lt (insR lt x l.reverse []) := by
  rw [insR_eq, List.append_nil]
  have hl : l = (l.reverse.dropWhile (lt x)).reverse ++ (l.reverse.takeWhile (lt x)).reverse := by
    rw [← List.reverse_append, List.takeWhile_append_dropWhile, List.reverse_reverse]
  have hs : Sorted lt ((l.reverse.dropWhile (lt x)).reverse ++ (l.reverse.takeWhile (lt x)).reverse) := by rw [← hl]; exact h
  obtain ⟨h1, h2, h3⟩ := List.pairwise_append.1 hs
  have ht : ∀ b ∈ (l.reverse.takeWhile (lt x)).reverse, lt x b = true := fun b hb => by
    have := List.all_eq_true.1 (List.all_takeWhile (p := lt x) (l := l.reverse)) b (List.mem_reverse.1 hb)
    exact this
  refine List.pairwise_append.2 ⟨h1, List.pairwise_cons.2 ⟨fun b hb => has _ _ (ht b hb), h2⟩, fun a ha b hb => ?_⟩
  have hd : ∀ a ∈ (l.reverse.dropWhile (lt x)).reverse, lt x a = false := by
    intro a ha
    rw [List.mem_reverse] at ha
    cases hD : l.reverse.dropWhile (lt x) with
    | nil => rw [hD] at ha; cases ha
    | cons y D =>
      have hy : lt x y = false := by
        have := List.head_dropWhile_not (p := lt x) (l := l.reverse) (by rw [hD]; simp)
        simp only [hD, List.head_cons] at this
        exact this
      rw [hD] at ha h1
      rcases List.mem_cons.1 ha with rfl | ha
      · exact hy
      · have : lt y a = false := by
          have h1 : Sorted lt (y :: D).reverse := h1
          unfold Sorted at h1
          rw [List.pairwise_reverse] at h1
          exact (List.pairwise_cons.1 h1).1 a ha
        exact htr a y x hy this
  rcases List.mem_cons.1 hb with rfl | hb
  · exact hd a ha
  · exact h3 a ha b hb
theorem isort_sorted {α : Type} {lt : α → α → Bool} (htr : ∀ a b c, lt c b = false → lt b a = false → lt c a = false) (has : ∀ a b, lt a b = true → lt b a = false) : ∀ (r acc : List α), Sorted lt acc → Sorted lt (isort lt acc r)
  | [], acc, h => h
  | x :: r, acc, h => isort_sorted htr has r _ (insR_sorted htr has x acc h)

theorem isort_len {α : Type} (lt : α → α → Bool) (l : List α) : (isort lt [] l).length = l.length := by
  have := (isort_perm lt l []).length_eq
  simpa using this
end Go.Proofs.YtccmadehnoihnaaGreatDoor
