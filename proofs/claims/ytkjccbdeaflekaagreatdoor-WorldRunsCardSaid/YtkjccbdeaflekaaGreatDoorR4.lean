/- Part of this claim. No condition. -/
import Derived.Test.YtkjccbdeaflekaaGreatDoorR3
import Derived.Test.YtkjccbdeaflekaaGreatDoorR2
set_option linter.unusedVariables false
set_option linter.unusedSimpArgs false
set_option maxHeartbeats 2000000
namespace Go.Proofs.YtkjccbdeaflekaaGreatDoor.Fw
open Go Go.RowKit
abbrev Z0 : SlV := ⟨none, 0⟩
def Rs {A : Type} (R U : A) : Prop := R = U
variable {A : Type} {R U : A}
theorem Rs.to (h : Rs R U) : R = U := h
theorem Rs.symm (h : Rs R U) : U = R := Eq.symm h
theorem Ri (h : R = U) : Rs R U := h
section
variable {P : Program} {T : Tab} {C : Cx} {ops : Array Oper} {o : Oper} {r r' : RS} {s : St} {Q : Post} {N : Nat} {SL : Slots} {BL : List Blk} {OW : List Own} {FA : List Pred} {c : Code}
theorem isB {l : List Oper} {b : BinOp} {t t' : Nat} {x y : Operand} (_ : o.op = .binOp b t x y t') (h : RW P T C ops (.sq (o :: l)) s Q) : RW P T C ops (.sq (o :: l)) s Q := h
theorem Zg {b : Bool} {A : Prop} (h : b = true → A := by first | (intro _; omega) | (intro h; simp at h; omega) | (intro _; decide)) : b = true → A := h
theorem Tz {q p : Prop} (f : q → p := by
  intro hq_;repeat (first
   | refine Rp rfl rfl rfl rfl ?_
   | (refine isR ?_; first
     | refine eF ?_
     | (refine isG rfl ?_; first
       | refine rw_qg (fH rfl rfl rfl) rfl rfl (q_pev rfl Bt) ?_
       | refine rw_qg (ce rfl rfl rfl) rfl rfl (q_pev rfl Bt) ?_
       | refine rw_qg (fI rfl rfl rfl) rfl rfl (q_pev rfl Bt) ?_
       | refine rw_qg (gI rfl rfl rfl) rfl rfl (q_pev rfl Bt) ?_
       | (refine isL rfl ?_; first
         | refine rw_qg (fH rfl rfl rfl) rfl rfl (q_ld1 rfl rfl Bt rfl Mm rfl) ?_
         | refine rw_qg (ce rfl rfl rfl) rfl rfl (q_ld1 rfl rfl Bt rfl Mm rfl) ?_
         | refine rw_qg (fI rfl rfl rfl) rfl rfl (q_ld1 rfl rfl Bt rfl Mm rfl) ?_
         | refine rw_qg (gI rfl rfl rfl) rfl rfl (q_ld1 rfl rfl Bt rfl Mm rfl) ?_
         | refine rw_qg (fH rfl rfl rfl) rfl rfl (q_ldA rfl rfl Bt rfl Mm rfl) ?_
         | refine rw_qg (ce rfl rfl rfl) rfl rfl (q_ldA rfl rfl Bt rfl Mm rfl) ?_
         | refine rw_qg (fI rfl rfl rfl) rfl rfl (q_ldA rfl rfl Bt rfl Mm rfl) ?_
         | refine rw_qg (gI rfl rfl rfl) rfl rfl (q_ldA rfl rfl Bt rfl Mm rfl) ?_
         | refine rw_qg (fH rfl rfl rfl) rfl rfl (q_ldP rfl rfl Bt rfl Mm rfl) ?_
         | refine rw_qg (ce rfl rfl rfl) rfl rfl (q_ldP rfl rfl Bt rfl Mm rfl) ?_
         | refine rw_qg (fI rfl rfl rfl) rfl rfl (q_ldP rfl rfl Bt rfl Mm rfl) ?_
         | refine rw_qg (gI rfl rfl rfl) rfl rfl (q_ldP rfl rfl Bt rfl Mm rfl) ?_)
       | (refine isB rfl ?_; first
         | refine rw_qg (fH rfl rfl rfl) rfl rfl (q_add rfl rfl Bt rfl Bt Zg) ?_
         | refine rw_qg (ce rfl rfl rfl) rfl rfl (q_add rfl rfl Bt rfl Bt Zg) ?_
         | refine rw_qg (fI rfl rfl rfl) rfl rfl (q_add rfl rfl Bt rfl Bt Zg) ?_
         | refine rw_qg (gI rfl rfl rfl) rfl rfl (q_add rfl rfl Bt rfl Bt Zg) ?_
         | refine rw_qg (fH rfl rfl rfl) rfl rfl (q_sub rfl rfl Bt rfl Bt Zg) ?_
         | refine rw_qg (ce rfl rfl rfl) rfl rfl (q_sub rfl rfl Bt rfl Bt Zg) ?_
         | refine rw_qg (fI rfl rfl rfl) rfl rfl (q_sub rfl rfl Bt rfl Bt Zg) ?_
         | refine rw_qg (gI rfl rfl rfl) rfl rfl (q_sub rfl rfl Bt rfl Bt Zg) ?_))
     | (refine isL rfl ?_; first
       | refine rw_q rfl rfl rfl (q_ld1 rfl rfl (fun _ => rfl) rfl Mm rfl) ?_
       | refine rw_q rfl rfl rfl (q_ldA rfl rfl (fun _ => rfl) rfl Mm rfl) ?_
       | refine rw_q rfl rfl rfl (q_ldP rfl rfl (fun _ => rfl) rfl Mm rfl) ?_
       | refine rw_q rfl rfl rfl (q_lf1 rfl rfl (fun _ => rfl) rfl Mm rfl) ?_
       | refine rw_q rfl rfl rfl (q_lfA rfl rfl (fun _ => rfl) rfl Mm rfl) ?_
       | refine rw_q rfl rfl rfl (q_lfP rfl rfl (fun _ => rfl) rfl Mm rfl) ?_)
     | (refine isS rfl ?_; first
       | refine yd .sq (.inl ⟨_, rfl⟩) (au rfl) rfl rfl rfl rfl rfl rfl rfl rfl rfl Ub rfl ?_
       | refine ye .sq (.inl ⟨_, rfl⟩) (au rfl) rfl rfl rfl rfl rfl rfl rfl rfl rfl Ub rfl ?_)
     | (refine isB rfl ?_; first
       | refine rw_q rfl rfl rfl (q_add rfl rfl (fun _ => rfl) rfl (fun _ => rfl) Zg) ?_
       | refine rw_q rfl rfl rfl (q_sub rfl rfl (fun _ => rfl) rfl (fun _ => rfl) Zg) ?_)
     | refine rw_q rfl rfl rfl (q_pev rfl Bt) ?_)
   | (refine isC ?_; first
     | refine er ?_
     | refine kk ?_
     | refine rx ?_
     | refine pA ?_
     | refine AW ?_))
  exact hq_) : q → p := f
theorem Cd' {p : Prop} {k : Operand} {x y : Code} {g0 b : Bool} (ht : b = true → CW P T C x ⟨N, SL, BL, OW, FA⟩ Q) (hf : b = false → CW P T C y ⟨N, SL, BL, OW, FA⟩ Q) (f : CW P T C (.cond k x y) ⟨N, SL, BL, OW, FA⟩ Q → p := by exact Tz) (he : ev SL k = some (g0, .bool b) := by rfl) (hg : g0 = true := by rfl) : p := f (kX he hg ht hf)
section
variable {A : Type} {R U V : A} {p : Prop} {k : Operand} {x y : Code} {g0 : Bool}
variable {b : Bool}
theorem Ch (hR : Rs R (bif b then U else V)) (ht : b = true → Rs R U → CW P T C x ⟨N, SL, BL, OW, FA⟩ Q) (hf : b = false → Rs R V → CW P T C y ⟨N, SL, BL, OW, FA⟩ Q) (f : CW P T C (.cond k x y) ⟨N, SL, BL, OW, FA⟩ Q → p := by exact Tz) (he : ev SL k = some (g0, .bool b) := by rfl) (hg : g0 = true := by rfl) : p :=
 f (kX he hg (fun h => ht h (hR.to.trans (by rw [h]; rfl))) (fun h => hf h (hR.to.trans (by rw [h]; rfl))))
theorem Cp {B : Prop} [Decidable B] (hR : Rs R (bif decide B then U else V)) (ht : decide B = true → B → Rs R U → CW P T C x ⟨N, SL, BL, OW, FA⟩ Q) (hf : decide B = false → ¬B → Rs R V → CW P T C y ⟨N, SL, BL, OW, FA⟩ Q) (f : CW P T C (.cond k x y) ⟨N, SL, BL, OW, FA⟩ Q → p := by exact Tz) (he : ev SL k = some (g0, .bool (decide B)) := by rfl) (hg : g0 = true := by rfl) : p :=
 Ch hR (fun h => ht h (of_decide_eq_true h)) (fun h => hf h (of_decide_eq_false h)) f he hg
variable {B : Type} {a : B}
theorem Cn [BEq B] [LawfulBEq B] {b : B} (hR : Rs R (bif (a != b) then U else V)) (ht : (a != b) = true → a ≠ b → Rs R U → CW P T C x ⟨N, SL, BL, OW, FA⟩ Q) (hf : (a != b) = false → a = b → Rs R V → CW P T C y ⟨N, SL, BL, OW, FA⟩ Q) (f : CW P T C (.cond k x y) ⟨N, SL, BL, OW, FA⟩ Q → p := by exact Tz) (he : ev SL k = some (g0, .bool (a != b)) := by rfl) (hg : g0 = true := by rfl) : p :=
 Ch hR (fun h => ht h (bne_iff_ne.1 h)) (fun h => hf h (ag h)) f he hg
theorem Ce [BEq B] [LawfulBEq B] {b : B} (hR : Rs R (bif (a == b) then U else V)) (ht : (a == b) = true → a = b → Rs R U → CW P T C x ⟨N, SL, BL, OW, FA⟩ Q) (hf : (a == b) = false → a ≠ b → Rs R V → CW P T C y ⟨N, SL, BL, OW, FA⟩ Q) (f : CW P T C (.cond k x y) ⟨N, SL, BL, OW, FA⟩ Q → p := by exact Tz) (he : ev SL k = some (g0, .bool (a == b)) := by rfl) (hg : g0 = true := by rfl) : p :=
 Ch hR (fun h => ht h (eq_of_beq h)) (fun h => hf h (ne_of_beq_false h)) f he hg
theorem Cu {n m : Nat} (ht : n < m → CW P T C x ⟨N, SL, BL, OW, FA⟩ Q) (hf : m ≤ n → CW P T C y ⟨N, SL, BL, OW, FA⟩ Q) (f : CW P T C (.cond k x y) ⟨N, SL, BL, OW, FA⟩ Q → p := by exact Tz) (he : ev SL k = some (g0, .bool (decide ((n : Int) < (m : Int)))) := by rfl) (hg : g0 = true := by rfl) : p :=
 f (kX he hg (fun h => ht (Int.ofNat_lt.1 (of_decide_eq_true h))) (fun h => hf (by have := of_decide_eq_false h; omega)))
theorem Bt_ (h : Rs R (bif b then U else V)) (hb : b = true) : Rs R U := h.to.trans (by rw [hb]; rfl)
theorem Bf_ (h : Rs R (bif b then U else V)) (hb : b = false) : Rs R V := h.to.trans (by rw [hb]; rfl)
end
variable {p : Prop}
theorem Tr (h : Q .ret s) (f : CW P T C .ret s Q → p := by exact Tz) : p := f (f4 h)
variable {rs : List ResultVar} {vs : List Value}
theorem Rv (h : ResVs T s rs vs := by first | exact Vt Vn | exact Va (Vt Vn) | exact Va Vn | exact Vt (Vt Vn) | exact Vt (Vt (Vt Vn)) | exact Va (Va (Vt Vn)) | exact Va (Vt (Vt Vn)) | exact Vt (Va (Vt Vn)) | exact Vt (Va Vn)) : ResVs T s rs vs := h
def Mk (q : Prop) : Prop := q
variable {q : Prop}
theorem Mk.of (h : Mk q) : q := h
theorem Ru (h : p := by refine Tr ?_; rw [hf.to]; exact Re () Rv) : p := h
theorem Rx (h : q) (f : Mk q → p := by intro hq_; refine Tr ?_; rw [hf.to]; exact hq_) : p := f h
inductive Fy (ops : Array Oper) : RS → Oper → RS → (List Nat → Prop) → Prop
 | sq {o : Oper} {l : List Oper} : Fy ops (.sq (o :: l)) o (.sq l) (fun _ => True)
 | an {fp : Nat → Option (List Nat)} {fuel : Nat} {listed : Array Bool} {i : Nat} {o : Oper} {D : List Nat} (hi : ops[i]? = some o) (hD : fp i = some D) : Fy ops (.at_ fp fuel listed i) o (.an fp fuel (listed.setIfInBounds i true)) (fun ids => ∀ g ∈ ids, g ∈ D)
 | lo {fp : Nat → Option (List Nat)} {fuel : Nat} {listed : Array Bool} {i : Nat} {o : Oper} (hi : ops[i]? = some o) (hD : fp i = none) : Fy ops (.at_ fp fuel listed i) o (.an fp fuel (listed.setIfInBounds i true)) (fun _ => True)
variable {K : List Nat → Prop}
theorem Fy.to {ids : List Nat} (h : Fy ops r o r' K) (hk : K ids) : ∃ D, Front ops r o D r' ∧ ((∃ l, r = .sq l) ∨ ∀ g ∈ ids, g ∈ D) := by
 cases h with
 | sq => exact ⟨_, .sq, .inl ⟨_, rfl⟩⟩
 | an hi hD => exact ⟨_, .an hi hD, .inr hk⟩
 | lo hi hD => exact ⟨ids, .lo ids hi hD, .inr fun _ h => h⟩
theorem Fo (h : Fy ops r o r' K := by first | exact .sq | exact .an rfl rfl | exact .lo rfl rfl) : Fy ops r o r' K := h
theorem Fp (h : p := by first | exact trivial | exact fun _ h => h | exact fun _ h => nomatch h | (simp [Lent.ids]; done) | (intro g h; simp [Lent.ids] at h; simp [h]; done)) : p := h
theorem Tt (h : q) (f : Mk q → p := by exact Tz) : p := f h
def An (P : Program) (T : Tab) (C : Cx) (ops : Array Oper) (_ : List Nat) (r : RS) (s : St) (Q : Post) : Prop := RW P T C ops r s Q
theorem An.nil (h : RW P T C ops r s Q) : An P T C ops [] r s Q := h
variable {i : Nat} {is : List Nat}
theorem agG {j : Nat × Bool} (_ : ops[i]? = some o) (_ : o.guard = some j) (h : An P T C ops (i :: is) r s Q) : An P T C ops (i :: is) r s Q := h
variable {d fuel : Nat} {fp : Nat → Option (List Nat)} {listed : Array Bool} {v : Value}
theorem Db (hi : ops[i]? = some o) (hq : Quiet P T SL BL FA o true v) (h : An P T C ops is (.an fp fuel (listed.setIfInBounds i true)) ⟨N, (d, .v v) :: SL, BL, OW, FA⟩ Q) (hg : o.guard = none := by rfl) (hd : o.dst = some d := by rfl) (hn : Nat.blt d N = true := by rfl)
  (hs : Region.noSelect ops = true := by kernel_rfl) (hf : Region.free .any ops listed i = true := by kernel_rfl) (hr : (Region.ready .any ops listed).contains i = true := by kernel_rfl) (hB : mf ops listed i (behinds ops listed i) = true := by kernel_rfl) (hD : sumO fp ((others ops listed i).filter fun j => !(behinds ops listed i).contains j) = some [] := by kernel_rfl) : An P T C ops (i :: is) (.an fp (fuel + 1) listed) ⟨N, SL, BL, OW, FA⟩ Q := Rb i hi hq h hg hd hn hs hf hr hB hD
variable {G : Bool}
theorem Dg (hi : ops[i]? = some o) (hG : Guard ops SL o G) (hq : Quiet P T SL BL FA o G v) (h : An P T C ops is (.an fp fuel (listed.setIfInBounds i true)) ⟨N, (d, .o G v) :: SL, BL, OW, FA⟩ Q) (hd : o.dst = some d := by rfl) (hn : Nat.blt d N = true := by rfl)
  (hs : Region.noSelect ops = true := by kernel_rfl) (hf : Region.free .any ops listed i = true := by kernel_rfl) (hr : (Region.ready .any ops listed).contains i = true := by kernel_rfl) (hB : mf ops listed i (behinds ops listed i) = true := by kernel_rfl) (hD : sumO fp ((others ops listed i).filter fun j => !(behinds ops listed i).contains j) = some [] := by kernel_rfl) : An P T C ops (i :: is) (.an fp (fuel + 1) listed) ⟨N, SL, BL, OW, FA⟩ Q := Gb i hi hG hq h hd hn hs hf hr hB hD
theorem Dx (is : List Nat) (h : q) (f : Mk q → An P T C ops is r s Q := by
  intro hq_;repeat (first
   | (refine agG rfl rfl ?_; first
     | refine Dg rfl (fH rfl rfl rfl) (q_pev rfl Bt) ?_
     | refine Dg rfl (ce rfl rfl rfl) (q_pev rfl Bt) ?_
     | refine Dg rfl (fI rfl rfl rfl) (q_pev rfl Bt) ?_
     | refine Dg rfl (gI rfl rfl rfl) (q_pev rfl Bt) ?_
     | refine Dg rfl (fH rfl rfl rfl) (q_ld1 rfl rfl Bt rfl Mm rfl) ?_
     | refine Dg rfl (ce rfl rfl rfl) (q_ld1 rfl rfl Bt rfl Mm rfl) ?_
     | refine Dg rfl (fI rfl rfl rfl) (q_ld1 rfl rfl Bt rfl Mm rfl) ?_
     | refine Dg rfl (gI rfl rfl rfl) (q_ld1 rfl rfl Bt rfl Mm rfl) ?_
     | refine Dg rfl (fH rfl rfl rfl) (q_ldA rfl rfl Bt rfl Mm rfl) ?_
     | refine Dg rfl (ce rfl rfl rfl) (q_ldA rfl rfl Bt rfl Mm rfl) ?_
     | refine Dg rfl (fI rfl rfl rfl) (q_ldA rfl rfl Bt rfl Mm rfl) ?_
     | refine Dg rfl (gI rfl rfl rfl) (q_ldA rfl rfl Bt rfl Mm rfl) ?_
     | refine Dg rfl (fH rfl rfl rfl) (q_ldP rfl rfl Bt rfl Mm rfl) ?_
     | refine Dg rfl (ce rfl rfl rfl) (q_ldP rfl rfl Bt rfl Mm rfl) ?_
     | refine Dg rfl (fI rfl rfl rfl) (q_ldP rfl rfl Bt rfl Mm rfl) ?_
     | refine Dg rfl (gI rfl rfl rfl) (q_ldP rfl rfl Bt rfl Mm rfl) ?_
     | refine Dg rfl (fH rfl rfl rfl) (q_fae rfl rfl Bt rfl rfl) ?_
     | refine Dg rfl (ce rfl rfl rfl) (q_fae rfl rfl Bt rfl rfl) ?_
     | refine Dg rfl (fI rfl rfl rfl) (q_fae rfl rfl Bt rfl rfl) ?_
     | refine Dg rfl (gI rfl rfl rfl) (q_fae rfl rfl Bt rfl rfl) ?_
     | refine Dg rfl (fH rfl rfl rfl) (q_add rfl rfl Bt rfl Bt Zg) ?_
     | refine Dg rfl (ce rfl rfl rfl) (q_add rfl rfl Bt rfl Bt Zg) ?_
     | refine Dg rfl (fI rfl rfl rfl) (q_add rfl rfl Bt rfl Bt Zg) ?_
     | refine Dg rfl (gI rfl rfl rfl) (q_add rfl rfl Bt rfl Bt Zg) ?_
     | refine Dg rfl (fH rfl rfl rfl) (q_sub rfl rfl Bt rfl Bt Zg) ?_
     | refine Dg rfl (ce rfl rfl rfl) (q_sub rfl rfl Bt rfl Bt Zg) ?_
     | refine Dg rfl (fI rfl rfl rfl) (q_sub rfl rfl Bt rfl Bt Zg) ?_
     | refine Dg rfl (gI rfl rfl rfl) (q_sub rfl rfl Bt rfl Bt Zg) ?_)
   | (first
    | refine Db rfl (q_pev rfl (fun _ => rfl)) ?_
    | refine Db rfl (q_ld1 rfl rfl (fun _ => rfl) rfl Mm rfl) ?_
    | refine Db rfl (q_ldA rfl rfl (fun _ => rfl) rfl Mm rfl) ?_
    | refine Db rfl (q_ldP rfl rfl (fun _ => rfl) rfl Mm rfl) ?_
    | refine Db rfl (q_fae rfl rfl (fun _ => rfl) rfl rfl) ?_
    | refine Db rfl (q_add rfl rfl (fun _ => rfl) rfl (fun _ => rfl) Zg) ?_
    | refine Db rfl (q_sub rfl rfl (fun _ => rfl) rfl (fun _ => rfl) Zg) ?_
    | refine Db rfl (q_pev rfl Bt) ?_))
  exact An.nil (Mk.of hq_)) : RW P T C ops r s Q := f h
theorem Rn (i : Nat) (h : RW P T C ops (.at_ fp fuel listed i) s Q) (hr : Region.ready .any ops listed = [i] := by kernel_rfl) : RW P T C ops (.an fp (fuel + 1) listed) s Q := ra_one i hr h
theorem Rw (i j : Nat) (h : RW P T C ops (.at_ fp fuel listed i) s Q) (h' : RW P T C ops (.at_ fp fuel listed j) s Q) (hr : Region.ready .any ops listed = [i, j] := by kernel_rfl) : RW P T C ops (.an fp (fuel + 1) listed) s Q := ra_two i j hr h h'
theorem Re0 (h : Q .normal s) (hr : Region.ready .any ops listed = [] := by kernel_rfl) : RW P T C ops (.an fp fuel listed) s Q := ra_nil hr h
theorem Fa (i : Nat) (js : List Nat) (hi : ops[i]? = some o := by rfl)
  (hs : Region.noSelect ops = true := by kernel_rfl) (hf : Region.free .any ops listed i = true := by kernel_rfl) (hr : (Region.ready .any ops listed).contains i = true := by kernel_rfl) (hj : others ops listed i = js := by kernel_rfl) : jf ops (.an fp (fuel + 1) listed) o (sumO fp js) (.an fp fuel (listed.setIfInBounds i true)) := jf.an hi hs hf hr hj
theorem Fb (i : Nat) (js : List Nat) (hi : ops[i]? = some o := by rfl)
  (hs : Region.noSelect ops = true := by kernel_rfl) (hf : Region.free .any ops listed i = true := by kernel_rfl) (hr : (Region.ready .any ops listed).contains i = true := by kernel_rfl) (hB : mf ops listed i (behinds ops listed i) = true := by kernel_rfl) (hj : ((others ops listed i).filter fun j => !(behinds ops listed i).contains j) = js := by kernel_rfl) : jf ops (.an fp (fuel + 1) listed) o (sumO fp js) (.an fp fuel (listed.setIfInBounds i true)) := jf.ab _ hi hs hf hr hB hj
theorem Sa {l : List Blk} : iL l l [] := iL.all l
variable {g : Bool}
theorem Bz (h : G = true → g = true := by first | exact fun _ => rfl | exact Bt) : G = true → g = true := h
theorem Zi {A : Prop} (h : G = true → A := by first | exact fun _ => rfl | (intro _; first | assumption | omega) | (intro h; first | omega | rfl | (simp at h; omega))) : G = true → A := h
theorem Zk {A : Prop} (h : G = true → A := by first | (intro _; first | assumption | omega | (simp only [List.length_set]; omega)) | (intro h; simp at h; omega)) : G = true → A := h
variable {A : Option Addr} {α : Type} {E : El α} {b g0 g1 : Bool} {iv : Int} {k : IntKind} {l : List α} {x y : Operand}
theorem Xi {esz c t e n : Nat} (i : Nat) (ho : o.op = .indexAddr t x y := by rfl)
  (he : ev SL x = some (g0, .slice A n c) := by rfl) (hg0 : G = true → g0 = true := by exact Bz) (hy : ev SL y = some (g1, .int k iv) := by rfl) (hg1 : G = true → g1 = true := by exact Bz)
  (ht : T.slc t = some e := by rfl) (hz : T.siz e = some (esz, b) := by rfl) (hm : RdL E ⟨A, c⟩ l ∈ FA := by exact Mm) (hes : E.esz = esz := by rfl) (hn : n = l.length := by rfl) (hi : G = true → iv = (i : Int) := by exact Zi) (hlt : G = true → i < l.length := by exact Zk) :
  Quiet P T SL BL FA o G (.pointer (some (epA A i esz 0))) := q_idx E i ho he hg0 hy hg1 ht hz hes hm hn hi hlt
theorem Xn {EN : En α} {γ : Nat → EN.G} {esz c t e n : Nat} (i : Nat) (ho : o.op = .indexAddr t x y := by rfl)
  (he : ev SL x = some (g0, .slice A n c) := by rfl) (hg0 : G = true → g0 = true := by exact Bz) (hy : ev SL y = some (g1, .int k iv) := by rfl) (hg1 : G = true → g1 = true := by exact Bz)
  (ht : T.slc t = some e := by rfl) (hz : T.siz e = some (esz, b) := by rfl) (hm : RdG EN ⟨A, c⟩ γ l ∈ FA := by exact Mm) (hes : EN.E.esz = esz := by rfl) (hn : n = l.length := by rfl) (hi : G = true → iv = (i : Int) := by exact Zi) (hlt : G = true → i < l.length := by exact Zk) :
  Quiet P T SL BL FA o G (.pointer (some (epA A i esz 0))) := nR EN γ i ho he hg0 hy hg1 ht hz hes hm hn hi hlt
theorem Xa [Inhabited α] {esz c t : Nat} (ho : o.op = .load t x := by rfl)
  (he : ev SL x = some (g0, .pointer (some (epA A i esz 0))) := by rfl) (hg0 : G = true → g0 = true := by exact Bz) (hs : T.siz t = some (esz, true) := by rfl) (hm : RdL E ⟨A, c⟩ l ∈ FA := by exact Mm) (hes : E.esz = esz := by rfl) (hlt : G = true → i < l.length := by exact Zk) : Quiet P T SL BL FA o G (.agg ⟨E.enc (gt l i)⟩) := q_leA E ho he hg0 hs hes hm hlt
theorem X1 [Inhabited α] {esz c t n off : Nat} (ho : o.op = .load t x := by rfl)
  (he : ev SL x = some (g0, .pointer (some (epA A i esz off))) := by rfl) (hg0 : G = true → g0 = true := by exact Bz) (hs : T.siz t = some (n, false) := by rfl) (hm : RdL E ⟨A, c⟩ l ∈ FA := by exact Mm) (hes : E.esz = esz := by rfl) (hlt : G = true → i < l.length := by exact Zk)
  (hv : (E.enc (gt l i))[off]? = some v := by rfl) : Quiet P T SL BL FA o G v := q_le1 E ho he hg0 hs hes hm hlt hv
variable {off t : Nat}
theorem Xf {f g0n o' ft : Nat} {esz : Nat} (ho : o.op = .fieldAddr t x f := by rfl) (he : ev SL x = some (g0, .pointer (some (epA A i esz off))) := by rfl) (hg0 : G = true → g0 = true := by exact Bz)
  (hf : T.fld t f = some (o', ft) := by rfl) (hz : T.siz ft = some (g0n + 1, b) := by rfl) : Quiet P T SL BL FA o G (.pointer (some (epA A i esz (off + o')))) := q_fae ho he hg0 hf hz
variable {a : Int} {t' : Nat}
theorem Xp {b : Int} (ho : o.op = .binOp .add t x y t' := by rfl) (he : ev SL x = some (g0, .int .i64 a) := by rfl) (hg0 : G = true → g0 = true := by exact Bz)
  (hy : ev SL y = some (g1, .int .i64 b) := by rfl) (hg1 : G = true → g1 = true := by exact Bz) (hb : G = true → -9223372036854775808 ≤ a + b ∧ a + b ≤ 9223372036854775807 := by exact Zg) : Quiet P T SL BL FA o G (.int .i64 (a + b)) := q_add ho he hg0 hy hg1 hb
theorem Xm {b : Int} (ho : o.op = .binOp .sub t x y t' := by rfl) (he : ev SL x = some (g0, .int .i64 a) := by rfl) (hg0 : G = true → g0 = true := by exact Bz)
  (hy : ev SL y = some (g1, .int .i64 b) := by rfl) (hg1 : G = true → g1 = true := by exact Bz) (hb : G = true → -9223372036854775808 ≤ a - b ∧ a - b ≤ 9223372036854775807 := by exact Zg) : Quiet P T SL BL FA o G (.int .i64 (a - b)) := q_sub ho he hg0 hy hg1 hb
theorem Xv (he : pev T SL o.op = some (g, v) := by rfl) (hgt : G = true → g = true := by exact Bz) : Quiet P T SL BL FA o G v := q_pev he hgt
variable {cs : List Value} {n : Nat}
theorem XA {g : Nat} (ho : o.op = .load t x := by rfl) (he : ev SL x = some (g0, .pointer (some ⟨g, 0, none⟩)) := by rfl) (hg0 : G = true → g0 = true := by exact Bz) (hs : T.siz t = some (n, true) := by rfl) (hm : ⟨g, t', cs⟩ ∈ BL := by exact Mm) (hl : cs.length = n := by rfl) : Quiet P T SL BL FA o G (.agg ⟨cs⟩) := q_ldA ho he hg0 hs hm hl
theorem Sq {l : List Oper} (hq : Quiet P T SL BL FA o true v) (h : RW P T C ops (.sq l) ⟨N, (d, .v v) :: SL, BL, OW, FA⟩ Q) (hg : o.guard = none := by rfl) (hd : o.dst = some d := by rfl) (hn : Nat.blt d N = true := by rfl) : RW P T C ops (.sq (o :: l)) ⟨N, SL, BL, OW, FA⟩ Q := rw_q hg hd hn hq h
theorem Sy {l : List Oper} (f : RW P T C ops (.sq (o :: l)) ⟨N, SL, BL, OW, FA⟩ Q → p) (hq : Quiet P T SL BL FA o true v) (h : RW P T C ops (.sq l) ⟨N, (d, .v v) :: SL, BL, OW, FA⟩ Q) (hg : o.guard = none := by rfl) (hd : o.dst = some d := by rfl) (hn : Nat.blt d N = true := by rfl) : p := f (rw_q hg hd hn hq h)
theorem Gz (h : p := by first | exact fH rfl rfl rfl | exact ce rfl rfl rfl | exact fI rfl rfl rfl | exact gI rfl rfl rfl) : p := h
theorem Sg {l : List Oper} (hG : Guard ops SL o G) (hq : Quiet P T SL BL FA o G v) (h : RW P T C ops (.sq l) ⟨N, (d, .o G v) :: SL, BL, OW, FA⟩ Q) (hd : o.dst = some d := by rfl) (hn : Nat.blt d N = true := by rfl) : RW P T C ops (.sq (o :: l)) ⟨N, SL, BL, OW, FA⟩ Q := rw_qg hG hd hn hq h
variable {e : TypeId}
theorem Oq (E : El α) (X : SlV) {b : Option Nat} (l : List α) (hf : jf ops r o (some []) r') (hq : Quiet P T SL BL (RdL E X l :: FA) o true v) (h : RW P T C ops r' ⟨N, (d, .v v) :: SL, BL, OW, FA⟩ Q) (hm : ownL E e X b l ∈ OW := by exact Mm) (hg : o.guard = none := by rfl) (hd : o.dst = some d := by rfl) (hn : Nat.blt d N = true := by rfl) : RW P T C ops r ⟨N, SL, BL, OW, FA⟩ Q := rw_qO E hm hf hg hd hn hq h
variable {BL' : List Blk}
theorem Rq {D D' : List Nat} (hf : jf ops r o (some D) r') (hs : iL BL BL' D') (hq : Quiet P T SL BL' FA o true v) (h : RW P T C ops r' ⟨N, (d, .v v) :: SL, BL, OW, FA⟩ Q)
  (hD : ∀ g ∈ D, g ∈ D' ∨ ∃ q ∈ OW, q.b = some g := by first | (intro g hg; simp at hg; simp [hg]; done) | (intro g hg; simp only [List.mem_append, List.mem_singleton, List.not_mem_nil, or_false, false_or, Option.mem_toList, Option.mem_def, List.append_nil] at hg; first | exact .inr ⟨_, .head _, hg⟩ | exact .inr ⟨_, .tail _ (.head _), hg⟩ | exact .inr ⟨_, .tail _ (.tail _ (.head _)), hg⟩)) (hg : o.guard = none := by rfl) (hd : o.dst = some d := by rfl) (hn : Nat.blt d N = true := by rfl) : RW P T C ops r ⟨N, SL, BL, OW, FA⟩ Q := ra_q hf hs hD hg hd hn hq h
variable {z : List Value}
theorem Bl (E : El α) (l : List α) {e : Nat} {parts : List (Nat × Operand)} {vs : List (Nat × Value)} 
  (h : ∀ (X : SlV) (b' : Option Nat), RW P T C ops r' ⟨N, (d, .v (X.val l.length)) :: SL, BL, ownL E e X b' l :: OW, FA⟩ Q) (f : RW P T C ops r ⟨N, SL, BL, OW, FA⟩ Q → p := by exact Tz)
  (hf : Fy ops r o r' K := by exact Fo) (hg : o.guard = none := by rfl) (hd : o.dst = some d := by rfl) (hn : Nat.blt d N = true := by rfl) (ho : o.op = .buildSlice t n ⟨parts⟩ := by rfl)
  (ht : T.slc t = some e := by rfl) (hz : T.siz e = some (E.esz, b) := by rfl) (hzz : T.zer e = some z := by rfl) (hzl : z.length = E.esz := by rfl) (hby : T.byt e = some E.by_ := by rfl) (hnb : Nat.ble (n * E.by_) 140737488355328 = true := by rfl) (hpos : Nat.blt 0 E.esz = true := by rfl) (he : evp SL parts = some (g, vs) := by rfl) (hgt : g = true := by rfl) (hnl : n = l.length := by rfl)
  (hfill : fillL ((List.range n).map fun i => (i * E.esz, E.esz)) (kC z (n * E.esz)) vs = some (l.flatMap E.enc) := by rfl) (hsm : Nat.ble (n * E.esz) 16777216 = true := by rfl) (hk : K [] := by exact Fp) : p :=
 have ⟨_, h1, _⟩ := hf.to hk
 f (rl E l h1 (au hg) hd hn ho ht hz hzz hzl hby hnb hpos he hgt hnl hfill hsm h)
theorem Ap (E : El α) (k : Nat) (l m : List α) {X : SlV} (b : Option Nat) {agg : Bool} {ow' : SlV → Option Nat → List Own}
  (h : ∀ (X' : SlV) (b' : Option Nat), RW P T C ops r' ⟨N, (d, .v (X'.val (l ++ m).length)) :: SL, BL, ow' X' b', FA⟩ Q) (f : RW P T C ops r ⟨N, SL, BL, OW, FA⟩ Q → p := by exact Tz)
  (hf : Fy ops r o r' K := by exact Fo) (hg : o.guard = none := by rfl) (hd : o.dst = some d := by rfl) (hn : Nat.blt d N = true := by rfl) (ho : o.op = .call ⟨.builtin .append, ⟨[x, y]⟩, ⟨[t, t]⟩⟩ := by rfl) (hx : ev SL x = some (g0, X.val l.length) := by rfl) (hg0 : g0 = true := by rfl) (hy : ev SL y = some (g1, v) := by rfl) (hg1 : g1 = true := by rfl)
  (hu : ∀ (X' : SlV) b', UpdO OW (ownL E e X b l) [ownL E e X' b' (l ++ m)] (ow' X' b') := by exact fun _ _ => Uo)
  (ht : T.slc t = some e := by rfl) (hz : T.siz e = some (E.esz, agg) := by rfl) (hzz : T.zer e = some z := by rfl) (hzl : z.length = E.esz := by rfl) (hby : T.byt e = some E.by_ := by rfl) (hpos : Nat.blt 0 E.esz = true := by rfl) (hbp : Nat.blt 0 E.by_ = true := by rfl)
  (hr : Reads ⟨N, SL, BL, OW, FA⟩ C E.esz v m.length (m.flatMap E.enc) := by first | (apply oH; (repeat (first | exact .head _ | apply List.Mem.tail)); done) | (apply ur; (repeat (first | exact .head _ | apply List.Mem.tail)); done)) (hkk : E.by_ = k := by rfl) (hb : (l.length + m.length) * k ≤ 140737488355328 := by (try simp only [Ln]); omega) (hk : K b.toList := by exact Fp) : p :=
 have ⟨_, h1, h2⟩ := hf.to hk
 f (kq E l m h1 (fun g hg => h2.imp id fun h => h g (by simp [hg])) (au hg) hd hn ho hx hg0 hy hg1 hu ht hz hzz hzl hby hpos hbp hr (by rw [hkk]; exact hb) h)
theorem Fg [Inhabited α] (EN : En α) (γ : Nat → EN.G) (l : List α) (i k : Nat) {F : Pred} (h : RW P T C ops r ⟨N, SL, BL, OW, F :: FA⟩ Q) (hm : FactsG EN γ l ∈ FA := by exact Mm) (hi : i < l.length := by first | assumption | omega) (hF : (EN.facts (γ i, gt l i))[k]? = some F := by rfl) : RW P T C ops r ⟨N, SL, BL, OW, FA⟩ Q :=
 have hF' : F ∈ EN.facts (γ i, gt l i) := List.mem_of_getElem? hF
 haveI : Stab F := (EN.stab _).st F hF'
 iq [FactsG EN γ l] (.cons hm (.nil _)) (fun M w h => (allF1 h) i hi _ hF') h
theorem Ft [Inhabited α] (E : En α) (h : CW P T C c ⟨N, SL, BL, OW, RdN E ⟨none, 0⟩ [] :: FA⟩ Q) : CW P T C c ⟨N, SL, BL, OW, FA⟩ Q :=
 o0 [] (.nil _) (fun M w _ => RdN.nil _ M w) h
theorem Fm [Inhabited α] (E : En α) (h : RW P T C ops r ⟨N, SL, BL, OW, RdN E ⟨none, 0⟩ [] :: FA⟩ Q) : RW P T C ops r ⟨N, SL, BL, OW, FA⟩ Q :=
 iq [] (.nil _) (fun M w _ => RdN.nil _ M w) h
theorem Fu [Inhabited α] (EN : En α) (γ : Nat → EN.G) (l : List α) (i : Nat) (g : EN.G) (a : α) (h : RW P T C ops r ⟨N, SL, BL, OW, FactsG EN (updG γ i g) (l.set i a) :: FA⟩ Q) (hm : FactsG EN γ l ∈ FA := by exact Mm) (hs : SubM FA (EN.facts (g, a)) := by exact Sm) : RW P T C ops r ⟨N, SL, BL, OW, FA⟩ Q :=
 iq (FactsG EN γ l :: EN.facts (g, a)) (.cons hm hs) (fun M w h => FactsG.upd EN (h _ (.head _)) fun F hF => h F (.tail _ hF)) h
theorem Fj [Inhabited α] (EN : En α) (X : SlV) (γ : Nat → EN.G) (l : List α) (h : CW P T C c ⟨N, SL, BL, OW, RdN EN X l :: FA⟩ Q) (h1 : RdG EN X γ l ∈ FA := by exact Mm) (h2 : FactsG EN γ l ∈ FA := by exact Mm) : CW P T C c ⟨N, SL, BL, OW, FA⟩ Q :=
 o0 [RdG EN X γ l, FactsG EN γ l] (.cons h1 (.cons h2 (.nil _))) (fun M w h => RdN.ofG EN (h _ (.head _)) (h _ (.tail _ (.head _)))) h
theorem Fk [Inhabited α] (EN : En α) (X : SlV) (γ : Nat → EN.G) (l : List α) (h : RW P T C ops r ⟨N, SL, BL, OW, RdN EN X l :: FA⟩ Q) (h1 : RdG EN X γ l ∈ FA := by exact Mm) (h2 : FactsG EN γ l ∈ FA := by exact Mm) : RW P T C ops r ⟨N, SL, BL, OW, FA⟩ Q :=
 iq [RdG EN X γ l, FactsG EN γ l] (.cons h1 (.cons h2 (.nil _))) (fun M w h => RdN.ofG EN (h _ (.head _)) (h _ (.tail _ (.head _)))) h
theorem Sz (h : p := by exact Sf) : p := h
theorem Tn {α : Type} {l a r : List α} (h : Take l a r := by first | exact .nil _ | exact .cons (by repeat (first | exact .here _ _ | apply Pick.there)) (.nil _) | exact .cons (by repeat (first | exact .here _ _ | apply Pick.there)) (.cons (by repeat (first | exact .here _ _ | apply Pick.there)) (.nil _))) : Take l a r := h
variable {X : Type} {f : FuncId} {post : X → List Pred} {pre : List Pred} {ts : Array TypeId} {val : X → Value} {xs : Array Operand}
theorem Ck 
  (hS : Does P f vs pre val post) (h : ∀ x, RW P T C ops r' ⟨N, (d, .v (val x)) :: SL, BL, OW, post x ++ FA⟩ Q) (fz : RW P T C ops r ⟨N, SL, BL, OW, FA⟩ Q → p := by exact Tz) (hfr : Fy ops r o r' K := by exact Fo) (hg : o.guard = none := by rfl) (hd : o.dst = some d := by rfl) (hn : Nat.blt d N = true := by rfl) (ho : o.op = .call ⟨.value (.func f), xs, ts⟩ := by rfl) (hf : T.fnb f = true := by kernel_rfl)
  (he : evs SL xs.toList = some (g, vs) := by rfl) (hgt : g = true := by rfl) (hpre : SubM FA pre := by exact Sz) (hk : K [] := by exact Fp) : p :=
 have ⟨_, h1, _⟩ := hfr.to hk
 fz (Dh hS h1 (au hg) hd hn ho hf he hgt hpre h)
variable {L : Lent} {L' : X → Lent}
theorem Cm {RB : List Blk} {RO : List Own}
  (hS : DoesG P f vs pre L val post L') (h : ∀ x, RW P T C ops r' ⟨N, (d, .v (val x)) :: SL, (L' x).bl ++ RB, (L' x).ow ++ RO, post x ++ FA⟩ Q) (fz : RW P T C ops r ⟨N, SL, BL, OW, FA⟩ Q → p := by exact Tz) (hfr : Fy ops r o r' K := by exact Fo) (hg : o.guard = none := by rfl) (hd : o.dst = some d := by rfl) (hn : Nat.blt d N = true := by rfl) (ho : o.op = .call ⟨.value (.func f), xs, ts⟩ := by rfl) (hf : T.fnb f = true := by kernel_rfl)
  (he : evs SL xs.toList = some (g, vs) := by rfl) (hgt : g = true := by rfl) (hpre : SubM FA pre := by exact Sz) (hb : Take BL L.bl RB := by exact Tn) (hw : Take OW L.ow RO := by exact Tn) (hk : K L.ids := by exact Fp) : p :=
 have ⟨_, h1, h2⟩ := hfr.to hk
 fz (vh hS h1 h2 (au hg) hd hn ho hf he hgt hpre hb hw h)
theorem Cy 
  (hS : G = true → Does P f vs pre val post) (h : RW P T C ops r' ⟨N, (d, .o G v) :: SL, BL, OW, FA⟩ Q) (fz : RW P T C ops r ⟨N, SL, BL, OW, FA⟩ Q → p := by exact Tz) (hfr : Fy ops r o r' K := by exact Fo) (hG : Guard ops SL o G := by exact Gz) (hval : ∀ x, val x = v := by exact fun _ => rfl) (hd : o.dst = some d := by rfl) (hn : Nat.blt d N = true := by rfl) (ho : o.op = .call ⟨.value (.func f), xs, ts⟩ := by rfl) (hf : T.fnb f = true := by kernel_rfl)
  (he : evs SL xs.toList = some (g, vs) := by rfl) (hgt : G = true → g = true := by exact Bz) (hpre : SubM FA pre := by exact Sz) (hk : K [] := by exact Fp) : p :=
 have ⟨_, h1, _⟩ := hfr.to hk
 fz (BF hS hval h1 hG hd hn ho hf he hgt hpre h)
variable {bl' : List Blk}
theorem Wa {g : Nat} (h : RW P T C ops r' ⟨N, SL, bl', OW, FA⟩ Q) (hf : Fy ops r o r' K := by exact Fo) (hg : o.guard = none := by rfl) (hd : o.dst = none := by rfl) (ho : o.op = .store t x y := by rfl)
  (he : ev SL x = some (g0, .pointer (some ⟨g, 0, none⟩)) := by rfl) (hg0 : g0 = true := by rfl) (hev : ev SL y = some (g1, .agg ⟨vs⟩) := by rfl) (hg1 : g1 = true := by rfl) (hs : T.siz t = some (n, true) := by rfl) (hvn : vs.length = n := by rfl)
  (hone : vs.all (·.oneCell') = true := by rfl) (hu : UpdB BL g cs vs bl' := by exact Ub) (hle : cs.length = n := by rfl) (hk : K [g] := by exact Fp) : RW P T C ops r ⟨N, SL, BL, OW, FA⟩ Q :=
 have ⟨_, h1, h2⟩ := hf.to hk
 yd h1 (h2.imp id fun h => h g (.head _)) (au hg) hd ho he hg0 hev hg1 hs hvn hone hu hle h
theorem W1 {g : Nat} (h : RW P T C ops r' ⟨N, SL, bl', OW, FA⟩ Q) (hf : Fy ops r o r' K := by exact Fo) (hg : o.guard = none := by rfl) (hd : o.dst = none := by rfl) (ho : o.op = .store t x y := by rfl)
  (he : ev SL x = some (g0, .pointer (some ⟨g, off, none⟩)) := by rfl) (hg0 : g0 = true := by rfl) (hev : ev SL y = some (g1, v) := by rfl) (hg1 : g1 = true := by rfl) (hs : T.siz t = some (n, false) := by rfl) (hn1 : n = 1 := by rfl) (hvc : v.oneCell' = true := by rfl)
  (hu : UpdB BL g cs (cs.set off v) bl' := by exact Ub) (hle : Nat.blt off cs.length = true := by rfl) (hk : K [g] := by exact Fp) : RW P T C ops r ⟨N, SL, BL, OW, FA⟩ Q :=
 have ⟨_, h1, h2⟩ := hf.to hk
 ye h1 (h2.imp id fun h => h g (.head _)) (au hg) hd ho he hg0 hev hg1 hs hn1 hvc hu hle h
theorem Wp {g : Nat} (h : RW P T C ops r' ⟨N, SL, bl', OW, FA⟩ Q) (hf : Fy ops r o r' K := by exact Fo) (hg : o.guard = none := by rfl) (hd : o.dst = none := by rfl) (ho : o.op = .store t x y := by rfl)
  (he : ev SL x = some (g0, .pointer (some ⟨g, off, none⟩)) := by rfl) (hg0 : g0 = true := by rfl) (hev : ev SL y = some (g1, .agg ⟨vs⟩) := by rfl) (hg1 : g1 = true := by rfl) (hs : T.siz t = some (n, true) := by rfl) (hvn : vs.length = n := by rfl)
  (hone : vs.all (·.oneCell') = true := by rfl) (hu : UpdB BL g cs (putAt cs off vs) bl' := by exact Ub) (hle : Nat.ble (off + n) cs.length = true := by rfl) (hk : K [g] := by exact Fp) : RW P T C ops r ⟨N, SL, BL, OW, FA⟩ Q :=
 have ⟨_, h1, h2⟩ := hf.to hk
 rw_stP h1 (h2.imp id fun h => h g (.head _)) (au hg) hd ho he hg0 hev hg1 hs hvn hone hu hle h
variable {bb : Bool} {ow' : List Own}
theorem Wo [Inhabited α] (E : El α) (l : List α) (i o2 : Nat) (p : α) {X : SlV} (b : Option Nat) (h : RW P T C ops r' ⟨N, SL, BL, ow', FA⟩ Q) (hf : Fy ops r o r' K := by exact Fo) (hg : o.guard = none := by rfl) (hd : o.dst = none := by rfl) (ho : o.op = .store t x y := by rfl)
  (he : ev SL x = some (g0, .pointer (some (epA X.a i E.esz o2))) := by rfl) (hg0 : g0 = true := by rfl) (hev : ev SL y = some (g1, v) := by rfl) (hg1 : g1 = true := by rfl) (hs : T.siz t = some (n, bb) := by rfl) (hvc : v.cells = vs.toArray := by rfl) (hvn : vs.length = n := by rfl)
  (hone : vs.all (·.oneCell') = true := by rfl) (hle : Nat.ble (o2 + n) E.esz = true := by rfl) (hlt : i < l.length := by exact Zb) (hp : E.enc p = putAt (E.enc (gt l i)) o2 vs := by rfl) (hu : UpdO OW (ownL E e X b l) [ownL E e X b (l.set i p)] ow' := by exact Uo) (hk : K b.toList := by exact Fp) : RW P T C ops r ⟨N, SL, BL, OW, FA⟩ Q :=
 have ⟨_, h1, h2⟩ := hf.to hk
 CD E l i o2 p h1 (h2.imp id fun h g hg => h g (by simp [hg])) (au hg) hd ho he hg0 hev hg1 hs hvc hvn hone hle hlt hp hu h
theorem Wn [Inhabited α] (EN : En α) (γ : Nat → EN.G) (l : List α) (i o2 : Nat) (g : EN.G) (p : α) {X : SlV} (b : Option Nat) (h : RW P T C ops r' ⟨N, SL, BL, ow', FA⟩ Q) (hf : Fy ops r o r' K := by exact Fo) (hg : o.guard = none := by rfl) (hd : o.dst = none := by rfl) (ho : o.op = .store t x y := by rfl)
  (he : ev SL x = some (g0, .pointer (some (epA X.a i EN.E.esz o2))) := by rfl) (hg0 : g0 = true := by rfl) (hev : ev SL y = some (g1, v) := by rfl) (hg1 : g1 = true := by rfl) (hs : T.siz t = some (n, bb) := by rfl) (hvc : v.cells = vs.toArray := by rfl) (hvn : vs.length = n := by rfl)
  (hone : vs.all (·.oneCell') = true := by rfl) (hle : Nat.ble (o2 + n) EN.E.esz = true := by rfl) (hlt : i < l.length := by exact Zb) (hp : EN.E.enc (g, p) = putAt (EN.E.enc (γ i, gt l i)) o2 vs := by rfl) (hu : UpdO OW (ownN EN e X b γ l) [ownN EN e X b (updG γ i g) (l.set i p)] ow' := by exact Uo) (hk : K b.toList := by exact Fp) : RW P T C ops r ⟨N, SL, BL, OW, FA⟩ Q :=
 have ⟨_, h1, h2⟩ := hf.to hk
 zQ EN γ l i o2 g p h1 (h2.imp id fun h g hg => h g (by simp [hg])) (au hg) hd ho he hg0 hev hg1 hs hvc hvn hone hle hlt hp hu h
def selS (SL : Slots) : List Nat → Option Slots
 | [] => some []
 | n :: r => match getS SL n, selS SL r with
  | some x, some l => some ((n, x) :: l)
  | _, _ => none
theorem xg : ∀ {l : List Nat} {SL' : Slots}, selS SL l = some SL' → Sel SL l SL'
 | [], SL', h => by cases h; exact .nil _
 | n :: r, SL', h => by
  simp only [selS] at h;split at h
  ·cases h; rename_i h1 h2; exact .cons h1 (xg h2)
  ·cases h
def selB : List Blk → List Bool → Option (List Blk)
 | [], [] => some []
 | k :: l, b :: m => match b, selB l m with
  | true, some l' => some (k :: l')
  | false, some l' => some l'
  | _, none => none
 | _, _ => none
theorem vg : ∀ {BL : List Blk} {m : List Bool} {BL' : List Blk}, selB BL m = some BL' → SelB BL m BL'
 | [], [], _, h => by cases h; exact .nil
 | k :: l, b :: m, BL', h => by
  simp only [selB] at h;split at h
  ·cases h; rename_i h2; exact .keep (vg h2)
  ·cases h; rename_i h2; exact .drop (vg h2)
  ·cases h
 | [], _ :: _, _, h => by cases h
 | _ :: _, [], _, h => by cases h
theorem D0 : l.drop 0 = l := rfl
theorem Oo (h : p := by simp only []; omega) : p := h
theorem Lc : (∀ (a : α) (l r : List α), a :: l ++ r = a :: (l ++ r)) ∧ (∀ l : List α, [] ++ l = l) := ⟨fun _ _ _ => rfl, fun _ => rfl⟩
theorem Nz (h : p := by first | exact Nr | exact N0 | omega) : p := h
variable {SL' : Slots}
theorem Lq (ι : Type) (keep : List Nat) (mask : List Bool) (d : ι → Ls) (i0 : ι) {b : Code} (h0 : (d i0).inv) (h : ∀ i, (d i).inv → CW P T C b ⟨N, (d i).sl ++ SL', (d i).bl ++ BL', (d i).ow, (d i).fa ++ FA⟩ (loopD C N d SL' BL' FA i Q))
  (f : CW P T C (.loop b) ⟨N, SL, BL, OW, FA⟩ Q → p := by exact Tz) (hsel : selS SL keep = some SL' := by rfl) (hB : selB BL mask = some BL' := by rfl) (hs : Le C ⟨N, SL, BL, OW, FA⟩ ⟨N, (d i0).sl ++ SL', (d i0).bl ++ BL', (d i0).ow, (d i0).fa ++ FA⟩ := by exact Le5) : p := f (Lp keep mask d i0 (xg hsel) (vg hB) h0 hs h)
def joinD {ι : Type} (C : Cx) (N : Nat) (d : ι → Ls) (SL' : Slots) (BL' : List Blk) (FA : List Pred) (Q : Post) : Post
 | .normal, s' => ∃ i, (d i).inv ∧ Le C s' ⟨N, (d i).sl ++ SL', (d i).bl ++ BL', (d i).ow, (d i).fa ++ FA⟩
 | e, s' => Q e s'
theorem Jn (ι : Type) (keep : List Nat) (mask : List Bool) (d : ι → Ls) {y : Code} 
  (h : CW P T C c ⟨N, SL, BL, OW, FA⟩ (joinD C N d SL' BL' FA Q)) (hj : ∀ i, (d i).inv → CW P T C y ⟨N, (d i).sl ++ SL', (d i).bl ++ BL', (d i).ow, (d i).fa ++ FA⟩ Q)
  (hsel : selS SL keep = some SL' := by rfl) (hB : selB BL mask = some BL' := by rfl) : CW P T C c ⟨N, SL, BL, OW, FA⟩ (thenQ P T C y Q) :=
 my keep mask (fun i => (d i).sl) (fun i => (d i).bl) (fun i => (d i).ow) (fun i => (d i).fa) (fun i => (d i).inv) (xg hsel) (vg hB) (xE (fun e s' hq => by
  cases e with
  | normal => exact hq
  | exit i => exact hq
  | ret => exact hq
  | goto l => exact hq
  | panic c => exact hq
  | outgrown => exact hq) h) hj
variable {args : List Value} {fn : Func}
theorem Dp {c : Code} {N : Nat} (hf : P.funcs[f]? = some fn) (h : ∀ C : Cx, CW P T C c ⟨N, argS 0 args, [], [], pre⟩ (finQ T rs val post (fun _ => ⟨[], []⟩))) (hT : TabOk T P := by exact CC) (hN : fn.ntmps = N := by rfl) (hrs : fn.results = ⟨rs⟩ := by rfl) (hb : fn.body = some c := by rfl) (hle : Nat.ble args.length N = true := by rfl) (hpre : StabL pre := by infer_instance) (hpost : ∀ x, StabL (post x) := by exact fun _ => inferInstance) : Does P f args pre val post :=
 DI hT hf hb hN hrs hle hpre hpost h
theorem Dq {c : Code} {N : Nat} (hf : P.funcs[f]? = some fn) (h : ∀ C : Cx, CW P T C c ⟨N, argS 0 args, L.bl, L.ow, pre⟩ (finQ T rs val post L')) (hT : TabOk T P := by exact CC) (hN : fn.ntmps = N := by rfl) (hrs : fn.results = ⟨rs⟩ := by rfl) (hb : fn.body = some c := by rfl) (hle : Nat.ble args.length N = true := by rfl) (hpre : StabL pre := by infer_instance) (hpost : ∀ x, StabL (post x) := by exact fun _ => inferInstance) : DoesG P f args pre L val post L' :=
 yI hT hf hb hN hrs hle hpre hpost h
theorem AlT (h : ∀ g, RW P T C ops r' ⟨N, (d, .v (.pointer (some ⟨g, 0, none⟩))) :: SL, ⟨g, t, z⟩ :: BL, OW, FA⟩ Q) (f : RW P T C ops r ⟨N, SL, BL, OW, FA⟩ Q → p := by exact Tz) (hf : Fy ops r o r' K := by exact Fo) (hg : o.guard = none := by rfl) (hd : o.dst = some d := by rfl) (hn : Nat.blt d N = true := by rfl) (ho : o.op = .alloc t := by rfl) (hz : T.zer t = some z := by rfl) (hk : K [] := by exact Fp) : p :=
 have ⟨_, h1, _⟩ := hf.to hk
 f (BG h1 (au hg) hd hn ho hz h)
theorem BxT {l : List Oper} (h : ∀ g, RW P T C ops (.sq l) ⟨N, (d, .v (.pointer (some ⟨g, 0, none⟩))) :: SL, ⟨g, t, cs⟩ :: BL, OW, FA⟩ Q) (f : RW P T C ops (.sq (o :: l)) ⟨N, SL, BL, OW, FA⟩ Q → p := by exact Tz) (hg : o.guard = none := by rfl) (hd : o.dst = some d := by rfl) (hn : Nat.blt d N = true := by rfl) (ho : o.op = .box t x := by rfl)
  (he : ev SL x = some (g0, .agg ⟨cs⟩) := by rfl) (hg0 : g0 = true := by rfl) : p := f (y0 .sq (au hg) hd hn ho he hg0 h)
end
section
variable {P : Program} {T : Tab} {C : Cx} {ops : Array Oper} {o : Oper} {r r' : RS} {s : St} {Q : Post} {N : Nat} {SL : Slots} {BL : List Blk} {OW : List Own} {FA : List Pred} {c : Code} {p : Prop}
def fpL : List (Nat × Option (List Nat)) → Nat → Option (List Nat)
 | [], _ => some []
 | (i, x) :: r, j => bif Nat.beq i j then x else fpL r j
theorem Rg (F : List (Nat × Option (List Nat))) {id : Nat} {l : List Oper} (h : RW P T C ⟨l⟩ (.an (fpL F) l.length (Array.replicate l.length false)) s Q) (f : CW P T C (.region id ⟨l⟩ true) s Q → p := by exact Tz) : p := f (uL (fpL F) h)
variable {α : Type} {E : El α} {b : Option Nat} {e : TypeId} {l : List α} {ow' : List Own}
theorem Fz (X : SlV) (h : CW P T C c ⟨N, SL, BL, ow', RdL E X l :: FA⟩ Q) (hu : UpdO OW (ownL E e X b l) [] ow' := by exact Uo) : CW P T C c ⟨N, SL, BL, OW, FA⟩ Q := cw_le (pt E e X b l hu) h
theorem Fx (X : SlV) (h : RW P T C ops r ⟨N, SL, BL, ow', RdL E X l :: FA⟩ Q) (hu : UpdO OW (ownL E e X b l) [] ow' := by exact Uo) : RW P T C ops r ⟨N, SL, BL, OW, FA⟩ Q := rw_le (pt E e X b l hu) h
section
variable {A : Type} {R U V : A} {k : Operand} {x y : Code} {g0 : Bool}
theorem Kh {b : Bool} (hR : Rs R (bif b then U else V)) (hf : b = false → Rs R V → CW P T C y ⟨N, SL, BL, OW, FA⟩ Q) (f : CW P T C (.cond k x y) ⟨N, SL, BL, OW, FA⟩ Q → p := by exact Tz) (he : ev SL k = some (g0, .bool b) := by rfl) (hg : g0 = true := by rfl) (ht : b = true → Rs R U → CW P T C x ⟨N, SL, BL, OW, FA⟩ Q := by intro _ hf; exact Ru) : p := Ch hR ht hf f he hg
theorem Kp {B : Prop} [Decidable B] (hR : Rs R (bif decide B then U else V)) (hf : decide B = false → ¬B → Rs R V → CW P T C y ⟨N, SL, BL, OW, FA⟩ Q) (f : CW P T C (.cond k x y) ⟨N, SL, BL, OW, FA⟩ Q → p := by exact Tz) (he : ev SL k = some (g0, .bool (decide B)) := by rfl) (hg : g0 = true := by rfl) (ht : decide B = true → B → Rs R U → CW P T C x ⟨N, SL, BL, OW, FA⟩ Q := by intro _ _ hf; exact Ru) : p := Cp hR ht hf f he hg
variable {B : Type} {a b : B}
theorem Kn [BEq B] [LawfulBEq B] (hR : Rs R (bif (a != b) then U else V)) (hf : (a != b) = false → a = b → Rs R V → CW P T C y ⟨N, SL, BL, OW, FA⟩ Q) (f : CW P T C (.cond k x y) ⟨N, SL, BL, OW, FA⟩ Q → p := by exact Tz) (he : ev SL k = some (g0, .bool (a != b)) := by rfl) (hg : g0 = true := by rfl) (ht : (a != b) = true → a ≠ b → Rs R U → CW P T C x ⟨N, SL, BL, OW, FA⟩ Q := by intro _ _ hf; exact Ru) : p := Cn hR ht hf f he hg
theorem Ke [BEq B] [LawfulBEq B] (hR : Rs R (bif (a == b) then U else V)) (hf : (a == b) = false → a ≠ b → Rs R V → CW P T C y ⟨N, SL, BL, OW, FA⟩ Q) (f : CW P T C (.cond k x y) ⟨N, SL, BL, OW, FA⟩ Q → p := by exact Tz) (he : ev SL k = some (g0, .bool (a == b)) := by rfl) (hg : g0 = true := by rfl) (ht : (a == b) = true → a = b → Rs R U → CW P T C x ⟨N, SL, BL, OW, FA⟩ Q := by intro _ _ hf; exact Ru) : p := Ce hR ht hf f he hg
end
variable {α : Type} {g0 : Bool} {l : List α} {x : Operand}
theorem Xe [Inhabited α] {EN : En α} {γ : Nat → EN.G} {esz c t : Nat} {G : Bool} {A : Option Addr} {i : Nat} (cs : List Value) (ho : o.op = .load t x := by rfl)
  (he : ev SL x = some (g0, .pointer (some (epA A i esz 0))) := by rfl) (hg0 : G = true → g0 = true := by exact Bz) (hs : T.siz t = some (esz, true) := by rfl) (hm : RdG EN ⟨A, c⟩ γ l ∈ FA := by exact Mm) (hes : EN.E.esz = esz := by rfl) (hlt : G = true → i < l.length := by exact Zk) (hcs : EN.E.enc (γ i, gt l i) = cs := by rfl) : Quiet P T SL BL FA o G (.agg ⟨cs⟩) :=
 hcs ▸ q_leAN EN γ ho he hg0 hs hes hm hlt
theorem Ex [Inhabited α] (EN : En α) (X : SlV) (h : ∀ γ : Nat → EN.G, RW P T C ops r ⟨N, SL, BL, OW, FactsG EN γ l :: RdG EN X γ l :: FA⟩ Q) (hm : RdN EN X l ∈ FA := by exact Mm) : RW P T C ops r ⟨N, SL, BL, OW, FA⟩ Q := rw_exN EN hm h
theorem Nf {q : Prop} (h : q := by (repeat refine bn Sm ?_); intro _ hp; cases hp) : q := h
theorem Ns [Inhabited α] (EN : En α) (X : SlV) {hs : List (EN.G × α)} (l : List α) (h : RW P T C ops r ⟨N, SL, BL, OW, RdN EN X l :: FA⟩ Q) (hm : RdL EN.E X hs ∈ FA := by exact Mm) (hl : hs.map (·.2) = l := by rfl) (hf : ∀ p ∈ hs, SubM FA (EN.facts p) := by exact Nf) : RW P T C ops r ⟨N, SL, BL, OW, FA⟩ Q :=
 iq FA (SubM.all _) (fun M w h => RdN.of EN hl (h _ hm) fun p hp => pD (hf p hp) h) h
variable {m : List α}
theorem Fp' [Inhabited α] (EN : En α) (γ δ : Nat → EN.G) (h : RW P T C ops r ⟨N, SL, BL, OW, FactsG EN (appG γ l.length δ) (l ++ m) :: FA⟩ Q) (h1 : FactsG EN γ l ∈ FA := by exact Mm) (h2 : FactsG EN δ m ∈ FA := by exact Mm) : RW P T C ops r ⟨N, SL, BL, OW, FA⟩ Q :=
 iq FA (SubM.all _) (fun _ _ h => FactsG.app EN (h _ h1) (h _ h2)) h
variable {E : El α}
theorem Dz (X : SlV) (n : Nat) (h : RW P T C ops r ⟨N, SL, BL, OW, RdL E ⟨slA X.a X.c n E.esz, X.c - n⟩ (l.drop n) :: FA⟩ Q) (h1 : RdL E X l ∈ FA := by exact Mm) (h2 : n ≤ l.length := by omega) : RW P T C ops r ⟨N, SL, BL, OW, FA⟩ Q :=
 iq FA (SubM.all _) (fun _ _ h => (h _ h1).drop _ h2) h
variable {K : List Nat → Prop} {d : Nat}
theorem Aq [Inhabited α] (EN : En α) (X' : SlV) {δ : Nat → EN.G} (b : Option Nat) {e : TypeId} {X : SlV} {t : Nat} {y : Operand} {g1 : Bool} {z : List Value} {agg : Bool} {ow' : SlV → Option Nat → List Own}
  (h : ∀ (X' : SlV) (b' : Option Nat), RW P T C ops r' ⟨N, (d, .v (X'.val m.length)) :: SL, BL, ow' X' b', FA⟩ Q) (hf : Fy ops r o r' K := by exact Fo) (hg : o.guard = none := by rfl) (hd : o.dst = some d := by rfl) (hn : Nat.blt d N = true := by rfl)
  (ho : o.op = .call ⟨.builtin .append, ⟨[x, y]⟩, ⟨[t, t]⟩⟩ := by rfl) (hx : ev SL x = some (g0, X.val ([] : List α).length) := by rfl) (hg0 : g0 = true := by rfl) (hr : RdG EN X' δ m ∈ FA := by exact Mm) (hy : ev SL y = some (g1, X'.val m.length) := by rfl) (hg1 : g1 = true := by rfl)
  (hu : ∀ (X' : SlV) b', UpdO OW (ownL EN.E e X b []) [ownN EN e X' b' δ m] (ow' X' b') := by exact fun _ _ => Uo)
  (ht : T.slc t = some e := by rfl) (hz : T.siz e = some (EN.E.esz, agg) := by rfl) (hzz : T.zer e = some z := by rfl) (hzl : z.length = EN.E.esz := by rfl) (hby : T.byt e = some EN.E.by_ := by rfl) (hpos : Nat.blt 0 EN.E.esz = true := by rfl) (hbp : Nat.blt 0 EN.E.by_ = true := by rfl)
  (hb : m.length * EN.E.by_ ≤ 140737488355328 := by assumption) (hk : K b.toList := by exact Fp) : RW P T C ops r ⟨N, SL, BL, OW, FA⟩ Q :=
 have ⟨_, h1, h2⟩ := hf.to hk
 xi EN δ m h1 (fun g e => h2.imp id fun h => h g (by simp [e])) (au hg) hd hn ho hx hg0 hy hg1 hu ht hz hzz hzl hby hpos hbp (lB hr) hb h
variable {X : Type} {args caps vs : List Value} {f : FuncId} {g : Bool} {post : X → List Pred} {pre : List Pred} {ts : Array TypeId} {val : X → Value} {xs : Array Operand}
theorem Cv 
  (hS : Does P f args pre val post) (h : ∀ x, RW P T C ops r' ⟨N, (d, .v (val x)) :: SL, BL, OW, post x ++ FA⟩ Q) (fz : RW P T C ops r ⟨N, SL, BL, OW, FA⟩ Q → p := by exact Tz) (hfr : Fy ops r o r' K := by exact Fo) (hg : o.guard = none := by rfl) (hd : o.dst = some d := by rfl) (hn : Nat.blt d N = true := by rfl) (ho : o.op = .call ⟨.value x, xs, ts⟩ := by rfl) (hx : ev SL x = some (g0, .func (.func f) #[] ⟨caps⟩) := by rfl) (hg0 : g0 = true := by rfl) (hf : T.fnb f = true := by kernel_rfl)
  (he : evs SL xs.toList = some (g, vs) := by rfl) (hgt : g = true := by rfl) (ha : args = vs ++ caps := by rfl) (hpre : SubM FA pre := by exact Sz) (hk : K [] := by exact Fp) : p :=
 have ⟨_, h1, _⟩ := hfr.to hk
 fz (yg hS h1 (au hg) hd hn ho hx hg0 hf he hgt ha hpre h)
variable {L' : X → Lent}
theorem Cw {L : Lent} {RB : List Blk} {RO : List Own}
  (hS : DoesG P f args pre L val post L') (h : ∀ x, RW P T C ops r' ⟨N, (d, .v (val x)) :: SL, (L' x).bl ++ RB, (L' x).ow ++ RO, post x ++ FA⟩ Q) (fz : RW P T C ops r ⟨N, SL, BL, OW, FA⟩ Q → p := by exact Tz) (hfr : Fy ops r o r' K := by exact Fo) (hg : o.guard = none := by rfl) (hd : o.dst = some d := by rfl) (hn : Nat.blt d N = true := by rfl) (ho : o.op = .call ⟨.value x, xs, ts⟩ := by rfl) (hx : ev SL x = some (g0, .func (.func f) #[] ⟨caps⟩) := by rfl) (hg0 : g0 = true := by rfl) (hf : T.fnb f = true := by kernel_rfl)
  (he : evs SL xs.toList = some (g, vs) := by rfl) (hgt : g = true := by rfl) (ha : args = vs ++ caps := by rfl) (hpre : SubM FA pre := by exact Sz) (hb : Take BL L.bl RB := by exact Tn) (hw : Take OW L.ow RO := by exact Tn) (hk : K L.ids := by exact Fp) : p :=
 have ⟨_, h1, h2⟩ := hfr.to hk
 fz (zV hS h1 h2 (au hg) hd hn ho hx hg0 hf he hgt ha hpre hb hw h)
theorem Rp' {v : Value} (hf : jf ops r o none r') (h : RW P T C ops r' ⟨N, (d, .v v) :: SL, BL, OW, FA⟩ Q) (hg : o.guard = none := by rfl) (hd : o.dst = some d := by rfl) (hn : Nat.blt d N = true := by rfl) (hq : Quiet P T SL [] [] o true v := by exact Xv) : RW P T C ops r ⟨N, SL, BL, OW, FA⟩ Q := ra_p hf hg hd hn hq h
theorem Qc (X : SlV) (n : Nat) (h : l.length * n ≤ 140737488355328 → CW P T C c ⟨N, SL, BL, OW, FA⟩ Q) (hm : RdL E X l ∈ FA := by exact Mm) (hn : E.by_ = n := by rfl) : CW P T C c ⟨N, SL, BL, OW, FA⟩ Q := Pc E X l n h hm hn
theorem Qn [Inhabited α] {E : En α} (X : SlV) (n : Nat) (h : l.length * n ≤ 140737488355328 → CW P T C c ⟨N, SL, BL, OW, FA⟩ Q) (hm : RdN E X l ∈ FA := by exact Mm) (hn : E.E.by_ = n := by rfl) : CW P T C c ⟨N, SL, BL, OW, FA⟩ Q := Pn E X l n h hm hn
theorem Qr (X : SlV) (n : Nat) (h : l.length * n ≤ 140737488355328 → RW P T C ops r ⟨N, SL, BL, OW, FA⟩ Q) (hm : RdL E X l ∈ FA := by exact Mm) (hn : E.by_ = n := by rfl) : RW P T C ops r ⟨N, SL, BL, OW, FA⟩ Q := Pr E X l n h hm hn
theorem Gg [Inhabited α] (EN : En α) (γ : Nat → EN.G) (i k : Nat) {F : Pred} (h : RW P T C ops r ⟨N, SL, BL, OW, F :: FA⟩ Q) (hm : FactsG EN γ l ∈ FA := by exact Mm) (hi : i < l.length := by first | assumption | omega) (hF : (EN.facts (γ i, gt l i))[k]? = some F := by rfl) : RW P T C ops r ⟨N, SL, BL, OW, FA⟩ Q := Fg EN γ l i k h hm hi hF
theorem Rr {rs : List ResultVar} (x : X) (h1 : ResVs T s rs vs := by exact Rv) (h2 : val x = yl vs := by rfl) (h3 : SubM s.fa (post x) := by exact Sm) (h4 : SubP s.bl (L' x).bl := by exact Sb) (h5 : SubP s.ow (L' x).ow := by exact Sb) : finQ T rs val post L' .ret s := Re x h1 h2 h3 h4 h5
end
end Go.Proofs.YtkjccbdeaflekaaGreatDoor.Fw
namespace Go.Proofs.YtkjccbdeaflekaaGreatDoor
open Go Go.Proofs.YtkjccbdeaflekaaGreatDoor.Fw Go.Proofs
abbrev cP (x : Place) : List Value := [.int .i64 x.node, .int .i64 x.parent, .int .i64 x.name]
abbrev cT (x : Stamp) : List Value := [.int .i64 x.time, .int .i64 x.who]
abbrev cO (x : Op) : List Value := [.int .i64 x.time, .int .i64 x.who, .int .i64 x.node, .int .i64 x.parent, .int .i64 x.name, .int .i64 x.life, .int .i64 x.seq]
abbrev cV (a0 a1 a2 : SlV) (x : View) : List Value := [a0.val x.roots.length, a1.val x.known.length, a2.val x.way.length]
abbrev cD (a0 a1 a2 a3 : SlV) (x : Delta) : List Value := [a0.val x.gone.length, a1.val x.here.length, a2.val x.wayGone.length, a3.val x.wayHere.length]
abbrev cH (a0 a1 : SlV) (x : History) : List Value := [a0.val x.l.length, a1.val x.t.length]
abbrev cK (a0 a1 : SlV) (x : Disk) : List Value := [a0.val x.safe.length, a1.val x.wait.length]
abbrev cE (a0 : SlV) (x : Peer) : List Value := [.int .i64 x.life, .int .i64 x.seq, a0.val x.roots.length]
abbrev cA (a0 : SlV) (x : Happening) : List Value := [.int .i64 x.kind, .int .i64 x.who, .int .i64 x.n, .int .i64 x.node, .int .i64 x.parent, .int .i64 x.name, a0.val x.roots.length]
abbrev cS (x : Step) : List Value := [.int .i64 x.o.time, .int .i64 x.o.who, .int .i64 x.o.node, .int .i64 x.o.parent, .int .i64 x.o.name, .int .i64 x.o.life, .int .i64 x.o.seq, .bool x.did, .int .i64 x.was.node, .int .i64 x.was.parent, .int .i64 x.was.name]
abbrev cR (a0 : SlV) (x : Rec) : List Value := [.int .i64 x.kind, .int .i64 x.who, .int .i64 x.life, a0.val x.roots.length, .int .i64 x.o.time, .int .i64 x.o.who, .int .i64 x.o.node, .int .i64 x.o.parent, .int .i64 x.o.name, .int .i64 x.o.life, .int .i64 x.o.seq]
abbrev cB (a0 a1 a2 : SlV) (x : Hub) : List Value := [a0.val x.h.l.length, a1.val x.h.t.length, .int .i64 x.version, a2.val x.peers.length]
abbrev cC (a0 a1 a2 a3 : SlV) (x : Client) : List Value := [.int .i64 x.life, .int .i64 x.time, .int .i64 x.seq, a0.val x.pending.length, .int .i64 x.version, a1.val x.v.roots.length, a2.val x.v.known.length, a3.val x.v.way.length]
abbrev cM (a0 a1 a2 a3 a4 a5 a6 : SlV) (x : Mail) : List Value := [.int .i64 x.kind, .int .i64 x.who, .int .i64 x.life, .int .i64 x.seq, .int .i64 x.time, .int .i64 x.version, .int .i64 x.frm, .int .i64 x.o.time, .int .i64 x.o.who, .int .i64 x.o.node, .int .i64 x.o.parent, .int .i64 x.o.name, .int .i64 x.o.life, .int .i64 x.o.seq, a0.val x.v.roots.length, a1.val x.v.known.length, a2.val x.v.way.length, a3.val x.d.gone.length, a4.val x.d.here.length, a5.val x.d.wayGone.length, a6.val x.d.wayHere.length]
abbrev cW (a0 a1 a2 a3 a4 a5 a6 : SlV) (x : Wld) : List Value := [a0.val x.h.h.l.length, a1.val x.h.h.t.length, .int .i64 x.h.version, a2.val x.h.peers.length, a3.val x.d.safe.length, a4.val x.d.wait.length, .bool x.up, a5.val x.c.length, a6.val x.mail.length]
attribute [local irreducible] CW RW
theorem dC (x : SlV) (l : List Int) : Dv 117 [x.val l.length] [RdL EInt x l] ⟨[], []⟩ (fun (X : SlV × Option Nat) => X.1.val l.length) (fun _ => []) (fun X => ⟨[], [ownL EInt 3 X.1 X.2 l]⟩) := by
 refine Dq Tryz.func117 fun C => ?_;refine e8 (φ := l.length * EInt.by_ ≤ 140737488355328) [RdL EInt x l] Sm (fun M w h => (allF1 h).len) fun hlen => ?_;refine Sy Tz (nl rfl rfl Zf rfl) ?_;refine eF ?_;(repeat refine er ?_); refine kX rfl rfl (fun hc0 => ?_) (fun hc0 => ?_)
 ·refine e8 [RdL EInt x l] Sm (fun M w h => (allF1 h).nil_of hc0) fun hnil => ?_;subst hnil;refine cw_le (eI EInt 3) ?_;refine Tx ?_;refine Tr ?_; exact Rr (⟨none, 0⟩, none)
 ·refine Bl EInt [] fun x1 x1b => ?_;refine Rp rfl rfl rfl rfl ?_;refine Ap EInt 8 [] l x1b (hb := by simp only [List.length_nil, Nat.zero_add]; exact hlen) fun x2 x2b => ?_;refine Tx ?_;refine Tr ?_; exact Rr (x2, x2b)
theorem d8 (x : SlV) (l : List Place) : Dv 172 [x.val l.length] [RdL EPlace x l] ⟨[], []⟩ (fun (X : SlV × Option Nat) => X.1.val l.length) (fun _ => []) (fun X => ⟨[], [ownL EPlace 99 X.1 X.2 l]⟩) := by
 refine Dq Tryz.func172 fun C => ?_;refine e8 (φ := l.length * EPlace.by_ ≤ 140737488355328) [RdL EPlace x l] Sm (fun M w h => (allF1 h).len) fun hlen => ?_;refine Sy Tz (nl rfl rfl Zf rfl) ?_;refine eF ?_;(repeat refine er ?_); refine kX rfl rfl (fun hc0 => ?_) (fun hc0 => ?_)
 ·refine e8 [RdL EPlace x l] Sm (fun M w h => (allF1 h).nil_of hc0) fun hnil => ?_;subst hnil;refine cw_le (eI EPlace 99) ?_;refine Tx ?_;refine Tr ?_; exact Rr (⟨none, 0⟩, none)
 ·refine Bl EPlace [] fun x1 x1b => ?_;refine Rp rfl rfl rfl rfl ?_;refine Ap EPlace 24 [] l x1b (hb := by simp only [List.length_nil, Nat.zero_add]; exact hlen) fun x2 x2b => ?_;refine Tx ?_;refine Tr ?_; exact Rr (x2, x2b)
theorem kZ (x : SlV) (l : List Op) : Dv 133 [x.val l.length] [RdL EOp x l] ⟨[], []⟩ (fun (X : SlV × Option Nat) => X.1.val l.length) (fun _ => []) (fun X => ⟨[], [ownL EOp 76 X.1 X.2 l]⟩) := by
 refine Dq Tryz.func133 fun C => ?_;refine e8 (φ := l.length * EOp.by_ ≤ 140737488355328) [RdL EOp x l] Sm (fun M w h => (allF1 h).len) fun hlen => ?_;refine Sy Tz (nl rfl rfl Zf rfl) ?_;refine eF ?_;(repeat refine er ?_); refine kX rfl rfl (fun hc0 => ?_) (fun hc0 => ?_)
 ·refine e8 [RdL EOp x l] Sm (fun M w h => (allF1 h).nil_of hc0) fun hnil => ?_;subst hnil;refine cw_le (eI EOp 76) ?_;refine Tx ?_;refine Tr ?_; exact Rr (⟨none, 0⟩, none)
 ·refine Bl EOp [] fun x1 x1b => ?_;refine Rp rfl rfl rfl rfl ?_;refine Ap EOp 56 [] l x1b (hb := by simp only [List.length_nil, Nat.zero_add]; exact hlen) fun x2 x2b => ?_;refine Tx ?_;refine Tr ?_; exact Rr (x2, x2b)
theorem og (x : SlV) (l : List Step) : Dv 170 [x.val l.length] [RdL EStep x l] ⟨[], []⟩ (fun (X : SlV × Option Nat) => X.1.val l.length) (fun _ => []) (fun X => ⟨[], [ownL EStep 157 X.1 X.2 l]⟩) := by
 refine Dq Tryz.func170 fun C => ?_;refine e8 (φ := l.length * EStep.by_ ≤ 140737488355328) [RdL EStep x l] Sm (fun M w h => (allF1 h).len) fun hlen => ?_;refine Sy Tz (nl rfl rfl Zf rfl) ?_;refine eF ?_;(repeat refine er ?_); refine kX rfl rfl (fun hc0 => ?_) (fun hc0 => ?_)
 ·refine e8 [RdL EStep x l] Sm (fun M w h => (allF1 h).nil_of hc0) fun hnil => ?_;subst hnil;refine cw_le (eI EStep 157) ?_;refine Tx ?_;refine Tr ?_; exact Rr (⟨none, 0⟩, none)
 ·refine Bl EStep [] fun x1 x1b => ?_;refine Rp rfl rfl rfl rfl ?_;refine Ap EStep 88 [] l x1b (hb := by simp only [List.length_nil, Nat.zero_add]; exact hlen) fun x2 x2b => ?_;refine Tx ?_;refine Tr ?_; exact Rr (x2, x2b)
variable {k : Nat}
theorem ij {α : Type} [Inhabited α] (ls : List (List α)) (h : k < ls.length) : (ls.take (k + 1)).flatten = (ls.take k).flatten ++ gt ls k ∧ (ls.take k).flatten.length + (gt ls k).length ≤ ls.flatten.length := by
 have h1 : (ls.take (k + 1)).flatten = (ls.take k).flatten ++ gt ls k := by
  rw [gt_eq h, ← List.take_append_getElem h, List.flatten_append]; simp only [List.flatten_cons, List.flatten_nil, List.append_nil]
 refine ⟨h1, ?_⟩;have h2 : ls.flatten = (ls.take (k + 1)).flatten ++ (ls.drop (k + 1)).flatten := by rw [← List.flatten_append, List.take_append_drop]
 rw [h2, h1]; simp only [List.length_append]; omega
def eu (s2 : List Int) : List Int → Nat → Bool
 | [], n1 => true
 | pn1 :: rn1, n1 => (bif (pn1 != (gt s2 n1)) then false else (eu s2 rn1 (n1 + 1)))
def iH (s1 : List Int) (s2 : List Int) : Bool :=
 (bif ((s1.length : Int) != (s2.length : Int)) then false else (eu s2 s1 0))
theorem oC (y1 : SlV) (s1 : List Int) (y2 : SlV) (s2 : List Int) : Du 60 [y1.val s1.length, y2.val s2.length] [RdL EInt y1 s1, RdL EInt y2 s2] (.bool (iH s1 s2)) := by
 refine Dp Tryz.func60 fun C => ?_;refine Qc y1 8 fun hlen1 => ?_;refine Qc y2 8 fun hlen2 => ?_;have hf := Ri (iH.eq_1 s1 s2);refine Kn hf fun hc1 hc1p hf => ?_;refine Lq Nat [0,1,4,12] [] (fun n1 => ⟨[(13, .v (.int .i64 (n1 : Int)))], [], [], [], (n1 ≤ s1.length) ∧ (eu s2 (s1.drop n1) n1) = (iH s1 s2), s1.length - n1⟩) 0 ⟨N0, hf.symm⟩ ?_;rintro n1 ⟨hkn1, hf1⟩;simp only [Lc];refine Cu (fun hlt0 => ?_) fun hge0 => ?_
 ·refine Rg [] ?_;refine Dx [0,1] ?_;refine Rb 2 rfl (Xi n1) ?_;refine Ra 3 rfl X1 ?_;refine Dx [4,5] ?_;refine Rb 6 rfl (Xi n1) ?_;refine Ra 7 rfl X1 ?_;refine Ra 8 rfl Qp ?_;refine Re0 ?_;have hf := Ri hf1.symm;rw [aK hlt0, eu] at hf;refine Kn hf fun hc3 hc3p hf => ?_;refine Tt ?_;refine ⟨(n1 + 1), ⟨hlt0, hf.symm⟩, Oo, Le4⟩
 ·have hf := Ri hf1.symm;rw [Dl hge0, eu] at hf;exact Ru
theorem p5 (a b : List Int) : iH a b = decide (a = b) := by
 have key : ∀ (l : List Int) (k : Nat), l.length + k = b.length → eu b l k = decide (l = b.drop k) := by
  intro l;induction l with
  | nil => intro k hk; rw [eu, Dl (by simp at hk; omega)]; simp
  | cons p r ih =>
   intro k hk;simp only [List.length_cons] at hk;rw [eu, ih (k + 1) (by omega), aK (by omega : k < b.length)];by_cases h : p = gt b k <;> simp [h]
 rw [iH];by_cases h : a.length = b.length
 ·rw [key a 0 (by omega)]; simp [h]
 ·have : a ≠ b := fun e => h (by rw [e]);simp [this, Int.ofNat_inj, h]
theorem cl (y1 y2 : SlV) (a b : List Int) : Du 60 [y1.val a.length, y2.val b.length] [RdL EInt y1 a, RdL EInt y2 b] (.bool (decide (a = b))) := by
 have := oC y1 a y2 b;rw [p5] at this;exact this
def dW (s2 : List Place) : List Place → Nat → Bool
 | [], n1 => true
 | pn1 :: rn1, n1 => (bif (!(decide (pn1 = (gt s2 n1)))) then false else (dW s2 rn1 (n1 + 1)))
def gT (s1 : List Place) (s2 : List Place) : Bool :=
 (bif ((s1.length : Int) != (s2.length : Int)) then false else (dW s2 s1 0))
theorem nb (y1 : SlV) (s1 : List Place) (y2 : SlV) (s2 : List Place) : Du 41 [y1.val s1.length, y2.val s2.length] [RdL EPlace y1 s1, RdL EPlace y2 s2] (.bool (gT s1 s2)) := by
 refine Dp Tryz.func41 fun C => ?_;refine Qc y1 24 fun hlen1 => ?_;refine Qc y2 24 fun hlen2 => ?_;have hf := Ri (gT.eq_1 s1 s2);refine Kn hf fun hc1 hc1p hf => ?_;refine Lq Nat [0,1,4,12] [] (fun n1 => ⟨[(13, .v (.int .i64 (n1 : Int)))], [], [], [], (n1 ≤ s1.length) ∧ (dW s2 (s1.drop n1) n1) = (gT s1 s2), s1.length - n1⟩) 0 ⟨N0, hf.symm⟩ ?_;rintro n1 ⟨hkn1, hf1⟩;simp only [Lc];refine Cu (fun hlt0 => ?_) fun hge0 => ?_
 ·refine Rg [] ?_;refine Dx [0,1] ?_;refine Rb 2 rfl (Xi n1) ?_;refine Ra 3 rfl Xa ?_;refine Dx [4,5] ?_;refine Rb 6 rfl (Xi n1) ?_;refine Ra 7 rfl Xa ?_;refine Ra 8 rfl (q_neE oX (kM (gt s1 n1) (gt s2 n1)) rfl rfl Zf rfl Zf rfl rfl) ?_;refine Re0 ?_;have hf := Ri hf1.symm;rw [aK hlt0, dW] at hf;refine Kh hf fun hc3 hf => ?_;refine Tt ?_;refine ⟨(n1 + 1), ⟨hlt0, hf.symm⟩, Oo, Le4⟩
 ·have hf := Ri hf1.symm;rw [Dl hge0, dW] at hf;exact Ru
theorem oA (a b : List Place) : gT a b = decide (a = b) := by
 have key : ∀ (l : List Place) (k : Nat), l.length + k = b.length → dW b l k = decide (l = b.drop k) := by
  intro l;induction l with
  | nil => intro k hk; rw [dW, Dl (by simp at hk; omega)]; simp
  | cons p r ih =>
   intro k hk;simp only [List.length_cons] at hk;rw [dW, ih (k + 1) (by omega), aK (by omega : k < b.length)];by_cases h : p = gt b k <;> simp [h]
 rw [gT];by_cases h : a.length = b.length
 ·rw [key a 0 (by omega)]; simp [h]
 ·have : a ≠ b := fun e => h (by rw [e]);simp [this, Int.ofNat_inj, h]
theorem cf (y1 y2 : SlV) (a b : List Place) : Du 41 [y1.val a.length, y2.val b.length] [RdL EPlace y1 a, RdL EPlace y2 b] (.bool (decide (a = b))) := by
 have := nb y1 a y2 b;rw [oA] at this;exact this
def eS (s2 : List Op) : List Op → Nat → Bool
 | [], n1 => true
 | pn1 :: rn1, n1 => (bif (!(decide (pn1 = (gt s2 n1)))) then false else (eS s2 rn1 (n1 + 1)))
def i4 (s1 : List Op) (s2 : List Op) : Bool :=
 (bif ((s1.length : Int) != (s2.length : Int)) then false else (eS s2 s1 0))
theorem pI (y1 : SlV) (s1 : List Op) (y2 : SlV) (s2 : List Op) : Du 28 [y1.val s1.length, y2.val s2.length] [RdL EOp y1 s1, RdL EOp y2 s2] (.bool (i4 s1 s2)) := by
 refine Dp Tryz.func28 fun C => ?_;refine Qc y1 56 fun hlen1 => ?_;refine Qc y2 56 fun hlen2 => ?_;have hf := Ri (i4.eq_1 s1 s2);refine Kn hf fun hc1 hc1p hf => ?_;refine Lq Nat [0,1,4,12] [] (fun n1 => ⟨[(13, .v (.int .i64 (n1 : Int)))], [], [], [], (n1 ≤ s1.length) ∧ (eS s2 (s1.drop n1) n1) = (i4 s1 s2), s1.length - n1⟩) 0 ⟨N0, hf.symm⟩ ?_;rintro n1 ⟨hkn1, hf1⟩;simp only [Lc];refine Cu (fun hlt0 => ?_) fun hge0 => ?_
 ·refine Rg [] ?_;refine Dx [0,1] ?_;refine Rb 2 rfl (Xi n1) ?_;refine Ra 3 rfl Xa ?_;refine Dx [4,5] ?_;refine Rb 6 rfl (Xi n1) ?_;refine Ra 7 rfl Xa ?_;refine Ra 8 rfl (q_neE tC (lI (gt s1 n1) (gt s2 n1)) rfl rfl Zf rfl Zf rfl rfl) ?_;refine Re0 ?_;have hf := Ri hf1.symm;rw [aK hlt0, eS] at hf;refine Kh hf fun hc3 hf => ?_;refine Tt ?_;refine ⟨(n1 + 1), ⟨hlt0, hf.symm⟩, Oo, Le4⟩
 ·have hf := Ri hf1.symm;rw [Dl hge0, eS] at hf;exact Ru
theorem qw (a b : List Op) : i4 a b = decide (a = b) := by
 have key : ∀ (l : List Op) (k : Nat), l.length + k = b.length → eS b l k = decide (l = b.drop k) := by
  intro l;induction l with
  | nil => intro k hk; rw [eS, Dl (by simp at hk; omega)]; simp
  | cons p r ih =>
   intro k hk;simp only [List.length_cons] at hk;rw [eS, ih (k + 1) (by omega), aK (by omega : k < b.length)];by_cases h : p = gt b k <;> simp [h]
 rw [i4];by_cases h : a.length = b.length
 ·rw [key a 0 (by omega)]; simp [h]
 ·have : a ≠ b := fun e => h (by rw [e]);simp [this, Int.ofNat_inj, h]
theorem oB (y1 y2 : SlV) (a b : List Op) : Du 28 [y1.val a.length, y2.val b.length] [RdL EOp y1 a, RdL EOp y2 b] (.bool (decide (a = b))) := by
 have := pI y1 a y2 b;rw [qw] at this;exact this
def ei (s2 : List Step) : List Step → Nat → Bool
 | [], n1 => true
 | pn1 :: rn1, n1 => (bif (!(decide (pn1 = (gt s2 n1)))) then false else (ei s2 rn1 (n1 + 1)))
def im (s1 : List Step) (s2 : List Step) : Bool :=
 (bif ((s1.length : Int) != (s2.length : Int)) then false else (ei s2 s1 0))
theorem n8 (y1 : SlV) (s1 : List Step) (y2 : SlV) (s2 : List Step) : Du 143 [y1.val s1.length, y2.val s2.length] [RdL EStep y1 s1, RdL EStep y2 s2] (.bool (im s1 s2)) := by
 refine Dp Tryz.func143 fun C => ?_;refine Qc y1 88 fun hlen1 => ?_;refine Qc y2 88 fun hlen2 => ?_;have hf := Ri (im.eq_1 s1 s2);refine Kn hf fun hc1 hc1p hf => ?_;refine Lq Nat [0,1,4,12] [] (fun n1 => ⟨[(13, .v (.int .i64 (n1 : Int)))], [], [], [], (n1 ≤ s1.length) ∧ (ei s2 (s1.drop n1) n1) = (im s1 s2), s1.length - n1⟩) 0 ⟨N0, hf.symm⟩ ?_;rintro n1 ⟨hkn1, hf1⟩;simp only [Lc];refine Cu (fun hlt0 => ?_) fun hge0 => ?_
 ·refine Rg [] ?_;refine Dx [0,1] ?_;refine Rb 2 rfl (Xi n1) ?_;refine Ra 3 rfl Xa ?_;refine Dx [4,5] ?_;refine Rb 6 rfl (Xi n1) ?_;refine Ra 7 rfl Xa ?_;refine Ra 8 rfl (q_neE BW (xz (gt s1 n1) (gt s2 n1)) rfl rfl Zf rfl Zf rfl rfl) ?_;refine Re0 ?_;have hf := Ri hf1.symm;rw [aK hlt0, ei] at hf;refine Kh hf fun hc3 hf => ?_;refine Tt ?_;refine ⟨(n1 + 1), ⟨hlt0, hf.symm⟩, Oo, Le4⟩
 ·have hf := Ri hf1.symm;rw [Dl hge0, ei] at hf;exact Ru
theorem pH (a b : List Step) : im a b = decide (a = b) := by
 have key : ∀ (l : List Step) (k : Nat), l.length + k = b.length → ei b l k = decide (l = b.drop k) := by
  intro l;induction l with
  | nil => intro k hk; rw [ei, Dl (by simp at hk; omega)]; simp
  | cons p r ih =>
   intro k hk;simp only [List.length_cons] at hk;rw [ei, ih (k + 1) (by omega), aK (by omega : k < b.length)];by_cases h : p = gt b k <;> simp [h]
 rw [im];by_cases h : a.length = b.length
 ·rw [key a 0 (by omega)]; simp [h]
 ·have : a ≠ b := fun e => h (by rw [e]);simp [this, Int.ofNat_inj, h]
theorem j5 (y1 y2 : SlV) (a b : List Step) : Du 143 [y1.val a.length, y2.val b.length] [RdL EStep y1 a, RdL EStep y2 b] (.bool (decide (a = b))) := by
 have := n8 y1 a y2 b;rw [pH] at this;exact this
def iM (p1 : Place) : Int :=
 (bif (((((decide (p1.node < 1) || decide (p1.node ≥ 16)) || decide (p1.parent < 0)) || decide (p1.parent > 16)) || decide (p1.name < 0)) || decide (p1.name > 99)) then 3 else 0)
theorem sR (p1 : Place) : Du 159 [.agg ⟨cP p1⟩] [] (.int .i64 (iM p1)) := by
 refine Dp Tryz.func159 fun C => ?_;refine BxT fun g1 => ?_;have hf := Ri (iM.eq_1 p1);refine Kh hf fun hc1 hf => ?_;exact Ru
def gQ (node1 : Int) : List Place → Place
 | [] => (⟨0, 0, 0⟩ : Place)
 | pn1 :: rn1 => (bif (pn1.node == node1) then pn1 else (gQ node1 rn1))
def bq (t1 : List Place) (node1 : Int) : Place :=
 (gQ node1 t1)
theorem ib (y1 : SlV) (t1 : List Place) (node1 : Int) : Du 195 [.agg ⟨[y1.val t1.length]⟩, .int .i64 node1] [RdL EPlace y1 t1] (.agg ⟨cP (bq t1 node1)⟩) := by
 refine Dp Tryz.func195 fun C => ?_;refine Qc y1 24 fun hlen1 => ?_;refine BxT fun g1 => ?_;refine AlT fun g2 => ?_;refine Lq Nat [1,4,8,9] [true, true] (fun n1 => ⟨[(10, .v (.int .i64 (n1 : Int)))], [], [], [], (n1 ≤ t1.length) ∧ (gQ node1 (t1.drop n1)) = (bq t1 node1), t1.length - n1⟩) 0 ⟨N0, (by simp only [bq, Cf, D0])⟩ ?_;rintro n1 ⟨hkn1, hf1⟩;simp only [Lc];refine Cu (fun hlt0 => ?_) fun hge0 => ?_
 ·refine Sy Tz (Xi n1) ?_;refine Sq Xa ?_;refine AlT fun g3 => ?_;have hf := Ri hf1.symm;rw [aK hlt0, gQ] at hf;refine Ke hf fun hc2 hc2p hf => ?_;refine Tt ?_;refine ⟨(n1 + 1), ⟨hlt0, hf.symm⟩, Oo, Le4⟩
 ·have hf := Ri hf1.symm;rw [Dl hge0, gQ] at hf;exact Ru
def ia (t1 : List Place) (top1 : Int) : Nat → Int → Bool
 | 0, node2 => false
 | fn1 + 1, node2 => (bif (node2 == top1) then true else (bif ((bq t1 node2).node == 0) then false else (ia t1 top1 fn1 (bq t1 node2).parent)))
def iy (t1 : List Place) (node1 : Int) (top1 : Int) : Bool :=
 (ia t1 top1 ((t1.length + 1) - 0) node1)
theorem jE (y1 : SlV) (t1 : List Place) (node1 : Int) (top1 : Int) : Du 160 [.agg ⟨[y1.val t1.length]⟩, .int .i64 node1, .int .i64 top1] [RdL EPlace y1 t1] (.bool (iy t1 node1 top1)) := by
 refine Dp Tryz.func160 fun C => ?_;refine Qc y1 24 fun hlen1 => ?_;refine BxT fun g1 => ?_;refine Lq (Int × Nat) [2,3,6,11] [true] (fun ⟨node2, n1⟩ => ⟨[(1, .v (.int .i64 node2)), (12, .v (.int .i64 (n1 : Int)))], [], [], [], (n1 ≤ (t1.length + 1)) ∧ (ia t1 top1 ((t1.length + 1) - n1) node2) = (iy t1 node1 top1), (t1.length + 1) - n1⟩) ⟨node1, 0⟩ ⟨N0, (by simp only [iy, Cf, D0])⟩ ?_;rintro ⟨node2, n1⟩ ⟨hkn1, hf1⟩;simp only [Lc];refine Cd' (fun hc1 => ?_) fun hc1 => ?_
 ·have hlt0 : n1 < (t1.length + 1) := by have := of_decide_eq_true hc1; omega
  have hlt0_ : (t1.length + 1) - n1 = ((t1.length + 1) - (n1 + 1)) + 1 := by omega
  have hf := Ri hf1.symm;rw [hlt0_, ia] at hf;refine Ke hf fun hc2 hc2p hf => ?_;refine Ck (ib y1 t1 node2) fun _ => ?_;refine AlT fun g2 => ?_;refine Ke hf fun hc3 hc3p hf => ?_;refine Tt ?_;refine ⟨⟨(bq t1 node2).parent, (n1 + 1)⟩, ⟨hlt0, hf.symm⟩, Oo, Le4⟩
 ·have hge0 : (t1.length + 1) ≤ n1 := by have := of_decide_eq_false hc1; omega
  have hge0_ : (t1.length + 1) - n1 = 0 := by omega
  have hf := Ri hf1.symm;rw [hge0_, ia] at hf;exact Ru
def f9 (t1 : List Place) : List Place → Int
 | [] => 0
 | pn2 :: rn2 => (bif (iy t1 pn2.parent pn2.node) then 4 else (f9 t1 rn2))
def fR (t1 : List Place) : List Place → Nat → Int
 | [], n1 => (f9 t1 t1)
 | pn1 :: rn1, n1 => (bif ((iM pn1) != 0) then (iM pn1) else (bif (decide ((n1 : Int) > 0) && decide ((gt t1 (n1 - 1)).node ≥ pn1.node)) then 6 else (fR t1 rn1 (n1 + 1))))
def dy (t1 : List Place) : Int :=
 (fR t1 t1 0)
theorem gp (y1 : SlV) (t1 : List Place) : Du 115 [.agg ⟨[y1.val t1.length]⟩] [RdL EPlace y1 t1] (.int .i64 (dy t1)) := by
 refine Dp Tryz.func115 fun C => ?_;refine Qc y1 24 fun hlen1 => ?_;refine BxT fun g1 => ?_;refine Lq Nat [1,2,9,10] [true] (fun n1 => ⟨[(11, .v (.int .i64 (n1 : Int)))], [], [], [], (n1 ≤ t1.length) ∧ (fR t1 (t1.drop n1) n1) = (dy t1), t1.length - n1⟩) 0 ⟨N0, (by simp only [dy, Cf, D0])⟩ ?_;rintro n1 ⟨hkn1, hf1⟩;simp only [Lc];refine Cu (fun hlt0 => ?_) fun hge0 => ?_
 ·refine Sy Tz (Xi n1) ?_;refine Sq Xa ?_;refine AlT fun g2 => ?_;refine Ck (sR (gt t1 n1)) fun _ => ?_;have hf := Ri hf1.symm;rw [aK hlt0, fR] at hf;refine Kn hf fun hc2 hc2p hf => ?_;refine Rg [] ?_;refine Dx (.range 7) ?_;refine Gb 7 rfl Gz (Xi (n1 - 1)) ?_;refine Gb 8 rfl Gz Xf ?_;refine Gb 9 rfl Gz X1 ?_;refine Dx [10,11,12,13] ?_;refine Re0 ?_;refine Kh hf fun hc3 hf => ?_;refine Tt ?_;refine ⟨(n1 + 1), ⟨hlt0, hf.symm⟩, Oo, Le4⟩
 ·refine Lq Nat [1,2,37,38] [true] (fun n2 => ⟨[(39, .v (.int .i64 (n2 : Int)))], [], [], [], (n2 ≤ t1.length) ∧ (f9 t1 (t1.drop n2)) = (dy t1), t1.length - n2⟩) 0 ⟨N0, (by rw [← hf1, Dl hge0]; simp only [fR, Cf, D0])⟩ ?_;rintro n2 ⟨hkn2, hf2⟩;simp only [Lc];refine Cu (fun hlt1 => ?_) fun hge1 => ?_
  ·refine Sy Tz (Xi n2) ?_;refine Sq Xa ?_;refine AlT fun g3 => ?_;refine Ck (jE y1 t1 (gt t1 n2).parent (gt t1 n2).node) fun _ => ?_;refine eF ?_;have hf := Ri hf2.symm;rw [aK hlt1, f9] at hf;refine Kh hf fun hc5 hf => ?_;refine Tt ?_;refine ⟨(n2 + 1), ⟨hlt1, hf.symm⟩, Oo, Le4⟩
  ·have hf := Ri hf2.symm;rw [Dl hge1, f9] at hf;exact Ru
def lu (t1 : List Place) : List Place :=
 t1
theorem mj (y1 : SlV) (t1 : List Place) : Dv 171 [.agg ⟨[y1.val t1.length]⟩] [RdL EPlace y1 t1] ⟨[], []⟩ (fun (X : SlV × Option Nat) => .agg ⟨[X.1.val (lu t1).length]⟩) (fun X => []) (fun X => ⟨[], [ownL EPlace 99 X.1 X.2 (lu t1)]⟩) := by
 refine Dq Tryz.func171 fun C => ?_;refine Qc y1 24 fun hlen1 => ?_;refine BxT fun g1 => ?_;refine AlT fun g2 => ?_;refine Cm (d8 y1 t1) fun x1 => ?_;have hf := Ri (lu.eq_1 t1);refine Rx ?_; exact Rr ⟨x1.1, x1.2⟩
def fx (p1 : Place) : List Place → Bool → (List Place) → (List Place)
 | [], done1, p2 => (bif (!done1) then (p2 ++ [p1]) else p2)
 | pn1 :: rn1, done1, p2 => (bif ((!done1) && decide (pn1.node ≥ p1.node)) then (bif (pn1.node != p1.node) then (fx p1 rn1 true ((p2 ++ [p1]) ++ [pn1])) else (fx p1 rn1 true (p2 ++ [p1]))) else (bif (pn1.node != p1.node) then (fx p1 rn1 done1 (p2 ++ [pn1])) else (fx p1 rn1 done1 p2)))
def eR (t1 : List Place) (p1 : Place) : List Place :=
 (fx p1 t1 (decide (p1.parent < 0)) [])
theorem jh (y1 : SlV) (t1 : List Place) (p1 : Place) (hl : t1.length ≤ 1000000) : Dw 194 [.agg ⟨[y1.val t1.length]⟩, .agg ⟨cP p1⟩] [RdL EPlace y1 t1] (fun (X : SlV) => .agg ⟨[X.val (eR t1 p1).length]⟩) (fun X => [RdL EPlace X (eR t1 p1)]) := by
 refine Dp Tryz.func194 fun C => ?_;refine Qc y1 24 fun hlen1 => ?_;refine BxT fun g1 => ?_;refine BxT fun g2 => ?_;refine AlT fun g3 => ?_;refine AlT fun g4 => ?_;refine Lq (Bool × Nat × List Place × SlV × Option Nat) [3,4,5,13,14] [false, true, true, true] (fun ⟨done1, n1, p2, x1, x1b⟩ => ⟨[(6, .v (.bool done1)), (15, .v (.int .i64 (n1 : Int)))], [⟨g4, 25, [x1.val p2.length]⟩], [ownL EPlace 99 x1 x1b p2], [], (n1 ≤ t1.length) ∧ (p2.length ≤ 2 * n1) ∧ (fx p1 (t1.drop n1) done1 p2) = (eR t1 p1), t1.length - n1⟩) ⟨decide (p1.parent < 0), 0, [], ⟨none, 0⟩, none⟩ ⟨N0, Nz, (by simp only [eR, Cf, D0])⟩ ?_ (hs := Le.trans (eI EPlace 99) Le4);rintro ⟨done1, n1, p2, x1, x1b⟩ ⟨hkn1, hp2, hf1⟩;simp only [Lc];refine Cu (fun hlt0 => ?_) fun hge0 => ?_
 ·refine Sy Tz (Xi n1) ?_;refine Sq Xa ?_;refine AlT fun g5 => ?_;have hf := Ri hf1.symm;rw [aK hlt0, fx] at hf;refine Ch hf (fun hc2 hf => ?_) fun hc2 hf => ?_
  ·refine Bl EPlace [p1] fun x2 x2b => ?_;refine Ap EPlace 24 p2 [p1] x1b fun x3 x3b => ?_;refine Cn hf (fun hc3 hc3p hf => ?_) fun hc3 hc3p hf => ?_
   ·refine Bl EPlace [(gt t1 n1)] fun x4 x4b => ?_;refine Ap EPlace 24 (p2 ++ [p1]) [(gt t1 n1)] x3b fun x5 x5b => ?_;refine Tt ?_;refine ⟨⟨true, (n1 + 1), ((p2 ++ [p1]) ++ [(gt t1 n1)]), x5, x5b⟩, ⟨hlt0, Zl, hf.symm⟩, Oo, Le4⟩
   ·refine Tt ?_;refine ⟨⟨true, (n1 + 1), (p2 ++ [p1]), x3, x3b⟩, ⟨hlt0, Zl, hf.symm⟩, Oo, Le4⟩
  ·refine Cn hf (fun hc4 hc4p hf => ?_) fun hc4 hc4p hf => ?_
   ·refine Bl EPlace [(gt t1 n1)] fun x6 x6b => ?_;refine Ap EPlace 24 p2 [(gt t1 n1)] x1b fun x7 x7b => ?_;refine Tt ?_;refine ⟨⟨done1, (n1 + 1), (p2 ++ [(gt t1 n1)]), x7, x7b⟩, ⟨hlt0, Zl, hf.symm⟩, Oo, Le4⟩
   ·refine Tt ?_;refine ⟨⟨done1, (n1 + 1), p2, x1, x1b⟩, ⟨hlt0, Zl, hf.symm⟩, Oo, Le4⟩
 ·have hf := Ri hf1.symm;rw [Dl hge0, fx] at hf;refine Ch hf (fun hc5 hf => ?_) fun hc5 hf => ?_
  ·refine Bl EPlace [p1] fun x8 x8b => ?_;refine Ap EPlace 24 p2 [p1] x1b fun x9 x9b => ?_;refine Tx ?_;refine Fz x9 ?_;refine Rx ?_; exact Rr x9
  ·refine Tx ?_;refine Fz x1 ?_;refine Rx ?_; exact Rr x1
def dv (o1 : Op) : Int :=
 (bif (((((((((((((decide (o1.time < 1) || decide (o1.time > 10000)) || decide (o1.who < 0)) || decide (o1.who ≥ 3)) || decide (o1.node < 1)) || decide (o1.node ≥ 16)) || decide (o1.parent < 0)) || decide (o1.parent > 16)) || decide (o1.name < 0)) || decide (o1.name > 99)) || decide (o1.life < 1)) || decide (o1.life > 50)) || decide (o1.seq < 1)) || decide (o1.seq > 30)) then 3 else 0)
theorem fW (o1 : Op) : Du 113 [.agg ⟨cO o1⟩] [] (.int .i64 (dv o1)) := by
 refine Dp Tryz.func113 fun C => ?_;refine BxT fun g1 => ?_;have hf := Ri (dv.eq_1 o1);refine Kh hf fun hc1 hf => ?_;exact Ru
def jL (a1 : Stamp) (b1 : Stamp) : Bool :=
 (decide (a1.time < b1.time) || ((a1.time == b1.time) && decide (a1.who < b1.who)))
theorem kV (a1 : Stamp) (b1 : Stamp) : Du 215 [.agg ⟨cT a1⟩, .agg ⟨cT b1⟩] [] (.bool (jL a1 b1)) := by
 refine Dp Tryz.func215 fun C => ?_;refine BxT fun g1 => ?_;refine BxT fun g2 => ?_;have hf := Ri (jL.eq_1 a1 b1);exact Ru
variable {p : Place}
theorem yp (h : iM p = 0) : 1 ≤ p.node ∧ p.node < 16 ∧ 0 ≤ p.parent ∧ p.parent ≤ 16 ∧ 0 ≤ p.name ∧ p.name ≤ 99 := by
 unfold iM at h;cases hb : (((((decide (p.node < 1) || decide (p.node ≥ 16)) || decide (p.parent < 0)) || decide (p.parent > 16)) || decide (p.name < 0)) || decide (p.name > 99)) with
 | true => rw [hb] at h; simp at h
 | false => simp at hb; omega
theorem nQ (t : List Place) : ∀ (r : List Place) (k : Nat), r = t.drop k → fR t r k = 0 →
  (∀ i, k ≤ i → i < t.length → iM (gt t i) = 0) ∧ (∀ i, k ≤ i → i < t.length → 0 < i → (gt t (i - 1)).node < (gt t i).node) ∧ f9 t t = 0
 | [], k, hr, h => by
  have : t.length ≤ k := by have := congrArg List.length hr; simp at this; omega
  exact ⟨fun i h1 h2 => by omega, fun i h1 h2 => by omega, h⟩
 | p :: r, k, hr, h => by
  have hk : k < t.length := by have := congrArg List.length hr; simp at this; omega
  rw [aK hk] at hr;obtain ⟨rfl, hr'⟩ := List.cons.inj hr;rw [fR] at h;cases h1 : (iM (gt t k) != 0) with
  | true => rw [h1, cond_true] at h; rw [h] at h1; simp at h1
  | false =>
   rw [h1, cond_false] at h;cases h2 : (decide ((k : Int) > 0) && decide ((gt t (k - 1)).node ≥ (gt t k).node)) with
   | true => rw [h2] at h; simp at h
   | false =>
    rw [h2, cond_false] at h;obtain ⟨ha, hb, hc⟩ := nQ t r (k + 1) hr' h;refine ⟨fun i hi hl => ?_, fun i hi hl hp => ?_, hc⟩
    ·by_cases he : i = k
     ·subst he; simpa using h1
     ·exact ha i (by omega) hl
    ·by_cases he : i = k
     ·subst he;have : (0 : Int) < (i : Int) := by omega
      simp [this] at h2;omega
     ·exact hb i (by omega) hl hp
variable {t : List Place}
theorem vc (h : dy t = 0) : (∀ i, i < t.length → iM (gt t i) = 0) ∧ (∀ i, i < t.length → 0 < i → (gt t (i - 1)).node < (gt t i).node) ∧ f9 t t = 0 := by
 obtain ⟨a, b, c⟩ := nQ t t 0 rfl h;exact ⟨fun i hi => a i N0 hi, fun i hi hp => b i N0 hi hp, c⟩
theorem m3 (h : dy t = 0) : t.length ≤ 15 := by
 obtain ⟨ha, hb, _⟩ := vc h;have key : ∀ i, i < t.length → (i : Int) + 1 ≤ (gt t i).node := by
  intro i;induction i with
  | zero => intro hi; have := (yp (ha 0 hi)).1; omega
  | succ i ih =>
   intro hi;have h1 := ih (by omega);have h2 := hb (i + 1) hi (by omega);simp at h2;omega
 by_cases hl : t.length ≤ 15
 ·exact hl
 ·have h1 := key 15 (by omega);have h2 := yp (ha 15 (by omega));omega
theorem vf (t : List Place) (h : dy t = 0) : t.length ≤ 1000000 := Nat.le_trans (m3 h) (by omega)
def f5 (t1 : List Place) (o1 : Op) : (List Place) × Step × Int :=
 (bif ((dy t1) != 0) then (([] : List Place), (⟨(⟨0, 0, 0, 0, 0, 0, 0⟩ : Op), false, (⟨0, 0, 0⟩ : Place)⟩ : Step), (dy t1)) else (bif ((dv o1) != 0) then (([] : List Place), (⟨(⟨0, 0, 0, 0, 0, 0, 0⟩ : Op), false, (⟨0, 0, 0⟩ : Place)⟩ : Step), (dv o1)) else (bif (iy t1 o1.parent o1.node) then ((lu t1), (⟨o1, false, (bq t1 o1.node)⟩ : Step), 0) else ((eR t1 (⟨o1.node, o1.parent, o1.name⟩ : Place)), (⟨o1, true, (bq t1 o1.node)⟩ : Step), 0))))
theorem rU (y1 : SlV) (t1 : List Place) (o1 : Op) : Dw 218 [.agg ⟨[y1.val t1.length]⟩, .agg ⟨cO o1⟩] [RdL EPlace y1 t1] (fun (X : SlV) => .tuple #[.agg ⟨[X.val (f5 t1 o1).1.length]⟩, .agg ⟨cS (f5 t1 o1).2.1⟩, .int .i64 (f5 t1 o1).2.2]) (fun X => [RdL EPlace X (f5 t1 o1).1]) := by
 refine Dp Tryz.func218 fun C => ?_;refine Qc y1 24 fun hlen1 => ?_;refine BxT fun g1 => ?_;refine BxT fun g2 => ?_;refine AlT fun g3 => ?_;refine AlT fun g4 => ?_;refine Ck (gp y1 t1) fun _ => ?_;have hf := Ri (f5.eq_1 t1 o1);refine Cn hf (fun hc1 hc1p hf => ?_) fun hc1 hc1p hf => ?_
 ·refine Tx ?_;refine Fc EPlace ?_;refine Rx ?_; exact Re Z0 (Va (Va (Vt Vn)))
 ·refine Ck (fW o1) fun _ => ?_;refine Cn hf (fun hc2 hc2p hf => ?_) fun hc2 hc2p hf => ?_
  ·refine Tx ?_;refine Fc EPlace ?_;refine Rx ?_; exact Re Z0 (Va (Va (Vt Vn)))
  ·refine Tx ?_;refine my [2, 3, 4, 5, 6] [true, true, true, true] (fun (g5 : Nat) => [(9, .v (.pointer (some ⟨g5, 0, none⟩)))]) (fun (g5 : Nat) => [⟨g5, 157, [.int .i64 o1.time, .int .i64 o1.who, .int .i64 o1.node, .int .i64 o1.parent, .int .i64 o1.name, .int .i64 o1.life, .int .i64 o1.seq, .bool false, .int .i64 (bq t1 o1.node).node, .int .i64 (bq t1 o1.node).parent, .int .i64 (bq t1 o1.node).name]⟩]) (fun (g5 : Nat) => []) (fun (g5 : Nat) => []) (fun _ => True) (.cons rfl (.cons rfl (.cons rfl (.cons rfl (.cons rfl (.nil _)))))) (.keep (.keep (.keep (.keep (.nil))))) ?_ ?_
   ·refine Rg [(7,none)] ?_;refine Dx [0,1,2,3] ?_;refine Rw 4 6 ?_ ?_
    ·refine Ck (ib y1 t1 o1.node) fun _ => ?_;refine Ra 5 rfl Qp ?_;refine Rn 6 ?_;refine AlT fun g6 => ?_;refine Rn 7 ?_;refine Wa ?_;refine Re0 ?_;refine ⟨g6, trivial, Le4⟩
    ·refine AlT fun g7 => ?_;refine Rn 4 ?_;refine Ck (ib y1 t1 o1.node) fun _ => ?_;refine Ra 5 rfl Qp ?_;refine Rn 7 ?_;refine Wa ?_;refine Re0 ?_;refine ⟨g7, trivial, Le4⟩
   ·rintro g5 -;simp only [Lc];refine Ck (jE y1 t1 o1.parent o1.node) fun _ => ?_;refine eF ?_;refine Ch hf (fun hc3 hf => ?_) fun hc3 hf => ?_
    ·refine Rg [(3,some [g3]),(4,some [g4])] ?_;refine Ra 0 rfl XA ?_;refine Rq (Fa 2 [1,3]) (.keep (.keep (.drop Sa))) XA ?_;refine Rn 1 ?_;refine Cm (mj y1 t1) fun x1 => ?_;refine Rn 3 ?_;refine Wa ?_;refine Rn 4 ?_;refine Wa ?_;refine Ra 5 rfl Qp ?_;refine Re0 ?_;(repeat refine er ?_);refine Fz x1.1 ?_;refine Rx ?_; exact Rr x1.1
    ·refine Rg [(10,some [g3]),(11,some [g4])] ?_;refine Dx (.range 8) ?_;refine Rq (Fa 9 [8,10]) (.keep (.keep (.drop Sa))) XA ?_;refine Rn 8 ?_;refine Ck (jh y1 t1 (⟨o1.node, o1.parent, o1.name⟩ : Place) (vf t1 (by first | assumption | simpa using hc1))) fun x2 => ?_;refine Qr x2 24 fun hlen2 => ?_;refine Rn 10 ?_;refine Wa ?_;refine Rn 11 ?_;refine Wa ?_;refine Ra 12 rfl Qp ?_;refine Re0 ?_;refine Rx ?_; exact Rr x2
def ee (t1 : List Place) (s1 : Step) : (List Place) × Int :=
 (bif ((dy t1) != 0) then (([] : List Place), (dy t1)) else (bif ((dv s1.o) != 0) then (([] : List Place), (dv s1.o)) else (bif (!s1.did) then ((lu t1), 0) else (bif (s1.was.node == 0) then (bif ((s1.o.node != s1.o.node) || (!(decide ((bq t1 s1.o.node) = (⟨s1.o.node, s1.o.parent, s1.o.name⟩ : Place))))) then (([] : List Place), 4) else (bif ((dy (eR t1 (⟨s1.o.node, (-1), 0⟩ : Place))) != 0) then (([] : List Place), (dy (eR t1 (⟨s1.o.node, (-1), 0⟩ : Place)))) else ((eR t1 (⟨s1.o.node, (-1), 0⟩ : Place)), 0))) else (bif ((s1.was.node != s1.o.node) || (!(decide ((bq t1 s1.o.node) = (⟨s1.o.node, s1.o.parent, s1.o.name⟩ : Place))))) then (([] : List Place), 4) else (bif ((dy (eR t1 s1.was)) != 0) then (([] : List Place), (dy (eR t1 s1.was))) else ((eR t1 s1.was), 0)))))))
theorem pQ (y1 : SlV) (t1 : List Place) (s1 : Step) : Dw 216 [.agg ⟨[y1.val t1.length]⟩, .agg ⟨cS s1⟩] [RdL EPlace y1 t1] (fun (X : SlV) => .tuple #[.agg ⟨[X.val (ee t1 s1).1.length]⟩, .int .i64 (ee t1 s1).2]) (fun X => [RdL EPlace X (ee t1 s1).1]) := by
 refine Dp Tryz.func216 fun C => ?_;refine Qc y1 24 fun hlen1 => ?_;refine BxT fun g1 => ?_;refine BxT fun g2 => ?_;refine AlT fun g3 => ?_;refine Ck (gp y1 t1) fun _ => ?_;have hf := Ri (ee.eq_1 t1 s1);refine Cn hf (fun hc1 hc1p hf => ?_) fun hc1 hc1p hf => ?_
 ·refine Tx ?_;refine Fc EPlace ?_;refine Rx ?_; exact Re Z0 (Va (Vt Vn))
 ·refine Ck (fW s1.o) fun _ => ?_;refine Cn hf (fun hc2 hc2p hf => ?_) fun hc2 hc2p hf => ?_
  ·refine Tx ?_;refine Fc EPlace ?_;refine Rx ?_; exact Re Z0 (Va (Vt Vn))
  ·refine Ch hf (fun hc3 hf => ?_) fun hc3 hf => ?_
   ·refine Cm (mj y1 t1) fun x1 => ?_;refine Tx ?_;refine Fz x1.1 ?_;refine Rx ?_; exact Rr x1.1
   ·refine AlT fun g4 => ?_;refine Ce hf (fun hc4 hc4p hf => ?_) fun hc4 hc4p hf => ?_
    ·refine AlT fun g5 => ?_;refine Rg [] ?_;refine Dx [0,1,2,3,4,5,6,7,8,9,10,12] ?_;refine Rn 11 ?_;refine Cy (fun hG_ => ib y1 t1 s1.o.node) ?_;refine Ga 13 rfl Gz (q_neE oX (kM (bq t1 s1.o.node) (⟨s1.o.node, s1.o.parent, s1.o.name⟩ : Place)) rfl rfl Bt rfl Bt rfl rfl) ?_;refine Ra 14 rfl Xv ?_;refine Re0 ?_;refine Ch hf (fun hc5 hf => ?_) fun hc5 hf => ?_
     ·refine Tx ?_;refine Fc EPlace ?_;refine Rx ?_; exact Re Z0 (Va (Vt Vn))
     ·refine Ck (jh y1 t1 (⟨s1.o.node, (-1), 0⟩ : Place) (vf t1 (by first | assumption | simpa using hc1))) fun x2 => ?_;refine Qr x2 24 fun hlen2 => ?_;refine Ck (gp x2 (eR t1 (⟨s1.o.node, (-1), 0⟩ : Place))) fun _ => ?_;refine Cn hf (fun hc6 hc6p hf => ?_) fun hc6 hc6p hf => ?_
      ·refine Tx ?_;refine Fc EPlace ?_;refine Rx ?_; exact Re Z0 (Va (Vt Vn))
      ·refine Rx ?_; exact Rr x2
    ·refine AlT fun g6 => ?_;refine Rg [] ?_;refine Dx [0,1,2,3,4,5,6,7,8,9,10,12] ?_;refine Rn 11 ?_;refine Cy (fun hG_ => ib y1 t1 s1.o.node) ?_;refine Ga 13 rfl Gz (q_neE oX (kM (bq t1 s1.o.node) (⟨s1.o.node, s1.o.parent, s1.o.name⟩ : Place)) rfl rfl Bt rfl Bt rfl rfl) ?_;refine Ra 14 rfl Xv ?_;refine Re0 ?_;refine Ch hf (fun hc7 hf => ?_) fun hc7 hf => ?_
     ·refine Tx ?_;refine Fc EPlace ?_;refine Rx ?_; exact Re Z0 (Va (Vt Vn))
     ·refine Ck (jh y1 t1 s1.was (vf t1 (by first | assumption | simpa using hc1))) fun x3 => ?_;refine Qr x3 24 fun hlen3 => ?_;refine Ck (gp x3 (eR t1 s1.was)) fun _ => ?_;refine Cn hf (fun hc8 hc8p hf => ?_) fun hc8 hc8p hf => ?_
      ·refine Tx ?_;refine Fc EPlace ?_;refine Rx ?_; exact Re Z0 (Va (Vt Vn))
      ·refine Rx ?_; exact Rr x3
def d6 (f1 : Int → Bool) : List Int → Nat → Int
 | [], n1 => (-1)
 | pn1 :: rn1, n1 => (bif (f1 pn1) then (n1 : Int) else (d6 f1 rn1 (n1 + 1)))
def ii (s1 : List Int) (f1 : Int → Bool) : Int :=
 (d6 f1 s1 0)
theorem ml (y1 : SlV) (s1 : List Int) (f2 : Nat) (caps1 : List Value) (pre1 : List Pred) [StabL pre1] (f1 : Int → Bool) (hfb1 : tab.fnb f2 = true) (hfn1 : ∀ (a0_ : Int), Du f2 ([.int .i64 a0_] ++ caps1) pre1 (.bool (f1 a0_))) : Du 196 [y1.val s1.length, .func (.func f2) #[] ⟨caps1⟩] (RdL EInt y1 s1 :: pre1) (.int .i64 (ii s1 f1)) := by
 refine Dp Tryz.func196 fun C => ?_;refine e8 (φ := s1.length * 8 ≤ 140737488355328) [RdL EInt y1 s1] Sf (fun M w h => (allF1 h).len) fun hlen1 => ?_;refine Lq Nat [0,1,4,7] [] (fun n1 => ⟨[(8, .v (.int .i64 (n1 : Int)))], [], [], [], (n1 ≤ s1.length) ∧ (d6 f1 (s1.drop n1) n1) = (ii s1 f1), s1.length - n1⟩) 0 ⟨N0, (by simp only [ii, Cf, D0])⟩ ?_;rintro n1 ⟨hkn1, hf1⟩;simp only [Lc];refine Cu (fun hlt0 => ?_) fun hge0 => ?_
 ·refine Sy Tz (Xi n1) ?_;refine Sq X1 ?_;refine Cv (hfn1 (gt s1 n1)) (hf := by assumption) fun _ => ?_;refine eF ?_;have hf := Ri hf1.symm;rw [aK hlt0, d6] at hf;refine Ch hf (fun hc2 hf => ?_) fun hc2 hf => ?_
  ·refine Tx ?_;refine f4 ?_;rw [hf.to];exact ⟨(), _, (.cons (.tmp rfl) .nil), rfl, Sf, .nil _, .nil _⟩
  ·refine Tt ?_;refine ⟨(n1 + 1), ⟨hlt0, hf.symm⟩, Oo, Le5⟩
 ·refine Tx ?_;have hf := Ri hf1.symm;rw [Dl hge0, d6] at hf;refine f4 ?_;rw [hf.to];exact ⟨(), _, (.cons (.tmp rfl) .nil), rfl, Sf, .nil _, .nil _⟩
def iA (s1 : List Int) (f1 : Int → Bool) : Bool :=
 decide ((ii s1 f1) ≥ 0)
theorem la (y1 : SlV) (s1 : List Int) (f2 : Nat) (caps1 : List Value) (pre1 : List Pred) [StabL pre1] (f1 : Int → Bool) (hfb1 : tab.fnb f2 = true) (hfn1 : ∀ (a0_ : Int), Du f2 ([.int .i64 a0_] ++ caps1) pre1 (.bool (f1 a0_))) : Du 161 [y1.val s1.length, .func (.func f2) #[] ⟨caps1⟩] (RdL EInt y1 s1 :: pre1) (.bool (iA s1 f1)) := by
 refine Dp Tryz.func161 fun C => ?_;refine e8 (φ := s1.length * 8 ≤ 140737488355328) [RdL EInt y1 s1] Sf (fun M w h => (allF1 h).len) fun hlen1 => ?_;refine Ck (ml y1 s1 _ _ _ f1 (by assumption) hfn1) fun _ => ?_;refine Tx ?_;have hf := Ri (iA.eq_1 s1 f1);refine f4 ?_;rw [hf.to];exact ⟨(), _, (.cons (.tmp rfl) .nil), rfl, Sf, .nil _, .nil _⟩
theorem lT (s : List Int) (f : Int → Bool) : iA s f = s.any f := by
 have key : ∀ (l : List Int) (k : Nat), decide (d6 f l k ≥ 0) = l.any f := by
  intro l;induction l with
  | nil => intro k; rfl
  | cons p r ih =>
   intro k;rw [d6, List.any_cons];cases f p with
   | true => simp only [cond_true, Bool.true_or, decide_eq_true_eq]; omega
   | false => rw [cond_false, ih, Bool.false_or]
 exact key s 0
theorem iI (y1 : SlV) (s1 : List Int) (f1 : Nat) (caps1 : List Value) (pre1 : List Pred) [StabL pre1] (p1 : Int → Bool) (hfb1 : tab.fnb f1 = true) (hfn1 : ∀ (a0_ : Int), Du f1 ([.int .i64 a0_] ++ caps1) pre1 (.bool (p1 a0_))) :
  Du 161 [y1.val s1.length, .func (.func f1) #[] ⟨caps1⟩] (RdL EInt y1 s1 :: pre1) (.bool (s1.any p1)) := by
 have := la y1 s1 f1 caps1 pre1 p1 hfb1 hfn1;rw [lT] at this;exact this
def fc (l1 : List Int) : List Int → Nat → Int
 | [], n1 => 0
 | pn1 :: rn1, n1 => (bif (decide (pn1 < 0) || decide (pn1 > 16)) then 5 else (bif (decide ((n1 : Int) > 0) && decide ((gt l1 (n1 - 1)) ≥ pn1)) then 6 else (fc l1 rn1 (n1 + 1))))
def cm (l1 : List Int) : Int :=
 (bif decide ((l1.length : Int) > 4) then 2 else (fc l1 l1 0))
theorem j4 (y1 : SlV) (l1 : List Int) : Du 116 [y1.val l1.length] [RdL EInt y1 l1] (.int .i64 (cm l1)) := by
 refine Dp Tryz.func116 fun C => ?_;refine Qc y1 8 fun hlen1 => ?_;have hf := Ri (cm.eq_1 l1);refine Kp hf fun hc1 hc1p hf => ?_;refine Lq Nat [0,2,8,9] [] (fun n1 => ⟨[(10, .v (.int .i64 (n1 : Int)))], [], [], [], (n1 ≤ l1.length) ∧ (fc l1 (l1.drop n1) n1) = (cm l1), l1.length - n1⟩) 0 ⟨N0, hf.symm⟩ ?_;rintro n1 ⟨hkn1, hf1⟩;simp only [Lc];refine Cu (fun hlt0 => ?_) fun hge0 => ?_
 ·refine Sy Tz (Xi n1) ?_;refine Sq X1 ?_;have hf := Ri hf1.symm;rw [aK hlt0, fc] at hf;refine Kh hf fun hc3 hf => ?_;refine Tx ?_;refine Sg Gz Xm ?_;refine Sg Gz (Xi (n1 - 1)) ?_;refine Sg Gz X1 ?_;refine Kh hf fun hc4 hf => ?_;refine Tt ?_;refine ⟨(n1 + 1), ⟨hlt0, hf.symm⟩, Oo, Le4⟩
 ·have hf := Ri hf1.symm;rw [Dl hge0, fc] at hf;exact Ru
def jP (r1 : Int) (t1 : List Place) (node1 : Int) : Bool :=
 (iy t1 node1 r1)
theorem rg (r1 : Int) (c1 : Nat) (y1 : SlV) (t1 : List Place) (c2 : Nat) (node1 : Int) : Du 162 [.int .i64 r1, .pointer (some ⟨c1, 0, none⟩), .pointer (some ⟨c2, 0, none⟩)] [VarP c1 [y1.val t1.length], RdL EPlace y1 t1, VarP c2 [.int .i64 node1]] (.bool (jP r1 t1 node1)) := by
 refine Dp Tryz.func162 fun C => ?_;refine Ck (jE y1 t1 node1 r1) fun _ => ?_;have hf := Ri (jP.eq_1 r1 t1 node1);exact Ru
def jQ (r1 : Int) (node1 : Int) (t1 : List Place) : Bool :=
 ((r1 != node1) && (iy t1 r1 node1))
theorem rh (r1 : Int) (c1 : Nat) (node1 : Int) (c2 : Nat) (y1 : SlV) (t1 : List Place) : Du 163 [.int .i64 r1, .pointer (some ⟨c1, 0, none⟩), .pointer (some ⟨c2, 0, none⟩)] [VarP c1 [.int .i64 node1], VarP c2 [y1.val t1.length], RdL EPlace y1 t1] (.bool (jQ r1 node1 t1)) := by
 refine Dp Tryz.func163 fun C => ?_;refine Tx ?_;refine Sg Gz (q_lfA rfl rfl Bt rfl Mm rfl) ?_;refine Tx ?_;refine Sg Gz (q_lf1 rfl rfl Bt rfl Mm rfl) ?_;refine Cy (fun hG_ => jE y1 t1 r1 node1) ?_;have hf := Ri (jQ.eq_1 r1 node1 t1);exact Ru
def d4 (t1 : List Place) (node1 : Int) (roots1 : List Int) : Bool :=
 (roots1.any (fun a0_ => jP a0_ t1 node1))
theorem sO (y1 : SlV) (t1 : List Place) (node1 : Int) (y2 : SlV) (roots1 : List Int) : Du 118 [.agg ⟨[y1.val t1.length]⟩, .int .i64 node1, y2.val roots1.length] [RdL EPlace y1 t1, RdL EInt y2 roots1] (.bool (d4 t1 node1 roots1)) := by
 refine Dp Tryz.func118 fun C => ?_;refine Qc y1 24 fun hlen1 => ?_;refine Qc y2 8 fun hlen2 => ?_;refine BxT fun g1 => ?_;refine yh (cs := [_]) .sq (au rfl) rfl rfl rfl rfl rfl rfl fun g2 => ?_;refine Tx ?_;refine rw_le (rY (g := g1) Pk) ?_;refine rw_le (rY (g := g2) Pk) ?_;refine Ck (iI y2 roots1 _ _ _ (fun a0_ => jP a0_ t1 node1) Kr (fun a0_ => rg a0_ g1 y1 t1 g2 node1)) fun _ => ?_;have hf := Ri (d4.eq_1 t1 node1 roots1);exact Ru
def eU (t1 : List Place) (node1 : Int) (roots1 : List Int) : Bool :=
 (roots1.any (fun a0_ => jQ a0_ node1 t1))
theorem sP (y1 : SlV) (t1 : List Place) (node1 : Int) (y2 : SlV) (roots1 : List Int) : Du 119 [.agg ⟨[y1.val t1.length]⟩, .int .i64 node1, y2.val roots1.length] [RdL EPlace y1 t1, RdL EInt y2 roots1] (.bool (eU t1 node1 roots1)) := by
 refine Dp Tryz.func119 fun C => ?_;refine Qc y1 24 fun hlen1 => ?_;refine Qc y2 8 fun hlen2 => ?_;refine BxT fun g1 => ?_;refine yh (cs := [_]) .sq (au rfl) rfl rfl rfl rfl rfl rfl fun g2 => ?_;refine Tx ?_;refine rw_le (rY (g := g2) Pk) ?_;refine rw_le (rY (g := g1) Pk) ?_;refine Ck (iI y2 roots1 _ _ _ (fun a0_ => jQ a0_ node1 t1) Kr (fun a0_ => rh a0_ g2 node1 g1 y1 t1)) fun _ => ?_;have hf := Ri (eU.eq_1 t1 node1 roots1);exact Ru
def gN (t1 : List Place) (roots1 : List Int) : List Place → (List Place) → (List Place) → (View × Int)
 | [], known1, way1 => ((⟨roots1, known1, way1⟩ : View), 0)
 | pn1 :: rn1, known1, way1 => (bif (d4 t1 pn1.node roots1) then (gN t1 roots1 rn1 (known1 ++ [pn1]) way1) else (bif (eU t1 pn1.node roots1) then (gN t1 roots1 rn1 known1 (way1 ++ [pn1])) else (gN t1 roots1 rn1 known1 way1)))
def eG (t1 : List Place) (roots1 : List Int) : View × Int :=
 (bif ((dy t1) != 0) then ((⟨[], [], []⟩ : View), (dy t1)) else (bif ((cm roots1) != 0) then ((⟨[], [], []⟩ : View), (cm roots1)) else (gN t1 roots1 t1 [] [])))
theorem lW (y1 : SlV) (t1 : List Place) (y2 : SlV) (roots1 : List Int) : Dw 72 [.agg ⟨[y1.val t1.length]⟩, y2.val roots1.length] [RdL EPlace y1 t1, RdL EInt y2 roots1] (fun (X : SlV × SlV × SlV) => .tuple #[.agg ⟨cV X.1 X.2.1 X.2.2 (eG t1 roots1).1⟩, .int .i64 (eG t1 roots1).2]) (fun X => [RdL EInt X.1 (eG t1 roots1).1.roots, RdL EPlace X.2.1 (eG t1 roots1).1.known, RdL EPlace X.2.2 (eG t1 roots1).1.way]) := by
 refine Dp Tryz.func72 fun C => ?_;refine Qc y1 24 fun hlen1 => ?_;refine Qc y2 8 fun hlen2 => ?_;refine BxT fun g1 => ?_;refine AlT fun g2 => ?_;refine Ck (gp y1 t1) fun _ => ?_;have hf := Ri (eG.eq_1 t1 roots1);refine Cn hf (fun hc1 hc1p hf => ?_) fun hc1 hc1p hf => ?_
 ·refine Tx ?_;refine Fc EInt ?_;refine Fc EPlace ?_;refine Rx ?_; exact Rr ⟨Z0, Z0, Z0⟩
 ·refine Ck (j4 y2 roots1) fun _ => ?_;refine Cn hf (fun hc2 hc2p hf => ?_) fun hc2 hc2p hf => ?_
  ·refine Tx ?_;refine Fc EInt ?_;refine Fc EPlace ?_;refine Rx ?_; exact Rr ⟨Z0, Z0, Z0⟩
  ·refine Cm (dC y2 roots1) fun x1 => ?_;refine Rp rfl rfl rfl rfl ?_;refine AlT fun g3 => ?_;refine Lq (Nat × List Place × SlV × Option Nat × List Place × SlV × Option Nat) [1,2,4,5,8,27,28] [false, true, true] (fun ⟨n1, known1, x2, x2b, way1, x3, x3b⟩ => ⟨[(29, .v (.int .i64 (n1 : Int)))], [⟨g3, 61, [x1.1.val roots1.length, x2.val known1.length, x3.val way1.length]⟩], [ownL EInt 3 x1.1 x1.2 roots1, ownL EPlace 99 x2 x2b known1, ownL EPlace 99 x3 x3b way1], [], (n1 ≤ t1.length) ∧ (known1.length ≤ n1) ∧ (way1.length ≤ n1) ∧ (gN t1 roots1 (t1.drop n1) known1 way1) = (eG t1 roots1), t1.length - n1⟩) ⟨0, [], ⟨none, 0⟩, none, [], ⟨none, 0⟩, none⟩ ⟨N0, Nz, Nz, hf.symm⟩ ?_ (hs := Le.trans (eI EPlace 99) (Le.trans (eI EPlace 99) Le4));rintro ⟨n1, known1, x2, x2b, way1, x3, x3b⟩ ⟨hkn1, hknown1, hway1, hf1⟩;simp only [Lc];refine Cu (fun hlt0 => ?_) fun hge0 => ?_
   ·refine Sy Tz (Xi n1) ?_;refine Sq Xa ?_;refine AlT fun g4 => ?_;refine Ck (sO y1 t1 (gt t1 n1).node y2 roots1) fun _ => ?_;refine eF ?_;have hf := Ri hf1.symm;rw [aK hlt0, gN] at hf;refine Ch hf (fun hc4 hf => ?_) fun hc4 hf => ?_
    ·refine Bl EPlace [(gt t1 n1)] fun x4 x4b => ?_;refine Ap EPlace 24 known1 [(gt t1 n1)] x2b fun x5 x5b => ?_;refine Tt ?_;refine ⟨⟨(n1 + 1), (known1 ++ [(gt t1 n1)]), x5, x5b, way1, x3, x3b⟩, ⟨hlt0, Zl, Zl, hf.symm⟩, Oo, Le4⟩
    ·refine Ck (sP y1 t1 (gt t1 n1).node y2 roots1) fun _ => ?_;refine eF ?_;refine Ch hf (fun hc5 hf => ?_) fun hc5 hf => ?_
     ·refine Bl EPlace [(gt t1 n1)] fun x6 x6b => ?_;refine Ap EPlace 24 way1 [(gt t1 n1)] x3b fun x7 x7b => ?_;refine Tt ?_;refine ⟨⟨(n1 + 1), known1, x2, x2b, (way1 ++ [(gt t1 n1)]), x7, x7b⟩, ⟨hlt0, Zl, Zl, hf.symm⟩, Oo, Le4⟩
     ·refine Tt ?_;refine ⟨⟨(n1 + 1), known1, x2, x2b, way1, x3, x3b⟩, ⟨hlt0, Zl, Zl, hf.symm⟩, Oo, Le4⟩
   ·refine Tx ?_;refine Fz x1.1 ?_;refine Fz x2 ?_;refine Fz x3 ?_;have hf := Ri hf1.symm;rw [Dl hge0, gN] at hf;refine Rx ?_; exact Rr ⟨x1.1, x2, x3⟩
def go (a1 : View) (b1 : View) : Bool :=
 (((decide (a1.roots = b1.roots)) && (decide (a1.known = b1.known))) && (decide (a1.way = b1.way)))
theorem pN (y1 : SlV) (y2 : SlV) (y3 : SlV) (a1 : View) (y4 : SlV) (y5 : SlV) (y6 : SlV) (b1 : View) : Du 24 [.agg ⟨cV y1 y2 y3 a1⟩, .agg ⟨cV y4 y5 y6 b1⟩] [RdL EInt y1 a1.roots, RdL EPlace y2 a1.known, RdL EPlace y3 a1.way, RdL EInt y4 b1.roots, RdL EPlace y5 b1.known, RdL EPlace y6 b1.way] (.bool (go a1 b1)) := by
 refine Dp Tryz.func24 fun C => ?_;refine Qc y1 8 fun hlen1 => ?_;refine Qc y2 24 fun hlen2 => ?_;refine Qc y3 24 fun hlen3 => ?_;refine Qc y4 8 fun hlen4 => ?_;refine Qc y5 24 fun hlen5 => ?_;refine Qc y6 24 fun hlen6 => ?_;refine BxT fun g1 => ?_;refine BxT fun g2 => ?_;refine Ck ((fun y1 a y2 b => cl y1 y2 a b) y1 a1.roots y4 b1.roots) fun _ => ?_;refine Cy (fun hG_ => (fun y1 a y2 b => cf y1 y2 a b) y2 a1.known y5 b1.known) ?_;refine Cy (fun hG_ => (fun y1 a y2 b => cf y1 y2 a b) y3 a1.way y6 b1.way) ?_;have hf := Ri (go.eq_1 a1 b1);exact Ru
theorem lC (p : Place) : ∀ (l : List Place) (d : Bool) (acc : List Place), (fx p l d acc).length ≤ acc.length + l.length + (bif d then 0 else 1)
 | [], d, acc => by rw [fx]; cases d <;> simp
 | q :: r, d, acc => by
  rw [fx];cases h1 : (!d && decide (q.node ≥ p.node)) with
  | true =>
   have hd : d = false := by cases d; rfl; simp at h1
   subst hd;cases (q.node != p.node) with
   | true => simp only [cond_true]; have := lC p r true ((acc ++ [p]) ++ [q]); simp at this ⊢; omega
   | false => simp only [cond_true, cond_false]; have := lC p r true (acc ++ [p]); simp at this ⊢; omega
  | false =>
   cases (q.node != p.node) with
   | true => simp only [cond_true, cond_false]; have := lC p r d (acc ++ [q]); simp at this ⊢; omega
   | false => simp only [cond_false]; have := lC p r d acc; simp at this ⊢; omega
theorem vl (l : List Place) (p : Place) : (eR l p).length ≤ l.length + 1 := by
 have := lC p l (decide (p.parent < 0)) [];unfold eR;generalize decide (p.parent < 0) = d at *;cases d <;> simp at this ⊢ <;> omega
def jI  : List Place → (List Place) → (List Place)
 | [], p1 => p1
 | pn1 :: rn1, p1 => (jI rn1 (eR p1 pn1))
def eP (v1 : View) : List Place :=
 (jI v1.way v1.known)
theorem qq (y1 : SlV) (y2 : SlV) (y3 : SlV) (v1 : View) (hk1 : v1.known.length ≤ 1000) (hw1 : v1.way.length ≤ 1000) : Dw 157 [.agg ⟨cV y1 y2 y3 v1⟩] [RdL EInt y1 v1.roots, RdL EPlace y2 v1.known, RdL EPlace y3 v1.way] (fun (X : SlV) => .agg ⟨[X.val (eP v1).length]⟩) (fun X => [RdL EPlace X (eP v1)]) := by
 refine Dp Tryz.func157 fun C => ?_;refine Qc y1 8 fun hlen1 => ?_;refine Qc y2 24 fun hlen2 => ?_;refine Qc y3 24 fun hlen3 => ?_;refine BxT fun g1 => ?_;refine AlT fun g2 => ?_;refine Cm (d8 y2 v1.known) fun x1 => ?_;refine Rp rfl rfl rfl rfl ?_;refine AlT fun g3 => ?_;refine Lq (Nat × List Place × SlV) [2,3,11,12] [false, true, true] (fun ⟨n1, p1, x2⟩ => ⟨[(13, .v (.int .i64 (n1 : Int)))], [⟨g3, 25, [x2.val p1.length]⟩], [], [RdL EPlace x2 p1], (n1 ≤ v1.way.length) ∧ (p1.length ≤ v1.known.length + n1) ∧ (jI (v1.way.drop n1) p1) = (eP v1), v1.way.length - n1⟩) ⟨0, v1.known, x1.1⟩ ⟨N0, (by simp), (by simp only [eP, Cf, D0])⟩ ?_ (hs := Le.trans (pt EPlace 99 x1.1 x1.2 v1.known Uo) Le4);rintro ⟨n1, p1, x2⟩ ⟨hkn1, hpb, hf1⟩;simp only [Lc];refine Cu (fun hlt0 => ?_) fun hge0 => ?_
 ·refine Sy Tz (Xi n1) ?_;refine Sq Xa ?_;refine AlT fun g4 => ?_;refine Ck (jh x2 p1 (gt v1.way n1) (by omega)) fun x3 => ?_;refine Pr EPlace x3 (eR p1 (gt v1.way n1)) 24 fun hlen4 => ?_;refine Tt ?_;refine ⟨⟨(n1 + 1), (eR p1 (gt v1.way n1)), x3⟩, ⟨hlt0, (by have := vl p1 (gt v1.way n1); simp only []; omega), (by rw [← hf1, aK hlt0]; simp only [jI, Cf, D0])⟩, Oo, Le4⟩
 ·have hf := Ri hf1.symm;rw [Dl hge0, jI] at hf;refine Rx ?_; exact Rr x2
def iX (v1 : View) : Int :=
 (bif (((eG (eP v1) v1.roots).2 == 0) && (!(go (eG (eP v1) v1.roots).1 v1))) then 4 else (eG (eP v1) v1.roots).2)
def iY (v1 : View) : Int :=
 (bif ((dy v1.way) != 0) then (dy v1.way) else (iX v1))
def iZ (v1 : View) : Int :=
 (bif ((dy v1.known) != 0) then (dy v1.known) else (iY v1))
def cn (v1 : View) : Int :=
 (bif ((cm v1.roots) != 0) then (cm v1.roots) else (iZ v1))
theorem il (y1 : SlV) (y2 : SlV) (y3 : SlV) (v1 : View) : Du 112 [.agg ⟨cV y1 y2 y3 v1⟩] [RdL EInt y1 v1.roots, RdL EPlace y2 v1.known, RdL EPlace y3 v1.way] (.int .i64 (cn v1)) := by
 refine Dp Tryz.func112 fun C => ?_;refine Qc y1 8 fun hlen1 => ?_;refine Qc y2 24 fun hlen2 => ?_;refine Qc y3 24 fun hlen3 => ?_;refine BxT fun g1 => ?_;refine Ck (j4 y1 v1.roots) fun _ => ?_;have hf := Ri (cn.eq_1 v1);refine Kn hf fun hc1 hc1p hf => ?_;refine Sy Tz (po rfl rfl Zf rfl rfl rfl rfl) ?_;refine Lq Nat [1,2,19] [true] (fun n1 => ⟨[(20, .v (.int .i64 (n1 : Int)))], [], [], [], (n1 ≤ 2) ∧ (1 ≤ n1 → dy v1.known = 0) ∧ (2 ≤ n1 → dy v1.way = 0) ∧ (match n1 with | 0 => (iZ v1) | 1 => (iY v1) | _ => (iX v1)) = (cn v1), 2 - n1⟩) 0 ⟨N0, (fun h => absurd h (by omega)), (fun h => absurd h (by omega)), hf.symm⟩ ?_;rintro n1 ⟨hkn1, hi1, hi2, hf1⟩;simp only [Lc];have hkn13 : n1 = 0 ∨ n1 = 1 ∨ n1 = 2 := by omega
 rcases hkn13 with rfl | rfl | rfl
 ·have hf1 : (iZ v1) = (cn v1) := hf1;refine Cd' (fun hc2 => ?_) fun hc2 => ?_
  ·refine Sy Tz (q_ixL 0 rfl rfl Zf rfl Zf rfl rfl rfl rfl rfl) ?_;refine Ck (gp y2 v1.known) fun _ => ?_;have hf := Ri hf1.symm;rw [iZ] at hf;refine Kn hf fun hc3 hc3p hf => ?_;have hck := ag hc3;refine Tt ?_;refine ⟨1, ⟨by omega, (fun _ => by first | exact hck | exact hi1 (by omega) | omega), (fun _ => by first | exact hck | omega), hf.symm⟩, (show 2 - 1 < 2 - 0 by decide), Le4⟩
  ·exact Bool.noConfusion (hc2.symm.trans (decide_eq_true (by decide)))
 ·have hf1 : (iY v1) = (cn v1) := hf1;refine Cd' (fun hc4 => ?_) fun hc4 => ?_
  ·refine Sy Tz (q_ixL 1 rfl rfl Zf rfl Zf rfl rfl rfl rfl rfl) ?_;refine Ck (gp y3 v1.way) fun _ => ?_;have hf := Ri hf1.symm;rw [iY] at hf;refine Kn hf fun hc5 hc5p hf => ?_;have hck := ag hc5;refine Tt ?_;refine ⟨2, ⟨by omega, (fun _ => by first | exact hck | exact hi1 (by omega) | omega), (fun _ => by first | exact hck | omega), hf.symm⟩, (show 2 - 2 < 2 - 1 by decide), Le4⟩
  ·exact Bool.noConfusion (hc4.symm.trans (decide_eq_true (by decide)))
 ·have hf1 : (iX v1) = (cn v1) := hf1;refine Cd' (fun hc6 => ?_) fun hc6 => ?_
  ·exact Bool.noConfusion (hc6.symm.trans (decide_eq_false (by decide)))
  ·refine Tx ?_;refine Jn (Nat × SlV × SlV × SlV) [1, 2] [true] (fun ⟨g2, x1, x2, x3⟩ => ⟨[(7, .v (.pointer (some ⟨g2, 0, none⟩))), (8, .v (.int .i64 (eG (eP v1) v1.roots).2))], [⟨g2, 61, cV x1 x2 x3 (eG (eP v1) v1.roots).1⟩], [], [RdL EInt x1 (eG (eP v1) v1.roots).1.roots, RdL EPlace x2 (eG (eP v1) v1.roots).1.known, RdL EPlace x3 (eG (eP v1) v1.roots).1.way], True, 0⟩) ?_ ?_
   ·refine Rg [(9,none)] ?_;refine Dx [0,2,3] ?_;refine Rw 1 8 ?_ ?_
    ·refine Ck (qq y1 y2 y3 v1 (Nat.le_trans (m3 (hi1 (by omega))) (by omega)) (Nat.le_trans (m3 (hi2 (by omega))) (by omega))) fun x4 => ?_;refine Qr x4 24 fun hlen4 => ?_;refine Rw 4 8 ?_ ?_
     ·refine Ck (lW x4 (eP v1) y1 v1.roots) fun x5 => ?_;refine Qr x5.1 8 fun hlen5 => ?_;refine Qr x5.2.1 24 fun hlen6 => ?_;refine Qr x5.2.2 24 fun hlen7 => ?_;refine Dx [5,6] ?_;refine Rp' (Fa 7 [8,9]) ?_;refine Rn 8 ?_;refine AlT fun g3 => ?_;refine Rn 9 ?_;refine Wa ?_;refine Ra 10 rfl Qp ?_;refine Re0 ?_;refine ⟨⟨g3, x5.1, x5.2.1, x5.2.2⟩, trivial, Le4⟩
     ·refine AlT fun g4 => ?_;refine Rn 4 ?_;refine Ck (lW x4 (eP v1) y1 v1.roots) fun x6 => ?_;refine Qr x6.1 8 fun hlen8 => ?_;refine Qr x6.2.1 24 fun hlen9 => ?_;refine Qr x6.2.2 24 fun hlen10 => ?_;refine Dx [5,6] ?_;refine Rp' (Fa 7 [9]) ?_;refine Rn 9 ?_;refine Wa ?_;refine Ra 10 rfl Qp ?_;refine Re0 ?_;refine ⟨⟨g4, x6.1, x6.2.1, x6.2.2⟩, trivial, Le4⟩
    ·refine AlT fun g5 => ?_;refine Rn 1 ?_;refine Ck (qq y1 y2 y3 v1 (Nat.le_trans (m3 (hi1 (by omega))) (by omega)) (Nat.le_trans (m3 (hi2 (by omega))) (by omega))) fun x7 => ?_;refine Qr x7 24 fun hlen11 => ?_;refine Rn 4 ?_;refine Ck (lW x7 (eP v1) y1 v1.roots) fun x8 => ?_;refine Qr x8.1 8 fun hlen12 => ?_;refine Qr x8.2.1 24 fun hlen13 => ?_;refine Qr x8.2.2 24 fun hlen14 => ?_;refine Dx [5,6] ?_;refine Rp' (Fa 7 [9]) ?_;refine Rn 9 ?_;refine Wa ?_;refine Ra 10 rfl Qp ?_;refine Re0 ?_;refine ⟨⟨g5, x8.1, x8.2.1, x8.2.2⟩, trivial, Le4⟩
   ·rintro ⟨g2, x1, x2, x3⟩ -;simp only [Lc];refine Cy (fun hG_ => pN x1 x2 x3 (eG (eP v1) v1.roots).1 y1 y2 y3 v1) ?_;have hf := Ri hf1.symm;rw [iX] at hf;refine Kh hf fun hc7 hf => ?_;exact Ru
def bU (f1 : Place → Bool) : List Place → Nat → Int
 | [], n1 => (-1)
 | pn1 :: rn1, n1 => (bif (f1 pn1) then (n1 : Int) else (bU f1 rn1 (n1 + 1)))
def c0 (s1 : List Place) (f1 : Place → Bool) : Int :=
 (bU f1 s1 0)
theorem lv (y1 : SlV) (s1 : List Place) (f2 : Nat) (caps1 : List Value) (pre1 : List Pred) [StabL pre1] (f1 : Place → Bool) (hfb1 : tab.fnb f2 = true) (hfn1 : ∀ (a0_ : Place), Du f2 ([.agg ⟨cP a0_⟩] ++ caps1) pre1 (.bool (f1 a0_))) : Du 168 [y1.val s1.length, .func (.func f2) #[] ⟨caps1⟩] (RdL EPlace y1 s1 :: pre1) (.int .i64 (c0 s1 f1)) := by
 refine Dp Tryz.func168 fun C => ?_;refine e8 (φ := s1.length * 24 ≤ 140737488355328) [RdL EPlace y1 s1] Sf (fun M w h => (allF1 h).len) fun hlen1 => ?_;refine Lq Nat [0,1,4,7] [] (fun n1 => ⟨[(8, .v (.int .i64 (n1 : Int)))], [], [], [], (n1 ≤ s1.length) ∧ (bU f1 (s1.drop n1) n1) = (c0 s1 f1), s1.length - n1⟩) 0 ⟨N0, (by simp only [c0, Cf, D0])⟩ ?_;rintro n1 ⟨hkn1, hf1⟩;simp only [Lc];refine Cu (fun hlt0 => ?_) fun hge0 => ?_
 ·refine Sy Tz (Xi n1) ?_;refine Sq Xa ?_;refine Cv (hfn1 (gt s1 n1)) (hf := by assumption) fun _ => ?_;refine eF ?_;have hf := Ri hf1.symm;rw [aK hlt0, bU] at hf;refine Ch hf (fun hc2 hf => ?_) fun hc2 hf => ?_
  ·refine Tx ?_;refine f4 ?_;rw [hf.to];exact ⟨(), _, (.cons (.tmp rfl) .nil), rfl, Sf, .nil _, .nil _⟩
  ·refine Tt ?_;refine ⟨(n1 + 1), ⟨hlt0, hf.symm⟩, Oo, Le5⟩
 ·refine Tx ?_;have hf := Ri hf1.symm;rw [Dl hge0, bU] at hf;refine f4 ?_;rw [hf.to];exact ⟨(), _, (.cons (.tmp rfl) .nil), rfl, Sf, .nil _, .nil _⟩
theorem iV (f : Place → Bool) : ∀ (l : List Place) (k : Nat), bU f l k < (k : Int) + (l.length : Int) ∨ bU f l k = -1
 | [], k => .inr rfl
 | p :: r, k => by
  rw [bU];cases f p with
  | true => simp only [cond_true, List.length_cons]; omega
  | false => have := iV f r (k + 1); simp only [cond_false, List.length_cons]; omega
theorem mm (l : List Place) (f : Place → Bool) : c0 l f < (l.length : Int) ∨ c0 l f = -1 := by
 have := iV f l 0;unfold c0;omega
def et (v1 : Int) : List Int → Nat → Int
 | [], n1 => (-1)
 | pn1 :: rn1, n1 => (bif (v1 == pn1) then (n1 : Int) else (et v1 rn1 (n1 + 1)))
def jF (s1 : List Int) (v1 : Int) : Int :=
 (et v1 s1 0)
theorem ox (y1 : SlV) (s1 : List Int) (v1 : Int) : Du 127 [y1.val s1.length, .int .i64 v1] [RdL EInt y1 s1] (.int .i64 (jF s1 v1)) := by
 refine Dp Tryz.func127 fun C => ?_;refine Qc y1 8 fun hlen1 => ?_;refine Lq Nat [0,1,4,7] [] (fun n1 => ⟨[(8, .v (.int .i64 (n1 : Int)))], [], [], [], (n1 ≤ s1.length) ∧ (et v1 (s1.drop n1) n1) = (jF s1 v1), s1.length - n1⟩) 0 ⟨N0, (by simp only [jF, Cf, D0])⟩ ?_;rintro n1 ⟨hkn1, hf1⟩;simp only [Lc];refine Cu (fun hlt0 => ?_) fun hge0 => ?_
 ·refine Sy Tz (Xi n1) ?_;refine Sq X1 ?_;have hf := Ri hf1.symm;rw [aK hlt0, et] at hf;refine Ke hf fun hc2 hc2p hf => ?_;refine Tt ?_;refine ⟨(n1 + 1), ⟨hlt0, hf.symm⟩, Oo, Le4⟩
 ·have hf := Ri hf1.symm;rw [Dl hge0, et] at hf;exact Ru
def jK (s1 : List Int) (v1 : Int) : Bool :=
 decide ((jF s1 v1) ≥ 0)
theorem mG (y1 : SlV) (s1 : List Int) (v1 : Int) : Du 79 [y1.val s1.length, .int .i64 v1] [RdL EInt y1 s1] (.bool (jK s1 v1)) := by
 refine Dp Tryz.func79 fun C => ?_;refine Qc y1 8 fun hlen1 => ?_;refine Ck (ox y1 s1 v1) fun _ => ?_;have hf := Ri (jK.eq_1 s1 v1);exact Ru
def dw (p1 : Place) (node1 : Int) : Bool :=
 (p1.node == node1)
theorem mv (p1 : Place) (c1 : Nat) (node1 : Int) : Du 169 [.agg ⟨cP p1⟩, .pointer (some ⟨c1, 0, none⟩)] [VarP c1 [.int .i64 node1]] (.bool (dw p1 node1)) := by
 refine Dp Tryz.func169 fun C => ?_;refine BxT fun g1 => ?_;have hf := Ri (dw.eq_1 p1 node1);exact Ru
def iW (l1 : List Place) (node1 : Int) : Place :=
 (bif decide ((c0 l1 (fun a0_ => dw a0_ node1)) < 0) then (⟨0, 0, 0⟩ : Place) else (gt l1 (c0 l1 (fun a0_ => dw a0_ node1)).toNat))
theorem nq (y1 : SlV) (l1 : List Place) (node1 : Int) : Du 126 [y1.val l1.length, .int .i64 node1] [RdL EPlace y1 l1] (.agg ⟨cP (iW l1 node1)⟩) := by
 refine Dp Tryz.func126 fun C => ?_;refine Qc y1 24 fun hlen1 => ?_;refine Tx ?_;refine yh (cs := [_]) .sq (au rfl) rfl rfl rfl rfl rfl rfl fun g1 => ?_;refine AlT fun g2 => ?_;refine Tx ?_;refine rw_le (rY (g := g1) Pk) ?_;refine Ck (lv y1 l1 _ _ _ (fun a0_ => dw a0_ node1) Kr (fun a0_ => mv a0_ g1 node1)) fun _ => ?_;have hf := Ri (iW.eq_1 l1 node1);refine Kp hf fun hc1 hc1p hf => ?_;have hix := mm l1 (fun a0_ => dw a0_ node1);refine Sy Tz (Xi (c0 l1 (fun a0_ => dw a0_ node1)).toNat) ?_;refine Sq Xa ?_;exact Ru
def ak (n1 : Int) (from1 : Int) (to1 : Int) : Bool :=
 (decide (from1 ≤ n1) && decide (n1 ≤ to1))
theorem aB (n1 : Int) (from1 : Int) (to1 : Int) : Du 53 [.int .i64 n1, .int .i64 from1, .int .i64 to1] [] (.bool (ak n1 from1 to1)) := by
 refine Dp Tryz.func53 fun C => ?_;have hf := Ri (ak.eq_1 n1 from1 to1);exact Ru
def aU (p1 : Place) : Int :=
 (bif (((!(ak p1.node 1 15)) || (!(ak p1.parent 0 16))) || (!(ak p1.name 0 99))) then 3 else 0)
theorem gw (p1 : Place) : Du 125 [.agg ⟨cP p1⟩] [] (.int .i64 (aU p1)) := by
 refine Dp Tryz.func125 fun C => ?_;refine BxT fun g1 => ?_;refine Ck (aB p1.node 1 15) fun _ => ?_;refine Cy (fun hG_ => aB p1.parent 0 16) ?_;refine Cy (fun hG_ => aB p1.name 0 99) ?_;have hf := Ri (aU.eq_1 p1);refine Kh hf fun hc1 hf => ?_;exact Ru
def aG (o1 : Op) : Int :=
 (bif (((((!(ak o1.time 1 10000)) || (!(ak o1.who 0 2))) || ((aU (⟨o1.node, o1.parent, o1.name⟩ : Place)) != 0)) || (!(ak o1.life 1 50))) || (!(ak o1.seq 1 30))) then 3 else 0)
theorem fl (o1 : Op) : Du 89 [.agg ⟨cO o1⟩] [] (.int .i64 (aG o1)) := by
 refine Dp Tryz.func89 fun C => ?_;refine BxT fun g1 => ?_;refine Ck (aB o1.time 1 10000) fun _ => ?_;refine Cy (fun hG_ => aB o1.who 0 2) ?_;refine Cy (fun hG_ => gw (⟨o1.node, o1.parent, o1.name⟩ : Place)) ?_;refine Cy (fun hG_ => aB o1.life 1 50) ?_;refine Cy (fun hG_ => aB o1.seq 1 30) ?_;have hf := Ri (aG.eq_1 o1);refine Kh hf fun hc1 hf => ?_;exact Ru
theorem oa (s : List Int) (v : Int) : jK s v = decide (v ∈ s) := by
 have key : ∀ (l : List Int) (k : Nat), decide (et v l k ≥ 0) = decide (v ∈ l) := by
  intro l;induction l with
  | nil => intro k; simp [et]
  | cons p r ih =>
   intro k;rw [et];by_cases h : v = p
   ·first | (simp [h]; done) | (simp [h]; omega)
   ·have : (v == p) = false := by simpa using h
    rw [this, cond_false, ih]; simp [h]
 exact key s 0
theorem de (y1 : SlV) (s1 : List Int) (v1 : Int) : Du 79 [y1.val s1.length, .int .i64 v1] [RdL EInt y1 s1] (.bool (decide (v1 ∈ s1))) := by
 have := mG y1 s1 v1;rw [oa] at this;exact this
theorem oM (l : List Place) (n : Int) : iW l n = bq l n := by
 unfold iW c0;have key : ∀ (r : List Place) (k : Nat), r = l.drop k → (bif decide (bU (fun a0_ => dw a0_ n) r k < 0) then (⟨0, 0, 0⟩ : Place) else (gt l (bU (fun a0_ => dw a0_ n) r k).toNat)) = gQ n r := by
  intro r;induction r with
  | nil => intro k _; rfl
  | cons p r ih =>
   intro k hr;have hk : k < l.length := by have := congrArg List.length hr; simp at this; omega
   rw [aK hk] at hr;obtain ⟨hp, hr'⟩ := List.cons.inj hr;rw [bU, gQ];unfold dw;cases h : p.node == n with
   | true =>
    have : ¬ ((k : Int) < 0) := by omega
    simp [this, hp]
   | false => exact ih (k + 1) hr'
 exact key l 0 rfl
theorem iu (y1 : SlV) (l1 : List Place) (node1 : Int) : Du 126 [y1.val l1.length, .int .i64 node1] [RdL EPlace y1 l1] (.agg ⟨cP (bq l1 node1)⟩) := by
 have := nq y1 l1 node1;rw [oM] at this;exact this
def jG  : Int :=
 0
def fX (d1 : Delta) : List Place → Nat → Int
 | [], n5 => (jG)
 | pn5 :: rn5, n5 => (bif (((((decide (pn5.node < 1) || decide (pn5.node ≥ 16)) || decide (pn5.parent < 0)) || decide (pn5.parent > 16)) || decide (pn5.name < 0)) || decide (pn5.name > 99)) then 3 else (bif ((decide ((n5 : Int) > 0) && decide ((gt d1.wayHere (n5 - 1)).node ≥ pn5.node)) || (decide (pn5.node ∈ d1.wayGone))) then 6 else (fX d1 rn5 (n5 + 1))))
def gC (d1 : Delta) : List Int → Nat → Int
 | [], n4 => (fX d1 d1.wayHere 0)
 | pn4 :: rn4, n4 => (bif (decide (pn4 < 1) || decide (pn4 ≥ 16)) then 5 else (bif (decide ((n4 : Int) > 0) && decide ((gt d1.wayGone (n4 - 1)) ≥ pn4)) then 6 else (gC d1 rn4 (n4 + 1))))
def f6 (d1 : Delta) : Int :=
 (bif (decide ((d1.wayGone.length : Int) > 16) || decide ((d1.wayHere.length : Int) > 16)) then 2 else (gC d1 d1.wayGone 0))
def fY (d1 : Delta) : List Place → Nat → Int
 | [], n3 => (f6 d1)
 | pn3 :: rn3, n3 => (bif (((((decide (pn3.node < 1) || decide (pn3.node ≥ 16)) || decide (pn3.parent < 0)) || decide (pn3.parent > 16)) || decide (pn3.name < 0)) || decide (pn3.name > 99)) then 3 else (bif ((decide ((n3 : Int) > 0) && decide ((gt d1.here (n3 - 1)).node ≥ pn3.node)) || (decide (pn3.node ∈ d1.gone))) then 6 else (fY d1 rn3 (n3 + 1))))
def gD (d1 : Delta) : List Int → Nat → Int
 | [], n2 => (fY d1 d1.here 0)
 | pn2 :: rn2, n2 => (bif (decide (pn2 < 1) || decide (pn2 ≥ 16)) then 5 else (bif (decide ((n2 : Int) > 0) && decide ((gt d1.gone (n2 - 1)) ≥ pn2)) then 6 else (gD d1 rn2 (n2 + 1))))
def iK (d1 : Delta) : Int :=
 (bif (decide ((d1.gone.length : Int) > 16) || decide ((d1.here.length : Int) > 16)) then 2 else (gD d1 d1.gone 0))
def dk (d1 : Delta) : Int :=
 (iK d1)
theorem kW (y1 : SlV) (y2 : SlV) (y3 : SlV) (y4 : SlV) (d1 : Delta) : Du 152 [.agg ⟨cD y1 y2 y3 y4 d1⟩] [RdL EInt y1 d1.gone, RdL EPlace y2 d1.here, RdL EInt y3 d1.wayGone, RdL EPlace y4 d1.wayHere] (.int .i64 (dk d1)) := by
 refine Dp Tryz.func152 fun C => ?_;refine Qc y1 8 fun hlen1 => ?_;refine Qc y2 24 fun hlen2 => ?_;refine Qc y3 8 fun hlen3 => ?_;refine Qc y4 24 fun hlen4 => ?_;refine BxT fun g1 => ?_;refine Sy Tz (po rfl rfl Zf rfl rfl rfl rfl) ?_;refine Lq Nat [1,2,14] [true] (fun n1 => ⟨[(15, .v (.int .i64 (n1 : Int)))], [], [], [], (n1 ≤ 2) ∧ (match n1 with | 0 => (iK d1) | 1 => (f6 d1) | _ => jG) = (dk d1), 2 - n1⟩) 0 ⟨N0, (by simp only [dk, Cf, D0])⟩ ?_;rintro n1 ⟨hkn1, hf1⟩;simp only [Lc];have hkn13 : n1 = 0 ∨ n1 = 1 ∨ n1 = 2 := by omega
 rcases hkn13 with rfl | rfl | rfl
 ·have hf1 : (iK d1) = (dk d1) := hf1;refine Cd' (fun hc1 => ?_) fun hc1 => ?_
  ·refine Sy Tz (q_ixL 0 rfl rfl Zf rfl Zf rfl rfl rfl rfl rfl) ?_;refine Sy Tz (po rfl rfl Zf rfl rfl rfl rfl) ?_;refine Rp rfl rfl rfl rfl ?_;refine Sq (q_ixL 0 rfl rfl Zf rfl Zf rfl rfl rfl rfl rfl) ?_;have hf := Ri hf1.symm;rw [iK] at hf;refine Kh hf fun hc2 hf => ?_;refine Lq Nat [1,2,3,4,5,14,15,16,17,18,19,20,21,22,23,24,25,26,27,28,29,33,34,35] [true] (fun n2 => ⟨[(36, .v (.int .i64 (n2 : Int)))], [], [], [], (n2 ≤ d1.gone.length) ∧ (gD d1 (d1.gone.drop n2) n2) = (dk d1), d1.gone.length - n2⟩) 0 ⟨N0, hf.symm⟩ ?_;rintro n2 ⟨hkn2, hf2⟩;simp only [Lc];refine Cu (fun hlt1 => ?_) fun hge1 => ?_
   ·refine Sy Tz (Xi n2) ?_;refine Sq X1 ?_;have hf := Ri hf2.symm;rw [aK hlt1, gD] at hf;refine Kh hf fun hc4 hf => ?_;refine Tx ?_;refine Sg Gz Xm ?_;refine Sg Gz (Xi (n2 - 1)) ?_;refine Sg Gz X1 ?_;refine Kh hf fun hc5 hf => ?_;refine Tt ?_;refine ⟨(n2 + 1), ⟨hlt1, hf.symm⟩, Oo, Le4⟩
   ·refine Lq Nat [1,2,3,4,5,14,15,16,17,18,19,20,21,22,23,24,25,26,27,28,29,33,34,35,36,37,59,60] [true] (fun n3 => ⟨[(61, .v (.int .i64 (n3 : Int)))], [], [], [], (n3 ≤ d1.here.length) ∧ (fY d1 (d1.here.drop n3) n3) = (dk d1), d1.here.length - n3⟩) 0 ⟨N0, (by rw [← hf2, Dl hge1]; simp only [gD, Cf, D0])⟩ ?_;rintro n3 ⟨hkn3, hf3⟩;simp only [Lc];refine Cu (fun hlt2 => ?_) fun hge2 => ?_
    ·refine Sy Tz (Xi n3) ?_;refine Sq Xa ?_;refine AlT fun g2 => ?_;have hf := Ri hf3.symm;rw [aK hlt2, fY] at hf;refine Kh hf fun hc7 hf => ?_;refine Rg [] ?_;refine Dx (.range 6) ?_;refine Gb 6 rfl Gz (Xi (n3 - 1)) ?_;refine Gb 7 rfl Gz Xf ?_;refine Gb 8 rfl Gz X1 ?_;refine Dx (.range' 9 8) ?_;refine Rn 17 ?_;refine Cy (fun hG_ => de y1 d1.gone (gt d1.here n3).node) ?_;refine Ra 18 rfl Xv ?_;refine Re0 ?_;refine Kh hf fun hc8 hf => ?_;refine Tt ?_;refine ⟨(n3 + 1), ⟨hlt2, hf.symm⟩, Oo, Le4⟩
    ·refine Tt ?_;refine ⟨1, ⟨by omega, (by rw [← hf3, Dl hge2]; simp only [fY, Cf, D0])⟩, (show 2 - 1 < 2 - 0 by decide), Le4⟩
  ·exact Bool.noConfusion (hc1.symm.trans (decide_eq_true (by decide)))
 ·have hf1 : (f6 d1) = (dk d1) := hf1;refine Cd' (fun hc9 => ?_) fun hc9 => ?_
  ·refine Sy Tz (q_ixL 1 rfl rfl Zf rfl Zf rfl rfl rfl rfl rfl) ?_;refine Sy Tz (po rfl rfl Zf rfl rfl rfl rfl) ?_;refine Rp rfl rfl rfl rfl ?_;refine Sq (q_ixL 1 rfl rfl Zf rfl Zf rfl rfl rfl rfl rfl) ?_;have hf := Ri hf1.symm;rw [f6] at hf;refine Kh hf fun hc10 hf => ?_;refine Lq Nat [1,2,3,4,5,14,15,16,17,18,19,20,21,22,23,24,25,26,27,28,29,33,34,35] [true] (fun n4 => ⟨[(36, .v (.int .i64 (n4 : Int)))], [], [], [], (n4 ≤ d1.wayGone.length) ∧ (gC d1 (d1.wayGone.drop n4) n4) = (dk d1), d1.wayGone.length - n4⟩) 0 ⟨N0, hf.symm⟩ ?_;rintro n4 ⟨hkn4, hf4⟩;simp only [Lc];refine Cu (fun hlt1 => ?_) fun hge1 => ?_
   ·refine Sy Tz (Xi n4) ?_;refine Sq X1 ?_;have hf := Ri hf4.symm;rw [aK hlt1, gC] at hf;refine Kh hf fun hc12 hf => ?_;refine Tx ?_;refine Sg Gz Xm ?_;refine Sg Gz (Xi (n4 - 1)) ?_;refine Sg Gz X1 ?_;refine Kh hf fun hc13 hf => ?_;refine Tt ?_;refine ⟨(n4 + 1), ⟨hlt1, hf.symm⟩, Oo, Le4⟩
   ·refine Lq Nat [1,2,3,4,5,14,15,16,17,18,19,20,21,22,23,24,25,26,27,28,29,33,34,35,36,37,59,60] [true] (fun n5 => ⟨[(61, .v (.int .i64 (n5 : Int)))], [], [], [], (n5 ≤ d1.wayHere.length) ∧ (fX d1 (d1.wayHere.drop n5) n5) = (dk d1), d1.wayHere.length - n5⟩) 0 ⟨N0, (by rw [← hf4, Dl hge1]; simp only [gC, Cf, D0])⟩ ?_;rintro n5 ⟨hkn5, hf5⟩;simp only [Lc];refine Cu (fun hlt2 => ?_) fun hge2 => ?_
    ·refine Sy Tz (Xi n5) ?_;refine Sq Xa ?_;refine AlT fun g3 => ?_;have hf := Ri hf5.symm;rw [aK hlt2, fX] at hf;refine Kh hf fun hc15 hf => ?_;refine Rg [] ?_;refine Dx (.range 6) ?_;refine Gb 6 rfl Gz (Xi (n5 - 1)) ?_;refine Gb 7 rfl Gz Xf ?_;refine Gb 8 rfl Gz X1 ?_;refine Dx (.range' 9 8) ?_;refine Rn 17 ?_;refine Cy (fun hG_ => de y3 d1.wayGone (gt d1.wayHere n5).node) ?_;refine Ra 18 rfl Xv ?_;refine Re0 ?_;refine Kh hf fun hc16 hf => ?_;refine Tt ?_;refine ⟨(n5 + 1), ⟨hlt2, hf.symm⟩, Oo, Le4⟩
    ·refine Tt ?_;refine ⟨2, ⟨by omega, (by rw [← hf5, Dl hge2]; simp only [fX, Cf, D0])⟩, (show 2 - 2 < 2 - 1 by decide), Le4⟩
  ·exact Bool.noConfusion (hc9.symm.trans (decide_eq_true (by decide)))
 ·have hf1 : jG = (dk d1) := hf1;refine Cd' (fun hc17 => ?_) fun hc17 => ?_
  ·exact Bool.noConfusion (hc17.symm.trans (decide_eq_false (by decide)))
  ·have hf := Ri hf1.symm;rw [jG] at hf;exact Ru
def m0 (a1 : Delta) (b1 : Delta) : Bool :=
 ((((decide (a1.gone = b1.gone)) && (decide (a1.here = b1.here))) && (decide (a1.wayGone = b1.wayGone))) && (decide (a1.wayHere = b1.wayHere)))
theorem tD (y1 : SlV) (y2 : SlV) (y3 : SlV) (y4 : SlV) (a1 : Delta) (y5 : SlV) (y6 : SlV) (y7 : SlV) (y8 : SlV) (b1 : Delta) : Du 158 [.agg ⟨cD y1 y2 y3 y4 a1⟩, .agg ⟨cD y5 y6 y7 y8 b1⟩] [RdL EInt y1 a1.gone, RdL EPlace y2 a1.here, RdL EInt y3 a1.wayGone, RdL EPlace y4 a1.wayHere, RdL EInt y5 b1.gone, RdL EPlace y6 b1.here, RdL EInt y7 b1.wayGone, RdL EPlace y8 b1.wayHere] (.bool (m0 a1 b1)) := by
 refine Dp Tryz.func158 fun C => ?_;refine Qc y1 8 fun hlen1 => ?_;refine Qc y2 24 fun hlen2 => ?_;refine Qc y3 8 fun hlen3 => ?_;refine Qc y4 24 fun hlen4 => ?_;refine Qc y5 8 fun hlen5 => ?_;refine Qc y6 24 fun hlen6 => ?_;refine Qc y7 8 fun hlen7 => ?_;refine Qc y8 24 fun hlen8 => ?_;refine BxT fun g1 => ?_;refine BxT fun g2 => ?_;refine Ck ((fun y1 a y2 b => cl y1 y2 a b) y1 a1.gone y5 b1.gone) fun _ => ?_;refine Cy (fun hG_ => (fun y1 a y2 b => cf y1 y2 a b) y2 a1.here y6 b1.here) ?_;refine Cy (fun hG_ => (fun y1 a y2 b => cl y1 y2 a b) y3 a1.wayGone y7 b1.wayGone) ?_;refine Cy (fun hG_ => (fun y1 a y2 b => cf y1 y2 a b) y4 a1.wayHere y8 b1.wayHere) ?_;have hf := Ri (m0.eq_1 a1 b1);exact Ru
def find : List Place → Int → Place
 | [], _ => ⟨0, 0, 0⟩
 | p :: r, n => bif p.node == n then p else find r n
def place (p : Place) : Int := bif (decide (p.node < 1) || decide (p.node ≥ 16) || decide (p.parent < 0) || decide (p.parent > 16) || decide (p.name < 0) || decide (p.name > 99)) then 3 else 0
def p4 (l : List Place) (top : Int) : Nat → Int → Bool
 | 0, _ => false
 | k + 1, nd => bif nd == top then true else bif (find l nd).node == 0 then false else p4 l top k (find l nd).parent
def stands (l : List Place) (nd top : Int) : Bool := p4 l top (l.length + 1) nd
def chk1 (l : List Place) : Nat → Nat → Int
 | 0, _ => 0
 | f + 1, k => bif place (gt l k) != 0 then place (gt l k) else bif (decide ((k : Int) > 0) && decide ((gt l (k - 1)).node ≥ (gt l k).node)) then 6 else chk1 l f (k + 1)
def chk2 (t : List Place) : List Place → Int
 | [] => 0
 | p :: r => bif stands t p.parent p.node then 4 else chk2 t r
def ed (l : List Place) : Int := bif chk1 l l.length 0 != 0 then chk1 l l.length 0 else chk2 l l
def put (p : Place) : Bool → List Place → List Place
 | d, [] => bif !d then [p] else []
 | d, q :: r => bif (!d && decide (q.node ≥ p.node)) then p :: (bif q.node != p.node then q :: put p true r else put p true r) else (bif q.node != p.node then q :: put p d r else put p d r)
def putT (l : List Place) (p : Place) : List Place := put p (decide (p.parent < 0)) l
def under (l : List Place) (nd top : Int) : Bool × Int := bif ed l != 0 then (false, ed l) else bif (decide (nd < 0) || decide (nd > 16) || decide (top < 0) || decide (top > 16)) then (false, 5) else (stands l nd top, 0)
def chkO (o : Op) : Int := bif (decide (o.time < 1) || decide (o.time > 10000) || decide (o.who < 0) || decide (o.who ≥ 3) || decide (o.node < 1) || decide (o.node ≥ 16) || decide (o.parent < 0) || decide (o.parent > 16) || decide (o.name < 0) || decide (o.name > 99) || decide (o.life < 1) || decide (o.life > 50) || decide (o.seq < 1) || decide (o.seq > 30)) then 3 else 0
def gz (l : List Place) (o : Op) : List Place × Step × Int :=
 bif ed l != 0 then ([], default, ed l) else bif chkO o != 0 then ([], default, chkO o) else
 bif stands l o.parent o.node then (l, ⟨o, false, find l o.node⟩, 0) else (putT l ⟨o.node, o.parent, o.name⟩, ⟨o, true, find l o.node⟩, 0)
def wasOf (s : Step) : Place := bif s.was.node == 0 then ⟨s.o.node, -1, 0⟩ else s.was
def qF (l : List Place) (s : Step) : List Place × Int :=
 bif ed l != 0 then ([], ed l) else bif chkO s.o != 0 then ([], chkO s.o) else bif !s.did then (l, 0) else
 bif ((wasOf s).node != s.o.node || find l s.o.node != ⟨s.o.node, s.o.parent, s.o.name⟩) then ([], 4) else
 bif ed (putT l (wasOf s)) != 0 then ([], ed (putT l (wasOf s))) else (putT l (wasOf s), 0)
theorem xF (l : List Place) : ∀ (f k : Nat), k + f = l.length → chk1 l f k = 0 → (∀ i, k ≤ i → i < l.length → place (gt l i) = 0) ∧ ∀ i, k ≤ i → i < l.length → 0 < i → (gt l (i - 1)).node < (gt l i).node
 | 0, k, h, _ => ⟨fun i h1 h2 => by omega, fun i h1 h2 => by omega⟩
 | f + 1, k, h, hc => by
  rw [chk1] at hc;cases h1 : place (gt l k) != 0 with
  | true => rw [h1, cond_true] at hc; simp [hc] at h1
  | false =>
   rw [h1, cond_false] at hc;cases h2 : (decide ((k : Int) > 0) && decide ((gt l (k - 1)).node ≥ (gt l k).node)) with
   | true => rw [h2, cond_true] at hc; cases hc
   | false =>
    rw [h2, cond_false] at hc;obtain ⟨ha, hb⟩ := xF l f (k + 1) (by omega) hc;refine ⟨fun i hi hlt => ?_, fun i hi hlt hp => ?_⟩
    ·rcases Nat.eq_or_lt_of_le hi with rfl | hi
     ·simpa using h1
     ·exact ha i hi hlt
    ·rcases Nat.eq_or_lt_of_le hi with rfl | hi
     ·simp only [Bool.and_eq_false_iff, decide_eq_false_iff_not] at h2;rcases h2 with h2 | h2 <;> omega
     ·exact hb i hi hlt hp
variable {l : List Place}
theorem yJ (h : ed l = 0) : chk1 l l.length 0 = 0 := by
 unfold ed at h;cases h1 : chk1 l l.length 0 != 0 with
 | true => rw [h1, cond_true] at h; exact h
 | false => simpa using h1
theorem jT (h : place p = 0) : 1 ≤ p.node ∧ p.node < 16 ∧ 0 ≤ p.parent ∧ p.parent ≤ 16 ∧ 0 ≤ p.name ∧ p.name ≤ 99 := by
 unfold place at h;generalize hb : (decide (p.node < 1) || decide (p.node ≥ 16) || decide (p.parent < 0) || decide (p.parent > 16) || decide (p.name < 0) || decide (p.name > 99)) = b at h;cases b with
 | true => simp at h
 | false => simp only [Bo] at hb; omega
theorem pC (h : ed l = 0) : l.length ≤ 15 := by
 obtain ⟨ha, hb⟩ := xF l l.length 0 (by omega) (yJ h);have key : ∀ i, i < l.length → (i : Int) + 1 ≤ (gt l i).node := by
  intro i;induction i with
  | zero => intro h0; have := (jT (ha 0 (by omega) h0)).1; simpa using this
  | succ i ih => intro hi; have := ih (by omega); have := hb (i + 1) (by omega) hi (by omega); simp at this; push_cast; omega
 apply Classical.byContradiction;intro hn;have h1 := key 15 (by omega);have h2 := (jT (ha 15 (by omega) (by omega))).2.1;omega
inductive Way (l : List Place) (ok : Int → Prop) : Int → Int → Nat → Prop
 | here (a : Int) : Way l ok a a 0
 | up {a b : Int} {k : Nat} (hok : ok a) (hn : (find l a).node ≠ 0) (h : Way l ok (find l a).parent b k) : Way l ok a b (k + 1)
theorem sS (l : List Place) (top : Int) : ∀ (f : Nat) (nd : Int), p4 l top f nd = true ↔ ∃ k, k < f ∧ Way l (fun _ => True) nd top k
 | 0, nd => by simp [p4]
 | f + 1, nd => by
  rw [p4];by_cases h : nd = top
  ·subst h;simp only [beq_self_eq_true, cond_true, true_iff];exact ⟨0, by omega, .here _⟩
  ·have hb : (nd == top) = false := by simpa using h
   rw [hb, cond_false];by_cases h0 : (find l nd).node = 0
   ·have : ((find l nd).node == 0) = true := by simpa using h0
    rw [this, cond_true];constructor
    ·intro h; cases h
    ·rintro ⟨k, _, hw⟩;cases hw with
     | here => exact absurd rfl h
     | up _ hn _ => exact absurd h0 hn
   ·have : ((find l nd).node == 0) = false := by simpa using h0
    rw [this, cond_false, sS l top f];constructor
    ·rintro ⟨k, hk, hw⟩; exact ⟨k + 1, by omega, .up trivial h0 hw⟩
    ·rintro ⟨k, hk, hw⟩;cases hw with
     | here => exact absurd rfl h
     | up _ _ hw => exact ⟨_, by omega, hw⟩
variable {b : Int} {ok : Int → Prop}
theorem Way.last (a : Int) {x : Int} (h : Way l ok x b k) :
  (∃ k', Way l (fun z => ok z ∧ z ≠ a) x b k') ∨ (ok a ∧ (find l a).node ≠ 0 ∧ ∃ k', Way l (fun z => ok z ∧ z ≠ a) (find l a).parent b k') := by
 induction h with
 | here x => exact .inl ⟨0, .here _⟩
 | @up x b k hok hn h ih =>
  rcases ih with ⟨k', hw⟩ | h2
  ·by_cases hx : x = a
   ·subst hx; exact .inr ⟨hok, hn, k', hw⟩
   ·exact .inl ⟨k' + 1, .up ⟨hok, hx⟩ hn hw⟩
  ·exact .inr h2
variable {a : Int}
theorem Way.mono {ok' : Int → Prop} (hm : ∀ z, ok z → ok' z) (h : Way l ok a b k) : Way l ok' a b k := by
 induction h with
 | here x => exact .here x
 | up hok hn _ ih => exact .up (hm _ hok) hn ih
theorem Way.short : ∀ (m : Nat) (S : List Int), S.length ≤ m → ∀ {a b : Int} {k : Nat}, Way l (fun z => z ∈ S) a b k → ∃ k', k' ≤ m ∧ Way l (fun z => z ∈ S) a b k' := by
 intro m;induction m with
 | zero =>
  intro S hS a b k h;cases h with
  | here => exact ⟨0, Nr, .here _⟩
  | up hok _ _ =>
   have : S = [] := List.length_eq_zero_iff.1 (by omega);subst this; cases hok
 | succ m ih =>
  intro S hS a b k h;rcases h.last a with ⟨k', hw⟩ | ⟨hok, hn, k', hw⟩
  ·cases hw with
   | here => exact ⟨0, by omega, .here _⟩
   | up hok _ _ => exact absurd rfl hok.2
  ·have hlt : (S.filter (· != a)).length < S.length := by
    apply Classical.byContradiction;intro hge;have := List.filter_eq_self.1 ((List.filter_sublist (p := (· != a)) (l := S)).eq_of_length_le (by omega)) a hok;simp at this
   obtain ⟨k2, hk2, hw2⟩ := ih (S.filter (· != a)) (by omega) (hw.mono fun z hz => by simpa using hz);exact ⟨k2 + 1, by omega, .up hok hn (hw2.mono fun z hz => (List.mem_filter.1 hz).1)⟩
theorem gA : (find l a).node ≠ 0 → (find l a).node = a ∧ find l a ∈ l := by
 induction l with
 | nil => intro h; exact absurd rfl h
 | cons p r ih =>
  intro h;rw [find] at h ⊢;cases hp : p.node == a with
  | true => rw [cond_true]; exact ⟨by simpa using hp, .head _⟩
  | false => rw [hp, cond_false] at h; rw [cond_false]; exact ⟨(ih h).1, .tail _ (ih h).2⟩
def Up (l : List Place) (a b : Int) : Prop := ∃ k, Way l (fun _ => True) a b k
theorem iP (l : List Place) (a b : Int) : stands l a b = true ↔ Up l a b := by
 unfold stands;rw [sS];constructor
 ·rintro ⟨k, _, h⟩; exact ⟨k, h⟩
 ·rintro ⟨k, h⟩;have h1 : ∀ {a b : Int} {k : Nat}, Way l (fun _ => True) a b k → Way l (fun z => z ∈ l.map (·.node)) a b k := by
   intro a b k h;induction h with
   | here x => exact .here x
   | up _ hn _ ih =>
    obtain ⟨e, hm⟩ := gA hn;exact .up (List.mem_map.2 ⟨_, hm, e⟩) hn ih
  obtain ⟨k', hk, hw⟩ := (h1 h).short (l := l) l.length (l.map (·.node)) (by simp);exact ⟨k', by omega, hw.mono fun _ _ => trivial⟩
theorem Up.refl (l : List Place) (a : Int) : Up l a a := ⟨0, .here a⟩
variable {c : Int}
theorem Way.trans {m : Nat} (h : Way l ok a b k) (h' : Way l ok b c m) : ∃ n, Way l ok a c n := by
 induction h with
 | here => exact ⟨m, h'⟩
 | up hok hn _ ih => obtain ⟨n, hw⟩ := ih h'; exact ⟨n + 1, .up hok hn hw⟩
theorem Up.trans (h : Up l a b) (h' : Up l b c) : Up l a c := by
 obtain ⟨_, h⟩ := h;obtain ⟨_, h'⟩ := h';exact h.trans h'
end Go.Proofs.YtkjccbdeaflekaaGreatDoor
