/- Part of this claim. No condition. -/
import Derived.Test.YtpkaloknohpleaaGreatDoorC8
import Derived.Test.YtpkaloknohpleaaGreatDoorC4
import Derived.Test.YtpkaloknohpleaaGreatDoorC5
import Derived.Test.YtpkaloknohpleaaGreatDoorC3
import Derived.Test.YtpkaloknohpleaaGreatDoorC6
import Derived.Test.YtpkaloknohpleaaGreatDoorC2
set_option linter.unusedVariables false
set_option linter.unusedSimpArgs false
namespace Go.Proofs.YtpkaloknohpleaaGreatDoor
open Go Go.Proofs.YtpkaloknohpleaaGreatDoor.Fw Go.Proofs
def stamp (o : Op) : Stamp := ⟨o.time, o.who⟩
def before (a b : Op) : Bool := eK (stamp a) (stamp b)
theorem le (a b : Op) : before a b = true ↔ a.time < b.time ∨ (a.time = b.time ∧ a.who < b.who) := by
 unfold before eK stamp
 simp
theorem j9 (a b : Op) : before a b = false ↔ ¬ (a.time < b.time ∨ (a.time = b.time ∧ a.who < b.who)) := by
 rw [← le]; simp
theorem qA (a b c : Op) (h1 : before c b = false) (h2 : before b a = false) : before c a = false := by
 rw [j9] at *; omega
theorem oc (a b : Op) (h : before a b = true) : before b a = false := by
 rw [le] at h; rw [j9]; omega
theorem mW {a b c : Op} (h1 : before a b = true) (h2 : before b c = true) : before a c = true := by
 rw [le] at *; omega
theorem oa {a b : Op} (h1 : before a b = false) (h2 : before b a = false) : stamp a = stamp b := by
 rw [j9] at *
 unfold stamp
 congr 1 <;> omega
theorem sF (a : Op) : before a a = false := by rw [j9]; omega
theorem qB {a b : Op} (h : before a b = true) : stamp a ≠ stamp b := fun e => by
 rw [le] at h
 unfold stamp at e
 injection e with e1 e2
 omega
theorem rO (a b : Op) : decide (aD a b < 0) = before a b := by
 unfold aD
 show decide ((bif before a b then (-1 : Int) else bif before b a then 1 else 0) < 0) = before a b
 cases before a b <;> cases before b a <;> rfl
def fm (l : List Op) : List Op := aj l aD
theorem ed {l : List Op} (h : l.length ≤ 30) : (fm l).Perm l := (ST_Op aD before rO qA oc l h).1
theorem fg {l : List Op} (h : l.length ≤ 30) : Sorted before (fm l) := (ST_Op aD before rO qA oc l h).2
def Dist (l : List Op) : Prop := (l.map stamp).Nodup
def Rise (l : List Op) : Prop := l.Pairwise (fun a b => before a b = true)
theorem Rise.dist {l : List Op} (h : Rise l) : Dist l := by
 unfold Dist
 rw [List.Nodup, List.pairwise_map]
 exact h.imp fun h => qB h
theorem nC {l : List Op} (h1 : Sorted before l) (h2 : Dist l) : Rise l := by
 unfold Dist at h2
 rw [List.Nodup, List.pairwise_map] at h2
 have := List.Pairwise.and h1 h2
 exact this.imp fun {a b} ⟨h, hne⟩ => by
  cases hh : before a b with
  | true => rfl
  | false => exact absurd (oa hh h) hne
theorem Rise.uniq : ∀ {l l' : List Op}, Rise l → Rise l' → l.Perm l' → l = l'
 | [], l', _, _, hp => (List.Perm.nil_eq hp)
 | a :: l, [], _, _, hp => absurd hp.length_eq (by simp)
 | a :: l, b :: l', h, h', hp => by
  have hab : a = b := by
   have h1 : a ∈ b :: l' := hp.mem_iff.1 (.head _)
   have h2 : b ∈ a :: l := hp.mem_iff.2 (.head _)
   rcases List.mem_cons.1 h1 with h1 | h1
   ·exact h1
   ·rcases List.mem_cons.1 h2 with h2 | h2
    ·exact h2.symm
    ·have e1 := (List.pairwise_cons.1 h).1 b h2
     have e2 := (List.pairwise_cons.1 h').1 a h1
     rw [oc _ _ e1] at e2; cases e2
  subst hab
  rw [Rise.uniq (List.pairwise_cons.1 h).2 (List.pairwise_cons.1 h').2 ((List.perm_cons _).1 hp)]
theorem Dist.perm {l l' : List Op} (h : l.Perm l') : Dist l ↔ Dist l' := (h.map stamp).nodup_iff
def run : History → List Op → History
 | h, [] => h
 | h, o :: r => run ⟨h.l ++ [(eT h.t o).2.1], (eT h.t o).1⟩ r
def e0 : History := ⟨[], []⟩
theorem eL {t : List Place} {o : Op} (h1 : dz t = 0) (h2 : chkO o = 0) : (eT t o).2.2 = 0 := by
 rw [oU, h1, h2]; rfl
theorem run_app : ∀ (a b : List Op) (h : History), run h (a ++ b) = run (run h a) b
 | [], _, _ => rfl
 | o :: a, b, h => by rw [List.cons_append, run, run, run_app a b]
theorem ne : ∀ (l : List Op) (h : History), dz h.t = 0 → (∀ o ∈ l, chkO o = 0) → dz (run h l).t = 0
 | [], _, h, _ => h
 | o :: r, h, hc, hl => by
  rw [run]
  exact ne r _ (jX (eL hc (hl o (.head _)))).tree fun q hq => hl q (.tail _ hq)
theorem tA (t : List Place) (o : Op) (h1 : dz t = 0) (h2 : chkO o = 0) : (eT t o).2.1.o = o := (jX (eL h1 h2)).op
theorem qP : ∀ (l : List Op) (h : History), dz h.t = 0 → (∀ o ∈ l, chkO o = 0) → (run h l).l.map (·.o) = h.l.map (·.o) ++ l
 | [], h, _, _ => by simp [run]
 | o :: r, h, hc, hl => by
  have h0 := hl o (.head _)
  rw [run, qP r _ (jX (eL hc h0)).tree fun q hq => hl q (.tail _ hq)]
  simp [tA h.t o hc h0]
theorem vF (l : List Op) (h : History) : (run h l).l.length = h.l.length + l.length := by
 induction l generalizing h with
 | nil => rfl
 | cons o r ih => rw [run, ih]; simp; omega
theorem mH (l : List Op) : ∀ r : List Op, (∀ o ∈ r, chkO o = 0) → db l r = cR l (fm l) 0 [] []
 | [], _ => rfl
 | o :: r, h => by
  rw [db, ek, h o (.head _)]
  exact mH l r fun q hq => h q (.tail _ hq)
theorem v8 (o : Op) : chkO o = 0 ∨ chkO o = 3 := by
 unfold chkO
 generalize (decide (o.time < 1) || decide (o.time > 10000) || decide (o.who < 0) || decide (o.who ≥ 3) || decide (o.node < 1) || decide (o.node ≥ 16) || decide (o.parent < 0) || decide (o.parent > 16) || decide (o.name < 0) || decide (o.name > 99) || decide (o.life < 1) || decide (o.life > 50) || decide (o.seq < 1) || decide (o.seq > 30)) = b
 cases b <;> simp
theorem oq (l : List Op) : ∀ r : List Op, (∃ o ∈ r, chkO o ≠ 0) → db l r = (e0, 3)
 | [], h => by obtain ⟨o, h, _⟩ := h; cases h
 | o :: r, h => by
  rw [db, ek]
  rcases v8 o with h0 | h0
  ·rw [h0]
   refine oq l r ?_
   obtain ⟨q, hq, hne⟩ := h
   rcases List.mem_cons.1 hq with rfl | hq
   ·exact absurd h0 hne
   ·exact ⟨q, hq, hne⟩
  ·rw [h0]; rfl
theorem o6 (l S : List Op) (hS : fm l = S) (hr : Rise S) (hc : ∀ o ∈ S, chkO o = 0) : ∀ (r : List Op) (n : Nat) (L : List Step) (T : List Place), r = S.drop n → dz T = 0 → cR l r n L T = (run ⟨L, T⟩ r, 0)
 | [], n, L, T, _, _ => rfl
 | o :: r, n, L, T, hd, hT => by
  have hn : n < S.length := by
   rcases Nat.lt_or_ge n S.length with h | h
   ·exact h
   ·rw [List.drop_of_length_le h] at hd; cases hd
  rw [aE hn] at hd
  obtain ⟨rfl, hd'⟩ := List.cons.inj hd
  have ho := hc _ (gn hn)
  rw [cR, show aj l aD = S from hS, mq, eL hT ho]
  have hne : (decide ((n : Int) > 0) && decide ((⟨(gt S (n - 1)).time, (gt S (n - 1)).who⟩ : Stamp) = (⟨(gt S n).time, (gt S n).who⟩ : Stamp))) = false := by
   cases n with
   | zero => rfl
   | succ n =>
    have hb : before (gt S n) (gt S (n + 1)) = true := by
     rw [gt_eq (by omega), gt_eq hn]
     exact List.pairwise_iff_getElem.1 hr n (n + 1) (by omega) hn (by omega)
    have := qB hb
    unfold stamp at this
    simp [this]
  rw [hne]
  simp only [cond_false, bne_self_eq_false]
  rw [o6 l S hS hr hc r (n + 1) _ _ hd' (jX (eL hT ho)).tree]
  rfl
theorem oo (l S : List Op) (hS : fm l = S) (hc : ∀ o ∈ S, chkO o = 0) : ∀ (r : List Op) (n : Nat) (L : List Step) (T : List Place), r = S.drop n → dz T = 0 → (∃ i, n ≤ i ∧ 0 < i ∧ i < S.length ∧ stamp (gt S (i - 1)) = stamp (gt S i)) → cR l r n L T = (e0, 6)
 | [], n, L, T, hd, _, h => by
  obtain ⟨i, h1, _, h3, _⟩ := h
  have := congrArg List.length hd
  simp at this; omega
 | o :: r, n, L, T, hd, hT, h => by
  have hn : n < S.length := by
   rcases Nat.lt_or_ge n S.length with h | h
   ·exact h
   ·rw [List.drop_of_length_le h] at hd; cases hd
  rw [aE hn] at hd
  obtain ⟨rfl, hd'⟩ := List.cons.inj hd
  have ho := hc _ (gn hn)
  rw [cR, show aj l aD = S from hS, mq, eL hT ho]
  cases he : (decide ((n : Int) > 0) && decide ((⟨(gt S (n - 1)).time, (gt S (n - 1)).who⟩ : Stamp) = (⟨(gt S n).time, (gt S n).who⟩ : Stamp))) with
  | true => rfl
  | false =>
   simp only [cond_false, bne_self_eq_false]
   refine oo l S hS hc r (n + 1) _ _ hd' (jX (eL hT ho)).tree ?_
   obtain ⟨i, h1, h2, h3, h4⟩ := h
   rcases Nat.eq_or_lt_of_le h1 with rfl | h1
   ·unfold stamp at h4
    rw [h4] at he
    simp at he; omega
   ·exact ⟨i, h1, h2, h3, h4⟩
theorem neighbours : ∀ {S : List Op}, Sorted before S → ¬ Rise S → ∃ i, 0 < i ∧ i < S.length ∧ stamp (gt S (i - 1)) = stamp (gt S i)
 | [], _, h => absurd List.Pairwise.nil h
 | [a], _, h => absurd (by simp [Rise]) h
 | a :: b :: S, hs, h => by
  have h1 := (List.pairwise_cons.1 hs).1 b (.head _)
  cases hb : before a b with
  | false => exact ⟨1, by omega, by simp, oa (by simpa [gt] using hb) (by simpa [gt] using h1)⟩
  | true =>
   have hn : ¬ Rise (b :: S) := fun hr => h (List.pairwise_cons.2 ⟨fun c hc => by
    rcases List.mem_cons.1 hc with rfl | hc
    ·exact hb
    ·exact mW hb ((List.pairwise_cons.1 hr).1 c hc), hr⟩)
   obtain ⟨i, h2, h3, h4⟩ := neighbours (List.pairwise_cons.1 hs).2 hn
   refine ⟨i + 1, by omega, by simp at h3 ⊢; omega, ?_⟩
   obtain ⟨j, rfl⟩ : ∃ j, i = j + 1 := ⟨i - 1, by omega⟩
   simpa [gt] using h4
theorem uk {l : List Op} (h : 30 < l.length) : aQ l = (e0, 2) := by
 unfold aQ
 have : decide ((l.length : Int) > 30) = true := by simp; omega
 rw [this]; rfl
theorem u5 {l : List Op} (h : l.length ≤ 30) (hb : ∃ o ∈ l, chkO o ≠ 0) : aQ l = (e0, 3) := by
 unfold aQ
 have : decide ((l.length : Int) > 30) = false := by simp; omega
 rw [this]; exact oq l l hb
theorem kX {l : List Op} (h : l.length ≤ 30) (hc : ∀ o ∈ l, chkO o = 0) : ∀ o ∈ fm l, chkO o = 0 := fun o ho => hc o ((ed h).mem_iff.1 ho)
theorem rl {l : List Op} (h : l.length ≤ 30) (hc : ∀ o ∈ l, chkO o = 0) (hd : Dist l) : aQ l = (run e0 (fm l), 0) := by
 unfold aQ
 have : decide ((l.length : Int) > 30) = false := by simp; omega
 rw [this, cond_false, mH l l hc]
 exact o6 l _ rfl (nC (fg h) ((Dist.perm (ed h)).2 hd)) (kX h hc) _ 0 [] [] rfl rfl
theorem sK {l : List Op} (h : l.length ≤ 30) (hc : ∀ o ∈ l, chkO o = 0) (hd : ¬ Dist l) : aQ l = (e0, 6) := by
 unfold aQ
 have : decide ((l.length : Int) > 30) = false := by simp; omega
 rw [this, cond_false, mH l l hc]
 have hn : ¬ Rise (fm l) := fun hr => hd ((Dist.perm (ed h)).1 hr.dist)
 obtain ⟨i, h1, h2, h3⟩ := neighbours (fg h) hn
 exact oo l _ rfl (kX h hc) _ 0 [] [] rfl rfl ⟨i, by omega, h1, h2, h3⟩
theorem u4 {l : List Op} (h : (aQ l).2 = 0) : l.length ≤ 30 ∧ (∀ o ∈ l, chkO o = 0) ∧ Dist l ∧ aQ l = (run e0 (fm l), 0) := by
 rcases Nat.lt_or_ge 30 l.length with h1 | h1
 ·rw [uk h1] at h; cases h
 by_cases hc : ∃ o ∈ l, chkO o ≠ 0
 ·rw [u5 h1 hc] at h; cases h
 have hc : ∀ o ∈ l, chkO o = 0 := fun o ho => Classical.byContradiction fun hn => hc ⟨o, ho, hn⟩
 by_cases hd : Dist l
 ·exact ⟨h1, hc, hd, rl h1 hc hd⟩
 ·rw [sK h1 hc hd] at h; cases h
theorem pU {S : List Op} (h : S.length ≤ 30) (hr : Rise S) : fm S = S :=
 Rise.uniq (nC (fg h) ((Dist.perm (ed h)).2 hr.dist)) hr (ed h)
theorem mL {l S : List Op} (h : l.length ≤ 30) (hr : Rise S) (hp : S.Perm l) : fm l = S :=
 Rise.uniq (nC (fg h) ((Dist.perm (ed h)).2 ((Dist.perm hp).1 hr.dist))) hr ((ed h).trans hp.symm)
structure i7 (h : History) (S : List Op) : Prop where
 len : S.length ≤ 30
 ok : ∀ o ∈ S, chkO o = 0
 rise : Rise S
 eq : h = run e0 S
theorem kK (a b : History) : dS a b = true ↔ a = b := by
 unfold dS
 obtain ⟨l, t⟩ := a
 obtain ⟨l', t'⟩ := b
 simp
theorem i7.ops {h : History} {S : List Op} (hh : i7 h S) : h.l.map (·.o) = S := by
 rw [hh.eq, qP S e0 rfl hh.ok]; rfl
theorem ot (h : History) : cH h = 0 ↔ i7 h (h.l.map (·.o)) := by
 constructor
 ·intro hc
  obtain ⟨h1, h2⟩ := iW hc
  obtain ⟨g1, g2, g3, g4⟩ := u4 h1
  rw [kK, g4] at h2
  rw [jg] at *
  have e : h.l.map (·.o) = fm (h.l.map (·.o)) := by
   conv => lhs; rw [← h2]
   rw [qP _ e0 rfl (kX g1 g2)]; rfl
  refine ⟨g1, g2, ?_, by rw [e]; exact h2.symm⟩
  rw [e]
  exact nC (fg g1) ((Dist.perm (ed g1)).2 g3)
 ·intro hh
  unfold cH
  rw [jg, rl hh.len hh.ok hh.rise.dist, pU hh.len hh.rise]
  have : dS (run e0 (h.l.map (·.o))) h = true := by rw [kK]; exact hh.eq.symm
  rw [this]; rfl
theorem og : ∀ (r : List Op) (L : List Step) (T : List Place), dz T = 0 → (∀ o ∈ r, chkO o = 0) → dK r L T = (run ⟨L, T⟩ r, 0)
 | [], _, _, _, _ => rfl
 | o :: r, L, T, hT, hc => by
  have ho := hc o (.head _)
  rw [dK, mq, eL hT ho]
  simp only [bne_self_eq_false, cond_false]
  rw [og r _ _ (jX (eL hT ho)).tree fun q hq => hc q (.tail _ hq)]
  rfl
theorem pk (A : List Op) (b : Op) : run e0 (A ++ [b]) = ⟨(run e0 A).l ++ [(eT (run e0 A).t b).2.1], (eT (run e0 A).t b).1⟩ := by
 rw [run_app]; rfl
theorem ue (o : Op) (ho : chkO o = 0) : ∀ (n : Nat) (A R : List Op) (f : Nat), A.length = n → n < f → (∀ q ∈ A, chkO q = 0) → (∀ q ∈ R, chkO q = 0) → Rise A →
  ∃ A1 A2, A = A1 ++ A2 ∧ (∀ q ∈ A1, before o q = false) ∧ (∀ q ∈ A2, before o q = true) ∧ dl o f (o :: R) (n : Int) (run e0 A).l (run e0 A).t = (run e0 (A1 ++ o :: (A2 ++ R.reverse)), 0) := by
 intro n
 induction n with
 | zero =>
  intro A R f hA hf hcA hcR hr
  obtain ⟨f, rfl⟩ : ∃ g, f = g + 1 := ⟨f - 1, by omega⟩
  have : A = [] := List.length_eq_zero_iff.1 hA
  subst this
  refine ⟨[], [], rfl, by simp, by simp, ?_⟩
  rw [dl]
  have : decide (((0 : Nat) : Int) > 0) = false := rfl
  rw [this, Bool.false_and, cond_false, RK_Op _ _ (by simp), og _ _ _ rfl (fun q hq => by
   simp only [List.take_succ_cons, List.take_zero, List.drop_succ_cons, List.drop_zero, List.cons_append, List.nil_append, List.mem_cons, List.mem_reverse] at hq
   rcases hq with rfl | hq
   ·exact ho
   ·exact hcR q hq)]
  rfl
 | succ n ih =>
  intro A R f hA hf hcA hcR hr
  obtain ⟨f, rfl⟩ : ∃ g, f = g + 1 := ⟨f - 1, by omega⟩
  obtain ⟨B, b, rfl⟩ : ∃ B b, A = B ++ [b] := ⟨A.dropLast, A.getLast (by intro e; rw [e] at hA; cases hA), (List.dropLast_concat_getLast _).symm⟩
  simp only [List.length_append, List.length_cons, List.length_nil] at hA
  have hcB : ∀ q ∈ B, chkO q = 0 := fun q hq => hcA q (List.mem_append_left _ hq)
  have hcb : chkO b = 0 := hcA b (by simp)
  have hTB : dz (run e0 B).t = 0 := ne B e0 rfl hcB
  have hm := jX (eL hTB hcb)
  have hlB : (run e0 B).l.length = n := by rw [vF]; simp [e0]; omega
  have hg : gt (run e0 (B ++ [b])).l (((n + 1 : Nat) : Int) - 1).toNat = (eT (run e0 B).t b).2.1 := by
   rw [pk]
   exact jA _ _ [] _ (by omega)
  have ht : (run e0 (B ++ [b])).l.take (((n + 1 : Nat) : Int) - 1).toNat = (run e0 B).l := by
   rw [pk]
   simp only
   rw [show (((n + 1 : Nat) : Int) - 1).toNat = (run e0 B).l.length by omega, List.take_left]
  rw [dl, hg]
  have hop := hm.op
  have h0 : decide (((n + 1 : Nat) : Int) > 0) = true := decide_eq_true (by omega)
  rw [h0, Bool.true_and, hop]
  show ∃ A1 A2, _ ∧ _ ∧ _ ∧ (bif before o b then _ else _) = _
  cases hb : before o b with
  | false =>
   refine ⟨B ++ [b], [], by simp, fun q hq => ?_, by simp, ?_⟩
   ·rcases List.mem_append.1 hq with hq | hq
    ·have h1 := (List.pairwise_append.1 hr).2.2 q hq b (by simp)
     cases hh : before o q with
     | false => rfl
     | true => rw [mW hh h1] at hb; cases hb
    ·rw [List.mem_singleton] at hq; rw [hq]; exact hb
   ·rw [cond_false, RK_Op _ _ (by simp), og _ _ _ (ne _ e0 rfl hcA) (fun q hq => by
     simp only [List.take_succ_cons, List.take_zero, List.drop_succ_cons, List.drop_zero, List.cons_append, List.nil_append, List.mem_cons, List.mem_reverse] at hq
     rcases hq with rfl | hq
     ·exact ho
     ·exact hcR q hq)]
    show (run (run e0 (B ++ [b])) _, (0 : Int)) = _
    rw [← run_app]
    simp
  | true =>
   have hu : cn (run e0 (B ++ [b])).t (eT (run e0 B).t b).2.1 = ((run e0 B).t, 0) := by
    rw [qh, pk]; exact hm.undo
   rw [cond_true, hu]
   simp only [bne_self_eq_false, cond_false]
   rw [ht, show ((n + 1 : Nat) : Int) - 1 = (n : Int) by omega]
   obtain ⟨A1, A2, h1, h2, h3, h4⟩ := ih B (R ++ [b]) f (by omega) (by omega) hcB (fun q hq => by
    rcases List.mem_append.1 hq with hq | hq
    ·exact hcR q hq
    ·rw [List.mem_singleton] at hq; rw [hq]; exact hcb) (List.pairwise_append.1 hr).1
   refine ⟨A1, A2 ++ [b], by rw [h1]; simp, h2, fun q hq => ?_, ?_⟩
   ·rcases List.mem_append.1 hq with hq | hq
    ·exact h3 q hq
    ·rw [List.mem_singleton] at hq; rw [hq]; exact hb
   ·rw [List.cons_append, h4]; simp
theorem tU (L : List Step) (o : Op) : L.any (fun a0_ => e6 a0_ o) = true ↔ ∃ q ∈ L.map (·.o), stamp q = stamp o := by
 rw [List.any_eq_true]
 constructor
 ·rintro ⟨s, hs, h⟩; exact ⟨s.o, List.mem_map.2 ⟨s, hs, rfl⟩, of_decide_eq_true h⟩
 ·rintro ⟨q, hq, h⟩
  obtain ⟨s, hs, rfl⟩ := List.mem_map.1 hq
  exact ⟨s, hs, decide_eq_true h⟩
theorem vq {h : History} {S : List Op} (hh : i7 h S) (o : Op) : bi h o =
  bif chkO o != 0 then (e0, chkO o) else bif S.any (fun q => decide (stamp q = stamp o)) then (e0, 6) else bif S.length == 30 then (e0, 2) else (run e0 (fm (S ++ [o])), 0) := by
 unfold bi
 rw [ek]
 cases h1 : chkO o != 0 with
 | true => rfl
 | false =>
  have ho := ae h1
  simp only [cond_false]
  have ha : h.l.any (fun a0_ => e6 a0_ o) = S.any (fun q => decide (stamp q = stamp o)) := by
   rw [Bool.eq_iff_iff, tU, hh.ops, List.any_eq_true]
   simp
  have hl : h.l.length = S.length := by rw [← hh.ops, List.length_map]
  rw [ha]
  cases h2 : S.any (fun q => decide (stamp q = stamp o)) with
  | true => rfl
  | false =>
   simp only [cond_false]
   have h30 : ((h.l.length : Int) == 30) = (S.length == 30) := by rw [hl, Bool.eq_iff_iff]; simp; omega
   rw [h30]
   cases h3 : S.length == 30 with
   | true => rfl
   | false =>
    have h3 : S.length ≠ 30 := by simpa using h3
    have hlen := hh.len
    simp only [cond_false]
    obtain ⟨A1, A2, e1, e2, e3, e4⟩ := ue o ho S.length S [] (h.l.length + 1) rfl (by omega) hh.ok (by simp) hh.rise
    have hne : ∀ q ∈ S, stamp q ≠ stamp o := fun q hq he => by
     have : S.any (fun q => decide (stamp q = stamp o)) = true := List.any_eq_true.2 ⟨q, hq, decide_eq_true he⟩
     rw [h2] at this; cases this
    have hrise : Rise (A1 ++ o :: A2) := by
     have hr := hh.rise
     rw [e1] at hr
     obtain ⟨r1, r2, r3⟩ := List.pairwise_append.1 hr
     have hA1 : ∀ q ∈ A1, before q o = true := fun q hq => by
      cases hb : before q o with
      | true => rfl
      | false => exact absurd (oa hb (e2 q hq)) (hne q (by rw [e1]; exact List.mem_append_left _ hq))
     refine List.pairwise_append.2 ⟨r1, List.pairwise_cons.2 ⟨e3, r2⟩, fun q hq w hw => ?_⟩
     rcases List.mem_cons.1 hw with rfl | hw
     ·exact hA1 q hq
     ·exact r3 q hq w hw
    have hs : fm (S ++ [o]) = A1 ++ o :: A2 := mL (by simp; omega) hrise (by
     rw [e1]
     refine List.perm_middle.trans ?_
     exact (List.perm_append_comm (l₁ := [o]) (l₂ := A1 ++ A2)))
    rw [hs]
    have := e4
    rw [List.reverse_nil, List.append_nil] at this
    rw [← this, hl, hh.eq]
theorem i7.run {S : List Op} (h1 : S.length ≤ 30) (h2 : ∀ o ∈ S, chkO o = 0) (h3 : Rise S) : i7 (run e0 S) S := ⟨h1, h2, h3, rfl⟩
theorem vS {S : List Op} {o : Op} (h : S.any (fun q => decide (stamp q = stamp o)) = false) : ∀ q ∈ S, stamp q ≠ stamp o := fun q hq he => by
 have : S.any (fun q => decide (stamp q = stamp o)) = true := List.any_eq_true.2 ⟨q, hq, decide_eq_true he⟩
 rw [h] at this; cases this
theorem tN {S : List Op} {o : Op} (h : Dist S) (hne : ∀ q ∈ S, stamp q ≠ stamp o) : Dist (S ++ [o]) := by
 unfold Dist at *
 rw [List.map_append, List.nodup_append]
 refine ⟨h, by simp, fun a ha b hb => ?_⟩
 obtain ⟨q, hq, rfl⟩ := List.mem_map.1 ha
 simp only [List.map_cons, List.map_nil, List.mem_singleton] at hb
 rw [hb]; exact hne q hq
theorem sQ {l : List Op} (h : l.length ≤ 30) (hd : Dist l) : Rise (fm l) := nC (fg h) ((Dist.perm (ed h)).2 hd)
theorem i7.llen {h : History} {S : List Op} (hh : i7 h S) : h.l.length = S.length := by rw [← hh.ops, List.length_map]
theorem i7.at_ {h : History} {S : List Op} (hh : i7 h S) {i : Nat} (hi : i < h.l.length) : (gt h.l i).o = gt S i := by
 have := hh.llen
 rw [gt_eq hi, gt_eq (by omega)]
 have e := hh.ops
 subst e
 simp
def pl (tb : List Place) : Nat → Nat → List Place
 | 0, _ => []
 | f + 1, k => bif (decide ((k : Int) > 0) && decide ((gt tb k).parent ≥ 0)) then gt tb k :: pl tb f (k + 1) else pl tb f (k + 1)
theorem rK (tb : List Place) (i n : Nat) (p : Place) (hi : i < tb.length) : gt (tb.set i p) n = if i = n then p else gt tb n := by
 simp only [gt, List.getD, List.getElem?_set]
 by_cases h : i = n
 ·subst h; simp [hi]
 ·simp [h]
end Go.Proofs.YtpkaloknohpleaaGreatDoor

set_option maxHeartbeats 2000000
namespace Go.Proofs.YtpkaloknohpleaaGreatDoor
open Go Go.Proofs.YtpkaloknohpleaaGreatDoor.Fw Go.Proofs
attribute [local irreducible] RdL RdN VarP RW CW
theorem qk : ∀ {l : List Peer}, dx l = 0 → ∀ p ∈ l, (0 ≤ p.life ∧ p.life ≤ 50 ∧ 0 ≤ p.seq ∧ p.seq ≤ 30) ∧ (p.life = 0 → p.seq = 0 ∧ p.roots = []) ∧ bL p.roots = 0
 | [], _ => by simp
 | q :: l, h => by
  rw [dx] at h
  cases h1 : (((decide (q.life < 0) || decide (q.life > 50)) || decide (q.seq < 0)) || decide (q.seq > 30)) with
  | true => rw [h1, cond_true] at h; cases h
  | false =>
  rw [h1, cond_false] at h
  cases h2 : ((q.life == 0) && (decide (q.seq > 0) || decide ((q.roots.length : Int) > 0))) with
  | true => rw [h2, cond_true] at h; cases h
  | false =>
  rw [h2, cond_false] at h
  cases h3 : (bL q.roots != 0) with
  | true => rw [h3, cond_true] at h; rw [h] at h3; cases h3
  | false =>
  rw [h3, cond_false] at h
  intro p hp
  rcases List.mem_cons.1 hp with rfl | hp
  ·simp only [Bool.or_eq_false_iff, decide_eq_false_iff_not] at h1
   refine ⟨by omega, fun hl => ?_, ae h3⟩
   simp only [Bool.and_eq_false_iff, beq_eq_false_iff_ne, Bool.or_eq_false_iff, decide_eq_false_iff_not] at h2
   rcases h2 with h2 | h2
   ·exact absurd hl h2
   ·exact ⟨by omega, List.length_eq_zero_iff.1 (by omega)⟩
  ·exact qk h p hp
theorem lX {h : Hub} (hc : cu h = 0) : ∀ p ∈ h.peers, (0 ≤ p.life ∧ p.life ≤ 50 ∧ 0 ≤ p.seq ∧ p.seq ≤ 30) ∧ (p.life = 0 → p.seq = 0 ∧ p.roots = []) ∧ bL p.roots = 0 := by
 obtain ⟨h1, h2, h3, h4⟩ := fD hc
 have e1 : (cH h.h != 0) = false := by rw [h1]; rfl
 have e2 : (decide (h.version < 0) || decide (h.version > 60)) = false := by simp; omega
 have e3 : ((h.peers.length : Int) != 3) = false := by rw [h4]; rfl
 unfold cu at hc
 rw [e1, cond_false, e2, cond_false, e3, cond_false] at hc
 exact qk hc
theorem vX {h : Hub} (hc : cu h = 0) : ∀ p ∈ h.peers, 0 ≤ p.seq ∧ p.seq ≤ 30 := fun p hp => by have := (lX hc p hp).1; omega
theorem ng {r : Rec} (h : aM r = 0) : (r.kind = 1 → 0 ≤ r.o.who ∧ r.o.who < 3) ∧ (r.kind ≠ 1 → 0 ≤ r.who ∧ r.who < 3) ∧ 1 ≤ r.kind ∧ r.kind ≤ 3 ∧ (r.kind ≠ 1 → bL r.roots = 0) := by
 unfold aM at h
 cases h1 : (decide (r.kind < 1) || decide (r.kind > 3)) with
 | true => rw [h1, cond_true] at h; cases h
 | false =>
 rw [h1, cond_false] at h
 simp only [Bool.or_eq_false_iff, decide_eq_false_iff_not] at h1
 cases h2 : (r.kind == 1) with
 | true =>
  rw [h2, cond_true] at h
  have h2 := eq_of_beq h2
  cases h3 : (((r.who != 0) || (r.life != 0)) || decide ((r.roots.length : Int) > 0)) with
  | true => rw [h3, cond_true] at h; cases h
  | false =>
   rw [h3, cond_false, ek] at h
   have := pG h
   exact ⟨fun _ => by omega, fun hn => absurd h2 hn, by omega, by omega, fun hn => absurd h2 hn⟩
 | false =>
  rw [h2, cond_false] at h
  have h2 := beq_eq_false_iff_ne.1 h2
  cases h3 : (((!(decide (r.o = (⟨0, 0, 0, 0, 0, 0, 0⟩ : Op)))) || ((r.kind == 3) && (r.life != 0))) || ((r.kind == 2) && decide ((r.roots.length : Int) > 0))) with
  | true => rw [h3, cond_true] at h; cases h
  | false =>
   rw [h3, cond_false] at h
   cases h4 : ((decide (r.who < 0) || decide (r.who ≥ 3)) || ((r.kind == 2) && (decide (r.life < 1) || decide (r.life > 50)))) with
   | true => rw [h4, cond_true] at h; cases h
   | false =>
    rw [h4, cond_false] at h
    simp only [Bool.or_eq_false_iff, decide_eq_false_iff_not] at h4
    exact ⟨fun he => absurd he h2, fun _ => by omega, by omega, by omega, fun _ => h⟩
def cv (h1 : Hub) (o1 : Op) : Int × Hub :=
 (bif (((gt h1.peers o1.who.toNat).life != o1.life) || (((gt h1.peers o1.who.toNat).seq + 1) != o1.seq)) then (7, h1) else (bif ((bi h1.h o1).2 == 0) then ((bi h1.h o1).2, (⟨(bi h1.h o1).1, h1.version, (h1.peers.set o1.who.toNat (⟨(gt h1.peers o1.who.toNat).life, o1.seq, (gt h1.peers o1.who.toNat).roots⟩ : Peer))⟩ : Hub)) else ((bi h1.h o1).2, h1)))
theorem nT (c1 : Nat) (y1 : SlV) (y2 : SlV) (y3 : SlV) (y3b : Option Nat) (γ1 : Nat → SlV) (h1 : Hub) (o1 : Op) (hp : h1.peers.length = 3) (hw : 0 ≤ o1.who ∧ o1.who < 3) (hl : h1.h.l.length ≤ 1000) (hs : ∀ p ∈ h1.peers, 0 ≤ p.seq ∧ p.seq ≤ 30) : DoesG Tryz.prog 79 [.pointer (some ⟨c1, 0, none⟩), .agg ⟨[.int .i64 o1.time, .int .i64 o1.who, .int .i64 o1.node, .int .i64 o1.parent, .int .i64 o1.name, .int .i64 o1.life, .int .i64 o1.seq]⟩] [RdL EStep y1 h1.h.l, RdL EPlace y2 h1.h.t, am NPeer γ1 h1.peers] ⟨[⟨c1, 32, [y1.val h1.h.l.length, y2.val h1.h.t.length, .int .i64 h1.version, y3.val h1.peers.length]⟩], [ownL NPeer.E 101 y3 y3b (zipG γ1 0 h1.peers)]⟩ (fun (X : SlV × SlV × SlV × Option Nat × (Nat → SlV)) => .int .i64 (cv h1 o1).1) (fun X => [RdL EStep X.1 (cv h1 o1).2.h.l, RdL EPlace X.2.1 (cv h1 o1).2.h.t, am NPeer X.2.2.2.2 (cv h1 o1).2.peers]) (fun X => ⟨[⟨c1, 32, [X.1.val (cv h1 o1).2.h.l.length, X.2.1.val (cv h1 o1).2.h.t.length, .int .i64 (cv h1 o1).2.version, X.2.2.1.val (cv h1 o1).2.peers.length]⟩], [ownL NPeer.E 101 X.2.2.1 X.2.2.2.1 (zipG X.2.2.2.2 0 (cv h1 o1).2.peers)]⟩) := by
 refine co aZ Tryz.func79 rfl Tryz.ntmps79 Tryz.results79 rfl inferInstance (fun _ => inferInstance) fun C => ?_
 refine Tx ?_
 refine Bx fun g1 => ?_
 refine Tx ?_
 have hsb := hs (gt h1.peers o1.who.toNat) (gn (by omega))
 (repeat refine ao ?_); refine au (fun _ => some []) ?_
 refine Rb 0 rfl Qp ?_
 refine Rb 1 rfl Qp ?_
 refine Rb 2 rfl Qp ?_
 refine Ra 3 rfl Q1 ?_
 refine Rb 4 rfl Qp ?_
 refine Rb 5 rfl Qp ?_
 refine Ra 6 rfl Q1 ?_
 refine rw_qO NPeer.E (e := 101) (X := y3) (b := y3b) (l := zipG γ1 0 h1.peers) Mm (.an (i := 7) (js := []) rfl Kr Kr Kr Kr) rfl rfl rfl (dw NPeer γ1 o1.who.toNat rfl rfl Zf rfl Zf rfl rfl rfl (.head _) rfl Zo Za) ?_
 refine Ra 8 rfl Qp ?_
 refine bn Kr ?_
 (repeat refine ao ?_); refine au (fun _ => some []) ?_
 refine Rb 0 rfl Qp ?_
 refine Rb 1 rfl Qp ?_
 refine Rb 2 rfl (q_fae rfl rfl Zf rfl rfl) ?_
 refine rw_qO NPeer.E (e := 101) (X := y3) (b := y3b) (l := zipG γ1 0 h1.peers) Mm (.ab (i := 3) (js := [4, 5]) [6, 7, 8, 9, 10, 11, 12, 13, 14, 15, 16] rfl Kr Kr Kr Kr Kr) rfl rfl rfl (kH NPeer γ1 (v := .int .i64 (gt h1.peers o1.who.toNat).life) rfl rfl Zf rfl rfl (.head _) Za rfl) ?_
 refine Rb 4 rfl Qp ?_
 refine Rb 5 rfl Q1 ?_
 refine Rb 6 rfl Qp ?_
 refine Ra 7 rfl Qp ?_
 refine Gb 8 rfl (aB rfl rfl rfl) (q_pev rfl Bt) ?_
 refine Gb 9 rfl (aB rfl rfl rfl) (q_pev rfl Bt) ?_
 refine Gb 10 rfl (aB rfl rfl rfl) (q_fae rfl rfl Bt rfl rfl) ?_
 refine nB NPeer.E (e := 101) (X := y3) (b := y3b) (l := zipG γ1 0 h1.peers) Mm (.ab (i := 11) (js := [13, 14]) [12, 15, 16] rfl Kr Kr Kr Kr Kr) (aB rfl rfl rfl) rfl rfl (kH NPeer γ1 (v := .int .i64 (gt h1.peers o1.who.toNat).seq) rfl rfl Bt rfl rfl (.head _) (by first | (intro _; first | assumption | omega | (simp only [List.length_set]; omega)) | (intro h; simp at h; omega)) rfl) ?_
 refine Gb 12 rfl (aB rfl rfl rfl) (q_add rfl rfl Bt rfl Bt (by intro h; first | omega | (simp at h; omega))) ?_
 refine Gb 13 rfl (aB rfl rfl rfl) (q_pev rfl Bt) ?_
 refine Gb 14 rfl (aB rfl rfl rfl) (q_ld1 rfl rfl Bt rfl Mm rfl) ?_
 refine Ga 15 rfl (aB rfl rfl rfl) (q_pev rfl Bt) ?_
 refine Ra 16 rfl (q_pev rfl Bt) ?_
 refine bn Kr ?_
 (repeat refine ao ?_)
 refine Cd (b := (((gt h1.peers o1.who.toNat).life != o1.life) || (((gt h1.peers o1.who.toNat).seq + 1) != o1.seq))) (fun hc1 => ?_) fun hc1 => ?_
 ·refine Tx ?_
  refine ai ?_; simp only [cv, hc1, Cf]; exact Re ⟨y1, y2, y3, y3b, γ1⟩ (Vt Vn)
 ·refine Tx ?_
  refine gp [0, 3, 4, 5] [true, true] (fun (i_ : Nat × SlV × SlV) => match i_ with | ⟨g2, x1, x2⟩ => [(6, .v (.pointer (some ⟨g2, 0, none⟩))), (7, .v (.int .i64 (bi h1.h o1).2))]) (fun (i_ : Nat × SlV × SlV) => match i_ with | ⟨g2, x1, x2⟩ => [⟨g2, 29, [x1.val (bi h1.h o1).1.l.length, x2.val (bi h1.h o1).1.t.length]⟩]) (fun (i_ : Nat × SlV × SlV) => match i_ with | ⟨g2, x1, x2⟩ => [ownL NPeer.E 101 y3 y3b (zipG γ1 0 h1.peers)]) (fun (i_ : Nat × SlV × SlV) => match i_ with | ⟨g2, x1, x2⟩ => [RdL EStep x1 (bi h1.h o1).1.l, RdL EPlace x2 (bi h1.h o1).1.t]) (fun _ => True) (.cons rfl (.cons rfl (.cons rfl (.cons rfl (.nil _))))) (.keep (.keep (.nil))) ?_ ?_
  ·refine au (fun j => match j with | 10 => none | _ => some []) ?_
   refine Rb 0 rfl Qp ?_
   refine Rb 1 rfl Qp ?_
   refine Rb 2 rfl Qp ?_
   refine Rb 3 rfl (q_ldP rfl rfl Zf rfl Mm rfl) ?_
   refine Rb 4 rfl (q_ldA rfl rfl Zf rfl Mm rfl) ?_
   refine fu 5 9 Kr ?_ ?_
   ·refine cJ (ki y1 y2 h1.h o1 Zc) (.an rfl rfl) (ac rfl) rfl rfl rfl Kr rfl rfl Sm ?_
    intro x3
    refine Pr EStep x3.1 (bi h1.h o1).1.l 88 fun hlen1 => ?_
    refine Pr EPlace x3.2 (bi h1.h o1).1.t 24 fun hlen2 => ?_
    refine Ra 6 rfl Qp ?_
    refine Ra 7 rfl Qp ?_
    refine ra_p (.an (i := 8) (js := [9, 10]) rfl Kr Kr Kr Kr) rfl rfl rfl (q_pev rfl Zf) ?_
    refine ap 9 Kr ?_
    refine di (.an rfl rfl) (ac rfl) rfl rfl rfl rfl fun g3 => ?_
    refine ap 10 Kr ?_
    refine cY (.lo [g3] rfl rfl) (.inr (by simp)) (ac rfl) rfl rfl rfl rfl rfl rfl rfl rfl rfl Ub rfl ?_
    refine Ra 11 rfl Qp ?_
    refine bn Kr ?_
    refine ⟨⟨g3, x3.1, x3.2⟩, trivial, Le4⟩
   ·refine di (.an rfl rfl) (ac rfl) rfl rfl rfl rfl fun g4 => ?_
    refine ap 5 Kr ?_
    refine cJ (ki y1 y2 h1.h o1 Zc) (.an rfl rfl) (ac rfl) rfl rfl rfl Kr rfl rfl Sm ?_
    intro x4
    refine Pr EStep x4.1 (bi h1.h o1).1.l 88 fun hlen3 => ?_
    refine Pr EPlace x4.2 (bi h1.h o1).1.t 24 fun hlen4 => ?_
    refine Ra 6 rfl Qp ?_
    refine Ra 7 rfl Qp ?_
    refine ra_p (.an (i := 8) (js := [10]) rfl Kr Kr Kr Kr) rfl rfl rfl (q_pev rfl Zf) ?_
    refine ap 10 Kr ?_
    refine cY (.lo [g4] rfl rfl) (.inr (by simp)) (ac rfl) rfl rfl rfl rfl rfl rfl rfl rfl rfl Ub rfl ?_
    refine Ra 11 rfl Qp ?_
    refine bn Kr ?_
    refine ⟨⟨g4, x4.1, x4.2⟩, trivial, Le4⟩
  ·rintro ⟨g2, x1, x2⟩ -
   simp only [List.cons_append, List.nil_append]
   refine Tx ?_
   refine Cd (b := ((bi h1.h o1).2 == 0)) (fun hc2 => ?_) fun hc2 => ?_
   ·have hc2p := eq_of_beq hc2
    (repeat refine ao ?_); refine au (fun j => match j with | 7 => none | 10 => none | _ => some []) ?_
    refine Ra 0 rfl Qp ?_
    refine ra_p (.an (i := 1) (js := [2, 3, 4, 5, 6, 7]) rfl Kr Kr Kr Kr) rfl rfl rfl (q_pev rfl Zf) ?_
    refine Ra 2 rfl (q_ldA rfl rfl Zf rfl Mm rfl) ?_
    refine ra_p (.an (i := 3) (js := [5, 6, 7]) rfl Kr Kr Kr Kr) rfl rfl rfl (q_pev rfl Zf) ?_
    refine Rb 5 rfl Qp ?_
    refine Ra 6 rfl Qp ?_
    refine fu 4 7 Kr ?_ ?_
    ·refine tg rfl rfl rfl rfl (q_ld1 rfl rfl Zf rfl Mm rfl) ?_
     refine ap 7 Kr ?_
     refine eS (.lo [c1] rfl rfl) (.inr (by simp)) (ac rfl) rfl rfl rfl rfl rfl rfl rfl rfl rfl Ub rfl ?_
     refine Rb 8 rfl Qp ?_
     refine Ra 9 rfl (q_fae rfl rfl Zf rfl rfl) ?_
     refine ap 10 Kr ?_
     refine gf NPeer γ1 h1.peers o1.who.toNat 1 (γ1 o1.who.toNat) (⟨(gt h1.peers o1.who.toNat).life, o1.seq, (gt h1.peers o1.who.toNat).roots⟩ : Peer) (e := 101) (X := y3) (b := y3b) (.lo y3b.toList rfl rfl) (.inr (fun g h => by simp [h])) (ac rfl) rfl rfl rfl rfl rfl rfl rfl rfl rfl rfl rfl Zb rfl Uo ?_
     refine aI (F := RdL EInt (γ1 o1.who.toNat) (gt h1.peers o1.who.toNat).roots) [am NPeer γ1 h1.peers] Sm (fun M w h => (allF1 h) o1.who.toNat Zc _ (.head _)) ?_
     refine aI (F := am NPeer (updG γ1 o1.who.toNat (γ1 o1.who.toNat)) (h1.peers.set o1.who.toNat (⟨(gt h1.peers o1.who.toNat).life, o1.seq, (gt h1.peers o1.who.toNat).roots⟩ : Peer))) [am NPeer γ1 h1.peers, RdL EInt (γ1 o1.who.toNat) (gt h1.peers o1.who.toNat).roots] Sm (fun M w h => am.upd NPeer (h _ (.head _)) (da Sm h)) ?_
     have hv1 : y3.val h1.peers.length = y3.val (h1.peers.set o1.who.toNat (⟨(gt h1.peers o1.who.toNat).life, o1.seq, (gt h1.peers o1.who.toNat).roots⟩ : Peer)).length := congrArg (SlV.val y3) List.length_set.symm
     try rw [hv1]
     refine bn Kr ?_
     refine Tx ?_
     refine ai ?_; simp only [cv, hc1, hc2, Cf]; exact Re ⟨x1, x2, y3, y3b, (updG γ1 o1.who.toNat (γ1 o1.who.toNat))⟩ (Vt Vn)
    ·refine eS (.lo [c1] rfl rfl) (.inr (by simp)) (ac rfl) rfl rfl rfl rfl rfl rfl rfl rfl rfl Ub rfl ?_
     refine Ra 4 rfl Q1 ?_
     refine Rb 8 rfl Qp ?_
     refine Ra 9 rfl (q_fae rfl rfl Zf rfl rfl) ?_
     refine ap 10 Kr ?_
     refine gf NPeer γ1 h1.peers o1.who.toNat 1 (γ1 o1.who.toNat) (⟨(gt h1.peers o1.who.toNat).life, o1.seq, (gt h1.peers o1.who.toNat).roots⟩ : Peer) (e := 101) (X := y3) (b := y3b) (.lo y3b.toList rfl rfl) (.inr (fun g h => by simp [h])) (ac rfl) rfl rfl rfl rfl rfl rfl rfl rfl rfl rfl rfl Zb rfl Uo ?_
     refine aI (F := RdL EInt (γ1 o1.who.toNat) (gt h1.peers o1.who.toNat).roots) [am NPeer γ1 h1.peers] Sm (fun M w h => (allF1 h) o1.who.toNat Zc _ (.head _)) ?_
     refine aI (F := am NPeer (updG γ1 o1.who.toNat (γ1 o1.who.toNat)) (h1.peers.set o1.who.toNat (⟨(gt h1.peers o1.who.toNat).life, o1.seq, (gt h1.peers o1.who.toNat).roots⟩ : Peer))) [am NPeer γ1 h1.peers, RdL EInt (γ1 o1.who.toNat) (gt h1.peers o1.who.toNat).roots] Sm (fun M w h => am.upd NPeer (h _ (.head _)) (da Sm h)) ?_
     have hv2 : y3.val h1.peers.length = y3.val (h1.peers.set o1.who.toNat (⟨(gt h1.peers o1.who.toNat).life, o1.seq, (gt h1.peers o1.who.toNat).roots⟩ : Peer)).length := congrArg (SlV.val y3) List.length_set.symm
     try rw [hv2]
     refine bn Kr ?_
     refine Tx ?_
     refine ai ?_; simp only [cv, hc1, hc2, Cf]; exact Re ⟨x1, x2, y3, y3b, (updG γ1 o1.who.toNat (γ1 o1.who.toNat))⟩ (Vt Vn)
   ·have hc2p := ne_of_beq_false hc2
    refine Tx ?_
    refine ai ?_; simp only [cv, hc1, hc2, Cf]; exact Re ⟨y1, y2, y3, y3b, γ1⟩ (Vt Vn)
def aJ (h1 : Hub) (r1 : Rec) : Hub × Int :=
 (bif ((aM r1) != 0) then ((⟨(⟨[], []⟩ : History), 0, ([] : List Peer)⟩ : Hub), (aM r1)) else (bif (h1.version == 60) then ((⟨(⟨[], []⟩ : History), 0, ([] : List Peer)⟩ : Hub), 2) else (bif (r1.kind == 1) then (bif ((cv (⟨h1.h, (h1.version + 1), h1.peers⟩ : Hub) r1.o).1 != 0) then ((⟨(⟨[], []⟩ : History), 0, ([] : List Peer)⟩ : Hub), (cv (⟨h1.h, (h1.version + 1), h1.peers⟩ : Hub) r1.o).1) else ((cv (⟨h1.h, (h1.version + 1), h1.peers⟩ : Hub) r1.o).2, 0)) else (bif (r1.kind == 2) then (bif (r1.life != ((gt h1.peers r1.who.toNat).life + 1)) then ((⟨(⟨[], []⟩ : History), 0, ([] : List Peer)⟩ : Hub), 7) else ((⟨h1.h, (h1.version + 1), (h1.peers.set r1.who.toNat (⟨r1.life, 0, ([] : List Int)⟩ : Peer))⟩ : Hub), 0)) else (bif (r1.kind == 3) then (bif ((gt h1.peers r1.who.toNat).life == 0) then ((⟨(⟨[], []⟩ : History), 0, ([] : List Peer)⟩ : Hub), 5) else ((⟨h1.h, (h1.version + 1), (h1.peers.set r1.who.toNat (⟨(gt h1.peers r1.who.toNat).life, (gt h1.peers r1.who.toNat).seq, r1.roots⟩ : Peer))⟩ : Hub), 0)) else ((⟨h1.h, (h1.version + 1), h1.peers⟩ : Hub), 0))))))
theorem lY (y1 : SlV) (y2 : SlV) (y3 : SlV) (h1 : Hub) (y4 : SlV) (r1 : Rec) (hk : cu h1 = 0) : Does Tryz.prog 54 [.agg ⟨[y1.val h1.h.l.length, y2.val h1.h.t.length, .int .i64 h1.version, y3.val h1.peers.length]⟩, .agg ⟨[.int .i64 r1.kind, .int .i64 r1.who, .int .i64 r1.life, y4.val r1.roots.length, .int .i64 r1.o.time, .int .i64 r1.o.who, .int .i64 r1.o.node, .int .i64 r1.o.parent, .int .i64 r1.o.name, .int .i64 r1.o.life, .int .i64 r1.o.seq]⟩] [RdL EStep y1 h1.h.l, RdL EPlace y2 h1.h.t, RdN NPeer y3 h1.peers, RdL EInt y4 r1.roots] (fun (X : SlV × SlV × SlV) => .tuple #[.agg ⟨[X.1.val (aJ h1 r1).1.h.l.length, X.2.1.val (aJ h1 r1).1.h.t.length, .int .i64 (aJ h1 r1).1.version, X.2.2.val (aJ h1 r1).1.peers.length]⟩, .int .i64 (aJ h1 r1).2]) (fun X => [RdL EStep X.1 (aJ h1 r1).1.h.l, RdL EPlace X.2.1 (aJ h1 r1).1.h.t, RdN NPeer X.2.2 (aJ h1 r1).1.peers]) := by
 refine bj aZ Tryz.func54 rfl Tryz.ntmps54 Tryz.results54 rfl inferInstance (fun _ => inferInstance) fun C => ?_
 refine Pc EStep y1 h1.h.l 88 fun hlen1 => ?_
 refine Pc EPlace y2 h1.h.t 24 fun hlen2 => ?_
 refine Pn NPeer y3 h1.peers 40 fun hlen3 => ?_
 refine Pc EInt y4 r1.roots 8 fun hlen4 => ?_
 refine Tx ?_
 refine Bx fun g1 => ?_
 refine Bx fun g2 => ?_
 refine Al fun g3 => ?_
 refine Tx ?_
 refine Cl (fw y4 r1) fun _ => ?_
 refine Tx ?_
 refine Cd (b := ((aM r1) != 0)) (fun hc1 => ?_) fun hc1 => ?_
 ·have hc1p := bne_iff_ne.1 hc1
  refine Tx ?_
  refine Fc EStep ?_
  refine Fc EPlace ?_
  refine cS (F := RdN NPeer ⟨none, 0⟩ ([] : List Peer)) [] (.nil _) (fun M w _ => RdN.nil _ M w) ?_
  refine ai ?_; simp only [aJ, hc1, Cf]; exact Re ⟨(⟨none, 0⟩ : SlV), (⟨none, 0⟩ : SlV), (⟨none, 0⟩ : SlV)⟩ (Va (Vt Vn))
 ·have hc1p := ae hc1
  have hnw := ng (ae hc1)
  have hcl := fD hk
  have hcq := mt hcl.1
  have hsq := vX hk
  refine Tx ?_
  refine Cd (b := (h1.version == 60)) (fun hc2 => ?_) fun hc2 => ?_
  ·have hc2p := eq_of_beq hc2
   refine Tx ?_
   refine Fc EStep ?_
   refine Fc EPlace ?_
   refine cS (F := RdN NPeer ⟨none, 0⟩ ([] : List Peer)) [] (.nil _) (fun M w _ => RdN.nil _ M w) ?_
   refine ai ?_; simp only [aJ, hc1, hc2, Cf]; exact Re ⟨(⟨none, 0⟩ : SlV), (⟨none, 0⟩ : SlV), (⟨none, 0⟩ : SlV)⟩ (Va (Vt Vn))
  ·have hc2p := ne_of_beq_false hc2
   refine Tx ?_
   refine Cg (lq y1 y2 y3 h1) fun x1 => ?_
   refine Pr EStep x1.1 h1.h.l 88 fun hlen5 => ?_
   refine Pr EPlace x1.2.1 h1.h.t 24 fun hlen6 => ?_
   refine Tx ?_
   refine rw_q rfl rfl rfl (q_add rfl rfl Zf rfl Zf Zo) ?_
   refine Tx ?_
   refine Cd (b := (r1.kind == 1)) (fun hc3 => ?_) fun hc3 => ?_
   ·have hc3p := eq_of_beq hc3
    refine Tx ?_
    refine aV (nT g1 x1.1 x1.2.1 x1.2.2.1 x1.2.2.2.1 x1.2.2.2.2 (⟨h1.h, (h1.version + 1), h1.peers⟩ : Hub) r1.o hcl.2.2.2 (hnw.1 (by assumption)) (Nat.le_trans hcq (by omega)) hsq) .sq (.inl ⟨_, rfl⟩) (ac rfl) rfl rfl rfl Kr rfl rfl Sm Tk Tk ?_
    intro x2
    refine Tx ?_
    refine Cd (b := ((cv (⟨h1.h, (h1.version + 1), h1.peers⟩ : Hub) r1.o).1 != 0)) (fun hc4 => ?_) fun hc4 => ?_
    ·have hc4p := bne_iff_ne.1 hc4
     refine Tx ?_
     refine Fc EStep ?_
     refine Fc EPlace ?_
     refine cS (F := RdN NPeer ⟨none, 0⟩ ([] : List Peer)) [] (.nil _) (fun M w _ => RdN.nil _ M w) ?_
     refine ai ?_; simp only [aJ, hc1, hc2, hc3, hc4, Cf]; exact Re ⟨(⟨none, 0⟩ : SlV), (⟨none, 0⟩ : SlV), (⟨none, 0⟩ : SlV)⟩ (Va (Vt Vn))
    ·have hc4p := ae hc4
     refine Tx ?_
     refine cw_le (ay NPeer.E 101 x2.2.2.1 x2.2.2.2.1 (zipG x2.2.2.2.2 0 (cv (⟨h1.h, (h1.version + 1), h1.peers⟩ : Hub) r1.o).2.peers) Uo) ?_
     refine cS (F := RdN NPeer x2.2.2.1 (cv (⟨h1.h, (h1.version + 1), h1.peers⟩ : Hub) r1.o).2.peers) [RdG NPeer x2.2.2.1 x2.2.2.2.2 (cv (⟨h1.h, (h1.version + 1), h1.peers⟩ : Hub) r1.o).2.peers, am NPeer x2.2.2.2.2 (cv (⟨h1.h, (h1.version + 1), h1.peers⟩ : Hub) r1.o).2.peers] Sm (fun M w h => RdN.ofG NPeer (h _ (.head _)) (h _ (.tail _ (.head _)))) ?_
     refine ai ?_; simp only [aJ, hc1, hc2, hc3, hc4, Cf]; exact Re ⟨x2.1, x2.2.1, x2.2.2.1⟩ (Va (Vt Vn))
   ·have hc3p := ne_of_beq_false hc3
    refine Tx ?_
    refine Cd (b := (r1.kind == 2)) (fun hc5 => ?_) fun hc5 => ?_
    ·have hc5p := eq_of_beq hc5
     have hlb := (lX hk (gt h1.peers r1.who.toNat) (gn (by omega))).1
     (repeat refine ao ?_); refine au (fun _ => some []) ?_
     refine Rb 0 rfl Qp ?_
     refine Ra 1 rfl Q1 ?_
     refine Rb 2 rfl Qp ?_
     refine Rb 3 rfl Q1 ?_
     refine Rb 4 rfl Qp ?_
     refine Rb 5 rfl Q1 ?_
     refine rw_qO NPeer.E (e := 101) (X := x1.2.2.1) (b := x1.2.2.2.1) (l := zipG x1.2.2.2.2 0 h1.peers) Mm (.ab (i := 6) (js := []) [7, 8, 9, 10] rfl Kr Kr Kr Kr Kr) rfl rfl rfl (dw NPeer x1.2.2.2.2 r1.who.toNat rfl rfl Zf rfl Zf rfl rfl rfl (.head _) rfl Zo Za) ?_
     refine Rb 7 rfl (q_fae rfl rfl Zf rfl rfl) ?_
     refine rw_qO NPeer.E (e := 101) (X := x1.2.2.1) (b := x1.2.2.2.1) (l := zipG x1.2.2.2.2 0 h1.peers) Mm (.ab (i := 8) (js := []) [9, 10] rfl Kr Kr Kr Kr Kr) rfl rfl rfl (kH NPeer x1.2.2.2.2 (v := .int .i64 (gt h1.peers r1.who.toNat).life) rfl rfl Zf rfl rfl (.head _) Za rfl) ?_
     refine Ra 9 rfl (q_add rfl rfl Zf rfl Zf Zo) ?_
     refine Ra 10 rfl Qp ?_
     refine bn Kr ?_
     (repeat refine ao ?_)
     refine Cd (b := (r1.life != ((gt h1.peers r1.who.toNat).life + 1))) (fun hc6 => ?_) fun hc6 => ?_
     ·have hc6p := bne_iff_ne.1 hc6
      refine Tx ?_
      refine rw_qO NPeer.E (e := 101) (X := x1.2.2.1) (b := x1.2.2.2.1) (l := zipG x1.2.2.2.2 0 h1.peers) Mm .sq rfl rfl rfl (dw NPeer x1.2.2.2.2 r1.who.toNat rfl rfl Zf rfl Zf rfl rfl rfl (.head _) rfl Zo Za) ?_
      refine Fr EInt ?_
      refine gf NPeer x1.2.2.2.2 h1.peers r1.who.toNat 0 (⟨none, 0⟩ : SlV) (⟨r1.life, 0, ([] : List Int)⟩ : Peer) (e := 101) (X := x1.2.2.1) (b := x1.2.2.2.1) .sq (.inl ⟨_, rfl⟩) (ac rfl) rfl rfl rfl rfl rfl rfl rfl rfl rfl rfl rfl Zb rfl Uo ?_
      refine aI (F := am NPeer (updG x1.2.2.2.2 r1.who.toNat (⟨none, 0⟩ : SlV)) (h1.peers.set r1.who.toNat (⟨r1.life, 0, ([] : List Int)⟩ : Peer))) [am NPeer x1.2.2.2.2 h1.peers, RdL EInt (⟨none, 0⟩ : SlV) ([] : List Int)] Sm (fun M w h => am.upd NPeer (h _ (.head _)) (da Sm h)) ?_
      have hv1 : x1.2.2.1.val h1.peers.length = x1.2.2.1.val (h1.peers.set r1.who.toNat (⟨r1.life, 0, ([] : List Int)⟩ : Peer)).length := congrArg (SlV.val x1.2.2.1) List.length_set.symm
      try rw [hv1]
      refine Tx ?_
      refine Cd (b := ((7 : Int) != 0)) (fun hc7 => ?_) fun hc7 => ?_
      ·refine Tx ?_
       refine Fc EStep ?_
       refine Fc EPlace ?_
       refine cS (F := RdN NPeer ⟨none, 0⟩ ([] : List Peer)) [] (.nil _) (fun M w _ => RdN.nil _ M w) ?_
       refine ai ?_; simp only [aJ, hc1, hc2, hc3, hc5, hc6, Cf]; exact Re ⟨(⟨none, 0⟩ : SlV), (⟨none, 0⟩ : SlV), (⟨none, 0⟩ : SlV)⟩ (Va (Vt Vn))
      ·exact Bool.noConfusion (hc7.symm.trans (show ((7 : Int) != 0) = true by decide))
     ·have hc6p := ae hc6
      refine Tx ?_
      refine rw_qO NPeer.E (e := 101) (X := x1.2.2.1) (b := x1.2.2.2.1) (l := zipG x1.2.2.2.2 0 h1.peers) Mm .sq rfl rfl rfl (dw NPeer x1.2.2.2.2 r1.who.toNat rfl rfl Zf rfl Zf rfl rfl rfl (.head _) rfl Zo Za) ?_
      refine Fr EInt ?_
      refine gf NPeer x1.2.2.2.2 h1.peers r1.who.toNat 0 (⟨none, 0⟩ : SlV) (⟨r1.life, 0, ([] : List Int)⟩ : Peer) (e := 101) (X := x1.2.2.1) (b := x1.2.2.2.1) .sq (.inl ⟨_, rfl⟩) (ac rfl) rfl rfl rfl rfl rfl rfl rfl rfl rfl rfl rfl Zb rfl Uo ?_
      refine aI (F := am NPeer (updG x1.2.2.2.2 r1.who.toNat (⟨none, 0⟩ : SlV)) (h1.peers.set r1.who.toNat (⟨r1.life, 0, ([] : List Int)⟩ : Peer))) [am NPeer x1.2.2.2.2 h1.peers, RdL EInt (⟨none, 0⟩ : SlV) ([] : List Int)] Sm (fun M w h => am.upd NPeer (h _ (.head _)) (da Sm h)) ?_
      have hv2 : x1.2.2.1.val h1.peers.length = x1.2.2.1.val (h1.peers.set r1.who.toNat (⟨r1.life, 0, ([] : List Int)⟩ : Peer)).length := congrArg (SlV.val x1.2.2.1) List.length_set.symm
      try rw [hv2]
      refine Tx ?_
      refine Cd (b := ((0 : Int) != 0)) (fun hc8 => ?_) fun hc8 => ?_
      ·exact Bool.noConfusion (hc8.symm.trans (show ((0 : Int) != 0) = false by decide))
      ·refine Tx ?_
       refine cw_le (ay NPeer.E 101 x1.2.2.1 x1.2.2.2.1 (zipG (updG x1.2.2.2.2 r1.who.toNat (⟨none, 0⟩ : SlV)) 0 (h1.peers.set r1.who.toNat (⟨r1.life, 0, ([] : List Int)⟩ : Peer))) Uo) ?_
       refine cS (F := RdN NPeer x1.2.2.1 (h1.peers.set r1.who.toNat (⟨r1.life, 0, ([] : List Int)⟩ : Peer))) [RdG NPeer x1.2.2.1 (updG x1.2.2.2.2 r1.who.toNat (⟨none, 0⟩ : SlV)) (h1.peers.set r1.who.toNat (⟨r1.life, 0, ([] : List Int)⟩ : Peer)), am NPeer (updG x1.2.2.2.2 r1.who.toNat (⟨none, 0⟩ : SlV)) (h1.peers.set r1.who.toNat (⟨r1.life, 0, ([] : List Int)⟩ : Peer))] Sm (fun M w h => RdN.ofG NPeer (h _ (.head _)) (h _ (.tail _ (.head _)))) ?_
       refine ai ?_; simp only [aJ, hc1, hc2, hc3, hc5, hc6, Cf]; exact Re ⟨x1.1, x1.2.1, x1.2.2.1⟩ (Va (Vt Vn))
    ·have hc5p := ne_of_beq_false hc5
     refine Tx ?_
     refine Cd (b := (r1.kind == 3)) (fun hc9 => ?_) fun hc9 => ?_
     ·have hc9p := eq_of_beq hc9
      refine Tx ?_
      refine rw_qO NPeer.E (e := 101) (X := x1.2.2.1) (b := x1.2.2.2.1) (l := zipG x1.2.2.2.2 0 h1.peers) Mm .sq rfl rfl rfl (dw NPeer x1.2.2.2.2 r1.who.toNat rfl rfl Zf rfl Zf rfl rfl rfl (.head _) rfl Zo Za) ?_
      refine rw_q rfl rfl rfl (q_fae rfl rfl Zf rfl rfl) ?_
      refine rw_qO NPeer.E (e := 101) (X := x1.2.2.1) (b := x1.2.2.2.1) (l := zipG x1.2.2.2.2 0 h1.peers) Mm .sq rfl rfl rfl (kH NPeer x1.2.2.2.2 (v := .int .i64 (gt h1.peers r1.who.toNat).life) rfl rfl Zf rfl rfl (.head _) Za rfl) ?_
      refine Tx ?_
      refine Cd (b := ((gt h1.peers r1.who.toNat).life == 0)) (fun hc10 => ?_) fun hc10 => ?_
      ·have hc10p := eq_of_beq hc10
       refine Tx ?_
       (repeat refine ao ?_); refine au (fun j => match j with | 9 => some x1.2.2.2.1.toList | _ => some []) ?_
       refine Ra 0 rfl Qp ?_
       refine Ra 1 rfl Q1 ?_
       refine Ra 2 rfl Qp ?_
       refine Ra 3 rfl Q1 ?_
       refine Rb 4 rfl Qp ?_
       refine Ra 5 rfl Q1 ?_
       refine ap 6 Kr ?_
       refine aV (cP y4 r1.roots) (.an rfl rfl) (.inr (by simp [Lent.ids])) (ac rfl) rfl rfl rfl Kr rfl rfl Sm (.nil _) (.nil _) ?_
       intro x3
       refine rw_qO NPeer.E (e := 101) (X := x1.2.2.1) (b := x1.2.2.2.1) (l := zipG x1.2.2.2.2 0 h1.peers) Mm (.ab (i := 7) (js := []) [8, 9] rfl Kr Kr Kr Kr Kr) rfl rfl rfl (dw NPeer x1.2.2.2.2 r1.who.toNat rfl rfl Zf rfl Zf rfl rfl rfl (.head _) rfl Zo Za) ?_
       refine Ra 8 rfl (q_fae rfl rfl Zf rfl rfl) ?_
       refine ap 9 Kr ?_
       refine rw_le (ay EInt 3 x3.1 x3.2 r1.roots Uo) ?_
       refine gf NPeer x1.2.2.2.2 h1.peers r1.who.toNat 2 x3.1 (⟨(gt h1.peers r1.who.toNat).life, (gt h1.peers r1.who.toNat).seq, r1.roots⟩ : Peer) (e := 101) (X := x1.2.2.1) (b := x1.2.2.2.1) (.an rfl rfl) (.inr (fun g h => by simp [h])) (ac rfl) rfl rfl rfl rfl rfl rfl rfl rfl rfl rfl rfl Zb rfl Uo ?_
       refine aI (F := am NPeer (updG x1.2.2.2.2 r1.who.toNat x3.1) (h1.peers.set r1.who.toNat (⟨(gt h1.peers r1.who.toNat).life, (gt h1.peers r1.who.toNat).seq, r1.roots⟩ : Peer))) [am NPeer x1.2.2.2.2 h1.peers, RdL EInt x3.1 r1.roots] Sm (fun M w h => am.upd NPeer (h _ (.head _)) (da Sm h)) ?_
       have hv3 : x1.2.2.1.val h1.peers.length = x1.2.2.1.val (h1.peers.set r1.who.toNat (⟨(gt h1.peers r1.who.toNat).life, (gt h1.peers r1.who.toNat).seq, r1.roots⟩ : Peer)).length := congrArg (SlV.val x1.2.2.1) List.length_set.symm
       try rw [hv3]
       refine bn Kr ?_
       refine Tx ?_
       refine Cd (b := ((5 : Int) != 0)) (fun hc11 => ?_) fun hc11 => ?_
       ·refine Tx ?_
        refine Fc EStep ?_
        refine Fc EPlace ?_
        refine cS (F := RdN NPeer ⟨none, 0⟩ ([] : List Peer)) [] (.nil _) (fun M w _ => RdN.nil _ M w) ?_
        refine ai ?_; simp only [aJ, hc1, hc2, hc3, hc5, hc9, hc10, Cf]; exact Re ⟨(⟨none, 0⟩ : SlV), (⟨none, 0⟩ : SlV), (⟨none, 0⟩ : SlV)⟩ (Va (Vt Vn))
       ·exact Bool.noConfusion (hc11.symm.trans (show ((5 : Int) != 0) = true by decide))
      ·have hc10p := ne_of_beq_false hc10
       refine Tx ?_
       (repeat refine ao ?_); refine au (fun j => match j with | 9 => some x1.2.2.2.1.toList | _ => some []) ?_
       refine Ra 0 rfl Qp ?_
       refine Ra 1 rfl Q1 ?_
       refine Ra 2 rfl Qp ?_
       refine Ra 3 rfl Q1 ?_
       refine Rb 4 rfl Qp ?_
       refine Ra 5 rfl Q1 ?_
       refine ap 6 Kr ?_
       refine aV (cP y4 r1.roots) (.an rfl rfl) (.inr (by simp [Lent.ids])) (ac rfl) rfl rfl rfl Kr rfl rfl Sm (.nil _) (.nil _) ?_
       intro x4
       refine rw_qO NPeer.E (e := 101) (X := x1.2.2.1) (b := x1.2.2.2.1) (l := zipG x1.2.2.2.2 0 h1.peers) Mm (.ab (i := 7) (js := []) [8, 9] rfl Kr Kr Kr Kr Kr) rfl rfl rfl (dw NPeer x1.2.2.2.2 r1.who.toNat rfl rfl Zf rfl Zf rfl rfl rfl (.head _) rfl Zo Za) ?_
       refine Ra 8 rfl (q_fae rfl rfl Zf rfl rfl) ?_
       refine ap 9 Kr ?_
       refine rw_le (ay EInt 3 x4.1 x4.2 r1.roots Uo) ?_
       refine gf NPeer x1.2.2.2.2 h1.peers r1.who.toNat 2 x4.1 (⟨(gt h1.peers r1.who.toNat).life, (gt h1.peers r1.who.toNat).seq, r1.roots⟩ : Peer) (e := 101) (X := x1.2.2.1) (b := x1.2.2.2.1) (.an rfl rfl) (.inr (fun g h => by simp [h])) (ac rfl) rfl rfl rfl rfl rfl rfl rfl rfl rfl rfl rfl Zb rfl Uo ?_
       refine aI (F := am NPeer (updG x1.2.2.2.2 r1.who.toNat x4.1) (h1.peers.set r1.who.toNat (⟨(gt h1.peers r1.who.toNat).life, (gt h1.peers r1.who.toNat).seq, r1.roots⟩ : Peer))) [am NPeer x1.2.2.2.2 h1.peers, RdL EInt x4.1 r1.roots] Sm (fun M w h => am.upd NPeer (h _ (.head _)) (da Sm h)) ?_
       have hv4 : x1.2.2.1.val h1.peers.length = x1.2.2.1.val (h1.peers.set r1.who.toNat (⟨(gt h1.peers r1.who.toNat).life, (gt h1.peers r1.who.toNat).seq, r1.roots⟩ : Peer)).length := congrArg (SlV.val x1.2.2.1) List.length_set.symm
       try rw [hv4]
       refine bn Kr ?_
       refine Tx ?_
       refine Cd (b := ((0 : Int) != 0)) (fun hc12 => ?_) fun hc12 => ?_
       ·exact Bool.noConfusion (hc12.symm.trans (show ((0 : Int) != 0) = false by decide))
       ·refine Tx ?_
        refine cw_le (ay NPeer.E 101 x1.2.2.1 x1.2.2.2.1 (zipG (updG x1.2.2.2.2 r1.who.toNat x4.1) 0 (h1.peers.set r1.who.toNat (⟨(gt h1.peers r1.who.toNat).life, (gt h1.peers r1.who.toNat).seq, r1.roots⟩ : Peer))) Uo) ?_
        refine cS (F := RdN NPeer x1.2.2.1 (h1.peers.set r1.who.toNat (⟨(gt h1.peers r1.who.toNat).life, (gt h1.peers r1.who.toNat).seq, r1.roots⟩ : Peer))) [RdG NPeer x1.2.2.1 (updG x1.2.2.2.2 r1.who.toNat x4.1) (h1.peers.set r1.who.toNat (⟨(gt h1.peers r1.who.toNat).life, (gt h1.peers r1.who.toNat).seq, r1.roots⟩ : Peer)), am NPeer (updG x1.2.2.2.2 r1.who.toNat x4.1) (h1.peers.set r1.who.toNat (⟨(gt h1.peers r1.who.toNat).life, (gt h1.peers r1.who.toNat).seq, r1.roots⟩ : Peer))] Sm (fun M w h => RdN.ofG NPeer (h _ (.head _)) (h _ (.tail _ (.head _)))) ?_
        refine ai ?_; simp only [aJ, hc1, hc2, hc3, hc5, hc9, hc10, Cf]; exact Re ⟨x1.1, x1.2.1, x1.2.2.1⟩ (Va (Vt Vn))
     ·have hc9p := ne_of_beq_false hc9
      refine Tx ?_
      refine Cd (b := ((0 : Int) != 0)) (fun hc13 => ?_) fun hc13 => ?_
      ·exact Bool.noConfusion (hc13.symm.trans (show ((0 : Int) != 0) = false by decide))
      ·refine Tx ?_
       refine cw_le (ay NPeer.E 101 x1.2.2.1 x1.2.2.2.1 (zipG x1.2.2.2.2 0 h1.peers) Uo) ?_
       refine cS (F := RdN NPeer x1.2.2.1 h1.peers) [RdG NPeer x1.2.2.1 x1.2.2.2.2 h1.peers, am NPeer x1.2.2.2.2 h1.peers] Sm (fun M w h => RdN.ofG NPeer (h _ (.head _)) (h _ (.tail _ (.head _)))) ?_
       refine ai ?_; simp only [aJ, hc1, hc2, hc3, hc5, hc9, Cf]; exact Re ⟨x1.1, x1.2.1, x1.2.2.1⟩ (Va (Vt Vn))
def dG (h1 : Hub) (r1 : Rec) : Hub × Int :=
 (bif ((cu h1) != 0) then ((⟨(⟨[], []⟩ : History), 0, ([] : List Peer)⟩ : Hub), (cu h1)) else ((aJ h1 r1).1, (aJ h1 r1).2))
theorem l4 (y1 : SlV) (y2 : SlV) (y3 : SlV) (h1 : Hub) (y4 : SlV) (r1 : Rec) : Does Tryz.prog 109 [.agg ⟨[y1.val h1.h.l.length, y2.val h1.h.t.length, .int .i64 h1.version, y3.val h1.peers.length]⟩, .agg ⟨[.int .i64 r1.kind, .int .i64 r1.who, .int .i64 r1.life, y4.val r1.roots.length, .int .i64 r1.o.time, .int .i64 r1.o.who, .int .i64 r1.o.node, .int .i64 r1.o.parent, .int .i64 r1.o.name, .int .i64 r1.o.life, .int .i64 r1.o.seq]⟩] [RdL EStep y1 h1.h.l, RdL EPlace y2 h1.h.t, RdN NPeer y3 h1.peers, RdL EInt y4 r1.roots] (fun (X : SlV × SlV × SlV) => .tuple #[.agg ⟨[X.1.val (dG h1 r1).1.h.l.length, X.2.1.val (dG h1 r1).1.h.t.length, .int .i64 (dG h1 r1).1.version, X.2.2.val (dG h1 r1).1.peers.length]⟩, .int .i64 (dG h1 r1).2]) (fun X => [RdL EStep X.1 (dG h1 r1).1.h.l, RdL EPlace X.2.1 (dG h1 r1).1.h.t, RdN NPeer X.2.2 (dG h1 r1).1.peers]) := by
 refine bj aZ Tryz.func109 rfl Tryz.ntmps109 Tryz.results109 rfl inferInstance (fun _ => inferInstance) fun C => ?_
 refine Pc EStep y1 h1.h.l 88 fun hlen1 => ?_
 refine Pc EPlace y2 h1.h.t 24 fun hlen2 => ?_
 refine Pn NPeer y3 h1.peers 40 fun hlen3 => ?_
 refine Pc EInt y4 r1.roots 8 fun hlen4 => ?_
 refine Tx ?_
 refine Bx fun g1 => ?_
 refine Bx fun g2 => ?_
 refine Al fun g3 => ?_
 refine Tx ?_
 refine Cl (lu y1 y2 y3 h1) fun _ => ?_
 refine Tx ?_
 refine Cd (b := ((cu h1) != 0)) (fun hc1 => ?_) fun hc1 => ?_
 ·have hc1p := bne_iff_ne.1 hc1
  refine Tx ?_
  refine Fc EStep ?_
  refine Fc EPlace ?_
  refine cS (F := RdN NPeer ⟨none, 0⟩ ([] : List Peer)) [] (.nil _) (fun M w _ => RdN.nil _ M w) ?_
  refine ai ?_; simp only [dG, hc1, Cf]; exact Re ⟨(⟨none, 0⟩ : SlV), (⟨none, 0⟩ : SlV), (⟨none, 0⟩ : SlV)⟩ (Va (Vt Vn))
 ·have hc1p := ae hc1
  refine Tx ?_
  refine Cl (lY y1 y2 y3 h1 y4 r1 (ae (by assumption))) fun x1 => ?_
  refine Pr EStep x1.1 (aJ h1 r1).1.h.l 88 fun hlen5 => ?_
  refine Pr EPlace x1.2.1 (aJ h1 r1).1.h.t 24 fun hlen6 => ?_
  refine Pm NPeer x1.2.2 (aJ h1 r1).1.peers 40 fun hlen7 => ?_
  refine Tx ?_
  refine ai ?_; simp only [dG, hc1, Cf]; exact Re ⟨x1.1, x1.2.1, x1.2.2⟩ (Va (Vt Vn))
end Go.Proofs.YtpkaloknohpleaaGreatDoor

namespace Go.Proofs.YtpkaloknohpleaaGreatDoor
open Go Go.Proofs.YtpkaloknohpleaaGreatDoor.Fw Go.Proofs
structure sd (p : Peer) : Prop where
 rng : 0 ≤ p.life ∧ p.life ≤ 50 ∧ 0 ≤ p.seq ∧ p.seq ≤ 30
 new : p.life = 0 → p.seq = 0 ∧ p.roots = []
 roots : bL p.roots = 0
structure IsHub (h : Hub) : Prop where
 hist : cH h.h = 0
 vers : 0 ≤ h.version ∧ h.version ≤ 60
 three : h.peers.length = 3
 peers : ∀ p ∈ h.peers, sd p
theorem ql : ∀ {l : List Peer}, (∀ p ∈ l, sd p) → dx l = 0
 | [], _ => rfl
 | q :: l, h => by
  obtain ⟨h1, h2, h3⟩ := h q (.head _)
  have e1 : (((decide (q.life < 0) || decide (q.life > 50)) || decide (q.seq < 0)) || decide (q.seq > 30)) = false := by
   simp only [Bool.or_eq_false_iff, decide_eq_false_iff_not]; omega
  have e2 : ((q.life == 0) && (decide (q.seq > 0) || decide ((q.roots.length : Int) > 0))) = false := by
   cases hl : (q.life == 0) with
   | false => rfl
   | true =>
    obtain ⟨h4, h5⟩ := h2 (eq_of_beq hl)
    rw [h4, h5]; rfl
  rw [dx, e1, cond_false, e2, cond_false, h3]
  exact ql fun p hp => h p (.tail _ hp)
theorem gk (h : Hub) : cu h = 0 ↔ IsHub h := by
 constructor
 ·intro hc
  obtain ⟨h1, h2, h3, h4⟩ := fD hc
  exact ⟨h1, ⟨h2, h3⟩, h4, fun p hp => by obtain ⟨a, b, c⟩ := lX hc p hp; exact ⟨a, b, c⟩⟩
 ·intro ⟨h1, h2, h3, h4⟩
  have e1 : (cH h.h != 0) = false := by rw [h1]; rfl
  have e2 : (decide (h.version < 0) || decide (h.version > 60)) = false := by simp only [Bool.or_eq_false_iff, decide_eq_false_iff_not]; omega
  have e3 : ((h.peers.length : Int) != 3) = false := by rw [h3]; rfl
  unfold cu
  rw [e1, cond_false, e2, cond_false, e3, cond_false]
  exact ql h4
theorem nI {h : Hub} (hh : IsHub h) {i : Nat} {q : Peer} (hq : sd q) : ∀ p ∈ h.peers.set i q, sd p := fun p hp => by
 rcases List.mem_or_eq_of_mem_set hp with h1 | h1
 ·exact hh.peers p h1
 ·rw [h1]; exact hq
theorem sb {h : History} {S : List Op} (hh : i7 h S) {o : Op} (ho : chkO o = 0) (h0 : (bi h o).2 = 0) : i7 (bi h o).1 (fm (S ++ [o])) ∧ (fm (S ++ [o])).Perm (S ++ [o]) := by
 rw [vq hh] at h0 ⊢
 have e1 : (chkO o != 0) = false := by rw [ho]; rfl
 rw [e1, cond_false] at h0
 rw [e1, cond_false]
 cases h2 : S.any (fun q => decide (stamp q = stamp o)) with
 | true => rw [h2, cond_true] at h0; cases h0
 | false =>
 rw [h2, cond_false] at h0
 rw [cond_false]
 cases h3 : S.length == 30 with
 | true => rw [h3, cond_true] at h0; cases h0
 | false =>
  rw [cond_false]
  have h3 : S.length ≠ 30 := by simpa using h3
  have hl := hh.len
  have hl2 : (S ++ [o]).length ≤ 30 := by simp only [List.length_append, List.length_cons, List.length_nil]; omega
  refine ⟨i7.run (by rw [(ed hl2).length_eq]; exact hl2) (kX hl2 fun q hq => ?_) (sQ hl2 (tN hh.rise.dist (vS h2))), ed hl2⟩
  rcases List.mem_append.1 hq with hq | hq
  ·exact hh.ok q hq
  ·rw [List.mem_singleton] at hq; rw [hq]; exact ho
theorem ud {h : History} (hc : cH h = 0) {o : Op} (h0 : (bi h o).2 = 0) : cH (bi h o).1 = 0 := by
 have hh := (ot h).1 hc
 have ho : chkO o = 0 := by
  rw [vq hh] at h0
  cases e1 : (chkO o != 0) with
  | true => rw [e1, cond_true] at h0; simp only at h0; rw [h0] at e1; cases e1
  | false => exact ae e1
 obtain ⟨p1, _⟩ := sb hh ho h0
 rw [ot, p1.ops]
 exact p1
theorem tX {h : Hub} (hh : IsHub h) {o : Op} (ho : chkO o = 0) (h0 : (cv h o).1 = 0) : IsHub (cv h o).2 ∧ (cv h o).2.version = h.version := by
 unfold cv at h0 ⊢
 cases h1 : (((gt h.peers o.who.toNat).life != o.life) || ((gt h.peers o.who.toNat).seq + 1 != o.seq)) with
 | true => rw [h1, cond_true] at h0; cases h0
 | false =>
 rw [h1, cond_false] at h0
 rw [cond_false]
 cases h2 : ((bi h.h o).2 == 0) with
 | false =>
  rw [h2, cond_false] at h0
  simp only at h0
  rw [h0] at h2; cases h2
 | true =>
  rw [cond_true]
  have hc := pG ho
  have hm : gt h.peers o.who.toNat ∈ h.peers := gn (by rw [hh.three]; omega)
  have hp := hh.peers _ hm
  simp only [Bool.or_eq_false_iff, bne_eq_false_iff_eq] at h1
  have hr := hp.rng
  refine ⟨⟨ud hh.hist (eq_of_beq h2), hh.vers, by rw [List.length_set]; exact hh.three, nI hh ⟨?_, ?_, hp.roots⟩⟩, rfl⟩
  ·simp only; omega
  ·simp only; intro hl; omega
theorem tz {h : Hub} (hh : IsHub h) {r : Rec} (h0 : (aJ h r).2 = 0) : IsHub (aJ h r).1 ∧ (aJ h r).1.version = h.version + 1 := by
 unfold aJ at h0 ⊢
 cases h1 : (aM r != 0) with
 | true => rw [h1, cond_true] at h0; simp only at h0; rw [h0] at h1; cases h1
 | false =>
 rw [h1, cond_false] at h0
 rw [cond_false]
 obtain ⟨w1, w2, w3, w4, w5⟩ := ng (ae h1)
 cases h2 : (h.version == 60) with
 | true => rw [h2, cond_true] at h0; cases h0
 | false =>
 rw [h2, cond_false] at h0
 rw [cond_false]
 have hv := hh.vers
 have h2 := beq_eq_false_iff_ne.1 h2
 have hh' : IsHub ⟨h.h, h.version + 1, h.peers⟩ := ⟨hh.hist, by simp only; omega, hh.three, hh.peers⟩
 cases h3 : (r.kind == 1) with
 | true =>
  rw [h3, cond_true] at h0
  rw [cond_true]
  cases h4 : ((cv ⟨h.h, h.version + 1, h.peers⟩ r.o).1 != 0) with
  | true => rw [h4, cond_true] at h0; simp only at h0; rw [h0] at h4; cases h4
  | false =>
   have ho : chkO r.o = 0 := by
    have hn := ae h1
    unfold aM at hn
    rw [h3, cond_true] at hn
    cases h5 : (decide (r.kind < 1) || decide (r.kind > 3)) with
    | true => rw [h5, cond_true] at hn; cases hn
    | false =>
     rw [h5, cond_false] at hn
     cases h6 : (((r.who != 0) || (r.life != 0)) || decide ((r.roots.length : Int) > 0)) with
     | true => rw [h6, cond_true] at hn; cases hn
     | false => rw [h6, cond_false, ek] at hn; exact hn
   exact tX hh' ho (ae h4)
 | false =>
  rw [h3, cond_false] at h0
  rw [cond_false]
  have h3 := beq_eq_false_iff_ne.1 h3
  have hw := w2 h3
  have hm : gt h.peers r.who.toNat ∈ h.peers := gn (by rw [hh.three]; omega)
  have hp := hh.peers _ hm
  have hr := hp.rng
  cases h4 : (r.kind == 2) with
  | true =>
   rw [h4, cond_true] at h0
   rw [cond_true]
   cases h5 : (r.life != (gt h.peers r.who.toNat).life + 1) with
   | true => rw [h5, cond_true] at h0; cases h0
   | false =>
    have h5 := ae h5
    rw [cond_false]
    have hl : 1 ≤ r.life ∧ r.life ≤ 50 := by
     have hn := ae h1
     unfold aM at hn
     have e1 : (r.kind == 1) = false := beq_eq_false_iff_ne.2 h3
     rw [e1, h4] at hn
     cases h6 : (decide (r.kind < 1) || decide (r.kind > 3)) with
     | true => rw [h6, cond_true] at hn; cases hn
     | false =>
      rw [h6, cond_false, cond_false] at hn
      simp only [Bool.true_and] at hn
      cases h7 : (((!(decide (r.o = (⟨0, 0, 0, 0, 0, 0, 0⟩ : Op)))) || ((r.kind == 3) && (r.life != 0))) || decide ((r.roots.length : Int) > 0)) with
      | true => rw [h7, cond_true] at hn; cases hn
      | false =>
       rw [h7, cond_false] at hn
       cases h8 : ((decide (r.who < 0) || decide (r.who ≥ 3)) || (decide (r.life < 1) || decide (r.life > 50))) with
       | true => rw [h8, cond_true] at hn; cases hn
       | false => simp only [Bool.or_eq_false_iff, decide_eq_false_iff_not] at h8; omega
    exact ⟨⟨hh.hist, by simp only; omega, by rw [List.length_set]; exact hh.three, nI hh ⟨by simp only; omega, fun hz => by simp only at hz; omega, rfl⟩⟩, rfl⟩
  | false =>
   rw [h4, cond_false] at h0
   rw [cond_false]
   cases h5 : (r.kind == 3) with
   | false => exact ⟨hh', rfl⟩
   | true =>
    rw [h5, cond_true] at h0
    rw [cond_true]
    cases h6 : ((gt h.peers r.who.toNat).life == 0) with
    | true => rw [h6, cond_true] at h0; cases h0
    | false =>
     have h6 := beq_eq_false_iff_ne.1 h6
     rw [cond_false]
     exact ⟨⟨hh.hist, by simp only; omega, by rw [List.length_set]; exact hh.three, nI hh ⟨hp.rng, fun hz => absurd hz h6, w5 h3⟩⟩, rfl⟩
theorem k9 : IsHub ⟨⟨[], []⟩, 0, [⟨0, 0, []⟩, ⟨0, 0, []⟩, ⟨0, 0, []⟩]⟩ :=
 ⟨by decide +kernel, by decide, rfl, fun p hp => by
  simp only [List.mem_cons, List.not_mem_nil, or_false, or_self] at hp
  subst hp
  exact ⟨by decide, fun _ => ⟨rfl, rfl⟩, by decide +kernel⟩⟩
theorem Rise.nodup {l : List Op} (h : Rise l) : l.Nodup := h.imp fun {a b} hab e => by rw [e, sF] at hab; cases hab
structure TabOf (tb l : List Place) : Prop where
 len : tb.length = 16
 no : ∀ n : Nat, 1 ≤ n → n < 16 → (find l n).node = 0 → (gt tb n).parent < 0
 yes : ∀ n : Nat, 1 ≤ n → n < 16 → (find l n).node ≠ 0 → gt tb n = find l n
theorem TabOf.put {tb l : List Place} (ht : TabOf tb l) {p : Place} (h1 : 1 ≤ p.node ∧ p.node < 16) (hp : 0 ≤ p.parent) : TabOf (tb.set p.node.toNat p) (putT l p) := by
 have hd : decide (p.parent < 0) = false := decide_eq_false (by omega)
 refine ⟨by simp [ht.len], fun n ha hb hz => ?_, fun n ha hb hz => ?_⟩
 ·rw [fe] at hz
  rw [rK _ _ _ _ (by rw [ht.len]; omega)]
  cases he : ((n : Int) == p.node) with
  | true =>
   rw [he, cond_true, hd, cond_false] at hz
   omega
  | false =>
   rw [he, cond_false] at hz
   have : (n : Int) ≠ p.node := by simpa using he
   rw [if_neg (by omega)]
   exact ht.no n ha hb hz
 ·rw [fe] at hz ⊢
  rw [rK _ _ _ _ (by rw [ht.len]; omega)]
  cases he : ((n : Int) == p.node) with
  | true =>
   have : (n : Int) = p.node := by simpa using he
   rw [cond_true, hd, cond_false, if_pos (by omega)]
  | false =>
   rw [he, cond_false] at hz
   have : (n : Int) ≠ p.node := by simpa using he
   rw [if_neg (by omega), cond_false]
   exact ht.yes n ha hb hz
theorem TabOf.drop {tb l : List Place} (ht : TabOf tb l) {n : Int} {q : Place} {p : Place} (h1 : 1 ≤ n ∧ n < 16) (hq : q.parent < 0) (hp : p.parent < 0) (hpn : p.node = n) : TabOf (tb.set n.toNat q) (putT l p) := by
 have hd : decide (p.parent < 0) = true := decide_eq_true hp
 refine ⟨by simp [ht.len], fun m ha hb hz => ?_, fun m ha hb hz => ?_⟩
 ·rw [fe] at hz
  rw [rK _ _ _ _ (by rw [ht.len]; omega)]
  by_cases he : (m : Int) = p.node
  ·rw [if_pos (by omega)]; exact hq
  ·have : ((m : Int) == p.node) = false := by simpa using he
   rw [this, cond_false] at hz
   rw [if_neg (by omega)]
   exact ht.no m ha hb hz
 ·rw [fe] at hz ⊢
  rw [rK _ _ _ _ (by rw [ht.len]; omega)]
  by_cases he : (m : Int) = p.node
  ·have : ((m : Int) == p.node) = true := by simpa using he
   rw [this, cond_true, hd, cond_true] at hz
   exact absurd rfl hz
  ·have : ((m : Int) == p.node) = false := by simpa using he
   rw [this, cond_false] at hz ⊢
   rw [if_neg (by omega)]
   exact ht.yes m ha hb hz
end Go.Proofs.YtpkaloknohpleaaGreatDoor

set_option maxHeartbeats 2000000
namespace Go.Proofs.YtpkaloknohpleaaGreatDoor
open Go Go.Proofs.YtpkaloknohpleaaGreatDoor.Fw Go.Proofs
attribute [local irreducible] RdL RdN VarP RW CW
def bE  : List Rec → (List Step) → (List Place) → Int → (List Peer) → (Hub × Int)
 | [], l2, p1, version1, peers1 => ((⟨(⟨l2, p1⟩ : History), version1, peers1⟩ : Hub), 0)
 | pn1 :: rn1, l2, p1, version1, peers1 => (bif ((aJ (⟨(⟨l2, p1⟩ : History), version1, peers1⟩ : Hub) pn1).2 != 0) then ((⟨(⟨[], []⟩ : History), 0, ([] : List Peer)⟩ : Hub), (aJ (⟨(⟨l2, p1⟩ : History), version1, peers1⟩ : Hub) pn1).2) else (bE rn1 (aJ (⟨(⟨l2, p1⟩ : History), version1, peers1⟩ : Hub) pn1).1.h.l (aJ (⟨(⟨l2, p1⟩ : History), version1, peers1⟩ : Hub) pn1).1.h.t (aJ (⟨(⟨l2, p1⟩ : History), version1, peers1⟩ : Hub) pn1).1.version (aJ (⟨(⟨l2, p1⟩ : History), version1, peers1⟩ : Hub) pn1).1.peers))
def aq (l1 : List Rec) : Hub × Int :=
 (bif decide ((l1.length : Int) > 60) then ((⟨(⟨[], []⟩ : History), 0, ([] : List Peer)⟩ : Hub), 2) else (bE l1 b8.h.l b8.h.t b8.version b8.peers))
theorem fx (y1 : SlV) (l1 : List Rec) : Does Tryz.prog 36 [y1.val l1.length] [RdN NRec y1 l1] (fun (X : SlV × SlV × SlV) => .tuple #[.agg ⟨[X.1.val (aq l1).1.h.l.length, X.2.1.val (aq l1).1.h.t.length, .int .i64 (aq l1).1.version, X.2.2.val (aq l1).1.peers.length]⟩, .int .i64 (aq l1).2]) (fun X => [RdL EStep X.1 (aq l1).1.h.l, RdL EPlace X.2.1 (aq l1).1.h.t, RdN NPeer X.2.2 (aq l1).1.peers]) := by
 refine bj aZ Tryz.func36 rfl Tryz.ntmps36 Tryz.results36 rfl inferInstance (fun _ => inferInstance) fun C => ?_
 refine Pn NRec y1 l1 104 fun hlen1 => ?_
 refine Tx ?_
 refine Al fun g1 => ?_
 refine Tx ?_
 refine Cd (b := decide ((l1.length : Int) > 60)) (fun hc1 => ?_) fun hc1 => ?_
 ·have hc1p := of_decide_eq_true hc1
  refine Tx ?_
  refine Fc EStep ?_
  refine Fc EPlace ?_
  refine cS (F := RdN NPeer ⟨none, 0⟩ ([] : List Peer)) [] (.nil _) (fun M w _ => RdN.nil _ M w) ?_
  refine ai ?_; simp only [aq, hc1, Cf]; exact Re ⟨(⟨none, 0⟩ : SlV), (⟨none, 0⟩ : SlV), (⟨none, 0⟩ : SlV)⟩ (Va (Vt Vn))
 ·have hc1p := of_decide_eq_false hc1
  refine Tx ?_
  refine Cl (iV ) fun x1 => ?_
  refine Pr EStep x1.1 b8.h.l 88 fun hlen2 => ?_
  refine Pr EPlace x1.2.1 b8.h.t 24 fun hlen3 => ?_
  refine Pm NPeer x1.2.2 b8.peers 40 fun hlen4 => ?_
  refine Al fun g2 => ?_
  refine Tx ?_
  (repeat refine ao ?_); refine Lp [2,3,4,13,14] [false, true] (fun (i_ : Nat × List Step × SlV × List Place × SlV × Int × List Peer × SlV) => match i_ with | ⟨n1, l2, x2, p1, x3, version1, peers1, x4⟩ => (⟨[(15, .v (.int .i64 (n1 : Int)))], [⟨g2, 32, [x2.val l2.length, x3.val p1.length, .int .i64 version1, x4.val peers1.length]⟩], [], [RdL EStep x2 l2, RdL EPlace x3 p1, RdN NPeer x4 peers1], (n1 ≤ l1.length) ∧ (cu (⟨⟨l2, p1⟩, version1, peers1⟩ : Hub) = 0) ∧ (bE (l1.drop n1) l2 p1 version1 peers1) = (aq l1), l1.length - n1⟩ : Ls)) ⟨0, b8.h.l, x1.1, b8.h.t, x1.2.1, b8.version, b8.peers, x1.2.2⟩ (Sc (Sc (Sc (Sc (Sc Sn))))) (.drop (.keep (.nil))) ⟨Nat.zero_le _, ((gk _).2 k9), (by simp only [aq, hc1, Cf] : (aq l1) = (bE l1 b8.h.l b8.h.t b8.version b8.peers)).symm⟩ Le4 ?_
  rintro ⟨n1, l2, x2, p1, x3, version1, peers1, x4⟩ ⟨hkn1, hinv, hf1⟩
  simp only [List.cons_append, List.nil_append]
  refine Tx ?_
  refine Cd (b := decide ((n1 : Int) < (l1.length : Int))) (fun hc2 => ?_) fun hc2 => ?_
  ·have hlt0 : n1 < l1.length := Int.ofNat_lt.1 (of_decide_eq_true hc2)
   refine Tx ?_
   refine fj NRec (X := y1) (l := l1) Mm fun (γ1 : Nat → SlV) => ?_
   refine rw_q rfl rfl rfl (dw NRec γ1 n1 rfl rfl Zf rfl Zf rfl rfl rfl Mm rfl Zf (fun _ => by first | assumption | omega)) ?_
   refine rw_q rfl rfl rfl (q_is (v' := .agg ⟨[.int .i64 (gt l1 n1).kind, .int .i64 (gt l1 n1).who, .int .i64 (gt l1 n1).life, (γ1 n1).val (gt l1 n1).roots.length, .int .i64 (gt l1 n1).o.time, .int .i64 (gt l1 n1).o.who, .int .i64 (gt l1 n1).o.node, .int .i64 (gt l1 n1).o.parent, .int .i64 (gt l1 n1).o.name, .int .i64 (gt l1 n1).o.life, .int .i64 (gt l1 n1).o.seq]⟩) (fP NRec γ1 rfl rfl Zf rfl rfl Mm (fun _ => by first | assumption | omega)) rfl) ?_
   refine aI (F := RdL EInt (γ1 n1) (gt l1 n1).roots) [am NRec γ1 l1] Sm (fun M w h => (allF1 h) n1 Zc _ (.head _)) ?_
   refine Al fun g3 => ?_
   refine Tx ?_
   refine Cl (lY x2 x3 x4 (⟨(⟨l2, p1⟩ : History), version1, peers1⟩ : Hub) (γ1 n1) (gt l1 n1) hinv) fun x5 => ?_
   refine Pr EStep x5.1 (aJ (⟨(⟨l2, p1⟩ : History), version1, peers1⟩ : Hub) (gt l1 n1)).1.h.l 88 fun hlen5 => ?_
   refine Pr EPlace x5.2.1 (aJ (⟨(⟨l2, p1⟩ : History), version1, peers1⟩ : Hub) (gt l1 n1)).1.h.t 24 fun hlen6 => ?_
   refine Pm NPeer x5.2.2 (aJ (⟨(⟨l2, p1⟩ : History), version1, peers1⟩ : Hub) (gt l1 n1)).1.peers 40 fun hlen7 => ?_
   refine Tx ?_
   refine Cd (b := ((aJ (⟨(⟨l2, p1⟩ : History), version1, peers1⟩ : Hub) (gt l1 n1)).2 != 0)) (fun hc3 => ?_) fun hc3 => ?_
   ·have hc3p := bne_iff_ne.1 hc3
    refine Tx ?_
    refine Fc EStep ?_
    refine Fc EPlace ?_
    refine cS (F := RdN NPeer ⟨none, 0⟩ ([] : List Peer)) [] (.nil _) (fun M w _ => RdN.nil _ M w) ?_
    refine ai ?_; rw [show (aq l1) = ((⟨(⟨[], []⟩ : History), 0, ([] : List Peer)⟩ : Hub), (aJ (⟨(⟨l2, p1⟩ : History), version1, peers1⟩ : Hub) (gt l1 n1)).2) by rw [← hf1, aE hlt0]; simp only [bE, hc3, Cf]]; exact Re ⟨(⟨none, 0⟩ : SlV), (⟨none, 0⟩ : SlV), (⟨none, 0⟩ : SlV)⟩ (Va (Vt Vn))
   ·have hc3p := ae hc3
    refine Tx ?_
    refine rw_q rfl rfl rfl (q_add rfl rfl Zf rfl Zf Zo) ?_
    refine Tx ?_
    refine ⟨⟨(n1 + 1), (aJ (⟨(⟨l2, p1⟩ : History), version1, peers1⟩ : Hub) (gt l1 n1)).1.h.l, x5.1, (aJ (⟨(⟨l2, p1⟩ : History), version1, peers1⟩ : Hub) (gt l1 n1)).1.h.t, x5.2.1, (aJ (⟨(⟨l2, p1⟩ : History), version1, peers1⟩ : Hub) (gt l1 n1)).1.version, (aJ (⟨(⟨l2, p1⟩ : History), version1, peers1⟩ : Hub) (gt l1 n1)).1.peers, x5.2.2⟩, ⟨hlt0, ((gk _).2 (tz ((gk _).1 hinv) (ae (by assumption))).1), (by rw [← hf1, aE hlt0]; simp only [bE, hc3, Cf] : (aq l1) = (bE (l1.drop (n1 + 1)) (aJ (⟨(⟨l2, p1⟩ : History), version1, peers1⟩ : Hub) (gt l1 n1)).1.h.l (aJ (⟨(⟨l2, p1⟩ : History), version1, peers1⟩ : Hub) (gt l1 n1)).1.h.t (aJ (⟨(⟨l2, p1⟩ : History), version1, peers1⟩ : Hub) (gt l1 n1)).1.version (aJ (⟨(⟨l2, p1⟩ : History), version1, peers1⟩ : Hub) (gt l1 n1)).1.peers)).symm⟩, (by simp only []; omega), Le4⟩
  ·have hge0 : l1.length ≤ n1 := by have := of_decide_eq_false hc2; omega
   refine Tx ?_
   refine ai ?_; rw [show (aq l1) = ((⟨(⟨l2, p1⟩ : History), version1, peers1⟩ : Hub), 0) by rw [← hf1, List.drop_of_length_le hge0]; simp only [bE, Cf]]; exact Re ⟨x2, x3, x4⟩ (Va (Vt Vn))
end Go.Proofs.YtpkaloknohpleaaGreatDoor

namespace Go.Proofs.YtpkaloknohpleaaGreatDoor
open Go Go.Proofs.YtpkaloknohpleaaGreatDoor.Fw Go.Proofs
theorem rR (eq : Peer → Peer → Bool) (he : ∀ a, eq a a = true) (s : List Peer) : ∀ (r : List Peer) (n : Nat), r = s.drop n → bF s eq r n = true
 | [], n, _ => by simp [bF]
 | p :: r, n, h => by
  have hn : n < s.length := by
   rcases Nat.lt_or_ge n s.length with h1 | h1
   ·exact h1
   ·rw [List.drop_of_length_le h1] at h; cases h
  rw [aE hn] at h
  obtain ⟨rfl, h'⟩ := List.cons.inj h
  rw [bF, he]
  exact rR eq he s r (n + 1) h'
theorem l3 (a : Hub) : fT a a = true := by
 unfold fT
 have h1 : dS a.h a.h = true := (kK _ _).2 rfl
 have h2 : bS a.peers a.peers fC = true := by
  unfold bS
  have e : ((a.peers.length : Int) != (a.peers.length : Int)) = false := bne_self_eq_false _
  rw [e, cond_false]
  exact rR fC (fun p => by simp [fC]) a.peers a.peers 0 rfl
 rw [h1, h2]; simp
end Go.Proofs.YtpkaloknohpleaaGreatDoor

set_option maxHeartbeats 2000000
namespace Go.Proofs.YtpkaloknohpleaaGreatDoor
open Go Go.Proofs.YtpkaloknohpleaaGreatDoor.Fw Go.Proofs
attribute [local irreducible] RW CW
def cV (a1 : List Place) (gone1 : List Int) : List Place → (List Place) → ((List Int) × (List Place))
 | [], here1 => (gone1, here1)
 | pn2 :: rn2, here1 => (bif (!(decide ((ca a1 pn2.node) = pn2))) then (cV a1 gone1 rn2 (here1 ++ [pn2])) else (cV a1 gone1 rn2 here1))
def cW (a1 : List Place) (b1 : List Place) : List Place → (List Int) → ((List Int) × (List Place))
 | [], gone1 => (cV a1 gone1 b1 [])
 | pn1 :: rn1, gone1 => (bif ((ca b1 pn1.node).node == 0) then (cW a1 b1 rn1 (gone1 ++ [pn1.node])) else (cW a1 b1 rn1 gone1))
def bP (a1 : List Place) (b1 : List Place) : (List Int) × (List Place) :=
 (cW a1 b1 a1 [])
theorem jD (y1 : SlV) (a1 : List Place) (y2 : SlV) (b1 : List Place) : Does Tryz.prog 133 [y1.val a1.length, y2.val b1.length] [RdL EPlace y1 a1, RdL EPlace y2 b1] (fun (X : SlV × SlV) => .tuple #[X.1.val (bP a1 b1).1.length, X.2.val (bP a1 b1).2.length]) (fun X => [RdL EInt X.1 (bP a1 b1).1, RdL EPlace X.2 (bP a1 b1).2]) := by
 refine bj aZ Tryz.func133 rfl Tryz.ntmps133 Tryz.results133 rfl inferInstance (fun _ => inferInstance) fun C => ?_
 refine Pc EPlace y1 a1 24 fun hlen1 => ?_
 refine Pc EPlace y2 b1 24 fun hlen2 => ?_
 refine Tx ?_
 (repeat refine ao ?_); refine Lp [0,1,4,5,7,12,13] [] (fun (i_ : List Int × SlV × Option Nat × Nat) => match i_ with | ⟨gone1, x1, x1b, n1⟩ => (⟨[(6, .v (x1.val gone1.length)), (14, .v (.int .i64 (n1 : Int)))], [], [ownL EInt 3 x1 x1b gone1], [], (n1 ≤ a1.length) ∧ (gone1.length ≤ n1) ∧ (cW a1 b1 (a1.drop n1) gone1) = (bP a1 b1), a1.length - n1⟩ : Ls)) ⟨[], ⟨none, 0⟩, none, 0⟩ (Sc (Sc (Sc (Sc (Sc (Sc (Sc Sn))))))) (.nil) ⟨Nat.zero_le _, (by first | exact Nat.le_refl _ | exact Nat.zero_le _ | omega), (by simp only [bP, Cf] : (bP a1 b1) = (cW a1 b1 a1 [])).symm⟩ (Le.trans (eO EInt 3) Le4) ?_
 rintro ⟨gone1, x1, x1b, n1⟩ ⟨hkn1, hgone1, hf1⟩
 simp only [List.cons_append, List.nil_append]
 refine Tx ?_
 refine Cd (b := decide ((n1 : Int) < (a1.length : Int))) (fun hc1 => ?_) fun hc1 => ?_
 ·have hlt0 : n1 < a1.length := Int.ofNat_lt.1 (of_decide_eq_true hc1)
  refine Tx ?_
  refine rw_q rfl rfl rfl (q_idx EPlace n1 rfl rfl Zf rfl Zf rfl rfl rfl Mm rfl Zf (fun _ => by first | assumption | omega)) ?_
  refine rw_q rfl rfl rfl (q_leA EPlace rfl rfl Zf rfl rfl Mm (fun _ => by first | assumption | omega)) ?_
  refine Al fun g1 => ?_
  refine Tx ?_
  refine Cl (eJ y2 b1 (gt a1 n1).node) fun _ => ?_
  refine Tx ?_
  refine Cd (b := ((ca b1 (gt a1 n1).node).node == 0)) (fun hc2 => ?_) fun hc2 => ?_
  ·have hc2p := eq_of_beq hc2
   refine Tx ?_
   refine bB EInt [(gt a1 n1).node] .sq (ac rfl) rfl rfl rfl rfl rfl rfl rfl rfl rfl rfl rfl rfl rfl rfl rfl fun x2 x2b => ?_
   refine b5 EInt gone1 [(gt a1 n1).node] (b := x1b) .sq (fun _ _ => .inl ⟨_, rfl⟩) (ac rfl) rfl rfl rfl rfl rfl rfl rfl (fun _ _ => Uo) rfl rfl rfl rfl rfl rfl rfl (c6 (e := 3) (b := x2b) Mm) (by show (gone1.length + 1) * 8 ≤ 140737488355328; (try simp only [List.length_append, List.length_cons, List.length_nil]); omega) fun x3 x3b => ?_
   refine Tx ?_
   refine rw_q rfl rfl rfl (q_add rfl rfl Zf rfl Zf Zo) ?_
   refine Tx ?_
   refine ⟨⟨(gone1 ++ [(gt a1 n1).node]), x3, x3b, (n1 + 1)⟩, ⟨hlt0, Zl, (by rw [← hf1, aE hlt0]; simp only [cW, hc2, Cf] : (bP a1 b1) = (cW a1 b1 (a1.drop (n1 + 1)) (gone1 ++ [(gt a1 n1).node]))).symm⟩, (by simp only []; omega), Le4⟩
  ·have hc2p := ne_of_beq_false hc2
   refine Tx ?_
   refine rw_q rfl rfl rfl (q_add rfl rfl Zf rfl Zf Zo) ?_
   refine Tx ?_
   refine ⟨⟨gone1, x1, x1b, (n1 + 1)⟩, ⟨hlt0, Zl, (by rw [← hf1, aE hlt0]; simp only [cW, hc2, Cf] : (bP a1 b1) = (cW a1 b1 (a1.drop (n1 + 1)) gone1)).symm⟩, (by simp only []; omega), Le4⟩
 ·have hge0 : a1.length ≤ n1 := by have := of_decide_eq_false hc1; omega
  refine Tx ?_
  (repeat refine ao ?_); refine Lp [0,4,5,6,31,32] [] (fun (i_ : List Place × SlV × Option Nat × Nat) => match i_ with | ⟨here1, x4, x4b, n2⟩ => (⟨[(7, .v (x4.val here1.length)), (33, .v (.int .i64 (n2 : Int)))], [], [ownL EInt 3 x1 x1b gone1, ownL EPlace 83 x4 x4b here1], [], (n2 ≤ b1.length) ∧ (here1.length ≤ n2) ∧ (cV a1 gone1 (b1.drop n2) here1) = (bP a1 b1), b1.length - n2⟩ : Ls)) ⟨[], ⟨none, 0⟩, none, 0⟩ (Sc (Sc (Sc (Sc (Sc (Sc Sn)))))) (.nil) ⟨Nat.zero_le _, (by first | exact Nat.le_refl _ | exact Nat.zero_le _ | omega), (by rw [← hf1, List.drop_of_length_le hge0]; simp only [cW, Cf] : (bP a1 b1) = (cV a1 gone1 b1 [])).symm⟩ (Le.trans (eO EPlace 83) Le4) ?_
  rintro ⟨here1, x4, x4b, n2⟩ ⟨hkn2, hhere1, hf2⟩
  simp only [List.cons_append, List.nil_append]
  refine Tx ?_
  refine Cd (b := decide ((n2 : Int) < (b1.length : Int))) (fun hc3 => ?_) fun hc3 => ?_
  ·have hlt1 : n2 < b1.length := Int.ofNat_lt.1 (of_decide_eq_true hc3)
   refine Tx ?_
   refine rw_q rfl rfl rfl (q_idx EPlace n2 rfl rfl Zf rfl Zf rfl rfl rfl Mm rfl Zf (fun _ => by first | assumption | omega)) ?_
   refine rw_q rfl rfl rfl (q_leA EPlace rfl rfl Zf rfl rfl Mm (fun _ => by first | assumption | omega)) ?_
   refine Al fun g2 => ?_
   refine Tx ?_
   (repeat refine ao ?_); refine au (fun _ => some []) ?_
   refine Rb 0 rfl Qp ?_
   refine Rb 1 rfl Qp ?_
   refine Rb 2 rfl Qp ?_
   refine Rb 3 rfl Q1 ?_
   refine Ra 5 rfl (q_ldA rfl rfl Zf rfl Mm rfl) ?_
   refine ap 4 Kr ?_
   refine cJ (eJ y1 a1 (gt b1 n2).node) (.an rfl rfl) (ac rfl) rfl rfl rfl Kr rfl rfl Sm ?_
   intro _
   refine Ra 6 rfl (q_neE mb (iX (ca a1 (gt b1 n2).node) (gt b1 n2)) rfl rfl Zf rfl Zf rfl rfl) ?_
   refine bn Kr ?_
   (repeat refine ao ?_)
   refine Cd (b := (!(decide ((ca a1 (gt b1 n2).node) = (gt b1 n2))))) (fun hc4 => ?_) fun hc4 => ?_
   ·refine Tx ?_
    refine bB EPlace [(gt b1 n2)] .sq (ac rfl) rfl rfl rfl rfl rfl rfl rfl rfl rfl rfl rfl rfl rfl rfl rfl fun x5 x5b => ?_
    refine b5 EPlace here1 [(gt b1 n2)] (b := x4b) .sq (fun _ _ => .inl ⟨_, rfl⟩) (ac rfl) rfl rfl rfl rfl rfl rfl rfl (fun _ _ => Uo) rfl rfl rfl rfl rfl rfl rfl (c6 (e := 83) (b := x5b) Mm) (by show (here1.length + 1) * 24 ≤ 140737488355328; (try simp only [List.length_append, List.length_cons, List.length_nil]); omega) fun x6 x6b => ?_
    refine Tx ?_
    refine rw_q rfl rfl rfl (q_add rfl rfl Zf rfl Zf Zo) ?_
    refine Tx ?_
    refine ⟨⟨(here1 ++ [(gt b1 n2)]), x6, x6b, (n2 + 1)⟩, ⟨hlt1, Zl, (by rw [← hf2, aE hlt1]; simp only [cV, hc4, Cf] : (bP a1 b1) = (cV a1 gone1 (b1.drop (n2 + 1)) (here1 ++ [(gt b1 n2)]))).symm⟩, (by simp only []; omega), Le4⟩
   ·refine Tx ?_
    refine rw_q rfl rfl rfl (q_add rfl rfl Zf rfl Zf Zo) ?_
    refine Tx ?_
    refine ⟨⟨here1, x4, x4b, (n2 + 1)⟩, ⟨hlt1, Zl, (by rw [← hf2, aE hlt1]; simp only [cV, hc4, Cf] : (bP a1 b1) = (cV a1 gone1 (b1.drop (n2 + 1)) here1)).symm⟩, (by simp only []; omega), Le4⟩
  ·have hge1 : b1.length ≤ n2 := by have := of_decide_eq_false hc3; omega
   refine Tx ?_
   refine cw_le (ay EInt 3 x1 x1b gone1 Uo) ?_
   refine cw_le (ay EPlace 83 x4 x4b here1 Uo) ?_
   refine ai ?_; rw [show (bP a1 b1) = (gone1, here1) by rw [← hf2, List.drop_of_length_le hge1]; simp only [cV, Cf]]; exact Re ⟨x1, x4⟩ (Vt (Vt Vn))
def e8 (from1 : View) (to1 : View) : Delta × Int :=
 (bif (!(decide (from1.roots = to1.roots))) then ((⟨[], [], [], []⟩ : Delta), 4) else ((⟨(bP from1.known to1.known).1, (bP from1.known to1.known).2, (bP from1.way to1.way).1, (bP from1.way to1.way).2⟩ : Delta), 0))
def e9 (from1 : View) (to1 : View) : Delta × Int :=
 (bif ((bv to1) != 0) then ((⟨[], [], [], []⟩ : Delta), (bv to1)) else (e8 from1 to1))
def fb (from1 : View) (to1 : View) : Delta × Int :=
 (bif ((bv from1) != 0) then ((⟨[], [], [], []⟩ : Delta), (bv from1)) else (e9 from1 to1))
def cZ (from1 : View) (to1 : View) : Delta × Int :=
 (fb from1 to1)
theorem pB (y1 : SlV) (y2 : SlV) (y3 : SlV) (from1 : View) (y4 : SlV) (y5 : SlV) (y6 : SlV) (to1 : View) : Does Tryz.prog 116 [.agg ⟨[y1.val from1.roots.length, y2.val from1.known.length, y3.val from1.way.length]⟩, .agg ⟨[y4.val to1.roots.length, y5.val to1.known.length, y6.val to1.way.length]⟩] [RdL EInt y1 from1.roots, RdL EPlace y2 from1.known, RdL EPlace y3 from1.way, RdL EInt y4 to1.roots, RdL EPlace y5 to1.known, RdL EPlace y6 to1.way] (fun (X : SlV × SlV × SlV × SlV) => .tuple #[.agg ⟨[X.1.val (cZ from1 to1).1.gone.length, X.2.1.val (cZ from1 to1).1.here.length, X.2.2.1.val (cZ from1 to1).1.wayGone.length, X.2.2.2.val (cZ from1 to1).1.wayHere.length]⟩, .int .i64 (cZ from1 to1).2]) (fun X => [RdL EInt X.1 (cZ from1 to1).1.gone, RdL EPlace X.2.1 (cZ from1 to1).1.here, RdL EInt X.2.2.1 (cZ from1 to1).1.wayGone, RdL EPlace X.2.2.2 (cZ from1 to1).1.wayHere]) := by
 refine bj aZ Tryz.func116 rfl Tryz.ntmps116 Tryz.results116 rfl inferInstance (fun _ => inferInstance) fun C => ?_
 refine Pc EInt y1 from1.roots 8 fun hlen1 => ?_
 refine Pc EPlace y2 from1.known 24 fun hlen2 => ?_
 refine Pc EPlace y3 from1.way 24 fun hlen3 => ?_
 refine Pc EInt y4 to1.roots 8 fun hlen4 => ?_
 refine Pc EPlace y5 to1.known 24 fun hlen5 => ?_
 refine Pc EPlace y6 to1.way 24 fun hlen6 => ?_
 refine Tx ?_
 refine Bx fun g1 => ?_
 refine Bx fun g2 => ?_
 refine Al fun g3 => ?_
 refine Tx ?_
 refine rw_q rfl rfl rfl (kZ rfl rfl Zf rfl rfl rfl rfl) ?_
 refine Tx ?_
 (repeat refine ao ?_); refine Lp [2,3,4,5,12] [true, true, true] (fun (n1 : Nat) => (⟨[(13, .v (.int .i64 (n1 : Int)))], [], [], [], (n1 ≤ 2) ∧ (match n1 with | 0 => (fb from1 to1) | 1 => (e9 from1 to1) | _ => (e8 from1 to1)) = (cZ from1 to1), 2 - n1⟩ : Ls)) 0 (Sc (Sc (Sc (Sc (Sc Sn))))) (.keep (.keep (.keep (.nil)))) ⟨Nat.zero_le _, (by simp only [cZ, Cf] : (cZ from1 to1) = (fb from1 to1)).symm⟩ Le4 ?_
 rintro n1 ⟨hkn1, hf1⟩
 simp only [List.cons_append, List.nil_append]
 have hkn13 : n1 = 0 ∨ n1 = 1 ∨ n1 = 2 := by omega
 rcases hkn13 with rfl | rfl | rfl
 ·have hf1 : (fb from1 to1) = (cZ from1 to1) := hf1
  refine Tx ?_
  refine Cd (b := decide ((0 : Int) < 2)) (fun hc1 => ?_) fun hc1 => ?_
  ·refine Tx ?_
   refine rw_q rfl rfl rfl (q_ixL 0 rfl rfl Zf rfl Zf rfl rfl rfl rfl rfl) ?_
   refine Al fun g4 => ?_
   refine Tx ?_
   refine Cl (eN y1 y2 y3 from1) fun _ => ?_
   refine Tx ?_
   refine Cd (b := ((bv from1) != 0)) (fun hc2 => ?_) fun hc2 => ?_
   ·have hc2p := bne_iff_ne.1 hc2
    refine Tx ?_
    refine Fc EInt ?_
    refine Fc EPlace ?_
    refine ai ?_; rw [show (cZ from1 to1) = ((⟨[], [], [], []⟩ : Delta), (bv from1)) by rw [← hf1]; simp only [fb, hc2, Cf]]; exact Re ⟨(⟨none, 0⟩ : SlV), (⟨none, 0⟩ : SlV), (⟨none, 0⟩ : SlV), (⟨none, 0⟩ : SlV)⟩ (Va (Vt Vn))
   ·have hc2p := ae hc2
    refine Tx ?_
    refine rw_q rfl rfl rfl (q_add rfl rfl Zf rfl Zf (fun _ => by decide)) ?_
    refine Tx ?_
    refine ⟨1, ⟨by omega, (by rw [← hf1]; simp only [fb, hc2, Cf] : (cZ from1 to1) = (e9 from1 to1)).symm⟩, (show 2 - 1 < 2 - 0 by decide), Le4⟩
  ·exact Bool.noConfusion (hc1.symm.trans (decide_eq_true (by decide)))
 ·have hf1 : (e9 from1 to1) = (cZ from1 to1) := hf1
  refine Tx ?_
  refine Cd (b := decide ((1 : Int) < 2)) (fun hc3 => ?_) fun hc3 => ?_
  ·refine Tx ?_
   refine rw_q rfl rfl rfl (q_ixL 1 rfl rfl Zf rfl Zf rfl rfl rfl rfl rfl) ?_
   refine Al fun g5 => ?_
   refine Tx ?_
   refine Cl (eN y4 y5 y6 to1) fun _ => ?_
   refine Tx ?_
   refine Cd (b := ((bv to1) != 0)) (fun hc4 => ?_) fun hc4 => ?_
   ·have hc4p := bne_iff_ne.1 hc4
    refine Tx ?_
    refine Fc EInt ?_
    refine Fc EPlace ?_
    refine ai ?_; rw [show (cZ from1 to1) = ((⟨[], [], [], []⟩ : Delta), (bv to1)) by rw [← hf1]; simp only [e9, hc4, Cf]]; exact Re ⟨(⟨none, 0⟩ : SlV), (⟨none, 0⟩ : SlV), (⟨none, 0⟩ : SlV), (⟨none, 0⟩ : SlV)⟩ (Va (Vt Vn))
   ·have hc4p := ae hc4
    refine Tx ?_
    refine rw_q rfl rfl rfl (q_add rfl rfl Zf rfl Zf (fun _ => by decide)) ?_
    refine Tx ?_
    refine ⟨2, ⟨by omega, (by rw [← hf1]; simp only [e9, hc4, Cf] : (cZ from1 to1) = (e8 from1 to1)).symm⟩, (show 2 - 2 < 2 - 1 by decide), Le4⟩
  ·exact Bool.noConfusion (hc3.symm.trans (decide_eq_true (by decide)))
 ·have hf1 : (e8 from1 to1) = (cZ from1 to1) := hf1
  refine Tx ?_
  refine Cd (b := decide ((2 : Int) < 2)) (fun hc5 => ?_) fun hc5 => ?_
  ·exact Bool.noConfusion (hc5.symm.trans (decide_eq_false (by decide)))
  ·refine Tx ?_
   refine Cl ((fun y1 a y2 b => dA y1 y2 a b) y1 from1.roots y4 to1.roots) fun _ => ?_
   refine Tx ?_
   refine Cd (b := (!(decide (from1.roots = to1.roots)))) (fun hc6 => ?_) fun hc6 => ?_
   ·refine Tx ?_
    refine Fc EInt ?_
    refine Fc EPlace ?_
    refine ai ?_; rw [show (cZ from1 to1) = ((⟨[], [], [], []⟩ : Delta), 4) by rw [← hf1]; simp only [e8, hc6, Cf]]; exact Re ⟨(⟨none, 0⟩ : SlV), (⟨none, 0⟩ : SlV), (⟨none, 0⟩ : SlV), (⟨none, 0⟩ : SlV)⟩ (Va (Vt Vn))
   ·refine Tx ?_
    refine Al fun g6 => ?_
    refine Tx ?_
    refine Cl (jD y2 from1.known y5 to1.known) fun x1 => ?_
    refine Pr EInt x1.1 (bP from1.known to1.known).1 8 fun hlen7 => ?_
    refine Pr EPlace x1.2 (bP from1.known to1.known).2 24 fun hlen8 => ?_
    refine Tx ?_
    refine Cl (jD y3 from1.way y6 to1.way) fun x2 => ?_
    refine Pr EInt x2.1 (bP from1.way to1.way).1 8 fun hlen9 => ?_
    refine Pr EPlace x2.2 (bP from1.way to1.way).2 24 fun hlen10 => ?_
    refine Tx ?_
    refine ai ?_; rw [show (cZ from1 to1) = ((⟨(bP from1.known to1.known).1, (bP from1.known to1.known).2, (bP from1.way to1.way).1, (bP from1.way to1.way).2⟩ : Delta), 0) by rw [← hf1]; simp only [e8, hc6, Cf]]; exact Re ⟨x1.1, x1.2, x2.1, x2.2⟩ (Va (Vt Vn))
end Go.Proofs.YtpkaloknohpleaaGreatDoor

namespace Go.Proofs.YtpkaloknohpleaaGreatDoor
open Go Go.Proofs.YtpkaloknohpleaaGreatDoor.Fw Go.Proofs
theorem k6 {h : Hub} {r : Rec} (h0 : (aJ h r).2 = 0) : aM r = 0 := by
 unfold aJ at h0
 cases h1 : (aM r != 0) with
 | true => rw [h1, cond_true] at h0; simp only at h0; rw [h0] at h1; cases h1
 | false => exact ae h1
theorem oe {l : List Rec} (h : (aq l).2 = 0) : l.length ≤ 60 ∧ (bE l [] [] 0 [⟨0, 0, []⟩, ⟨0, 0, []⟩, ⟨0, 0, []⟩]).2 = 0 ∧ aq l = bE l [] [] 0 [⟨0, 0, []⟩, ⟨0, 0, []⟩, ⟨0, 0, []⟩] := by
 unfold aq at h ⊢
 cases h1 : decide ((l.length : Int) > 60) with
 | true => rw [h1] at h; cases h
 | false => rw [h1, cond_false] at h; have := of_decide_eq_false h1; exact ⟨by omega, h, rfl⟩
theorem j6 {h : Hub} {who : Int} (h0 : (bs h who).2 = 0) : cu h = 0 ∧ 0 ≤ who ∧ who < 3 ∧ h.peers.length = 3 ∧ bs h who = bW h.h.t (gt h.peers who.toNat).roots := by
 unfold bs at h0 ⊢
 cases h1 : (cu h != 0) with
 | true => rw [h1, cond_true] at h0; simp only at h0; rw [h0] at h1; cases h1
 | false =>
  rw [h1, cond_false] at h0
  cases h2 : (decide (who < 0) || decide (who ≥ 3)) with
  | true => rw [h2, cond_true] at h0; cases h0
  | false =>
   simp only [Bool.or_eq_false_iff, decide_eq_false_iff_not] at h2
   have h3 := ae h1
   exact ⟨h3, by omega, by omega, (fD h3).2.2.2, rfl⟩
theorem mi : ∀ (l : List Rec) (h : Hub), IsHub h → (bE l h.h.l h.h.t h.version h.peers).2 = 0 →
  IsHub (bE l h.h.l h.h.t h.version h.peers).1 ∧ (bE l h.h.l h.h.t h.version h.peers).1.version = h.version + (l.length : Int)
 | [], h, hh, _ => ⟨hh, by simp [bE]⟩
 | q :: l, h, hh, h0 => by
  rw [bE] at h0 ⊢
  have he : (⟨⟨h.h.l, h.h.t⟩, h.version, h.peers⟩ : Hub) = h := rfl
  simp only [he] at h0 ⊢
  cases h1 : ((aJ h q).2 != 0) with
  | true => rw [h1, cond_true] at h0; simp only at h0; rw [h0] at h1; cases h1
  | false =>
   rw [h1, cond_false] at h0
   have hn := tz hh (ae h1)
   obtain ⟨a, b⟩ := mi l (aJ h q).1 hn.1 h0
   simp only [cond_false, List.length_cons]
   exact ⟨a, by rw [b, hn.2]; omega⟩
theorem lf {l : List Rec} (h0 : (aq l).2 = 0) : IsHub (aq l).1 ∧ (aq l).1.version = (l.length : Int) ∧ l.length ≤ 60 := by
 have hr := oe h0
 have := mi l b8 k9 hr.2.1
 have e1 : aq l = bE l b8.h.l b8.h.t b8.version b8.peers := hr.2.2
 rw [e1]
 exact ⟨this.1, by rw [this.2]; exact Int.zero_add _, hr.1⟩
theorem rg {l : List Rec} {S : Hub × Int} (hS : aq l = S) (h0 : S.2 = 0) : IsHub S.1 ∧ S.1.version = (l.length : Int) ∧ l.length ≤ 60 := by
 subst hS; exact lf h0
theorem ke : ∀ (l : List Mail), d9 l = 0 ↔ ∀ m ∈ l, bJ m = 0
 | [] => by simp [d9]
 | m :: l => by
  rw [d9]
  cases h1 : (bJ m != 0) with
  | true => simp only [cond_true]; exact ⟨fun h => (by rw [h] at h1; cases h1), fun h => h m (.head _)⟩
  | false => simp only [cond_false, ke l, List.mem_cons, forall_eq_or_imp, ae h1, true_and]
theorem dD (l : List Mail) : bO l = 0 ↔ l.length ≤ 30 ∧ ∀ m ∈ l, bJ m = 0 := by
 unfold bO
 cases h1 : decide ((l.length : Int) > 30) with
 | true => have h1 := of_decide_eq_true h1; simp only [cond_true]; exact ⟨fun h => absurd h (by decide), fun h => absurd h.1 (by omega)⟩
 | false => have h1 := of_decide_eq_false h1; simp only [cond_false, ke]; exact ⟨fun h => ⟨by omega, h⟩, fun h => h.2⟩
theorem f9 {m : Mail} (h : bJ m = 0) : 0 ≤ m.who ∧ m.who < 3 := by
 unfold bJ at h
 cases h1 : (decide (m.kind < 1) || decide (m.kind > 3)) with
 | true => rw [h1, cond_true] at h; cases h
 | false =>
  rw [h1, cond_false] at h
  cases h2 : (decide (m.who < 0) || decide (m.who ≥ 3)) with
  | true => rw [h2, cond_true] at h; cases h
  | false => simp only [Bool.or_eq_false_iff, decide_eq_false_iff_not] at h2; omega
theorem jG {l : List Mail} {k : Int} {t : Bool} (h : (aA l k t).2.2 = 0) : bO l = 0 ∧ 0 ≤ k ∧ k < (l.length : Int) ∧ aA l k t = (bif t then l else l.take k.toNat ++ l.drop (k + 1).toNat, gt l k.toNat, 0) := by
 obtain ⟨h1, h2, h3⟩ := qK h
 refine ⟨h1, h2, h3, ?_⟩
 unfold aA
 have e1 : (bO l != 0) = false := by rw [h1]; rfl
 have e2 : (decide (k < 0) || decide (k ≥ (l.length : Int))) = false := by simp only [Bool.or_eq_false_iff, decide_eq_false_iff_not]; omega
 have e3 : gt ((l.drop k.toNat).take ((k + 1).toNat - k.toNat)) 0 = gt l k.toNat := by
  rw [show (k + 1).toNat - k.toNat = 1 by omega, aE (by omega : k.toNat < l.length)]; rfl
 rw [e1, e2, e3]
 cases t <;> rfl
theorem uU {l : List Mail} {k : Int} {t : Bool} (h : (aA l k t).2.2 = 0) : 0 ≤ (aA l k t).2.1.who ∧ (aA l k t).2.1.who < 3 := by
 obtain ⟨h1, h2, h3, h4⟩ := jG h
 rw [h4]
 exact f9 (((dD l).1 h1).2 _ (gn (by omega)))
theorem tZ {l : List Mail} {k : Int} {t : Bool} {S : List Mail × Mail × Int} (hS : aA l k t = S) (h : S.2.2 = 0) : 0 ≤ S.2.1.who ∧ S.2.1.who < 3 := by
 subst hS; exact uU h
theorem fX (q : Place → Bool) (n : Int) : ∀ {l : List Place}, Rising l → find (l.filter q) n = bif ((find l n).node != 0 && q (find l n)) then find l n else ⟨0, 0, 0⟩
 | [], _ => rfl
 | p :: r, h => by
  obtain ⟨h1, h2⟩ := List.pairwise_cons.1 h.up
  have hp := h.rng p (.head _)
  have hr : Rising r := ⟨h2, fun x hx => h.rng x (.tail _ hx), fun x hx => h.par x (.tail _ hx)⟩
  have ih := fX q n hr
  rw [List.filter_cons, find]
  cases hn : (p.node == n) with
  | true =>
   have hn' : p.node = n := by simpa using hn
   have h0 : (p.node != 0) = true := by simp; omega
   rw [cond_true, h0, Bool.true_and]
   cases hq : q p with
   | true => simp [find, hn]
   | false =>
    simp only [Bool.false_eq_true, if_false, cond_false]
    exact mz fun x hx => by have := h1 x (List.mem_filter.1 hx).1; omega
  | false =>
   rw [cond_false]
   cases hq : q p with
   | true => simp only [if_true]; rw [find, hn, cond_false]; exact ih
   | false => simpa using ih
theorem Rising.filter {l : List Place} (h : Rising l) (q : Place → Bool) : Rising (l.filter q) :=
 ⟨h.up.filter _, fun p hp => h.rng p (List.mem_filter.1 hp).1, fun p hp => h.par p (List.mem_filter.1 hp).1⟩
theorem Up.of_filter {l : List Place} (h : Rising l) {q : Place → Bool} {a b : Int} (hu : Up (l.filter q) a b) : Up l a b := by
 obtain ⟨k, hw⟩ := hu
 refine ⟨k, ?_⟩
 induction hw with
 | here x => exact .here x
 | @up x b k hok hn _ ih =>
  rw [fX q x h] at hn ih
  cases hc : ((find l x).node != 0 && q (find l x)) with
  | true => rw [hc, cond_true] at hn ih; exact .up trivial hn ih
  | false => rw [hc] at hn; exact absurd rfl hn
theorem gr.filter {l : List Place} (h : gr l) (q : Place → Bool) : gr (l.filter q) :=
 ⟨fun p hp => h.ok p (List.mem_filter.1 hp).1, h.up.filter _, fun p hp hu => h.no p (List.mem_filter.1 hp).1 (hu.of_filter h.rising)⟩
theorem nW {n : Int} (hn : 1 ≤ n) : ∀ {m : List Place}, Rising m → ∀ l : List Place, find (m.foldl putT l) n = bif (find m n).node != 0 then find m n else find l n
 | [], _, l => rfl
 | p :: r, h, l => by
  obtain ⟨h1, h2⟩ := List.pairwise_cons.1 h.up
  have hp := h.rng p (.head _)
  have hpp := h.par p (.head _)
  have hr : Rising r := ⟨h2, fun x hx => h.rng x (.tail _ hx), fun x hx => h.par x (.tail _ hx)⟩
  rw [List.foldl_cons, nW hn hr, fe, find]
  have hd : decide (p.parent < 0) = false := decide_eq_false (by omega)
  rw [hd, cond_false]
  cases hc : (p.node == n) with
  | true =>
   have hc' : p.node = n := by simpa using hc
   have hz : find r n = ⟨0, 0, 0⟩ := mz fun x hx => by have := h1 x hx; omega
   have h3 : (n == p.node) = true := by simpa using hc'.symm
   have h4 : (p.node != 0) = true := by simp; omega
   rw [hz, cond_true, h3, cond_true, h4]; rfl
  | false =>
   have hc' : p.node ≠ n := by simpa using hc
   have h3 : (n == p.node) = false := by simpa using fun e : n = p.node => hc' e.symm
   rw [cond_false, h3, cond_false]
theorem mg (t : List Place) (n : Int) (roots : List Int) : dj t n roots = true ↔ ∃ r ∈ roots, Up t n r := by
 unfold dj gC
 rw [List.any_eq_true]
 simp only [gz, jl]
theorem od (t : List Place) (n : Int) (roots : List Int) : dI t n roots = true ↔ ∃ r ∈ roots, r ≠ n ∧ Up t r n := by
 unfold dI gD
 rw [List.any_eq_true]
 simp only [Bool.and_eq_true, gz, jl, bne_iff_ne]
def kept (t : List Place) (roots : List Int) : List Place := t.filter (fun p => dj t p.node roots || dI t p.node roots)
theorem si {t : List Place} (h : Rising t) (roots : List Int) : cd (iz t roots) = kept t roots := by
 rw [All_eq]
 unfold iz kept
 simp only
 have hk := h.filter (fun p => dj t p.node roots)
 have hw := h.filter (fun p => !dj t p.node roots && dI t p.node roots)
 refine Rising.ext (Rising.puts _ hk hw.rng) (h.filter _) fun n h1 h2 => ?_
 rw [nW h1 hw, fX _ n h, fX _ n h, fX _ n h]
 cases hz : ((find t n).node != 0) with
 | false => rfl
 | true =>
  cases hb : dj t (find t n).node roots with
  | true => simp [hb]
  | false =>
   cases ha : dI t (find t n).node roots with
   | true => simp [hb, ha]; rw [hz]; rfl
   | false => simp [hb, ha]
theorem qq {t : List Place} (h : Rising t) {roots : List Int} {n : Int} (hn : dj t n roots = true ∨ dI t n roots = true) : find (kept t roots) n = find t n := by
 unfold kept
 rw [fX _ n h]
 cases hz : ((find t n).node != 0) with
 | false => rw [Bool.false_and, cond_false]; exact (h.none (ae hz)).symm
 | true =>
  have hn' := (jC (by simpa using hz)).1
  have : (dj t (find t n).node roots || dI t (find t n).node roots) = true := by rw [hn', Bool.or_eq_true]; exact hn
  rw [this]; rfl
theorem Up.kept_root {t : List Place} (h : Rising t) {roots : List Int} {a r : Int} (hr : r ∈ roots) (hu : Up t a r) : Up (kept t roots) a r := by
 obtain ⟨k, hw⟩ := hu
 revert hr
 induction hw with
 | here x => exact fun _ => Up.refl _ _
 | @up x b k hok hn hw ih =>
  intro hr
  have hf : find (kept t roots) x = find t x := qq h (.inl ((mg _ _ _).2 ⟨b, hr, k + 1, .up hok hn hw⟩))
  obtain ⟨j, hj⟩ := ih hr
  exact ⟨j + 1, .up trivial (by rw [hf]; exact hn) (by rw [hf]; exact hj)⟩
theorem Up.kept_way {t : List Place} (h : Rising t) {roots : List Int} {r : Int} (hr : r ∈ roots) {x n : Int} (h1 : Up t r x) (hu : Up t x n) : Up (kept t roots) x n := by
 obtain ⟨k, hw⟩ := hu
 revert h1
 induction hw with
 | here x => exact fun _ => Up.refl _ _
 | @up x b k hok hn hw ih =>
  intro h1
  have hf : find (kept t roots) x = find t x := qq h (by
   by_cases he : r = x
   ·exact .inl ((mg _ _ _).2 ⟨r, hr, he ▸ Up.refl _ _⟩)
   ·exact .inr ((od _ _ _).2 ⟨r, hr, he, h1⟩))
  obtain ⟨j, hj⟩ := ih (h1.trans ⟨1, .up trivial hn (.here _)⟩)
  exact ⟨j + 1, .up trivial (by rw [hf]; exact hn) (by rw [hf]; exact hj)⟩
theorem sE {t : List Place} (h : Rising t) (roots : List Int) (n : Int) : dj (kept t roots) n roots = dj t n roots := by
 rw [Bool.eq_iff_iff, mg, mg]
 exact ⟨fun ⟨r, h1, h2⟩ => ⟨r, h1, Up.of_filter h h2⟩, fun ⟨r, h1, h2⟩ => ⟨r, h1, Up.kept_root h h1 h2⟩⟩
theorem sH {t : List Place} (h : Rising t) (roots : List Int) (n : Int) : dI (kept t roots) n roots = dI t n roots := by
 rw [Bool.eq_iff_iff, od, od]
 exact ⟨fun ⟨r, h1, h2, h3⟩ => ⟨r, h1, h2, Up.of_filter h h3⟩, fun ⟨r, h1, h2, h3⟩ => ⟨r, h1, h2, Up.kept_way h h1 (Up.refl _ _) h3⟩⟩
theorem sS {t : List Place} (h : Rising t) (roots : List Int) : iz (kept t roots) roots = iz t roots := by
 unfold iz
 simp only [sE h, sH h]
 unfold kept
 simp only [List.filter_filter]
 congr 1
 ·exact List.filter_congr fun p _ => by cases dj t p.node roots <;> simp
 ·exact List.filter_congr fun p _ => by cases dj t p.node roots <;> cases dI t p.node roots <;> rfl
theorem sR {t : List Place} (h : gr t) {roots : List Int} (hr : mG roots) : i6 (iz t roots) := by
 refine ⟨hr, h.filter _, h.filter _, ?_, ?_⟩
 ·rw [si h.rising]; exact (eB _).2 (h.filter _)
 ·rw [si h.rising]; exact sS h.rising roots
theorem wf {h : Hub} (hh : IsHub h) (r : Rec) : dG h r = aJ h r := by
 unfold dG
 rw [(gk h).2 hh]; rfl
theorem fi {c : Bool} {a b : Int} (ha : a ≠ 0) : ((bif c then a else b) = 0 ↔ c = false ∧ b = 0) := by
 cases c <;> simp [ha]
structure ug (c : Client) (me : Int) (i : Nat) : Prop where
 ok : chkO (gt c.pending i) = 0
 who : (gt c.pending i).who = me
 life : (gt c.pending i).life = c.life
 seq : (gt c.pending i).seq = c.seq - (c.pending.length : Int) + 1 + (i : Int)
 time : (gt c.pending i).time ≤ c.time
 up : 0 < i → (gt c.pending (i - 1)).time < (gt c.pending i).time
theorem kW (c : Client) (me : Int) : ∀ (r : List Op) (k : Nat), r = c.pending.drop k → (dg c me r k = 0 ↔ ∀ i, k ≤ i → i < c.pending.length → ug c me i)
 | [], k, h => by
  have : c.pending.length ≤ k := by have := congrArg List.length h; simp at this; omega
  exact ⟨fun _ i h1 h2 => by omega, fun _ => rfl⟩
 | p :: r, k, h => by
  have hk : k < c.pending.length := by
   rcases Nat.lt_or_ge k c.pending.length with h' | h'
   ·exact h'
   ·rw [List.drop_of_length_le h'] at h; cases h
  rw [aE hk] at h
  obtain ⟨rfl, h'⟩ := List.cons.inj h
  rw [dg, ek]
  have key : ug c me k ↔ (chkO (gt c.pending k) = 0 ∧ ((((((gt c.pending k).who != me) || ((gt c.pending k).life != c.life)) || ((gt c.pending k).seq != (((c.seq - (c.pending.length : Int)) + 1) + (k : Int)))) || decide ((gt c.pending k).time > c.time)) || (decide ((k : Int) > 0) && decide ((gt c.pending k).time ≤ (gt c.pending (k - 1)).time))) = false) := by
   simp only [Bool.or_eq_false_iff, bne_eq_false_iff_eq, decide_eq_false_iff_not, Bool.and_eq_false_iff]
   constructor
   ·intro ⟨h1, h2, h3, h4, h5, h6⟩
    refine ⟨h1, ⟨⟨⟨h2, h3⟩, h4⟩, by omega⟩, ?_⟩
    rcases Nat.eq_zero_or_pos k with h7 | h7
    ·left; omega
    ·right; have := h6 h7; omega
   ·intro ⟨h1, ⟨⟨⟨h2, h3⟩, h4⟩, h5⟩, h6⟩
    refine ⟨h1, h2, h3, h4, by omega, fun h7 => ?_⟩
    rcases h6 with h6 | h6
    ·omega
    ·omega
  cases h1 : (chkO (gt c.pending k) != 0) with
  | true =>
   rw [cond_true]
   refine ⟨fun h2 => (by rw [h2] at h1; cases h1), fun h2 => ?_⟩
   have := (h2 k (Nat.le_refl _) hk).ok
   rw [this] at h1; cases h1
  | false =>
   rw [cond_false, fi (by decide), kW c me r (k + 1) h']
   constructor
   ·intro ⟨h2, h3⟩ i hi hl
    by_cases hik : i = k
    ·rw [hik]; exact key.2 ⟨ae h1, h2⟩
    ·exact h3 i (by omega) hl
   ·intro h2
    exact ⟨(key.1 (h2 k (Nat.le_refl _) hk)).2, fun i hi hl => h2 i (by omega) hl⟩
structure IsCli (c : Client) (me : Int) : Prop where
 num : 0 ≤ me ∧ me < 3
 rng : 0 ≤ c.life ∧ c.life ≤ 50 ∧ 0 ≤ c.time ∧ c.time ≤ 10000 ∧ 0 ≤ c.seq ∧ c.seq ≤ 30 ∧ 0 ≤ c.version ∧ c.version ≤ 60
 few : c.pending.length ≤ 8
 view : i6 c.v
 new : c.life = 0 → c.time = 0 ∧ c.seq = 0 ∧ c.version = 0
 vers : c.version = 0 → c.v.roots = []
 pseq : (c.pending.length : Int) ≤ c.seq
 pend : ∀ i, i < c.pending.length → ug c me i
theorem cL (c : Client) (me : Int) : bh c me = 0 ↔ IsCli c me := by
 constructor
 ·intro h
  obtain ⟨h1, h2, h3, h4, ⟨h5, h6, h7⟩, h8⟩ := iM h
  exact ⟨h1, h2, h3, (dr _).1 h4, h5, h6, h7, fun i hi => (kW c me c.pending 0 rfl).1 h8 i (Nat.zero_le _) hi⟩
 ·intro h
  obtain ⟨m1, m2⟩ := h.num
  obtain ⟨r1, r2, r3, r4, r5, r6, r7, r8⟩ := h.rng
  have h3 := h.few
  have h7 := h.pseq
  unfold bh
  rw [fi (by decide)]
  refine ⟨by simp only [Bool.or_eq_false_iff, decide_eq_false_iff_not]; omega, ?_⟩
  rw [fi (by decide)]
  refine ⟨by simp only [Bool.or_eq_false_iff, decide_eq_false_iff_not]; omega, ?_⟩
  rw [fi (by decide)]
  refine ⟨by simp only [decide_eq_false_iff_not]; omega, ?_⟩
  rw [(dr _).2 h.view, bne_self_eq_false, cond_false, fi (by decide)]
  refine ⟨?_, (kW c me c.pending 0 rfl).2 fun i _ hi => h.pend i hi⟩
  simp only [Bool.or_eq_false_iff, decide_eq_false_iff_not, Bool.and_eq_false_iff, beq_eq_false_iff_ne, bne_eq_false_iff_eq]
  refine ⟨⟨?_, ?_⟩, by omega⟩
  ·by_cases hl : c.life = 0
   ·right; have := h.new hl; omega
   ·exact .inl hl
  ·by_cases hv : c.version = 0
   ·right; rw [h.vers hv]; simp
   ·exact .inl hv
theorem na {v : View} {d : Delta} (h : (bH v d).2 = 0) : i6 (bH v d).1 := by
 unfold bH at h ⊢
 cases h1 : (bv v != 0) with
 | true => rw [h1, cond_true] at h; simp only at h; rw [h] at h1; cases h1
 | false =>
 rw [h1, cond_false] at h
 rw [cond_false]
 cases h2 : (bg d != 0) with
 | true => rw [h2, cond_true] at h; simp only at h; rw [h] at h2; cases h2
 | false =>
 rw [h2, cond_false] at h
 rw [cond_false]
 cases h3 : (bv (⟨v.roots, (bN v.known d.gone d.here), (bN v.way d.wayGone d.wayHere)⟩ : View) != 0) with
 | true => rw [h3, cond_true] at h; simp only at h; rw [h] at h3; cases h3
 | false => exact (dr _).1 (ae h3)
def px (m : Mail) : Bool := (((((((((decide (m.life < 1) || decide (m.life > 50)) || decide (m.seq < 0)) || decide (m.seq > 30)) || decide (m.time < 0)) || decide (m.time > 10000)) || decide (m.version < 1)) || decide (m.version > 60)) || decide (m.frm < 0)) || decide (m.frm ≥ m.version))
def want1 (m : Mail) : Mail := ⟨m.kind, m.who, 0, 0, 0, 0, 0, m.o, ⟨[], [], []⟩, ⟨[], [], [], []⟩⟩
def want2 (m : Mail) : Mail := ⟨m.kind, m.who, m.life, m.seq, m.time, m.version, 0, ⟨0, 0, 0, 0, 0, 0, 0⟩, m.v, ⟨[], [], [], []⟩⟩
def want3 (m : Mail) : Mail := ⟨m.kind, m.who, m.life, m.seq, m.time, m.version, m.frm, ⟨0, 0, 0, 0, 0, 0, 0⟩, ⟨[], [], []⟩, m.d⟩
theorem mJ (m : Mail) : bJ m = bif (decide (m.kind < 1) || decide (m.kind > 3)) then 4 else bif (decide (m.who < 0) || decide (m.who ≥ 3)) then 5 else
  bif m.kind == 1 then (bif !(fz m (want1 m)) then 4 else bif m.o.who != m.who then 4 else chkO m.o) else
  bif m.kind == 2 then (bif !(fz m (want2 m)) then 4 else bif px m then 3 else bv m.v) else
  bif !(fz m (want3 m)) then 4 else bif px m then 3 else bg m.d := by
 unfold bJ
 cases h0 : (decide (m.kind < 1) || decide (m.kind > 3)) with
 | true => rfl
 | false =>
  cases h1 : (m.kind == 1) with
  | true => rfl
  | false =>
   cases h2 : (m.kind == 2) with
   | true => rfl
   | false =>
    have h3 : (m.kind == 3) = true := by
     simp only [Bool.or_eq_false_iff, decide_eq_false_iff_not, beq_eq_false_iff_ne] at h0 h1 h2
     simp only [beq_iff_eq]; omega
    rw [h3]; rfl
theorem lM (m : Mail) : bO [m] = bJ m := by
 show (bif (bJ m != 0) then bJ m else 0) = bJ m
 cases h : (bJ m != 0) with
 | true => rfl
 | false => exact (ae h).symm
structure t7 (m : Mail) : Prop where
 kind : m.kind = 2 ∨ m.kind = 3
 rng : 1 ≤ m.life ∧ m.life ≤ 50 ∧ 0 ≤ m.seq ∧ m.seq ≤ 30 ∧ 0 ≤ m.time ∧ m.time ≤ 10000 ∧ 1 ≤ m.version ∧ m.version ≤ 60 ∧ 0 ≤ m.frm ∧ m.frm < m.version
 view : m.kind = 2 → i6 m.v
theorem nN (m : Mail) : px m = false ↔ (1 ≤ m.life ∧ m.life ≤ 50 ∧ 0 ≤ m.seq ∧ m.seq ≤ 30 ∧ 0 ≤ m.time ∧ m.time ≤ 10000 ∧ 1 ≤ m.version ∧ m.version ≤ 60 ∧ 0 ≤ m.frm ∧ m.frm < m.version) := by
 simp only [px, Bool.or_eq_false_iff, decide_eq_false_iff_not]; omega
theorem vB {m : Mail} (h : bJ m = 0) (h1 : m.kind ≠ 1) : t7 m := by
 rw [mJ, fi (by decide), fi (by decide), show (m.kind == 1) = false from beq_eq_false_iff_ne.2 h1, cond_false] at h
 obtain ⟨h2, _, h3⟩ := h
 simp only [Bool.or_eq_false_iff, decide_eq_false_iff_not] at h2
 cases h4 : (m.kind == 2) with
 | true =>
  rw [h4, cond_true, fi (by decide), fi (by decide)] at h3
  exact ⟨.inl (eq_of_beq h4), (nN m).1 h3.2.1, fun _ => (dr _).1 h3.2.2⟩
 | false =>
  rw [h4, cond_false, fi (by decide), fi (by decide)] at h3
  have h4 := beq_eq_false_iff_ne.1 h4
  exact ⟨.inr (by omega), (nN m).1 h3.2.1, fun h5 => absurd h5 h4⟩
def fy (c : Client) (m : Mail) (v : View) : Client := ⟨c.life, (if m.time > c.time then m.time else c.time), c.seq, c.pending.filter (fun o => !decide (o.seq ≤ m.seq)), m.version, v⟩
def stale (c : Client) (m : Mail) : Bool := ((m.life != c.life) || decide (m.version ≤ c.version)) || decide (m.seq > c.seq)
def cli0 : Client := ⟨0, 0, 0, [], 0, ⟨[], [], []⟩⟩
theorem rk (c : Client) (me : Int) (m : Mail) : aL c me m = bif bh c me != 0 then (cli0, bh c me) else bif bJ m != 0 then (cli0, bJ m) else
  bif (m.kind == 1) || (m.who != me) then (cli0, 4) else bif stale c m then (c, 0) else
  bif m.kind == 3 then (bif m.frm != c.version then (c, 0) else bif (bH c.v m.d).2 != 0 then (cli0, (bH c.v m.d).2) else (fy c m (bH c.v m.d).1, 0)) else (fy c m m.v, 0) := by
 unfold aL
 rw [lM]
 rfl
theorem pP {c : Client} {me : Int} {m : Mail} (h : (aL c me m).2 = 0) : IsCli c me ∧ t7 m ∧ bJ m = 0 ∧ (m.kind == 1 || m.who != me) = false ∧
  ((aL c me m).1 = c ∨ ∃ v, i6 v ∧ stale c m = false ∧ (aL c me m).1 = fy c m v) := by
 rw [rk] at h ⊢
 cases h1 : (bh c me != 0) with
 | true => rw [h1, cond_true] at h; simp only at h; rw [h] at h1; cases h1
 | false =>
 rw [h1, cond_false] at h
 rw [cond_false]
 cases h2 : (bJ m != 0) with
 | true => rw [h2, cond_true] at h; simp only at h; rw [h] at h2; cases h2
 | false =>
 rw [h2, cond_false] at h
 rw [cond_false]
 cases h3 : (m.kind == 1 || m.who != me) with
 | true => rw [h3, cond_true] at h; cases h
 | false =>
 rw [h3, cond_false] at h
 rw [cond_false]
 have hk := (Bool.or_eq_false_iff.1 h3).1
 have hs := vB (ae h2) (beq_eq_false_iff_ne.1 hk)
 refine ⟨(cL _ _).1 (ae h1), hs, ae h2, rfl, ?_⟩
 cases h4 : stale c m with
 | true => exact .inl rfl
 | false =>
 rw [h4, cond_false] at h
 rw [cond_false]
 cases h5 : (m.kind == 3) with
 | false =>
  refine .inr ⟨m.v, hs.view ?_, rfl, rfl⟩
  have := beq_eq_false_iff_ne.1 h5
  have := hs.kind; omega
 | true =>
  rw [h5, cond_true] at h
  rw [cond_true]
  cases h6 : (m.frm != c.version) with
  | true => exact .inl rfl
  | false =>
   rw [h6, cond_false] at h
   rw [cond_false]
   cases h7 : ((bH c.v m.d).2 != 0) with
   | true => rw [h7, cond_true] at h; simp only at h; rw [h] at h7; cases h7
   | false => exact .inr ⟨_, na (ae h7), rfl, rfl⟩
theorem nX : ∀ (l : List Op) (a s : Int), (∀ i, i < l.length → (gt l i).seq = a + (i : Int)) → ∃ n, n ≤ l.length ∧ (∀ o ∈ l.take n, o.seq ≤ s) ∧ l.filter (fun o => !decide (o.seq ≤ s)) = l.drop n ∧ (n < l.length → s - a + 1 ≤ n)
 | [], a, s, _ => ⟨0, Nat.le_refl _, (by simp), rfl, by simp⟩
 | o :: l, a, s, h => by
  have h0 := h 0 (by simp)
  simp only [gt, List.getD_cons_zero] at h0
  have hl : ∀ i, i < l.length → (gt l i).seq = (a + 1) + (i : Int) := fun i hi => by
   have := h (i + 1) (by simp; omega)
   simp only [gt, List.getD_cons_succ] at this ⊢
   omega
  obtain ⟨n, hn, h1, h2, h3⟩ := nX l (a + 1) s hl
  by_cases hs : o.seq ≤ s
  ·refine ⟨n + 1, by simp; omega, fun p hp => ?_, ?_, fun hlt => by simp at hlt; have := h3 hlt; omega⟩
   ·rw [List.take_succ_cons] at hp
    rcases List.mem_cons.1 hp with rfl | hp
    ·exact hs
    ·exact h1 p hp
   ·rw [List.filter_cons_of_neg (by simp [hs]), h2]; rfl
  ·refine ⟨0, Nat.zero_le _, by simp, ?_, fun _ => by omega⟩
   rw [List.drop_zero, List.filter_eq_self]
   intro p hp
   obtain ⟨i, hi, rfl⟩ := List.getElem_of_mem hp
   have := h i hi
   rw [gt_eq hi] at this
   simp only [Bool.not_eq_true', decide_eq_false_iff_not]; omega
theorem rL (l : List Op) (n i : Nat) : gt (l.drop n) i = gt l (n + i) := by simp [gt, List.getD_eq_getElem?_getD]
theorem qm {c : Client} {me : Int} {m : Mail} {v : View} (h : IsCli c me) (hm : t7 m) (hst : stale c m = false) (hv : i6 v) : IsCli (fy c m v) me ∧ ∃ n, n ≤ c.pending.length ∧ (∀ o ∈ c.pending.take n, o.seq ≤ m.seq) ∧ (fy c m v).pending = c.pending.drop n := by
 obtain ⟨n, hn, h1, h2, h3⟩ := nX c.pending (c.seq - (c.pending.length : Int) + 1) m.seq fun i hi => (h.pend i hi).seq
 have hp : (fy c m v).pending = c.pending.drop n := h2
 have hlen : (fy c m v).pending.length = c.pending.length - n := by rw [hp]; simp
 have hr := h.rng
 have hmr := hm.rng
 have hps := h.pseq
 have hfew := h.few
 simp only [stale, Bool.or_eq_false_iff, bne_eq_false_iff_eq, decide_eq_false_iff_not] at hst
 refine ⟨⟨h.num, ?_, by omega, hv, fun hl => ?_, fun hl => ?_, ?_, fun i hi => ?_⟩, n, hn, h1, hp⟩
 ·simp only [fy]; split <;> omega
 ·simp only [fy] at hl; omega
 ·simp only [fy] at hl; omega
 ·rw [hlen]; simp only [fy]; omega
 ·rw [hlen] at hi
  have hq := h.pend (n + i) (by omega)
  have hg : gt (fy c m v).pending i = gt c.pending (n + i) := by rw [hp, rL]
  have htm := hq.time
  refine ⟨by rw [hg]; exact hq.ok, by rw [hg]; exact hq.who, by rw [hg]; exact hq.life, ?_, ?_, fun h0 => ?_⟩
  ·rw [hg, hq.seq, hlen]; simp only [fy]; omega
  ·rw [hg]; simp only [fy]; split <;> omega
  ·rw [hg, show gt (fy c m v).pending (i - 1) = gt c.pending (n + i - 1) by rw [hp, rL]; congr 1; omega]
   exact hq.up (by omega)
theorem IsCli.ops {c : Client} {me : Int} (h : IsCli c me) : ∀ o ∈ c.pending, chkO o = 0 := fun o ho => by
 obtain ⟨i, hi, rfl⟩ := List.getElem_of_mem ho
 have := (h.pend i hi).ok
 rwa [gt_eq hi] at this
def fH (c : Client) (o : Op) : Client := ⟨c.life, o.time, o.seq, c.pending ++ [o], c.version, c.v⟩
theorem nn {c : Client} {me node parent name : Int} (h : (bz c me node parent name).2.2 = 0) : IsCli c me ∧ c.life ≠ 0 ∧ c.pending.length ≠ 8 ∧ c.time ≠ 10000 ∧ c.seq ≠ 30 ∧ chkO ⟨c.time + 1, me, node, parent, name, c.life, c.seq + 1⟩ = 0 ∧
  bz c me node parent name = (fH c ⟨c.time + 1, me, node, parent, name, c.life, c.seq + 1⟩, ⟨c.time + 1, me, node, parent, name, c.life, c.seq + 1⟩, 0) := by
 unfold bz at h ⊢
 cases h1 : (bh c me != 0) with
 | true => rw [h1, cond_true] at h; simp only at h; rw [h] at h1; cases h1
 | false =>
 rw [h1, cond_false] at h
 cases h2 : (c.life == 0) with
 | true => rw [h2, cond_true] at h; cases h
 | false =>
 rw [h2, cond_false] at h
 cases h3 : ((((c.pending.length : Int) == 8) || (c.time == 10000)) || (c.seq == 30)) with
 | true => rw [h3, cond_true] at h; cases h
 | false =>
 rw [h3, cond_false] at h
 cases h4 : (ck (⟨(c.time + 1), me, node, parent, name, c.life, (c.seq + 1)⟩ : Op) != 0) with
 | true => rw [h4, cond_true] at h; simp only at h; rw [h] at h4; cases h4
 | false =>
 simp only [Bool.or_eq_false_iff, beq_eq_false_iff_ne] at h2 h3
 exact ⟨(cL _ _).1 (ae h1), h2, by omega, h3.1.2, h3.2, ae h4, rfl⟩
theorem mw {l : List Op} {o : Op} {i : Nat} (h : i < l.length) : gt (l ++ [o]) i = gt l i := by
 simp [gt, List.getD_eq_getElem?_getD, List.getElem?_append_left h]
theorem qg {c : Client} {me node parent name : Int} (h : IsCli c me) (h1 : c.life ≠ 0) (h2 : c.pending.length ≠ 8) (h3 : c.time ≠ 10000) (h4 : c.seq ≠ 30) (ho : chkO ⟨c.time + 1, me, node, parent, name, c.life, c.seq + 1⟩ = 0) : IsCli (fH c ⟨c.time + 1, me, node, parent, name, c.life, c.seq + 1⟩) me := by
 have hr := h.rng
 have hf := h.few
 have hp := h.pseq
 have hlen : (fH c ⟨c.time + 1, me, node, parent, name, c.life, c.seq + 1⟩).pending.length = c.pending.length + 1 := by simp [fH]
 refine ⟨h.num, by simp only [fH]; omega, by omega, h.view, fun hl => absurd hl h1, h.vers, by rw [hlen]; simp only [fH]; omega, fun i hi => ?_⟩
 rw [hlen] at hi
 rcases Nat.lt_or_ge i c.pending.length with hlt | hge
 ·have hq := h.pend i hlt
  have hg : gt (fH c ⟨c.time + 1, me, node, parent, name, c.life, c.seq + 1⟩).pending i = gt c.pending i := mw hlt
  have hs := hq.seq
  have ht := hq.time
  refine ⟨by rw [hg]; exact hq.ok, by rw [hg]; exact hq.who, by rw [hg]; exact hq.life, ?_, ?_, fun h0 => ?_⟩
  ·rw [hg, hs, hlen]; simp only [fH]; omega
  ·rw [hg]; simp only [fH]; omega
  ·rw [hg, show gt (fH c ⟨c.time + 1, me, node, parent, name, c.life, c.seq + 1⟩).pending (i - 1) = gt c.pending (i - 1) from mw (by omega)]
   exact hq.up h0
 ·have hi' : i = c.pending.length := by omega
  have hg : gt (fH c ⟨c.time + 1, me, node, parent, name, c.life, c.seq + 1⟩).pending i = ⟨c.time + 1, me, node, parent, name, c.life, c.seq + 1⟩ := jA _ _ [] _ hi'
  refine ⟨by rw [hg]; exact ho, by rw [hg], by rw [hg]; rfl, ?_, ?_, fun h0 => ?_⟩
  ·rw [hg, hlen]; simp only [fH]; omega
  ·rw [hg]; simp only [fH]; omega
  ·rw [hg, show gt (fH c ⟨c.time + 1, me, node, parent, name, c.life, c.seq + 1⟩).pending (i - 1) = gt c.pending (i - 1) from mw (by omega)]
   have := (h.pend (i - 1) (by omega)).time
   show _ < c.time + 1
   omega
end Go.Proofs.YtpkaloknohpleaaGreatDoor

namespace Go.Proofs.YtpkaloknohpleaaGreatDoor.Fw
open Go Go.RowKit Go.ChangeShapes Go.WideShapes Go.Deep
section
variable {P : Program} {H : Type}
theorem lj {e : TypeId} : ∀ {ds : List (DataW H)} {d : DataW H}, d ∈ ds → ∀ {n : Nat}, n ∈ d.weights P e → n ∈ DataW.weightsAll P e ds
 | a :: r, d, h, n, hn => by
  rw [DataW.weightsAll, List.mem_append]
  rcases List.mem_cons.1 h with rfl | h
  ·exact .inl hn
  ·exact .inr (lj h hn)
theorem qd {α : Type} [Inhabited α] (EN : En α) {t e : TypeId} (ht : P.underlying t = some (.slice e)) (hO : Opens P e (fun (a : α) (g : EN.G) => EN.E.enc (g, a)) (fun a g => EN.facts (g, a))) (hc : P.cellsOf e = EN.E.esz) (hpos : Nat.blt 0 EN.E.esz = true) (hby : P.bytesOf e = EN.E.by_) :
  Opens P t (fun (l : List α) (X : SlV) => [X.val l.length]) (fun l X => [RdN EN X l]) := .mk fun {H} enc w fuel cs x hx hsz => by
 have hpos := Nat.le_of_ble_eq_true hpos
 rcases open_slice ht hx with ⟨rfl, _⟩ | ⟨a, len, cap, m, n, D, Pl, rfl, _, hlc, hcm, hm, hx, hi⟩
 ·exact ⟨[], ⟨none, 0⟩, rfl, fun F hF => by rw [List.mem_singleton] at hF; subst hF; exact RdN.nil EN _ _⟩
 ·simp only [if_true] at hm
  subst hx
  rw [List.all_eq_true] at hsz
  have hrow : ∀ i, i < len → ∃ p : EN.G × α, (∀ (j : Nat) (v : Value), (EN.E.enc p)[j]? = some v → w.cell? (a.add (i * EN.E.esz + j)) = some v) ∧ ∀ F ∈ EN.facts p, F (fun _ => False) w := by
   intro i hil
   obtain ⟨cs', hcs, htr⟩ := hi i (by omega)
   have hw : ((D i).weights P e).all (· ≤ reachBytes) = true := by
    rw [List.all_eq_true]
    intro k hk
    refine hsz k ?_
    simp only [DataW.weights, ht, List.mem_cons, List.mem_append]
    exact .inr (.inl (lj (List.mem_map.2 ⟨i, List.mem_range.2 hil, rfl⟩) hk))
   obtain ⟨a0, g0, rfl, hf⟩ := hO.op enc w n cs' (D i, Pl i) htr hw
   obtain ⟨_, hl, hat⟩ := World.cells?_some hcs
   refine ⟨(g0, a0), fun j v hv => ?_, hf⟩
   obtain ⟨hlt, _⟩ := List.getElem?_eq_some_iff.1 hv
   have := hat j (by omega)
   rw [hc, f6] at this
   rw [this, hv]
  obtain ⟨hs, hl, hp⟩ := n9 hrow
  have hbound : hs.length * EN.E.by_ ≤ 140737488355328 := by
   have := hsz ((len + (m - len)) * EN.E.by_) (by simp [DataW.weights, ht, hby])
   have h2 : hs.length * EN.E.by_ ≤ (len + (m - len)) * EN.E.by_ := Nat.mul_le_mul_right _ (by omega)
   have h3 : reachBytes ≤ 140737488355328 := by decide
   simp at this
   omega
  have hrd : RdL EN.E ⟨some a, cap⟩ hs (fun _ => False) w := ⟨by rw [hl]; exact hlc, by simpa [maxLen] using hcm, hbound, fun hpl => ⟨a, rfl, by
   have h0 := (hp 0 hpl).1
   have hle : (EN.E.enc hs[0]).length = EN.E.esz := EN.E.len _
   have hcell := h0 0 _ (List.getElem?_eq_getElem (by omega))
   unfold World.cell? at hcell
   rw [jE] at hcell
   cases hh : w.heap[a.block]? with
   | none => simp [hh] at hcell
   | some ob => exact gW hh, fun h => h, fun i hi j v hv => (hp i hi).1 j v hv⟩⟩
  refine ⟨hs.map (·.2), ⟨some a, cap⟩, by rw [List.length_map, hl]; rfl, fun F hF => ?_⟩
  rw [List.mem_singleton] at hF
  subst hF
  exact RdN.of EN rfl hrd fun p hp' => by
   obtain ⟨i, hi', rfl⟩ := List.getElem_of_mem hp'
   exact (hp i hi').2
end
end Go.Proofs.YtpkaloknohpleaaGreatDoor.Fw
