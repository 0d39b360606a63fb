/- Part of this claim. No condition. -/
import Derived.Test.YtchdacbjiomplaaLCli
set_option linter.unusedVariables false
set_option linter.unusedSimpArgs false
namespace Go.Proofs.Ytchdacbjiomplaa
open Go Go.Proofs.Ytchdacbjiomplaa.Fw Go.Proofs
/-! ### What a client shows -/
def does : List Place → List Op → List Place
  | t, [] => t
  | t, o :: l => does (moveDo t o).1 l
theorem Shows_L0_eq : ∀ (l : List Op) (t : List Place), checkT t = 0 → (∀ o ∈ l, chkO o = 0) → client_Shows_L0 l t = (does t l, 0)
  | [], t, _, _ => rfl
  | o :: l, t, ht, h => by
    have ho := h o (.head _)
    have h0 := moveDo_ok0 ht ho
    rw [client_Shows_L0, move_Do_eq, h0, does]
    exact Shows_L0_eq l _ (moved_of h0).tree fun q hq => h q (.tail _ hq)
theorem does_tree : ∀ (l : List Op) (t : List Place), checkT t = 0 → (∀ o ∈ l, chkO o = 0) → checkT (does t l) = 0
  | [], t, ht, _ => ht
  | o :: l, t, ht, h => does_tree l _ (moved_of (moveDo_ok0 ht (h o (.head _)))).tree fun q hq => h q (.tail _ hq)
theorem does_snoc : ∀ (l : List Op) (o : Op) (t : List Place), does t (l ++ [o]) = (moveDo (does t l) o).1
  | [], o, t => rfl
  | p :: l, o, t => does_snoc l o _
theorem IsCli.ops {c : Client} {me : Int} (h : IsCli c me) : ∀ o ∈ c.pending, chkO o = 0 := fun o ho => by
  obtain ⟨i, hi, rfl⟩ := List.getElem_of_mem ho
  have := (h.pend i hi).ok
  rwa [gt_eq hi] at this
theorem Shows_eq {c : Client} {me : Int} (h : IsCli c me) : client_Shows c me = (does (view_All c.v) c.pending, 0) := by
  unfold client_Shows
  rw [(client_Check_iff _ _).2 h, Shows_L0_eq c.pending _ h.view.all h.ops]; rfl
theorem Shows_bad {c : Client} {me : Int} (h : client_Check c me ≠ 0) : client_Shows c me = ([], client_Check c me) := by
  unfold client_Shows
  have : (client_Check c me != 0) = true := by simpa using h
  rw [this]; rfl
theorem len_all {v : View} (h : IsView v) : (view_All v).length = v.known.length + v.way.length := by
  have hT := (checkT_iff _).1 h.all
  have h1 : kept (view_All v) v.roots = view_All v := by
    rw [← All_seen hT.rising, h.is]
  have h2 := h.is
  have key : ∀ (p q : Place → Bool) (l : List Place), (l.filter (fun x => p x || q x)).length = (l.filter p).length + (l.filter (fun x => !p x && q x)).length := by
    intro p q l
    induction l with
    | nil => rfl
    | cons x l ih =>
      cases hp : p x <;> cases hq : q x <;> simp [hp, hq, ih] <;> omega
  have h3 := key (fun p => view_below (view_All v) p.node v.roots) (fun p => view_above (view_All v) p.node v.roots) (view_All v)
  have h4 : (kept (view_All v) v.roots).length = (seenAll (view_All v) v.roots).known.length + (seenAll (view_All v) v.roots).way.length := h3
  rw [h1, h2] at h4
  exact h4
def movedBy (c : Client) (o : Op) : Client := ⟨c.life, o.time, o.seq, c.pending ++ [o], c.version, c.v⟩
theorem Move_inv {c : Client} {me node parent name : Int} (h : (client_Move c me node parent name).2.2 = 0) : IsCli c me ∧ c.life ≠ 0 ∧ c.pending.length ≠ 8 ∧ c.time ≠ 10000 ∧ c.seq ≠ 30 ∧ chkO ⟨c.time + 1, me, node, parent, name, c.life, c.seq + 1⟩ = 0 ∧
    client_Move c me node parent name = (movedBy c ⟨c.time + 1, me, node, parent, name, c.life, c.seq + 1⟩, ⟨c.time + 1, me, node, parent, name, c.life, c.seq + 1⟩, 0) := by
  unfold client_Move at h ⊢
  cases h1 : (client_Check c me != 0) with
  | true => rw [h1, cond_true] at h; simp only at h; rw [h] at h1; cases h1
  | false =>
  rw [h1, cond_false] at h
  cases h2 : (c.life == 0) with
  | true => rw [h2, cond_true] at h; cases h
  | false =>
  rw [h2, cond_false] at h
  cases h3 : ((((c.pending.length : Int) == 8) || (c.time == 10000)) || (c.seq == 30)) with
  | true => rw [h3, cond_true] at h; cases h
  | false =>
  rw [h3, cond_false] at h
  cases h4 : (move_Check (⟨(c.time + 1), me, node, parent, name, c.life, (c.seq + 1)⟩ : Op) != 0) with
  | true => rw [h4, cond_true] at h; simp only at h; rw [h] at h4; cases h4
  | false =>
  simp only [Bool.or_eq_false_iff, beq_eq_false_iff_ne] at h2 h3
  exact ⟨(client_Check_iff _ _).1 (eq_of_bne_false h1), h2, by omega, h3.1.2, h3.2, eq_of_bne_false h4, rfl⟩
theorem gt_snoc_lt {l : List Op} {o : Op} {i : Nat} (h : i < l.length) : gt (l ++ [o]) i = gt l i := by
  simp [gt, List.getD_eq_getElem?_getD, List.getElem?_append_left h]
theorem moved_cli {c : Client} {me node parent name : Int} (h : IsCli c me) (h1 : c.life ≠ 0) (h2 : c.pending.length ≠ 8) (h3 : c.time ≠ 10000) (h4 : c.seq ≠ 30) (ho : chkO ⟨c.time + 1, me, node, parent, name, c.life, c.seq + 1⟩ = 0) : IsCli (movedBy c ⟨c.time + 1, me, node, parent, name, c.life, c.seq + 1⟩) me := by
  have hr := h.rng
  have hf := h.few
  have hp := h.pseq
  have hlen : (movedBy c ⟨c.time + 1, me, node, parent, name, c.life, c.seq + 1⟩).pending.length = c.pending.length + 1 := by simp [movedBy]
  refine ⟨h.num, by simp only [movedBy]; omega, by omega, h.view, fun hl => absurd hl h1, h.vers, by rw [hlen]; simp only [movedBy]; omega, fun i hi => ?_⟩
  rw [hlen] at hi
  rcases Nat.lt_or_ge i c.pending.length with hlt | hge
  · have hq := h.pend i hlt
    have hg : gt (movedBy c ⟨c.time + 1, me, node, parent, name, c.life, c.seq + 1⟩).pending i = gt c.pending i := gt_snoc_lt hlt
    have hs := hq.seq
    have ht := hq.time
    refine ⟨by rw [hg]; exact hq.ok, by rw [hg]; exact hq.who, by rw [hg]; exact hq.life, ?_, ?_, fun h0 => ?_⟩
    · rw [hg, hs, hlen]; simp only [movedBy]; omega
    · rw [hg]; simp only [movedBy]; omega
    · rw [hg, show gt (movedBy c ⟨c.time + 1, me, node, parent, name, c.life, c.seq + 1⟩).pending (i - 1) = gt c.pending (i - 1) from gt_snoc_lt (by omega)]
      exact hq.up h0
  · have hi' : i = c.pending.length := by omega
    have hg : gt (movedBy c ⟨c.time + 1, me, node, parent, name, c.life, c.seq + 1⟩).pending i = ⟨c.time + 1, me, node, parent, name, c.life, c.seq + 1⟩ := gt_mid _ _ [] _ hi'
    refine ⟨by rw [hg]; exact ho, by rw [hg], by rw [hg]; rfl, ?_, ?_, fun h0 => ?_⟩
    · rw [hg, hlen]; simp only [movedBy]; omega
    · rw [hg]; simp only [movedBy]; omega
    · rw [hg, show gt (movedBy c ⟨c.time + 1, me, node, parent, name, c.life, c.seq + 1⟩).pending (i - 1) = gt c.pending (i - 1) from gt_snoc_lt (by omega)]
      have := (h.pend (i - 1) (by omega)).time
      show _ < c.time + 1
      omega
end Go.Proofs.Ytchdacbjiomplaa
