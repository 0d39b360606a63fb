/- Part of this claim. No condition. -/
import Derived.Test.YtchdacbjiomplaaW12b
import Derived.Test.YtchdacbjiomplaaW4
set_option linter.unusedVariables false
set_option linter.unusedSimpArgs false
namespace Go.Proofs.Ytchdacbjiomplaa
open Go Go.Proofs.Ytchdacbjiomplaa.Fw Go.Proofs
def delta_Check_U0_2  : Int :=
  0
def delta_Check_L2b (d1 : Delta) : List Place → Nat → Int
  | [], n5 => (delta_Check_U0_2)
  | pn5 :: rn5, n5 => (bif (((((decide ((pn5.node) < 1) || decide ((pn5.node) ≥ 16)) || decide ((pn5.parent) < 0)) || decide ((pn5.parent) > 16)) || decide ((pn5.name) < 0)) || decide ((pn5.name) > 99)) then 3 else (bif ((decide ((n5 : Int) > 0) && decide (((gt d1.wayHere (n5 - 1)).node) ≥ (pn5.node))) || (decide ((pn5.node) ∈ d1.wayGone))) then 6 else (delta_Check_L2b d1 rn5 (n5 + 1))))
def delta_Check_L1b (d1 : Delta) : List Int → Nat → Int
  | [], n4 => (delta_Check_L2b d1 d1.wayHere 0)
  | pn4 :: rn4, n4 => (bif (decide (pn4 < 1) || decide (pn4 ≥ 16)) then 5 else (bif (decide ((n4 : Int) > 0) && decide ((gt d1.wayGone (n4 - 1)) ≥ pn4)) then 6 else (delta_Check_L1b d1 rn4 (n4 + 1))))
def delta_Check_U0_1 (d1 : Delta) : Int :=
  (bif (decide ((d1.wayGone.length : Int) > 16) || decide ((d1.wayHere.length : Int) > 16)) then 2 else (delta_Check_L1b d1 d1.wayGone 0))
def delta_Check_L2a (d1 : Delta) : List Place → Nat → Int
  | [], n3 => (delta_Check_U0_1 d1)
  | pn3 :: rn3, n3 => (bif (((((decide ((pn3.node) < 1) || decide ((pn3.node) ≥ 16)) || decide ((pn3.parent) < 0)) || decide ((pn3.parent) > 16)) || decide ((pn3.name) < 0)) || decide ((pn3.name) > 99)) then 3 else (bif ((decide ((n3 : Int) > 0) && decide (((gt d1.here (n3 - 1)).node) ≥ (pn3.node))) || (decide ((pn3.node) ∈ d1.gone))) then 6 else (delta_Check_L2a d1 rn3 (n3 + 1))))
def delta_Check_L1a (d1 : Delta) : List Int → Nat → Int
  | [], n2 => (delta_Check_L2a d1 d1.here 0)
  | pn2 :: rn2, n2 => (bif (decide (pn2 < 1) || decide (pn2 ≥ 16)) then 5 else (bif (decide ((n2 : Int) > 0) && decide ((gt d1.gone (n2 - 1)) ≥ pn2)) then 6 else (delta_Check_L1a d1 rn2 (n2 + 1))))
def delta_Check_U0_0 (d1 : Delta) : Int :=
  (bif (decide ((d1.gone.length : Int) > 16) || decide ((d1.here.length : Int) > 16)) then 2 else (delta_Check_L1a d1 d1.gone 0))
def delta_Check (d1 : Delta) : Int :=
  (delta_Check_U0_0 d1)
theorem delta_Check_spec (y1 : SlV) (y2 : SlV) (y3 : SlV) (y4 : SlV) (d1 : Delta) : Does Try.prog 60 [.agg ⟨[y1.val d1.gone.length, y2.val d1.here.length, y3.val d1.wayGone.length, y4.val d1.wayHere.length]⟩] [RdL EInt y1 d1.gone, RdL EPlace y2 d1.here, RdL EInt y3 d1.wayGone, RdL EPlace y4 d1.wayHere] (fun (_ : Unit) => .int .i64 (delta_Check d1)) (fun (_ : Unit) => []) := by
  refine does_of tab_ok Try.func60 rfl Try.ntmps60 Try.results60 rfl inferInstance (fun _ => inferInstance) fun C => ?_
  refine cw_pure (φ := d1.gone.length * 8 ≤ 140737488355328) [RdL EInt y1 d1.gone] Sm (fun M w h => (allF1 h).len) fun hlen1 => ?_
  refine cw_pure (φ := d1.here.length * 24 ≤ 140737488355328) [RdL EPlace y2 d1.here] Sm (fun M w h => (allF1 h).len) fun hlen2 => ?_
  refine cw_pure (φ := d1.wayGone.length * 8 ≤ 140737488355328) [RdL EInt y3 d1.wayGone] Sm (fun M w h => (allF1 h).len) fun hlen3 => ?_
  refine cw_pure (φ := d1.wayHere.length * 24 ≤ 140737488355328) [RdL EPlace y4 d1.wayHere] Sm (fun M w h => (allF1 h).len) fun hlen4 => ?_
  (repeat refine cw_seq ?_); refine cw_region ?_
  refine rw_box_agg .sq (guard_none rfl) rfl rfl rfl rfl rfl fun g1 => ?_
  refine Rp rfl rfl rfl rfl ?_
  refine rw_nil ?_
  (repeat refine cw_seq ?_); refine cw_region ?_
  refine Rp rfl rfl rfl rfl ?_
  refine rw_q rfl rfl rfl (q_ld1 rfl rfl (fun _ => rfl) rfl Mm rfl) ?_
  refine Rp rfl rfl rfl rfl ?_
  refine rw_q rfl rfl rfl (q_ld1 rfl rfl (fun _ => rfl) rfl Mm rfl) ?_
  refine rw_q rfl rfl rfl (q_buildA rfl rfl (fun _ => rfl) rfl rfl rfl rfl) ?_
  refine Rp rfl rfl rfl rfl ?_
  refine rw_nil ?_
  (repeat refine cw_seq ?_); refine cw_block ?_
  (repeat refine cw_seq ?_); refine cw_loopS [1, 2, 14] [true] (fun (n1 : Nat) => [(15, .v (.int .i64 (n1 : Int)))]) (fun (n1 : Nat) => []) (fun (n1 : Nat) => []) (fun (n1 : Nat) => []) (fun (n1 : Nat) => (n1 ≤ 2) ∧ (match n1 with | 0 => (delta_Check_U0_0 d1) | 1 => (delta_Check_U0_1 d1) | _ => (delta_Check_U0_2)) = (delta_Check d1)) (fun (n1 : Nat) => 2 - n1) 0 (.cons rfl (.cons rfl (.cons rfl (.nil _)))) (.keep (.nil)) ⟨Nat.zero_le _, (by simp only [delta_Check, cond_true, cond_false] : (delta_Check d1) = (delta_Check_U0_0 d1)).symm⟩ Le4 ?_
  rintro n1 ⟨hkn1, hf1⟩
  simp only [List.cons_append, List.nil_append]
  have hkn13 : n1 = 0 ∨ n1 = 1 ∨ n1 = 2 := by omega
  rcases hkn13 with rfl | rfl | rfl
  · skip
    have hf1 : (delta_Check_U0_0 d1) = (delta_Check d1) := hf1
    (repeat refine cw_seq ?_); refine cw_region ?_
    refine Rp rfl rfl rfl rfl ?_
    refine rw_nil ?_
    (repeat refine cw_seq ?_); refine cw_cond (b := decide ((0 : Int) < 2)) rfl rfl (fun hc1 => ?_) (fun hc1 => ?_)
    · skip
      (repeat refine cw_seq ?_); refine cw_skip ?_
      (repeat refine cw_seq ?_); refine cw_block ?_
      (repeat refine cw_seq ?_); refine cw_region ?_
      refine Rp rfl rfl rfl rfl ?_
      refine rw_q rfl rfl rfl (q_ixL 0 rfl rfl (fun _ => rfl) rfl (fun _ => rfl) rfl rfl rfl rfl rfl) ?_
      refine Rp rfl rfl rfl rfl ?_
      refine Rp rfl rfl rfl rfl ?_
      refine rw_nil ?_
      (repeat refine cw_seq ?_); refine cw_region ?_
      refine Rp rfl rfl rfl rfl ?_
      refine rw_q rfl rfl rfl (q_ld1 rfl rfl (fun _ => rfl) rfl Mm rfl) ?_
      refine Rp rfl rfl rfl rfl ?_
      refine rw_q rfl rfl rfl (q_ld1 rfl rfl (fun _ => rfl) rfl Mm rfl) ?_
      refine rw_q rfl rfl rfl (q_buildA rfl rfl (fun _ => rfl) rfl rfl rfl rfl) ?_
      refine Rp rfl rfl rfl rfl ?_
      refine rw_q rfl rfl rfl (q_ixL 0 rfl rfl (fun _ => rfl) rfl (fun _ => rfl) rfl rfl rfl rfl rfl) ?_
      refine Rp rfl rfl rfl rfl ?_
      refine rw_nil ?_
      (repeat refine cw_seq ?_); refine cw_region ?_
      refine Rp rfl rfl rfl rfl ?_
      refine Rp rfl rfl rfl rfl ?_
      refine Rp rfl rfl rfl rfl ?_
      refine Rp rfl rfl rfl rfl ?_
      refine rw_qg (guard_vf rfl rfl rfl) rfl rfl (q_pev rfl Bt) ?_
      refine rw_qg (guard_vf rfl rfl rfl) rfl rfl (q_pev rfl Bt) ?_
      refine rw_qg (guard_vf rfl rfl rfl) rfl rfl (q_pev rfl Bt) ?_
      refine rw_q rfl rfl rfl (q_pev rfl Bt) ?_
      refine rw_nil ?_
      (repeat refine cw_seq ?_); refine cw_cond (b := (decide ((d1.gone.length : Int) > 16) || decide ((d1.here.length : Int) > 16))) rfl rfl (fun hc2 => ?_) (fun hc2 => ?_)
      · skip
        (repeat refine cw_seq ?_); refine cw_region ?_
        refine Rp rfl rfl rfl rfl ?_
        refine rw_nil ?_
        (repeat refine cw_seq ?_)
        have hr1 : (delta_Check d1) = 2 := by rw [← hf1]; simp only [delta_Check_U0_0, hc2, cond_true, cond_false]
        refine cw_ret ?_
        rw [hr1]
        exact ⟨(), _, (.cons (.tmp rfl) .nil), rfl, Sm, .nil _, .nil _⟩
      · skip
        (repeat refine cw_seq ?_); refine cw_skip ?_
        (repeat refine cw_seq ?_); refine cw_region ?_
        refine Rp rfl rfl rfl rfl ?_
        refine Rp rfl rfl rfl rfl ?_
        refine Rp rfl rfl rfl rfl ?_
        refine rw_nil ?_
        (repeat refine cw_seq ?_); refine cw_block ?_
        (repeat refine cw_seq ?_); refine cw_loopS [1, 2, 3, 4, 5, 14, 15, 16, 17, 18, 19, 20, 21, 22, 23, 24, 25, 26, 27, 28, 29, 33, 34, 35] [true] (fun (n2 : Nat) => [(36, .v (.int .i64 (n2 : Int)))]) (fun (n2 : Nat) => []) (fun (n2 : Nat) => []) (fun (n2 : Nat) => []) (fun (n2 : Nat) => (n2 ≤ d1.gone.length) ∧ (delta_Check_L1a d1 (d1.gone.drop n2) n2) = (delta_Check d1)) (fun (n2 : Nat) => d1.gone.length - n2) 0 (.cons rfl (.cons rfl (.cons rfl (.cons rfl (.cons rfl (.cons rfl (.cons rfl (.cons rfl (.cons rfl (.cons rfl (.cons rfl (.cons rfl (.cons rfl (.cons rfl (.cons rfl (.cons rfl (.cons rfl (.cons rfl (.cons rfl (.cons rfl (.cons rfl (.cons rfl (.cons rfl (.cons rfl (.nil _))))))))))))))))))))))))) (.keep (.nil)) ⟨Nat.zero_le _, (by rw [← hf1]; simp only [delta_Check_U0_0, hc2, cond_true, cond_false] : (delta_Check d1) = (delta_Check_L1a d1 d1.gone 0)).symm⟩ Le4 ?_
        rintro n2 ⟨hkn2, hf2⟩
        simp only [List.cons_append, List.nil_append]
        (repeat refine cw_seq ?_); refine cw_region ?_
        refine Rp rfl rfl rfl rfl ?_
        refine rw_nil ?_
        (repeat refine cw_seq ?_); refine cw_cond (b := decide ((n2 : Int) < (d1.gone.length : Int))) rfl rfl (fun hc3 => ?_) (fun hc3 => ?_)
        · skip
          have hlt1 : n2 < d1.gone.length := Int.ofNat_lt.1 (of_decide_eq_true hc3)
          (repeat refine cw_seq ?_); refine cw_skip ?_
          (repeat refine cw_seq ?_); refine cw_block ?_
          (repeat refine cw_seq ?_); refine cw_region ?_
          refine Rp rfl rfl rfl rfl ?_
          refine rw_q rfl rfl rfl (q_idx EInt n2 rfl rfl (fun _ => rfl) rfl (fun _ => rfl) rfl rfl rfl Mm rfl (fun _ => rfl) (fun _ => by first | assumption | omega)) ?_
          refine rw_q rfl rfl rfl (q_le1 EInt rfl rfl (fun _ => rfl) rfl rfl Mm (fun _ => by first | assumption | omega) rfl) ?_
          refine Rp rfl rfl rfl rfl ?_
          refine Rp rfl rfl rfl rfl ?_
          refine rw_nil ?_
          (repeat refine cw_seq ?_); refine cw_region ?_
          refine Rp rfl rfl rfl rfl ?_
          refine Rp rfl rfl rfl rfl ?_
          refine Rp rfl rfl rfl rfl ?_
          refine rw_qg (guard_vf rfl rfl rfl) rfl rfl (q_pev rfl Bt) ?_
          refine rw_qg (guard_vf rfl rfl rfl) rfl rfl (q_pev rfl Bt) ?_
          refine rw_q rfl rfl rfl (q_pev rfl Bt) ?_
          refine rw_nil ?_
          (repeat refine cw_seq ?_); refine cw_cond (b := (decide ((gt d1.gone n2) < 1) || decide ((gt d1.gone n2) ≥ 16))) rfl rfl (fun hc4 => ?_) (fun hc4 => ?_)
          · skip
            (repeat refine cw_seq ?_); refine cw_region ?_
            refine Rp rfl rfl rfl rfl ?_
            refine rw_nil ?_
            (repeat refine cw_seq ?_)
            have hr2 : (delta_Check d1) = 5 := by rw [← hf2, drop_gt hlt1]; simp only [delta_Check_L1a, hc4, cond_true, cond_false]
            refine cw_ret ?_
            rw [hr2]
            exact ⟨(), _, (.cons (.tmp rfl) .nil), rfl, Sm, .nil _, .nil _⟩
          · skip
            (repeat refine cw_seq ?_); refine cw_skip ?_
            (repeat refine cw_seq ?_); refine cw_region ?_
            refine Rp rfl rfl rfl rfl ?_
            refine Rp rfl rfl rfl rfl ?_
            refine Rp rfl rfl rfl rfl ?_
            refine rw_qg (guard_vt rfl rfl rfl) rfl rfl (q_pev rfl Bt) ?_
            refine rw_qg (guard_vt rfl rfl rfl) rfl rfl (q_pev rfl Bt) ?_
            refine rw_qg (guard_vt rfl rfl rfl) rfl rfl (q_sub rfl rfl Bt rfl Bt (by intro h; first | omega | (simp at h; omega))) ?_
            refine rw_qg (guard_vt rfl rfl rfl) rfl rfl (q_idx EInt (n2 - 1) rfl rfl Bt rfl Bt rfl rfl rfl Mm rfl (by intro h; first | omega | rfl | (simp at h; omega)) (by first | (intro _; first | assumption | omega) | (intro h; simp at h; omega))) ?_
            refine rw_qg (guard_vt rfl rfl rfl) rfl rfl (q_le1 EInt rfl rfl Bt rfl rfl Mm (by first | (intro _; first | assumption | omega) | (intro h; simp at h; omega)) rfl) ?_
            refine rw_qg (guard_vt rfl rfl rfl) rfl rfl (q_pev rfl Bt) ?_
            refine rw_qg (guard_vt rfl rfl rfl) rfl rfl (q_pev rfl Bt) ?_
            refine rw_q rfl rfl rfl (q_pev rfl Bt) ?_
            refine rw_nil ?_
            (repeat refine cw_seq ?_); refine cw_cond (b := (decide ((n2 : Int) > 0) && decide ((gt d1.gone (n2 - 1)) ≥ (gt d1.gone n2)))) rfl rfl (fun hc5 => ?_) (fun hc5 => ?_)
            · skip
              (repeat refine cw_seq ?_); refine cw_region ?_
              refine Rp rfl rfl rfl rfl ?_
              refine rw_nil ?_
              (repeat refine cw_seq ?_)
              have hr3 : (delta_Check d1) = 6 := by rw [← hf2, drop_gt hlt1]; simp only [delta_Check_L1a, hc4, hc5, cond_true, cond_false]
              refine cw_ret ?_
              rw [hr3]
              exact ⟨(), _, (.cons (.tmp rfl) .nil), rfl, Sm, .nil _, .nil _⟩
            · skip
              (repeat refine cw_seq ?_); refine cw_skip ?_
              (repeat refine cw_seq ?_); refine cw_region ?_
              refine rw_q rfl rfl rfl (q_add rfl rfl (fun _ => rfl) rfl (fun _ => rfl) (fun _ => by omega)) ?_
              refine Rp rfl rfl rfl rfl ?_
              refine rw_nil ?_
              refine ⟨(n2 + 1), ⟨hlt1, (by rw [← hf2, drop_gt hlt1]; simp only [delta_Check_L1a, hc4, hc5, cond_true, cond_false] : (delta_Check d1) = (delta_Check_L1a d1 (d1.gone.drop (n2 + 1)) (n2 + 1))).symm⟩, (by simp only []; omega), Le4⟩
        · skip
          have hge1 : d1.gone.length ≤ n2 := by have := of_decide_eq_false hc3; omega
          (repeat refine cw_seq ?_); refine cw_exit ?_
          (repeat refine cw_seq ?_); refine cw_region ?_
          refine Rp rfl rfl rfl rfl ?_
          refine Rp rfl rfl rfl rfl ?_
          refine Rp rfl rfl rfl rfl ?_
          refine rw_nil ?_
          (repeat refine cw_seq ?_); refine cw_block ?_
          (repeat refine cw_seq ?_); refine cw_loopS [1, 2, 3, 4, 5, 14, 15, 16, 17, 18, 19, 20, 21, 22, 23, 24, 25, 26, 27, 28, 29, 33, 34, 35, 36, 37, 59, 60] [true] (fun (n3 : Nat) => [(61, .v (.int .i64 (n3 : Int)))]) (fun (n3 : Nat) => []) (fun (n3 : Nat) => []) (fun (n3 : Nat) => []) (fun (n3 : Nat) => (n3 ≤ d1.here.length) ∧ (delta_Check_L2a d1 (d1.here.drop n3) n3) = (delta_Check d1)) (fun (n3 : Nat) => d1.here.length - n3) 0 (.cons rfl (.cons rfl (.cons rfl (.cons rfl (.cons rfl (.cons rfl (.cons rfl (.cons rfl (.cons rfl (.cons rfl (.cons rfl (.cons rfl (.cons rfl (.cons rfl (.cons rfl (.cons rfl (.cons rfl (.cons rfl (.cons rfl (.cons rfl (.cons rfl (.cons rfl (.cons rfl (.cons rfl (.cons rfl (.cons rfl (.cons rfl (.cons rfl (.nil _))))))))))))))))))))))))))))) (.keep (.nil)) ⟨Nat.zero_le _, (by rw [← hf2, List.drop_of_length_le hge1]; simp only [delta_Check_L1a, cond_true, cond_false] : (delta_Check d1) = (delta_Check_L2a d1 d1.here 0)).symm⟩ Le4 ?_
          rintro n3 ⟨hkn3, hf3⟩
          simp only [List.cons_append, List.nil_append]
          (repeat refine cw_seq ?_); refine cw_region ?_
          refine Rp rfl rfl rfl rfl ?_
          refine rw_nil ?_
          (repeat refine cw_seq ?_); refine cw_cond (b := decide ((n3 : Int) < (d1.here.length : Int))) rfl rfl (fun hc6 => ?_) (fun hc6 => ?_)
          · skip
            have hlt2 : n3 < d1.here.length := Int.ofNat_lt.1 (of_decide_eq_true hc6)
            (repeat refine cw_seq ?_); refine cw_skip ?_
            (repeat refine cw_seq ?_); refine cw_block ?_
            (repeat refine cw_seq ?_); refine cw_region ?_
            refine Rp rfl rfl rfl rfl ?_
            refine rw_q rfl rfl rfl (q_idx EPlace n3 rfl rfl (fun _ => rfl) rfl (fun _ => rfl) rfl rfl rfl Mm rfl (fun _ => rfl) (fun _ => by first | assumption | omega)) ?_
            refine rw_q rfl rfl rfl (q_leA EPlace rfl rfl (fun _ => rfl) rfl rfl Mm (fun _ => by first | assumption | omega)) ?_
            refine rw_alloc .sq (guard_none rfl) rfl rfl rfl rfl fun g2 => ?_
            refine Rp rfl rfl rfl rfl ?_
            refine rw_stA .sq (.inl ⟨_, rfl⟩) (guard_none rfl) rfl rfl rfl rfl rfl rfl rfl rfl rfl Ub rfl ?_
            refine rw_nil ?_
            (repeat refine cw_seq ?_); refine cw_region ?_
            refine Rp rfl rfl rfl rfl ?_
            refine rw_q rfl rfl rfl (q_ld1 rfl rfl (fun _ => rfl) rfl Mm rfl) ?_
            refine Rp rfl rfl rfl rfl ?_
            refine Rp rfl rfl rfl rfl ?_
            refine rw_qg (guard_vf rfl rfl rfl) rfl rfl (q_pev rfl Bt) ?_
            refine rw_qg (guard_vf rfl rfl rfl) rfl rfl (q_ld1 rfl rfl Bt rfl Mm rfl) ?_
            refine rw_qg (guard_vf rfl rfl rfl) rfl rfl (q_pev rfl Bt) ?_
            refine rw_q rfl rfl rfl (q_pev rfl Bt) ?_
            refine Rp rfl rfl rfl rfl ?_
            refine rw_qg (guard_vf rfl rfl rfl) rfl rfl (q_pev rfl Bt) ?_
            refine rw_qg (guard_vf rfl rfl rfl) rfl rfl (q_ld1 rfl rfl Bt rfl Mm rfl) ?_
            refine rw_qg (guard_vf rfl rfl rfl) rfl rfl (q_pev rfl Bt) ?_
            refine rw_q rfl rfl rfl (q_pev rfl Bt) ?_
            refine Rp rfl rfl rfl rfl ?_
            refine rw_qg (guard_vf rfl rfl rfl) rfl rfl (q_pev rfl Bt) ?_
            refine rw_qg (guard_vf rfl rfl rfl) rfl rfl (q_ld1 rfl rfl Bt rfl Mm rfl) ?_
            refine rw_qg (guard_vf rfl rfl rfl) rfl rfl (q_pev rfl Bt) ?_
            refine rw_q rfl rfl rfl (q_pev rfl Bt) ?_
            refine Rp rfl rfl rfl rfl ?_
            refine rw_qg (guard_vf rfl rfl rfl) rfl rfl (q_pev rfl Bt) ?_
            refine rw_qg (guard_vf rfl rfl rfl) rfl rfl (q_ld1 rfl rfl Bt rfl Mm rfl) ?_
            refine rw_qg (guard_vf rfl rfl rfl) rfl rfl (q_pev rfl Bt) ?_
            refine rw_q rfl rfl rfl (q_pev rfl Bt) ?_
            refine Rp rfl rfl rfl rfl ?_
            refine rw_qg (guard_vf rfl rfl rfl) rfl rfl (q_pev rfl Bt) ?_
            refine rw_qg (guard_vf rfl rfl rfl) rfl rfl (q_ld1 rfl rfl Bt rfl Mm rfl) ?_
            refine rw_qg (guard_vf rfl rfl rfl) rfl rfl (q_pev rfl Bt) ?_
            refine rw_q rfl rfl rfl (q_pev rfl Bt) ?_
            refine rw_nil ?_
            (repeat refine cw_seq ?_); refine cw_cond (b := (((((decide (((gt d1.here n3).node) < 1) || decide (((gt d1.here n3).node) ≥ 16)) || decide (((gt d1.here n3).parent) < 0)) || decide (((gt d1.here n3).parent) > 16)) || decide (((gt d1.here n3).name) < 0)) || decide (((gt d1.here n3).name) > 99))) rfl rfl (fun hc7 => ?_) (fun hc7 => ?_)
            · skip
              (repeat refine cw_seq ?_); refine cw_region ?_
              refine Rp rfl rfl rfl rfl ?_
              refine rw_nil ?_
              (repeat refine cw_seq ?_)
              have hr4 : (delta_Check d1) = 3 := by rw [← hf3, drop_gt hlt2]; simp only [delta_Check_L2a, hc7, cond_true, cond_false]
              refine cw_ret ?_
              rw [hr4]
              exact ⟨(), _, (.cons (.tmp rfl) .nil), rfl, Sm, .nil _, .nil _⟩
            · skip
              (repeat refine cw_seq ?_); refine cw_skip ?_
              (repeat refine cw_seq ?_); refine cw_regionA (fun _ => some []) ?_
              refine ra_q (.ab (i := 0) (js := []) [1, 2, 3, 4, 5, 6, 7, 8, 9, 10, 11, 12, 13, 14, 15, 16, 17, 18] rfl Kr Kr Kr Kr Kr) (SplitB.all _) (by simp) rfl rfl rfl (q_pev rfl (fun _ => rfl)) ?_
              refine ra_q (.ab (i := 1) (js := []) [2, 3, 4, 5, 6, 7, 8, 9, 10, 11, 12, 13, 14, 15, 16, 17, 18] rfl Kr Kr Kr Kr Kr) (SplitB.all _) (by simp) rfl rfl rfl (q_pev rfl (fun _ => rfl)) ?_
              refine ra_q (.ab (i := 2) (js := []) [3, 4, 5, 6, 7, 8, 9, 10, 11, 12, 13, 14, 15, 16, 17, 18] rfl Kr Kr Kr Kr Kr) (SplitB.all _) (by simp) rfl rfl rfl (q_pev rfl (fun _ => rfl)) ?_
              refine ra_qg (.ab (i := 3) (js := [4, 5, 9, 10]) [6, 7, 8, 11, 12, 13, 14, 15, 16, 17, 18] rfl Kr Kr Kr Kr Kr) (SplitB.all _) (by simp) (guard_vt rfl rfl rfl) rfl rfl (q_pev rfl Bt) ?_
              refine ra_qg (.ab (i := 4) (js := [9, 10]) [5, 6, 7, 8, 11, 12, 13, 14, 15, 16, 17, 18] rfl Kr Kr Kr Kr Kr) (SplitB.all _) (by simp) (guard_vt rfl rfl rfl) rfl rfl (q_pev rfl Bt) ?_
              refine ra_qg (.ab (i := 5) (js := [9, 10]) [6, 7, 8, 11, 12, 13, 14, 15, 16, 17, 18] rfl Kr Kr Kr Kr Kr) (SplitB.all _) (by simp) (guard_vt rfl rfl rfl) rfl rfl (q_sub rfl rfl Bt rfl Bt (by intro h; first | omega | (simp at h; omega))) ?_
              refine ra_qg (.ab (i := 6) (js := [9, 10]) [7, 8, 11, 12, 13, 14, 15, 16, 17, 18] rfl Kr Kr Kr Kr Kr) (SplitB.all _) (by simp) (guard_vt rfl rfl rfl) rfl rfl (q_idx EPlace (n3 - 1) rfl rfl Bt rfl Bt rfl rfl rfl Mm rfl (by intro h; first | omega | rfl | (simp at h; omega)) (by first | (intro _; first | assumption | omega) | (intro h; simp at h; omega))) ?_
              refine ra_qg (.ab (i := 7) (js := [9, 10]) [8, 11, 12, 13, 14, 15, 16, 17, 18] rfl Kr Kr Kr Kr Kr) (SplitB.all _) (by simp) (guard_vt rfl rfl rfl) rfl rfl (q_fae rfl rfl Bt rfl rfl) ?_
              refine ra_qg (.ab (i := 8) (js := [9, 10]) [11, 12, 13, 14, 15, 16, 17, 18] rfl Kr Kr Kr Kr Kr) (SplitB.all _) (by simp) (guard_vt rfl rfl rfl) rfl rfl (q_le1 EPlace rfl rfl Bt rfl rfl Mm (by first | (intro _; first | assumption | omega) | (intro h; simp at h; omega)) rfl) ?_
              refine ra_qg (.ab (i := 9) (js := []) [10, 11, 12, 13, 14, 15, 16, 17, 18] rfl Kr Kr Kr Kr Kr) (SplitB.all _) (by simp) (guard_vt rfl rfl rfl) rfl rfl (q_pev rfl Bt) ?_
              refine ra_qg (.ab (i := 10) (js := []) [11, 12, 13, 14, 15, 16, 17, 18] rfl Kr Kr Kr Kr Kr) (SplitB.all _) (by simp) (guard_vt rfl rfl rfl) rfl rfl (q_ld1 rfl rfl Bt rfl Mm rfl) ?_
              refine ra_qg (.ab (i := 11) (js := []) [12, 13, 14, 15, 16, 17, 18] rfl Kr Kr Kr Kr Kr) (SplitB.all _) (by simp) (guard_vt rfl rfl rfl) rfl rfl (q_pev rfl Bt) ?_
              refine ra_q (.ab (i := 12) (js := []) [13, 14, 15, 16, 17, 18] rfl Kr Kr Kr Kr Kr) (SplitB.all _) (by simp) rfl rfl rfl (q_pev rfl Bt) ?_
              refine ra_q (.an (i := 13) (js := []) rfl Kr Kr Kr Kr) (SplitB.all _) (by simp) rfl rfl rfl (q_pev rfl (fun _ => rfl)) ?_
              refine ra_qg (.ab (i := 14) (js := [15, 16]) [17, 18] rfl Kr Kr Kr Kr Kr) (SplitB.all _) (by simp) (guard_vf rfl rfl rfl) rfl rfl (q_pev rfl Bt) ?_
              refine ra_qg (.ab (i := 15) (js := []) [16, 17, 18] rfl Kr Kr Kr Kr Kr) (SplitB.all _) (by simp) (guard_vf rfl rfl rfl) rfl rfl (q_pev rfl Bt) ?_
              refine ra_qg (.ab (i := 16) (js := []) [17, 18] rfl Kr Kr Kr Kr Kr) (SplitB.all _) (by simp) (guard_vf rfl rfl rfl) rfl rfl (q_ld1 rfl rfl Bt rfl Mm rfl) ?_
              refine ra_one 17 Kr ?_
              refine rw_callg (fun hG_ => slices_Contains_int_spec' y1 d1.gone ((gt d1.here n3).node)) (fun _ => rfl) (.an rfl rfl) (guard_vf rfl rfl rfl) rfl rfl rfl Kr rfl Bt Sm ?_
              refine ra_q (.an (i := 18) (js := []) rfl Kr Kr Kr Kr) (SplitB.all _) (by simp) rfl rfl rfl (q_pev rfl Bt) ?_
              refine ra_nil Kr ?_
              (repeat refine cw_seq ?_); refine cw_cond (b := ((decide ((n3 : Int) > 0) && decide (((gt d1.here (n3 - 1)).node) ≥ ((gt d1.here n3).node))) || (decide (((gt d1.here n3).node) ∈ d1.gone)))) rfl rfl (fun hc8 => ?_) (fun hc8 => ?_)
              · skip
                (repeat refine cw_seq ?_); refine cw_region ?_
                refine Rp rfl rfl rfl rfl ?_
                refine rw_nil ?_
                (repeat refine cw_seq ?_)
                have hr5 : (delta_Check d1) = 6 := by rw [← hf3, drop_gt hlt2]; simp only [delta_Check_L2a, hc7, hc8, cond_true, cond_false]
                refine cw_ret ?_
                rw [hr5]
                exact ⟨(), _, (.cons (.tmp rfl) .nil), rfl, Sm, .nil _, .nil _⟩
              · skip
                (repeat refine cw_seq ?_); refine cw_skip ?_
                (repeat refine cw_seq ?_); refine cw_region ?_
                refine rw_q rfl rfl rfl (q_add rfl rfl (fun _ => rfl) rfl (fun _ => rfl) (fun _ => by omega)) ?_
                refine Rp rfl rfl rfl rfl ?_
                refine rw_nil ?_
                refine ⟨(n3 + 1), ⟨hlt2, (by rw [← hf3, drop_gt hlt2]; simp only [delta_Check_L2a, hc7, hc8, cond_true, cond_false] : (delta_Check d1) = (delta_Check_L2a d1 (d1.here.drop (n3 + 1)) (n3 + 1))).symm⟩, (by simp only []; omega), Le4⟩
          · skip
            have hge2 : d1.here.length ≤ n3 := by have := of_decide_eq_false hc6; omega
            (repeat refine cw_seq ?_); refine cw_exit ?_
            (repeat refine cw_seq ?_); refine cw_region ?_
            refine rw_q rfl rfl rfl (q_add rfl rfl (fun _ => rfl) rfl (fun _ => rfl) (fun _ => by decide)) ?_
            refine Rp rfl rfl rfl rfl ?_
            refine rw_nil ?_
            refine ⟨1, ⟨by omega, (by rw [← hf3, List.drop_of_length_le hge2]; simp only [delta_Check_L2a, cond_true, cond_false] : (delta_Check d1) = (delta_Check_U0_1 d1)).symm⟩, (by decide), Le4⟩
    · skip
      exact Bool.noConfusion (hc1.symm.trans (decide_eq_true (by decide)))
  · skip
    have hf1 : (delta_Check_U0_1 d1) = (delta_Check d1) := hf1
    (repeat refine cw_seq ?_); refine cw_region ?_
    refine Rp rfl rfl rfl rfl ?_
    refine rw_nil ?_
    (repeat refine cw_seq ?_); refine cw_cond (b := decide ((1 : Int) < 2)) rfl rfl (fun hc9 => ?_) (fun hc9 => ?_)
    · skip
      (repeat refine cw_seq ?_); refine cw_skip ?_
      (repeat refine cw_seq ?_); refine cw_block ?_
      (repeat refine cw_seq ?_); refine cw_region ?_
      refine Rp rfl rfl rfl rfl ?_
      refine rw_q rfl rfl rfl (q_ixL 1 rfl rfl (fun _ => rfl) rfl (fun _ => rfl) rfl rfl rfl rfl rfl) ?_
      refine Rp rfl rfl rfl rfl ?_
      refine Rp rfl rfl rfl rfl ?_
      refine rw_nil ?_
      (repeat refine cw_seq ?_); refine cw_region ?_
      refine Rp rfl rfl rfl rfl ?_
      refine rw_q rfl rfl rfl (q_ld1 rfl rfl (fun _ => rfl) rfl Mm rfl) ?_
      refine Rp rfl rfl rfl rfl ?_
      refine rw_q rfl rfl rfl (q_ld1 rfl rfl (fun _ => rfl) rfl Mm rfl) ?_
      refine rw_q rfl rfl rfl (q_buildA rfl rfl (fun _ => rfl) rfl rfl rfl rfl) ?_
      refine Rp rfl rfl rfl rfl ?_
      refine rw_q rfl rfl rfl (q_ixL 1 rfl rfl (fun _ => rfl) rfl (fun _ => rfl) rfl rfl rfl rfl rfl) ?_
      refine Rp rfl rfl rfl rfl ?_
      refine rw_nil ?_
      (repeat refine cw_seq ?_); refine cw_region ?_
      refine Rp rfl rfl rfl rfl ?_
      refine Rp rfl rfl rfl rfl ?_
      refine Rp rfl rfl rfl rfl ?_
      refine Rp rfl rfl rfl rfl ?_
      refine rw_qg (guard_vf rfl rfl rfl) rfl rfl (q_pev rfl Bt) ?_
      refine rw_qg (guard_vf rfl rfl rfl) rfl rfl (q_pev rfl Bt) ?_
      refine rw_qg (guard_vf rfl rfl rfl) rfl rfl (q_pev rfl Bt) ?_
      refine rw_q rfl rfl rfl (q_pev rfl Bt) ?_
      refine rw_nil ?_
      (repeat refine cw_seq ?_); refine cw_cond (b := (decide ((d1.wayGone.length : Int) > 16) || decide ((d1.wayHere.length : Int) > 16))) rfl rfl (fun hc10 => ?_) (fun hc10 => ?_)
      · skip
        (repeat refine cw_seq ?_); refine cw_region ?_
        refine Rp rfl rfl rfl rfl ?_
        refine rw_nil ?_
        (repeat refine cw_seq ?_)
        have hr6 : (delta_Check d1) = 2 := by rw [← hf1]; simp only [delta_Check_U0_1, hc10, cond_true, cond_false]
        refine cw_ret ?_
        rw [hr6]
        exact ⟨(), _, (.cons (.tmp rfl) .nil), rfl, Sm, .nil _, .nil _⟩
      · skip
        (repeat refine cw_seq ?_); refine cw_skip ?_
        (repeat refine cw_seq ?_); refine cw_region ?_
        refine Rp rfl rfl rfl rfl ?_
        refine Rp rfl rfl rfl rfl ?_
        refine Rp rfl rfl rfl rfl ?_
        refine rw_nil ?_
        (repeat refine cw_seq ?_); refine cw_block ?_
        (repeat refine cw_seq ?_); refine cw_loopS [1, 2, 3, 4, 5, 14, 15, 16, 17, 18, 19, 20, 21, 22, 23, 24, 25, 26, 27, 28, 29, 33, 34, 35] [true] (fun (n4 : Nat) => [(36, .v (.int .i64 (n4 : Int)))]) (fun (n4 : Nat) => []) (fun (n4 : Nat) => []) (fun (n4 : Nat) => []) (fun (n4 : Nat) => (n4 ≤ d1.wayGone.length) ∧ (delta_Check_L1b d1 (d1.wayGone.drop n4) n4) = (delta_Check d1)) (fun (n4 : Nat) => d1.wayGone.length - n4) 0 (.cons rfl (.cons rfl (.cons rfl (.cons rfl (.cons rfl (.cons rfl (.cons rfl (.cons rfl (.cons rfl (.cons rfl (.cons rfl (.cons rfl (.cons rfl (.cons rfl (.cons rfl (.cons rfl (.cons rfl (.cons rfl (.cons rfl (.cons rfl (.cons rfl (.cons rfl (.cons rfl (.cons rfl (.nil _))))))))))))))))))))))))) (.keep (.nil)) ⟨Nat.zero_le _, (by rw [← hf1]; simp only [delta_Check_U0_1, hc10, cond_true, cond_false] : (delta_Check d1) = (delta_Check_L1b d1 d1.wayGone 0)).symm⟩ Le4 ?_
        rintro n4 ⟨hkn4, hf4⟩
        simp only [List.cons_append, List.nil_append]
        (repeat refine cw_seq ?_); refine cw_region ?_
        refine Rp rfl rfl rfl rfl ?_
        refine rw_nil ?_
        (repeat refine cw_seq ?_); refine cw_cond (b := decide ((n4 : Int) < (d1.wayGone.length : Int))) rfl rfl (fun hc11 => ?_) (fun hc11 => ?_)
        · skip
          have hlt1 : n4 < d1.wayGone.length := Int.ofNat_lt.1 (of_decide_eq_true hc11)
          (repeat refine cw_seq ?_); refine cw_skip ?_
          (repeat refine cw_seq ?_); refine cw_block ?_
          (repeat refine cw_seq ?_); refine cw_region ?_
          refine Rp rfl rfl rfl rfl ?_
          refine rw_q rfl rfl rfl (q_idx EInt n4 rfl rfl (fun _ => rfl) rfl (fun _ => rfl) rfl rfl rfl Mm rfl (fun _ => rfl) (fun _ => by first | assumption | omega)) ?_
          refine rw_q rfl rfl rfl (q_le1 EInt rfl rfl (fun _ => rfl) rfl rfl Mm (fun _ => by first | assumption | omega) rfl) ?_
          refine Rp rfl rfl rfl rfl ?_
          refine Rp rfl rfl rfl rfl ?_
          refine rw_nil ?_
          (repeat refine cw_seq ?_); refine cw_region ?_
          refine Rp rfl rfl rfl rfl ?_
          refine Rp rfl rfl rfl rfl ?_
          refine Rp rfl rfl rfl rfl ?_
          refine rw_qg (guard_vf rfl rfl rfl) rfl rfl (q_pev rfl Bt) ?_
          refine rw_qg (guard_vf rfl rfl rfl) rfl rfl (q_pev rfl Bt) ?_
          refine rw_q rfl rfl rfl (q_pev rfl Bt) ?_
          refine rw_nil ?_
          (repeat refine cw_seq ?_); refine cw_cond (b := (decide ((gt d1.wayGone n4) < 1) || decide ((gt d1.wayGone n4) ≥ 16))) rfl rfl (fun hc12 => ?_) (fun hc12 => ?_)
          · skip
            (repeat refine cw_seq ?_); refine cw_region ?_
            refine Rp rfl rfl rfl rfl ?_
            refine rw_nil ?_
            (repeat refine cw_seq ?_)
            have hr7 : (delta_Check d1) = 5 := by rw [← hf4, drop_gt hlt1]; simp only [delta_Check_L1b, hc12, cond_true, cond_false]
            refine cw_ret ?_
            rw [hr7]
            exact ⟨(), _, (.cons (.tmp rfl) .nil), rfl, Sm, .nil _, .nil _⟩
          · skip
            (repeat refine cw_seq ?_); refine cw_skip ?_
            (repeat refine cw_seq ?_); refine cw_region ?_
            refine Rp rfl rfl rfl rfl ?_
            refine Rp rfl rfl rfl rfl ?_
            refine Rp rfl rfl rfl rfl ?_
            refine rw_qg (guard_vt rfl rfl rfl) rfl rfl (q_pev rfl Bt) ?_
            refine rw_qg (guard_vt rfl rfl rfl) rfl rfl (q_pev rfl Bt) ?_
            refine rw_qg (guard_vt rfl rfl rfl) rfl rfl (q_sub rfl rfl Bt rfl Bt (by intro h; first | omega | (simp at h; omega))) ?_
            refine rw_qg (guard_vt rfl rfl rfl) rfl rfl (q_idx EInt (n4 - 1) rfl rfl Bt rfl Bt rfl rfl rfl Mm rfl (by intro h; first | omega | rfl | (simp at h; omega)) (by first | (intro _; first | assumption | omega) | (intro h; simp at h; omega))) ?_
            refine rw_qg (guard_vt rfl rfl rfl) rfl rfl (q_le1 EInt rfl rfl Bt rfl rfl Mm (by first | (intro _; first | assumption | omega) | (intro h; simp at h; omega)) rfl) ?_
            refine rw_qg (guard_vt rfl rfl rfl) rfl rfl (q_pev rfl Bt) ?_
            refine rw_qg (guard_vt rfl rfl rfl) rfl rfl (q_pev rfl Bt) ?_
            refine rw_q rfl rfl rfl (q_pev rfl Bt) ?_
            refine rw_nil ?_
            (repeat refine cw_seq ?_); refine cw_cond (b := (decide ((n4 : Int) > 0) && decide ((gt d1.wayGone (n4 - 1)) ≥ (gt d1.wayGone n4)))) rfl rfl (fun hc13 => ?_) (fun hc13 => ?_)
            · skip
              (repeat refine cw_seq ?_); refine cw_region ?_
              refine Rp rfl rfl rfl rfl ?_
              refine rw_nil ?_
              (repeat refine cw_seq ?_)
              have hr8 : (delta_Check d1) = 6 := by rw [← hf4, drop_gt hlt1]; simp only [delta_Check_L1b, hc12, hc13, cond_true, cond_false]
              refine cw_ret ?_
              rw [hr8]
              exact ⟨(), _, (.cons (.tmp rfl) .nil), rfl, Sm, .nil _, .nil _⟩
            · skip
              (repeat refine cw_seq ?_); refine cw_skip ?_
              (repeat refine cw_seq ?_); refine cw_region ?_
              refine rw_q rfl rfl rfl (q_add rfl rfl (fun _ => rfl) rfl (fun _ => rfl) (fun _ => by omega)) ?_
              refine Rp rfl rfl rfl rfl ?_
              refine rw_nil ?_
              refine ⟨(n4 + 1), ⟨hlt1, (by rw [← hf4, drop_gt hlt1]; simp only [delta_Check_L1b, hc12, hc13, cond_true, cond_false] : (delta_Check d1) = (delta_Check_L1b d1 (d1.wayGone.drop (n4 + 1)) (n4 + 1))).symm⟩, (by simp only []; omega), Le4⟩
        · skip
          have hge1 : d1.wayGone.length ≤ n4 := by have := of_decide_eq_false hc11; omega
          (repeat refine cw_seq ?_); refine cw_exit ?_
          (repeat refine cw_seq ?_); refine cw_region ?_
          refine Rp rfl rfl rfl rfl ?_
          refine Rp rfl rfl rfl rfl ?_
          refine Rp rfl rfl rfl rfl ?_
          refine rw_nil ?_
          (repeat refine cw_seq ?_); refine cw_block ?_
          (repeat refine cw_seq ?_); refine cw_loopS [1, 2, 3, 4, 5, 14, 15, 16, 17, 18, 19, 20, 21, 22, 23, 24, 25, 26, 27, 28, 29, 33, 34, 35, 36, 37, 59, 60] [true] (fun (n5 : Nat) => [(61, .v (.int .i64 (n5 : Int)))]) (fun (n5 : Nat) => []) (fun (n5 : Nat) => []) (fun (n5 : Nat) => []) (fun (n5 : Nat) => (n5 ≤ d1.wayHere.length) ∧ (delta_Check_L2b d1 (d1.wayHere.drop n5) n5) = (delta_Check d1)) (fun (n5 : Nat) => d1.wayHere.length - n5) 0 (.cons rfl (.cons rfl (.cons rfl (.cons rfl (.cons rfl (.cons rfl (.cons rfl (.cons rfl (.cons rfl (.cons rfl (.cons rfl (.cons rfl (.cons rfl (.cons rfl (.cons rfl (.cons rfl (.cons rfl (.cons rfl (.cons rfl (.cons rfl (.cons rfl (.cons rfl (.cons rfl (.cons rfl (.cons rfl (.cons rfl (.cons rfl (.cons rfl (.nil _))))))))))))))))))))))))))))) (.keep (.nil)) ⟨Nat.zero_le _, (by rw [← hf4, List.drop_of_length_le hge1]; simp only [delta_Check_L1b, cond_true, cond_false] : (delta_Check d1) = (delta_Check_L2b d1 d1.wayHere 0)).symm⟩ Le4 ?_
          rintro n5 ⟨hkn5, hf5⟩
          simp only [List.cons_append, List.nil_append]
          (repeat refine cw_seq ?_); refine cw_region ?_
          refine Rp rfl rfl rfl rfl ?_
          refine rw_nil ?_
          (repeat refine cw_seq ?_); refine cw_cond (b := decide ((n5 : Int) < (d1.wayHere.length : Int))) rfl rfl (fun hc14 => ?_) (fun hc14 => ?_)
          · skip
            have hlt2 : n5 < d1.wayHere.length := Int.ofNat_lt.1 (of_decide_eq_true hc14)
            (repeat refine cw_seq ?_); refine cw_skip ?_
            (repeat refine cw_seq ?_); refine cw_block ?_
            (repeat refine cw_seq ?_); refine cw_region ?_
            refine Rp rfl rfl rfl rfl ?_
            refine rw_q rfl rfl rfl (q_idx EPlace n5 rfl rfl (fun _ => rfl) rfl (fun _ => rfl) rfl rfl rfl Mm rfl (fun _ => rfl) (fun _ => by first | assumption | omega)) ?_
            refine rw_q rfl rfl rfl (q_leA EPlace rfl rfl (fun _ => rfl) rfl rfl Mm (fun _ => by first | assumption | omega)) ?_
            refine rw_alloc .sq (guard_none rfl) rfl rfl rfl rfl fun g3 => ?_
            refine Rp rfl rfl rfl rfl ?_
            refine rw_stA .sq (.inl ⟨_, rfl⟩) (guard_none rfl) rfl rfl rfl rfl rfl rfl rfl rfl rfl Ub rfl ?_
            refine rw_nil ?_
            (repeat refine cw_seq ?_); refine cw_region ?_
            refine Rp rfl rfl rfl rfl ?_
            refine rw_q rfl rfl rfl (q_ld1 rfl rfl (fun _ => rfl) rfl Mm rfl) ?_
            refine Rp rfl rfl rfl rfl ?_
            refine Rp rfl rfl rfl rfl ?_
            refine rw_qg (guard_vf rfl rfl rfl) rfl rfl (q_pev rfl Bt) ?_
            refine rw_qg (guard_vf rfl rfl rfl) rfl rfl (q_ld1 rfl rfl Bt rfl Mm rfl) ?_
            refine rw_qg (guard_vf rfl rfl rfl) rfl rfl (q_pev rfl Bt) ?_
            refine rw_q rfl rfl rfl (q_pev rfl Bt) ?_
            refine Rp rfl rfl rfl rfl ?_
            refine rw_qg (guard_vf rfl rfl rfl) rfl rfl (q_pev rfl Bt) ?_
            refine rw_qg (guard_vf rfl rfl rfl) rfl rfl (q_ld1 rfl rfl Bt rfl Mm rfl) ?_
            refine rw_qg (guard_vf rfl rfl rfl) rfl rfl (q_pev rfl Bt) ?_
            refine rw_q rfl rfl rfl (q_pev rfl Bt) ?_
            refine Rp rfl rfl rfl rfl ?_
            refine rw_qg (guard_vf rfl rfl rfl) rfl rfl (q_pev rfl Bt) ?_
            refine rw_qg (guard_vf rfl rfl rfl) rfl rfl (q_ld1 rfl rfl Bt rfl Mm rfl) ?_
            refine rw_qg (guard_vf rfl rfl rfl) rfl rfl (q_pev rfl Bt) ?_
            refine rw_q rfl rfl rfl (q_pev rfl Bt) ?_
            refine Rp rfl rfl rfl rfl ?_
            refine rw_qg (guard_vf rfl rfl rfl) rfl rfl (q_pev rfl Bt) ?_
            refine rw_qg (guard_vf rfl rfl rfl) rfl rfl (q_ld1 rfl rfl Bt rfl Mm rfl) ?_
            refine rw_qg (guard_vf rfl rfl rfl) rfl rfl (q_pev rfl Bt) ?_
            refine rw_q rfl rfl rfl (q_pev rfl Bt) ?_
            refine Rp rfl rfl rfl rfl ?_
            refine rw_qg (guard_vf rfl rfl rfl) rfl rfl (q_pev rfl Bt) ?_
            refine rw_qg (guard_vf rfl rfl rfl) rfl rfl (q_ld1 rfl rfl Bt rfl Mm rfl) ?_
            refine rw_qg (guard_vf rfl rfl rfl) rfl rfl (q_pev rfl Bt) ?_
            refine rw_q rfl rfl rfl (q_pev rfl Bt) ?_
            refine rw_nil ?_
            (repeat refine cw_seq ?_); refine cw_cond (b := (((((decide (((gt d1.wayHere n5).node) < 1) || decide (((gt d1.wayHere n5).node) ≥ 16)) || decide (((gt d1.wayHere n5).parent) < 0)) || decide (((gt d1.wayHere n5).parent) > 16)) || decide (((gt d1.wayHere n5).name) < 0)) || decide (((gt d1.wayHere n5).name) > 99))) rfl rfl (fun hc15 => ?_) (fun hc15 => ?_)
            · skip
              (repeat refine cw_seq ?_); refine cw_region ?_
              refine Rp rfl rfl rfl rfl ?_
              refine rw_nil ?_
              (repeat refine cw_seq ?_)
              have hr9 : (delta_Check d1) = 3 := by rw [← hf5, drop_gt hlt2]; simp only [delta_Check_L2b, hc15, cond_true, cond_false]
              refine cw_ret ?_
              rw [hr9]
              exact ⟨(), _, (.cons (.tmp rfl) .nil), rfl, Sm, .nil _, .nil _⟩
            · skip
              (repeat refine cw_seq ?_); refine cw_skip ?_
              (repeat refine cw_seq ?_); refine cw_regionA (fun _ => some []) ?_
              refine ra_q (.ab (i := 0) (js := []) [1, 2, 3, 4, 5, 6, 7, 8, 9, 10, 11, 12, 13, 14, 15, 16, 17, 18] rfl Kr Kr Kr Kr Kr) (SplitB.all _) (by simp) rfl rfl rfl (q_pev rfl (fun _ => rfl)) ?_
              refine ra_q (.ab (i := 1) (js := []) [2, 3, 4, 5, 6, 7, 8, 9, 10, 11, 12, 13, 14, 15, 16, 17, 18] rfl Kr Kr Kr Kr Kr) (SplitB.all _) (by simp) rfl rfl rfl (q_pev rfl (fun _ => rfl)) ?_
              refine ra_q (.ab (i := 2) (js := []) [3, 4, 5, 6, 7, 8, 9, 10, 11, 12, 13, 14, 15, 16, 17, 18] rfl Kr Kr Kr Kr Kr) (SplitB.all _) (by simp) rfl rfl rfl (q_pev rfl (fun _ => rfl)) ?_
              refine ra_qg (.ab (i := 3) (js := [4, 5, 9, 10]) [6, 7, 8, 11, 12, 13, 14, 15, 16, 17, 18] rfl Kr Kr Kr Kr Kr) (SplitB.all _) (by simp) (guard_vt rfl rfl rfl) rfl rfl (q_pev rfl Bt) ?_
              refine ra_qg (.ab (i := 4) (js := [9, 10]) [5, 6, 7, 8, 11, 12, 13, 14, 15, 16, 17, 18] rfl Kr Kr Kr Kr Kr) (SplitB.all _) (by simp) (guard_vt rfl rfl rfl) rfl rfl (q_pev rfl Bt) ?_
              refine ra_qg (.ab (i := 5) (js := [9, 10]) [6, 7, 8, 11, 12, 13, 14, 15, 16, 17, 18] rfl Kr Kr Kr Kr Kr) (SplitB.all _) (by simp) (guard_vt rfl rfl rfl) rfl rfl (q_sub rfl rfl Bt rfl Bt (by intro h; first | omega | (simp at h; omega))) ?_
              refine ra_qg (.ab (i := 6) (js := [9, 10]) [7, 8, 11, 12, 13, 14, 15, 16, 17, 18] rfl Kr Kr Kr Kr Kr) (SplitB.all _) (by simp) (guard_vt rfl rfl rfl) rfl rfl (q_idx EPlace (n5 - 1) rfl rfl Bt rfl Bt rfl rfl rfl Mm rfl (by intro h; first | omega | rfl | (simp at h; omega)) (by first | (intro _; first | assumption | omega) | (intro h; simp at h; omega))) ?_
              refine ra_qg (.ab (i := 7) (js := [9, 10]) [8, 11, 12, 13, 14, 15, 16, 17, 18] rfl Kr Kr Kr Kr Kr) (SplitB.all _) (by simp) (guard_vt rfl rfl rfl) rfl rfl (q_fae rfl rfl Bt rfl rfl) ?_
              refine ra_qg (.ab (i := 8) (js := [9, 10]) [11, 12, 13, 14, 15, 16, 17, 18] rfl Kr Kr Kr Kr Kr) (SplitB.all _) (by simp) (guard_vt rfl rfl rfl) rfl rfl (q_le1 EPlace rfl rfl Bt rfl rfl Mm (by first | (intro _; first | assumption | omega) | (intro h; simp at h; omega)) rfl) ?_
              refine ra_qg (.ab (i := 9) (js := []) [10, 11, 12, 13, 14, 15, 16, 17, 18] rfl Kr Kr Kr Kr Kr) (SplitB.all _) (by simp) (guard_vt rfl rfl rfl) rfl rfl (q_pev rfl Bt) ?_
              refine ra_qg (.ab (i := 10) (js := []) [11, 12, 13, 14, 15, 16, 17, 18] rfl Kr Kr Kr Kr Kr) (SplitB.all _) (by simp) (guard_vt rfl rfl rfl) rfl rfl (q_ld1 rfl rfl Bt rfl Mm rfl) ?_
              refine ra_qg (.ab (i := 11) (js := []) [12, 13, 14, 15, 16, 17, 18] rfl Kr Kr Kr Kr Kr) (SplitB.all _) (by simp) (guard_vt rfl rfl rfl) rfl rfl (q_pev rfl Bt) ?_
              refine ra_q (.ab (i := 12) (js := []) [13, 14, 15, 16, 17, 18] rfl Kr Kr Kr Kr Kr) (SplitB.all _) (by simp) rfl rfl rfl (q_pev rfl Bt) ?_
              refine ra_q (.an (i := 13) (js := []) rfl Kr Kr Kr Kr) (SplitB.all _) (by simp) rfl rfl rfl (q_pev rfl (fun _ => rfl)) ?_
              refine ra_qg (.ab (i := 14) (js := [15, 16]) [17, 18] rfl Kr Kr Kr Kr Kr) (SplitB.all _) (by simp) (guard_vf rfl rfl rfl) rfl rfl (q_pev rfl Bt) ?_
              refine ra_qg (.ab (i := 15) (js := []) [16, 17, 18] rfl Kr Kr Kr Kr Kr) (SplitB.all _) (by simp) (guard_vf rfl rfl rfl) rfl rfl (q_pev rfl Bt) ?_
              refine ra_qg (.ab (i := 16) (js := []) [17, 18] rfl Kr Kr Kr Kr Kr) (SplitB.all _) (by simp) (guard_vf rfl rfl rfl) rfl rfl (q_ld1 rfl rfl Bt rfl Mm rfl) ?_
              refine ra_one 17 Kr ?_
              refine rw_callg (fun hG_ => slices_Contains_int_spec' y3 d1.wayGone ((gt d1.wayHere n5).node)) (fun _ => rfl) (.an rfl rfl) (guard_vf rfl rfl rfl) rfl rfl rfl Kr rfl Bt Sm ?_
              refine ra_q (.an (i := 18) (js := []) rfl Kr Kr Kr Kr) (SplitB.all _) (by simp) rfl rfl rfl (q_pev rfl Bt) ?_
              refine ra_nil Kr ?_
              (repeat refine cw_seq ?_); refine cw_cond (b := ((decide ((n5 : Int) > 0) && decide (((gt d1.wayHere (n5 - 1)).node) ≥ ((gt d1.wayHere n5).node))) || (decide (((gt d1.wayHere n5).node) ∈ d1.wayGone)))) rfl rfl (fun hc16 => ?_) (fun hc16 => ?_)
              · skip
                (repeat refine cw_seq ?_); refine cw_region ?_
                refine Rp rfl rfl rfl rfl ?_
                refine rw_nil ?_
                (repeat refine cw_seq ?_)
                have hr10 : (delta_Check d1) = 6 := by rw [← hf5, drop_gt hlt2]; simp only [delta_Check_L2b, hc15, hc16, cond_true, cond_false]
                refine cw_ret ?_
                rw [hr10]
                exact ⟨(), _, (.cons (.tmp rfl) .nil), rfl, Sm, .nil _, .nil _⟩
              · skip
                (repeat refine cw_seq ?_); refine cw_skip ?_
                (repeat refine cw_seq ?_); refine cw_region ?_
                refine rw_q rfl rfl rfl (q_add rfl rfl (fun _ => rfl) rfl (fun _ => rfl) (fun _ => by omega)) ?_
                refine Rp rfl rfl rfl rfl ?_
                refine rw_nil ?_
                refine ⟨(n5 + 1), ⟨hlt2, (by rw [← hf5, drop_gt hlt2]; simp only [delta_Check_L2b, hc15, hc16, cond_true, cond_false] : (delta_Check d1) = (delta_Check_L2b d1 (d1.wayHere.drop (n5 + 1)) (n5 + 1))).symm⟩, (by simp only []; omega), Le4⟩
          · skip
            have hge2 : d1.wayHere.length ≤ n5 := by have := of_decide_eq_false hc14; omega
            (repeat refine cw_seq ?_); refine cw_exit ?_
            (repeat refine cw_seq ?_); refine cw_region ?_
            refine rw_q rfl rfl rfl (q_add rfl rfl (fun _ => rfl) rfl (fun _ => rfl) (fun _ => by decide)) ?_
            refine Rp rfl rfl rfl rfl ?_
            refine rw_nil ?_
            refine ⟨2, ⟨by omega, (by rw [← hf5, List.drop_of_length_le hge2]; simp only [delta_Check_L2b, cond_true, cond_false] : (delta_Check d1) = (delta_Check_U0_2)).symm⟩, (by decide), Le4⟩
    · skip
      exact Bool.noConfusion (hc9.symm.trans (decide_eq_true (by decide)))
  · skip
    have hf1 : (delta_Check_U0_2) = (delta_Check d1) := hf1
    (repeat refine cw_seq ?_); refine cw_region ?_
    refine Rp rfl rfl rfl rfl ?_
    refine rw_nil ?_
    (repeat refine cw_seq ?_); refine cw_cond (b := decide ((2 : Int) < 2)) rfl rfl (fun hc17 => ?_) (fun hc17 => ?_)
    · skip
      exact Bool.noConfusion (hc17.symm.trans (decide_eq_false (by decide)))
    · skip
      (repeat refine cw_seq ?_); refine cw_exit ?_
      (repeat refine cw_seq ?_); refine cw_region ?_
      refine Rp rfl rfl rfl rfl ?_
      refine rw_nil ?_
      (repeat refine cw_seq ?_)
      have hr11 : (delta_Check d1) = 0 := by rw [← hf1]; simp only [delta_Check_U0_2, cond_true, cond_false]
      refine cw_ret ?_
      rw [hr11]
      exact ⟨(), _, (.cons (.tmp rfl) .nil), rfl, Sm, .nil _, .nil _⟩

def delta_Same (a1 : Delta) (b1 : Delta) : Bool :=
  ((((decide (a1.gone = b1.gone)) && (decide (a1.here = b1.here))) && (decide (a1.wayGone = b1.wayGone))) && (decide (a1.wayHere = b1.wayHere)))
theorem delta_Same_spec (y1 : SlV) (y2 : SlV) (y3 : SlV) (y4 : SlV) (a1 : Delta) (y5 : SlV) (y6 : SlV) (y7 : SlV) (y8 : SlV) (b1 : Delta) : Does Try.prog 64 [.agg ⟨[y1.val a1.gone.length, y2.val a1.here.length, y3.val a1.wayGone.length, y4.val a1.wayHere.length]⟩, .agg ⟨[y5.val b1.gone.length, y6.val b1.here.length, y7.val b1.wayGone.length, y8.val b1.wayHere.length]⟩] [RdL EInt y1 a1.gone, RdL EPlace y2 a1.here, RdL EInt y3 a1.wayGone, RdL EPlace y4 a1.wayHere, RdL EInt y5 b1.gone, RdL EPlace y6 b1.here, RdL EInt y7 b1.wayGone, RdL EPlace y8 b1.wayHere] (fun (_ : Unit) => .bool (delta_Same a1 b1)) (fun (_ : Unit) => []) := by
  refine does_of tab_ok Try.func64 rfl Try.ntmps64 Try.results64 rfl inferInstance (fun _ => inferInstance) fun C => ?_
  refine cw_pure (φ := a1.gone.length * 8 ≤ 140737488355328) [RdL EInt y1 a1.gone] Sm (fun M w h => (allF1 h).len) fun hlen1 => ?_
  refine cw_pure (φ := a1.here.length * 24 ≤ 140737488355328) [RdL EPlace y2 a1.here] Sm (fun M w h => (allF1 h).len) fun hlen2 => ?_
  refine cw_pure (φ := a1.wayGone.length * 8 ≤ 140737488355328) [RdL EInt y3 a1.wayGone] Sm (fun M w h => (allF1 h).len) fun hlen3 => ?_
  refine cw_pure (φ := a1.wayHere.length * 24 ≤ 140737488355328) [RdL EPlace y4 a1.wayHere] Sm (fun M w h => (allF1 h).len) fun hlen4 => ?_
  refine cw_pure (φ := b1.gone.length * 8 ≤ 140737488355328) [RdL EInt y5 b1.gone] Sm (fun M w h => (allF1 h).len) fun hlen5 => ?_
  refine cw_pure (φ := b1.here.length * 24 ≤ 140737488355328) [RdL EPlace y6 b1.here] Sm (fun M w h => (allF1 h).len) fun hlen6 => ?_
  refine cw_pure (φ := b1.wayGone.length * 8 ≤ 140737488355328) [RdL EInt y7 b1.wayGone] Sm (fun M w h => (allF1 h).len) fun hlen7 => ?_
  refine cw_pure (φ := b1.wayHere.length * 24 ≤ 140737488355328) [RdL EPlace y8 b1.wayHere] Sm (fun M w h => (allF1 h).len) fun hlen8 => ?_
  (repeat refine cw_seq ?_); refine cw_region ?_
  refine rw_box_agg .sq (guard_none rfl) rfl rfl rfl rfl rfl fun g1 => ?_
  refine rw_box_agg .sq (guard_none rfl) rfl rfl rfl rfl rfl fun g2 => ?_
  refine Rp rfl rfl rfl rfl ?_
  refine rw_nil ?_
  (repeat refine cw_seq ?_); refine cw_region ?_
  refine Rp rfl rfl rfl rfl ?_
  refine rw_q rfl rfl rfl (q_ld1 rfl rfl (fun _ => rfl) rfl Mm rfl) ?_
  refine Rp rfl rfl rfl rfl ?_
  refine rw_q rfl rfl rfl (q_ld1 rfl rfl (fun _ => rfl) rfl Mm rfl) ?_
  refine rw_call ((fun y1 a y2 b => slices_Equal_Int_spec' y1 y2 a b) y1 a1.gone y5 b1.gone) .sq (guard_none rfl) rfl rfl rfl Kr rfl rfl Sm ?_
  intro _
  refine Rp rfl rfl rfl rfl ?_
  refine rw_qg (guard_vt rfl rfl rfl) rfl rfl (q_pev rfl Bt) ?_
  refine rw_qg (guard_vt rfl rfl rfl) rfl rfl (q_ld1 rfl rfl Bt rfl Mm rfl) ?_
  refine rw_qg (guard_vt rfl rfl rfl) rfl rfl (q_pev rfl Bt) ?_
  refine rw_qg (guard_vt rfl rfl rfl) rfl rfl (q_ld1 rfl rfl Bt rfl Mm rfl) ?_
  refine rw_callg (fun hG_ => (fun y1 a y2 b => slices_Equal_Place_spec' y1 y2 a b) y2 a1.here y6 b1.here) (fun _ => rfl) .sq (guard_vt rfl rfl rfl) rfl rfl rfl Kr rfl Bt Sm ?_
  refine rw_q rfl rfl rfl (q_pev rfl Bt) ?_
  refine Rp rfl rfl rfl rfl ?_
  refine rw_qg (guard_vt rfl rfl rfl) rfl rfl (q_pev rfl Bt) ?_
  refine rw_qg (guard_vt rfl rfl rfl) rfl rfl (q_ld1 rfl rfl Bt rfl Mm rfl) ?_
  refine rw_qg (guard_vt rfl rfl rfl) rfl rfl (q_pev rfl Bt) ?_
  refine rw_qg (guard_vt rfl rfl rfl) rfl rfl (q_ld1 rfl rfl Bt rfl Mm rfl) ?_
  refine rw_callg (fun hG_ => (fun y1 a y2 b => slices_Equal_Int_spec' y1 y2 a b) y3 a1.wayGone y7 b1.wayGone) (fun _ => rfl) .sq (guard_vt rfl rfl rfl) rfl rfl rfl Kr rfl Bt Sm ?_
  refine rw_q rfl rfl rfl (q_pev rfl Bt) ?_
  refine Rp rfl rfl rfl rfl ?_
  refine rw_qg (guard_vt rfl rfl rfl) rfl rfl (q_pev rfl Bt) ?_
  refine rw_qg (guard_vt rfl rfl rfl) rfl rfl (q_ld1 rfl rfl Bt rfl Mm rfl) ?_
  refine rw_qg (guard_vt rfl rfl rfl) rfl rfl (q_pev rfl Bt) ?_
  refine rw_qg (guard_vt rfl rfl rfl) rfl rfl (q_ld1 rfl rfl Bt rfl Mm rfl) ?_
  refine rw_callg (fun hG_ => (fun y1 a y2 b => slices_Equal_Place_spec' y1 y2 a b) y4 a1.wayHere y8 b1.wayHere) (fun _ => rfl) .sq (guard_vt rfl rfl rfl) rfl rfl rfl Kr rfl Bt Sm ?_
  refine rw_q rfl rfl rfl (q_pev rfl Bt) ?_
  refine Rp rfl rfl rfl rfl ?_
  refine rw_nil ?_
  (repeat refine cw_seq ?_)
  have hr1 : (delta_Same a1 b1) = ((((decide (a1.gone = b1.gone)) && (decide (a1.here = b1.here))) && (decide (a1.wayGone = b1.wayGone))) && (decide (a1.wayHere = b1.wayHere))) := by simp only [delta_Same, cond_true, cond_false]
  refine cw_ret ?_
  rw [hr1]
  exact ⟨(), _, (.cons (.tmp rfl) .nil), rfl, Sm, .nil _, .nil _⟩
end Go.Proofs.Ytchdacbjiomplaa
