/- Part of this claim. No condition. -/
import Derived.Test.YtchdacbjiomplaaWV
import Derived.Test.YtchdacbjiomplaaWB
set_option linter.unusedVariables false
set_option linter.unusedSimpArgs false
set_option maxHeartbeats 2000000
namespace Go.Proofs.Ytchdacbjiomplaa
open Go Go.Proofs.Ytchdacbjiomplaa.Fw Go.Proofs
attribute [local irreducible] RW CW
def delta_Check_U0_2  : Int :=
  0
def delta_Check_L2b (d1 : Delta) : List Place → Nat → Int
  | [], n5 => (delta_Check_U0_2)
  | pn5 :: rn5, n5 => (bif (((((decide ((pn5.node) < 1) || decide ((pn5.node) ≥ 16)) || decide ((pn5.parent) < 0)) || decide ((pn5.parent) > 16)) || decide ((pn5.name) < 0)) || decide ((pn5.name) > 99)) then 3 else (bif ((decide ((n5 : Int) > 0) && decide (((gt d1.wayHere (n5 - 1)).node) ≥ (pn5.node))) || (decide ((pn5.node) ∈ d1.wayGone))) then 6 else (delta_Check_L2b d1 rn5 (n5 + 1))))
def delta_Check_L1b (d1 : Delta) : List Int → Nat → Int
  | [], n4 => (delta_Check_L2b d1 d1.wayHere 0)
  | pn4 :: rn4, n4 => (bif (decide (pn4 < 1) || decide (pn4 ≥ 16)) then 5 else (bif (decide ((n4 : Int) > 0) && decide ((gt d1.wayGone (n4 - 1)) ≥ pn4)) then 6 else (delta_Check_L1b d1 rn4 (n4 + 1))))
def delta_Check_U0_1 (d1 : Delta) : Int :=
  (bif (decide ((d1.wayGone.length : Int) > 16) || decide ((d1.wayHere.length : Int) > 16)) then 2 else (delta_Check_L1b d1 d1.wayGone 0))
def delta_Check_L2a (d1 : Delta) : List Place → Nat → Int
  | [], n3 => (delta_Check_U0_1 d1)
  | pn3 :: rn3, n3 => (bif (((((decide ((pn3.node) < 1) || decide ((pn3.node) ≥ 16)) || decide ((pn3.parent) < 0)) || decide ((pn3.parent) > 16)) || decide ((pn3.name) < 0)) || decide ((pn3.name) > 99)) then 3 else (bif ((decide ((n3 : Int) > 0) && decide (((gt d1.here (n3 - 1)).node) ≥ (pn3.node))) || (decide ((pn3.node) ∈ d1.gone))) then 6 else (delta_Check_L2a d1 rn3 (n3 + 1))))
def delta_Check_L1a (d1 : Delta) : List Int → Nat → Int
  | [], n2 => (delta_Check_L2a d1 d1.here 0)
  | pn2 :: rn2, n2 => (bif (decide (pn2 < 1) || decide (pn2 ≥ 16)) then 5 else (bif (decide ((n2 : Int) > 0) && decide ((gt d1.gone (n2 - 1)) ≥ pn2)) then 6 else (delta_Check_L1a d1 rn2 (n2 + 1))))
def delta_Check_U0_0 (d1 : Delta) : Int :=
  (bif (decide ((d1.gone.length : Int) > 16) || decide ((d1.here.length : Int) > 16)) then 2 else (delta_Check_L1a d1 d1.gone 0))
def delta_Check (d1 : Delta) : Int :=
  (delta_Check_U0_0 d1)
theorem delta_Check_spec (y1 : SlV) (y2 : SlV) (y3 : SlV) (y4 : SlV) (d1 : Delta) : Does Try.prog 60 [.agg ⟨[y1.val d1.gone.length, y2.val d1.here.length, y3.val d1.wayGone.length, y4.val d1.wayHere.length]⟩] [RdL EInt y1 d1.gone, RdL EPlace y2 d1.here, RdL EInt y3 d1.wayGone, RdL EPlace y4 d1.wayHere] (fun (_ : Unit) => .int .i64 (delta_Check d1)) (fun (_ : Unit) => []) := by
  refine does_of tab_ok Try.func60 rfl Try.ntmps60 Try.results60 rfl inferInstance (fun _ => inferInstance) fun C => ?_
  refine Pc EInt y1 d1.gone 8 fun hlen1 => ?_
  refine Pc EPlace y2 d1.here 24 fun hlen2 => ?_
  refine Pc EInt y3 d1.wayGone 8 fun hlen3 => ?_
  refine Pc EPlace y4 d1.wayHere 24 fun hlen4 => ?_
  refine Tx ?_
  refine Bx fun g1 => ?_
  refine Tx ?_
  refine rw_q rfl rfl rfl (q_buildA rfl rfl (fun _ => rfl) rfl rfl rfl rfl) ?_
  refine Tx ?_
  (repeat refine cw_seq ?_); refine Lp [1,2,14] [true] (fun (n1 : Nat) => (⟨[(15, .v (.int .i64 (n1 : Int)))], [], [], [], (n1 ≤ 2) ∧ (match n1 with | 0 => (delta_Check_U0_0 d1) | 1 => (delta_Check_U0_1 d1) | _ => (delta_Check_U0_2)) = (delta_Check d1), 2 - n1⟩ : Ls)) 0 (Sc (Sc (Sc Sn))) (.keep (.nil)) ⟨Nat.zero_le _, (by simp only [delta_Check, cond_true, cond_false] : (delta_Check d1) = (delta_Check_U0_0 d1)).symm⟩ Le4 ?_
  rintro n1 ⟨hkn1, hf1⟩
  simp only [List.cons_append, List.nil_append]
  have hkn13 : n1 = 0 ∨ n1 = 1 ∨ n1 = 2 := by omega
  rcases hkn13 with rfl | rfl | rfl
  · have hf1 : (delta_Check_U0_0 d1) = (delta_Check d1) := hf1
    refine Tx ?_
    refine Cd (b := decide ((0 : Int) < 2)) (fun hc1 => ?_) fun hc1 => ?_
    · refine Tx ?_
      refine rw_q rfl rfl rfl (q_ixL 0 rfl rfl (fun _ => rfl) rfl (fun _ => rfl) rfl rfl rfl rfl rfl) ?_
      refine Tx ?_
      refine rw_q rfl rfl rfl (q_buildA rfl rfl (fun _ => rfl) rfl rfl rfl rfl) ?_
      refine Rp rfl rfl rfl rfl ?_
      refine rw_q rfl rfl rfl (q_ixL 0 rfl rfl (fun _ => rfl) rfl (fun _ => rfl) rfl rfl rfl rfl rfl) ?_
      refine Tx ?_
      refine Cd (b := (decide ((d1.gone.length : Int) > 16) || decide ((d1.here.length : Int) > 16))) (fun hc2 => ?_) fun hc2 => ?_
      · refine Tx ?_
        have hr1 : (delta_Check d1) = 2 := by rw [← hf1]; simp only [delta_Check_U0_0, hc2, cond_true, cond_false]
        refine cw_ret ?_; rw [hr1]; exact Re () (Vt Vn)
      · refine Tx ?_
        (repeat refine cw_seq ?_); refine Lp [1,2,3,4,5,14,15,16,17,18,19,20,21,22,23,24,25,26,27,28,29,33,34,35] [true] (fun (n2 : Nat) => (⟨[(36, .v (.int .i64 (n2 : Int)))], [], [], [], (n2 ≤ d1.gone.length) ∧ (delta_Check_L1a d1 (d1.gone.drop n2) n2) = (delta_Check d1), d1.gone.length - n2⟩ : Ls)) 0 (Sc (Sc (Sc (Sc (Sc (Sc (Sc (Sc (Sc (Sc (Sc (Sc (Sc (Sc (Sc (Sc (Sc (Sc (Sc (Sc (Sc (Sc (Sc (Sc Sn)))))))))))))))))))))))) (.keep (.nil)) ⟨Nat.zero_le _, (by rw [← hf1]; simp only [delta_Check_U0_0, hc2, cond_true, cond_false] : (delta_Check d1) = (delta_Check_L1a d1 d1.gone 0)).symm⟩ Le4 ?_
        rintro n2 ⟨hkn2, hf2⟩
        simp only [List.cons_append, List.nil_append]
        refine Tx ?_
        refine Cd (b := decide ((n2 : Int) < (d1.gone.length : Int))) (fun hc3 => ?_) fun hc3 => ?_
        · have hlt1 : n2 < d1.gone.length := Int.ofNat_lt.1 (of_decide_eq_true hc3)
          refine Tx ?_
          refine rw_q rfl rfl rfl (q_idx EInt n2 rfl rfl (fun _ => rfl) rfl (fun _ => rfl) rfl rfl rfl Mm rfl (fun _ => rfl) (fun _ => by first | assumption | omega)) ?_
          refine rw_q rfl rfl rfl (q_le1 EInt rfl rfl (fun _ => rfl) rfl rfl Mm (fun _ => by first | assumption | omega) rfl) ?_
          refine Tx ?_
          refine Cd (b := (decide ((gt d1.gone n2) < 1) || decide ((gt d1.gone n2) ≥ 16))) (fun hc4 => ?_) fun hc4 => ?_
          · refine Tx ?_
            have hr2 : (delta_Check d1) = 5 := by rw [← hf2, drop_gt hlt1]; simp only [delta_Check_L1a, hc4, cond_true, cond_false]
            refine cw_ret ?_; rw [hr2]; exact Re () (Vt Vn)
          · refine Tx ?_
            refine rw_qg (guard_vt rfl rfl rfl) rfl rfl (q_sub rfl rfl Bt rfl Bt (by intro h; first | omega | (simp at h; omega))) ?_
            refine rw_qg (guard_vt rfl rfl rfl) rfl rfl (q_idx EInt (n2 - 1) rfl rfl Bt rfl Bt rfl rfl rfl Mm rfl (by intro h; first | omega | rfl | (simp at h; omega)) (by first | (intro _; first | assumption | omega) | (intro h; simp at h; omega))) ?_
            refine rw_qg (guard_vt rfl rfl rfl) rfl rfl (q_le1 EInt rfl rfl Bt rfl rfl Mm (by first | (intro _; first | assumption | omega) | (intro h; simp at h; omega)) rfl) ?_
            refine Tx ?_
            refine Cd (b := (decide ((n2 : Int) > 0) && decide ((gt d1.gone (n2 - 1)) ≥ (gt d1.gone n2)))) (fun hc5 => ?_) fun hc5 => ?_
            · refine Tx ?_
              have hr3 : (delta_Check d1) = 6 := by rw [← hf2, drop_gt hlt1]; simp only [delta_Check_L1a, hc4, hc5, cond_true, cond_false]
              refine cw_ret ?_; rw [hr3]; exact Re () (Vt Vn)
            · refine Tx ?_
              refine rw_q rfl rfl rfl (q_add rfl rfl (fun _ => rfl) rfl (fun _ => rfl) (fun _ => by omega)) ?_
              refine Tx ?_
              refine ⟨(n2 + 1), ⟨hlt1, (by rw [← hf2, drop_gt hlt1]; simp only [delta_Check_L1a, hc4, hc5, cond_true, cond_false] : (delta_Check d1) = (delta_Check_L1a d1 (d1.gone.drop (n2 + 1)) (n2 + 1))).symm⟩, (by simp only []; omega), Le4⟩
        · have hge1 : d1.gone.length ≤ n2 := by have := of_decide_eq_false hc3; omega
          refine Tx ?_
          (repeat refine cw_seq ?_); refine Lp [1,2,3,4,5,14,15,16,17,18,19,20,21,22,23,24,25,26,27,28,29,33,34,35,36,37,59,60] [true] (fun (n3 : Nat) => (⟨[(61, .v (.int .i64 (n3 : Int)))], [], [], [], (n3 ≤ d1.here.length) ∧ (delta_Check_L2a d1 (d1.here.drop n3) n3) = (delta_Check d1), d1.here.length - n3⟩ : Ls)) 0 (Sc (Sc (Sc (Sc (Sc (Sc (Sc (Sc (Sc (Sc (Sc (Sc (Sc (Sc (Sc (Sc (Sc (Sc (Sc (Sc (Sc (Sc (Sc (Sc (Sc (Sc (Sc (Sc Sn)))))))))))))))))))))))))))) (.keep (.nil)) ⟨Nat.zero_le _, (by rw [← hf2, List.drop_of_length_le hge1]; simp only [delta_Check_L1a, cond_true, cond_false] : (delta_Check d1) = (delta_Check_L2a d1 d1.here 0)).symm⟩ Le4 ?_
          rintro n3 ⟨hkn3, hf3⟩
          simp only [List.cons_append, List.nil_append]
          refine Tx ?_
          refine Cd (b := decide ((n3 : Int) < (d1.here.length : Int))) (fun hc6 => ?_) fun hc6 => ?_
          · have hlt2 : n3 < d1.here.length := Int.ofNat_lt.1 (of_decide_eq_true hc6)
            refine Tx ?_
            refine rw_q rfl rfl rfl (q_idx EPlace n3 rfl rfl (fun _ => rfl) rfl (fun _ => rfl) rfl rfl rfl Mm rfl (fun _ => rfl) (fun _ => by first | assumption | omega)) ?_
            refine rw_q rfl rfl rfl (q_leA EPlace rfl rfl (fun _ => rfl) rfl rfl Mm (fun _ => by first | assumption | omega)) ?_
            refine Al fun g2 => ?_
            refine Tx ?_
            refine Cd (b := (((((decide (((gt d1.here n3).node) < 1) || decide (((gt d1.here n3).node) ≥ 16)) || decide (((gt d1.here n3).parent) < 0)) || decide (((gt d1.here n3).parent) > 16)) || decide (((gt d1.here n3).name) < 0)) || decide (((gt d1.here n3).name) > 99))) (fun hc7 => ?_) fun hc7 => ?_
            · refine Tx ?_
              have hr4 : (delta_Check d1) = 3 := by rw [← hf3, drop_gt hlt2]; simp only [delta_Check_L2a, hc7, cond_true, cond_false]
              refine cw_ret ?_; rw [hr4]; exact Re () (Vt Vn)
            · refine Tx ?_
              (repeat refine cw_seq ?_); refine cw_regionA (fun _ => some []) ?_
              refine Rb 0 [] [1,2,3,4,5,6,7,8,9,10,11,12,13,14,15,16,17,18] rfl Qp ?_
              refine Rb 1 [] [2,3,4,5,6,7,8,9,10,11,12,13,14,15,16,17,18] rfl Qp ?_
              refine Rb 2 [] [3,4,5,6,7,8,9,10,11,12,13,14,15,16,17,18] rfl Qp ?_
              refine Gb 3 [4,5,9,10] [6,7,8,11,12,13,14,15,16,17,18] rfl (guard_vt rfl rfl rfl) (q_pev rfl Bt) ?_
              refine Gb 4 [9,10] [5,6,7,8,11,12,13,14,15,16,17,18] rfl (guard_vt rfl rfl rfl) (q_pev rfl Bt) ?_
              refine Gb 5 [9,10] [6,7,8,11,12,13,14,15,16,17,18] rfl (guard_vt rfl rfl rfl) (q_sub rfl rfl Bt rfl Bt (by intro h; first | omega | (simp at h; omega))) ?_
              refine Gb 6 [9,10] [7,8,11,12,13,14,15,16,17,18] rfl (guard_vt rfl rfl rfl) (q_idx EPlace (n3 - 1) rfl rfl Bt rfl Bt rfl rfl rfl Mm rfl (by intro h; first | omega | rfl | (simp at h; omega)) (by first | (intro _; first | assumption | omega) | (intro h; simp at h; omega))) ?_
              refine Gb 7 [9,10] [8,11,12,13,14,15,16,17,18] rfl (guard_vt rfl rfl rfl) (q_fae rfl rfl Bt rfl rfl) ?_
              refine Gb 8 [9,10] [11,12,13,14,15,16,17,18] rfl (guard_vt rfl rfl rfl) (q_le1 EPlace rfl rfl Bt rfl rfl Mm (by first | (intro _; first | assumption | omega) | (intro h; simp at h; omega)) rfl) ?_
              refine Gb 9 [] [10,11,12,13,14,15,16,17,18] rfl (guard_vt rfl rfl rfl) (q_pev rfl Bt) ?_
              refine Gb 10 [] [11,12,13,14,15,16,17,18] rfl (guard_vt rfl rfl rfl) (q_ld1 rfl rfl Bt rfl Mm rfl) ?_
              refine Gb 11 [] [12,13,14,15,16,17,18] rfl (guard_vt rfl rfl rfl) (q_pev rfl Bt) ?_
              refine Rb 12 [] [13,14,15,16,17,18] rfl (q_pev rfl Bt) ?_
              refine Ra 13 [] rfl Qp ?_
              refine Gb 14 [15,16] [17,18] rfl (guard_vf rfl rfl rfl) (q_pev rfl Bt) ?_
              refine Gb 15 [] [16,17,18] rfl (guard_vf rfl rfl rfl) (q_pev rfl Bt) ?_
              refine Gb 16 [] [17,18] rfl (guard_vf rfl rfl rfl) (q_ld1 rfl rfl Bt rfl Mm rfl) ?_
              refine ra_one 17 Kr ?_
              refine rw_callg (fun hG_ => slices_Contains_int_spec' y1 d1.gone ((gt d1.here n3).node)) (fun _ => rfl) (.an rfl rfl) (guard_vf rfl rfl rfl) rfl rfl rfl Kr rfl Bt Sm ?_
              refine Ra 18 [] rfl (q_pev rfl Bt) ?_
              refine ra_nil Kr ?_
              (repeat refine cw_seq ?_)
              refine Cd (b := ((decide ((n3 : Int) > 0) && decide (((gt d1.here (n3 - 1)).node) ≥ ((gt d1.here n3).node))) || (decide (((gt d1.here n3).node) ∈ d1.gone)))) (fun hc8 => ?_) fun hc8 => ?_
              · refine Tx ?_
                have hr5 : (delta_Check d1) = 6 := by rw [← hf3, drop_gt hlt2]; simp only [delta_Check_L2a, hc7, hc8, cond_true, cond_false]
                refine cw_ret ?_; rw [hr5]; exact Re () (Vt Vn)
              · refine Tx ?_
                refine rw_q rfl rfl rfl (q_add rfl rfl (fun _ => rfl) rfl (fun _ => rfl) (fun _ => by omega)) ?_
                refine Tx ?_
                refine ⟨(n3 + 1), ⟨hlt2, (by rw [← hf3, drop_gt hlt2]; simp only [delta_Check_L2a, hc7, hc8, cond_true, cond_false] : (delta_Check d1) = (delta_Check_L2a d1 (d1.here.drop (n3 + 1)) (n3 + 1))).symm⟩, (by simp only []; omega), Le4⟩
          · have hge2 : d1.here.length ≤ n3 := by have := of_decide_eq_false hc6; omega
            refine Tx ?_
            refine rw_q rfl rfl rfl (q_add rfl rfl (fun _ => rfl) rfl (fun _ => rfl) (fun _ => by decide)) ?_
            refine Tx ?_
            refine ⟨1, ⟨by omega, (by rw [← hf3, List.drop_of_length_le hge2]; simp only [delta_Check_L2a, cond_true, cond_false] : (delta_Check d1) = (delta_Check_U0_1 d1)).symm⟩, (show 2 - 1 < 2 - 0 by decide), Le4⟩
    · exact Bool.noConfusion (hc1.symm.trans (decide_eq_true (by decide)))
  · have hf1 : (delta_Check_U0_1 d1) = (delta_Check d1) := hf1
    refine Tx ?_
    refine Cd (b := decide ((1 : Int) < 2)) (fun hc9 => ?_) fun hc9 => ?_
    · refine Tx ?_
      refine rw_q rfl rfl rfl (q_ixL 1 rfl rfl (fun _ => rfl) rfl (fun _ => rfl) rfl rfl rfl rfl rfl) ?_
      refine Tx ?_
      refine rw_q rfl rfl rfl (q_buildA rfl rfl (fun _ => rfl) rfl rfl rfl rfl) ?_
      refine Rp rfl rfl rfl rfl ?_
      refine rw_q rfl rfl rfl (q_ixL 1 rfl rfl (fun _ => rfl) rfl (fun _ => rfl) rfl rfl rfl rfl rfl) ?_
      refine Tx ?_
      refine Cd (b := (decide ((d1.wayGone.length : Int) > 16) || decide ((d1.wayHere.length : Int) > 16))) (fun hc10 => ?_) fun hc10 => ?_
      · refine Tx ?_
        have hr6 : (delta_Check d1) = 2 := by rw [← hf1]; simp only [delta_Check_U0_1, hc10, cond_true, cond_false]
        refine cw_ret ?_; rw [hr6]; exact Re () (Vt Vn)
      · refine Tx ?_
        (repeat refine cw_seq ?_); refine Lp [1,2,3,4,5,14,15,16,17,18,19,20,21,22,23,24,25,26,27,28,29,33,34,35] [true] (fun (n4 : Nat) => (⟨[(36, .v (.int .i64 (n4 : Int)))], [], [], [], (n4 ≤ d1.wayGone.length) ∧ (delta_Check_L1b d1 (d1.wayGone.drop n4) n4) = (delta_Check d1), d1.wayGone.length - n4⟩ : Ls)) 0 (Sc (Sc (Sc (Sc (Sc (Sc (Sc (Sc (Sc (Sc (Sc (Sc (Sc (Sc (Sc (Sc (Sc (Sc (Sc (Sc (Sc (Sc (Sc (Sc Sn)))))))))))))))))))))))) (.keep (.nil)) ⟨Nat.zero_le _, (by rw [← hf1]; simp only [delta_Check_U0_1, hc10, cond_true, cond_false] : (delta_Check d1) = (delta_Check_L1b d1 d1.wayGone 0)).symm⟩ Le4 ?_
        rintro n4 ⟨hkn4, hf4⟩
        simp only [List.cons_append, List.nil_append]
        refine Tx ?_
        refine Cd (b := decide ((n4 : Int) < (d1.wayGone.length : Int))) (fun hc11 => ?_) fun hc11 => ?_
        · have hlt1 : n4 < d1.wayGone.length := Int.ofNat_lt.1 (of_decide_eq_true hc11)
          refine Tx ?_
          refine rw_q rfl rfl rfl (q_idx EInt n4 rfl rfl (fun _ => rfl) rfl (fun _ => rfl) rfl rfl rfl Mm rfl (fun _ => rfl) (fun _ => by first | assumption | omega)) ?_
          refine rw_q rfl rfl rfl (q_le1 EInt rfl rfl (fun _ => rfl) rfl rfl Mm (fun _ => by first | assumption | omega) rfl) ?_
          refine Tx ?_
          refine Cd (b := (decide ((gt d1.wayGone n4) < 1) || decide ((gt d1.wayGone n4) ≥ 16))) (fun hc12 => ?_) fun hc12 => ?_
          · refine Tx ?_
            have hr7 : (delta_Check d1) = 5 := by rw [← hf4, drop_gt hlt1]; simp only [delta_Check_L1b, hc12, cond_true, cond_false]
            refine cw_ret ?_; rw [hr7]; exact Re () (Vt Vn)
          · refine Tx ?_
            refine rw_qg (guard_vt rfl rfl rfl) rfl rfl (q_sub rfl rfl Bt rfl Bt (by intro h; first | omega | (simp at h; omega))) ?_
            refine rw_qg (guard_vt rfl rfl rfl) rfl rfl (q_idx EInt (n4 - 1) rfl rfl Bt rfl Bt rfl rfl rfl Mm rfl (by intro h; first | omega | rfl | (simp at h; omega)) (by first | (intro _; first | assumption | omega) | (intro h; simp at h; omega))) ?_
            refine rw_qg (guard_vt rfl rfl rfl) rfl rfl (q_le1 EInt rfl rfl Bt rfl rfl Mm (by first | (intro _; first | assumption | omega) | (intro h; simp at h; omega)) rfl) ?_
            refine Tx ?_
            refine Cd (b := (decide ((n4 : Int) > 0) && decide ((gt d1.wayGone (n4 - 1)) ≥ (gt d1.wayGone n4)))) (fun hc13 => ?_) fun hc13 => ?_
            · refine Tx ?_
              have hr8 : (delta_Check d1) = 6 := by rw [← hf4, drop_gt hlt1]; simp only [delta_Check_L1b, hc12, hc13, cond_true, cond_false]
              refine cw_ret ?_; rw [hr8]; exact Re () (Vt Vn)
            · refine Tx ?_
              refine rw_q rfl rfl rfl (q_add rfl rfl (fun _ => rfl) rfl (fun _ => rfl) (fun _ => by omega)) ?_
              refine Tx ?_
              refine ⟨(n4 + 1), ⟨hlt1, (by rw [← hf4, drop_gt hlt1]; simp only [delta_Check_L1b, hc12, hc13, cond_true, cond_false] : (delta_Check d1) = (delta_Check_L1b d1 (d1.wayGone.drop (n4 + 1)) (n4 + 1))).symm⟩, (by simp only []; omega), Le4⟩
        · have hge1 : d1.wayGone.length ≤ n4 := by have := of_decide_eq_false hc11; omega
          refine Tx ?_
          (repeat refine cw_seq ?_); refine Lp [1,2,3,4,5,14,15,16,17,18,19,20,21,22,23,24,25,26,27,28,29,33,34,35,36,37,59,60] [true] (fun (n5 : Nat) => (⟨[(61, .v (.int .i64 (n5 : Int)))], [], [], [], (n5 ≤ d1.wayHere.length) ∧ (delta_Check_L2b d1 (d1.wayHere.drop n5) n5) = (delta_Check d1), d1.wayHere.length - n5⟩ : Ls)) 0 (Sc (Sc (Sc (Sc (Sc (Sc (Sc (Sc (Sc (Sc (Sc (Sc (Sc (Sc (Sc (Sc (Sc (Sc (Sc (Sc (Sc (Sc (Sc (Sc (Sc (Sc (Sc (Sc Sn)))))))))))))))))))))))))))) (.keep (.nil)) ⟨Nat.zero_le _, (by rw [← hf4, List.drop_of_length_le hge1]; simp only [delta_Check_L1b, cond_true, cond_false] : (delta_Check d1) = (delta_Check_L2b d1 d1.wayHere 0)).symm⟩ Le4 ?_
          rintro n5 ⟨hkn5, hf5⟩
          simp only [List.cons_append, List.nil_append]
          refine Tx ?_
          refine Cd (b := decide ((n5 : Int) < (d1.wayHere.length : Int))) (fun hc14 => ?_) fun hc14 => ?_
          · have hlt2 : n5 < d1.wayHere.length := Int.ofNat_lt.1 (of_decide_eq_true hc14)
            refine Tx ?_
            refine rw_q rfl rfl rfl (q_idx EPlace n5 rfl rfl (fun _ => rfl) rfl (fun _ => rfl) rfl rfl rfl Mm rfl (fun _ => rfl) (fun _ => by first | assumption | omega)) ?_
            refine rw_q rfl rfl rfl (q_leA EPlace rfl rfl (fun _ => rfl) rfl rfl Mm (fun _ => by first | assumption | omega)) ?_
            refine Al fun g3 => ?_
            refine Tx ?_
            refine Cd (b := (((((decide (((gt d1.wayHere n5).node) < 1) || decide (((gt d1.wayHere n5).node) ≥ 16)) || decide (((gt d1.wayHere n5).parent) < 0)) || decide (((gt d1.wayHere n5).parent) > 16)) || decide (((gt d1.wayHere n5).name) < 0)) || decide (((gt d1.wayHere n5).name) > 99))) (fun hc15 => ?_) fun hc15 => ?_
            · refine Tx ?_
              have hr9 : (delta_Check d1) = 3 := by rw [← hf5, drop_gt hlt2]; simp only [delta_Check_L2b, hc15, cond_true, cond_false]
              refine cw_ret ?_; rw [hr9]; exact Re () (Vt Vn)
            · refine Tx ?_
              (repeat refine cw_seq ?_); refine cw_regionA (fun _ => some []) ?_
              refine Rb 0 [] [1,2,3,4,5,6,7,8,9,10,11,12,13,14,15,16,17,18] rfl Qp ?_
              refine Rb 1 [] [2,3,4,5,6,7,8,9,10,11,12,13,14,15,16,17,18] rfl Qp ?_
              refine Rb 2 [] [3,4,5,6,7,8,9,10,11,12,13,14,15,16,17,18] rfl Qp ?_
              refine Gb 3 [4,5,9,10] [6,7,8,11,12,13,14,15,16,17,18] rfl (guard_vt rfl rfl rfl) (q_pev rfl Bt) ?_
              refine Gb 4 [9,10] [5,6,7,8,11,12,13,14,15,16,17,18] rfl (guard_vt rfl rfl rfl) (q_pev rfl Bt) ?_
              refine Gb 5 [9,10] [6,7,8,11,12,13,14,15,16,17,18] rfl (guard_vt rfl rfl rfl) (q_sub rfl rfl Bt rfl Bt (by intro h; first | omega | (simp at h; omega))) ?_
              refine Gb 6 [9,10] [7,8,11,12,13,14,15,16,17,18] rfl (guard_vt rfl rfl rfl) (q_idx EPlace (n5 - 1) rfl rfl Bt rfl Bt rfl rfl rfl Mm rfl (by intro h; first | omega | rfl | (simp at h; omega)) (by first | (intro _; first | assumption | omega) | (intro h; simp at h; omega))) ?_
              refine Gb 7 [9,10] [8,11,12,13,14,15,16,17,18] rfl (guard_vt rfl rfl rfl) (q_fae rfl rfl Bt rfl rfl) ?_
              refine Gb 8 [9,10] [11,12,13,14,15,16,17,18] rfl (guard_vt rfl rfl rfl) (q_le1 EPlace rfl rfl Bt rfl rfl Mm (by first | (intro _; first | assumption | omega) | (intro h; simp at h; omega)) rfl) ?_
              refine Gb 9 [] [10,11,12,13,14,15,16,17,18] rfl (guard_vt rfl rfl rfl) (q_pev rfl Bt) ?_
              refine Gb 10 [] [11,12,13,14,15,16,17,18] rfl (guard_vt rfl rfl rfl) (q_ld1 rfl rfl Bt rfl Mm rfl) ?_
              refine Gb 11 [] [12,13,14,15,16,17,18] rfl (guard_vt rfl rfl rfl) (q_pev rfl Bt) ?_
              refine Rb 12 [] [13,14,15,16,17,18] rfl (q_pev rfl Bt) ?_
              refine Ra 13 [] rfl Qp ?_
              refine Gb 14 [15,16] [17,18] rfl (guard_vf rfl rfl rfl) (q_pev rfl Bt) ?_
              refine Gb 15 [] [16,17,18] rfl (guard_vf rfl rfl rfl) (q_pev rfl Bt) ?_
              refine Gb 16 [] [17,18] rfl (guard_vf rfl rfl rfl) (q_ld1 rfl rfl Bt rfl Mm rfl) ?_
              refine ra_one 17 Kr ?_
              refine rw_callg (fun hG_ => slices_Contains_int_spec' y3 d1.wayGone ((gt d1.wayHere n5).node)) (fun _ => rfl) (.an rfl rfl) (guard_vf rfl rfl rfl) rfl rfl rfl Kr rfl Bt Sm ?_
              refine Ra 18 [] rfl (q_pev rfl Bt) ?_
              refine ra_nil Kr ?_
              (repeat refine cw_seq ?_)
              refine Cd (b := ((decide ((n5 : Int) > 0) && decide (((gt d1.wayHere (n5 - 1)).node) ≥ ((gt d1.wayHere n5).node))) || (decide (((gt d1.wayHere n5).node) ∈ d1.wayGone)))) (fun hc16 => ?_) fun hc16 => ?_
              · refine Tx ?_
                have hr10 : (delta_Check d1) = 6 := by rw [← hf5, drop_gt hlt2]; simp only [delta_Check_L2b, hc15, hc16, cond_true, cond_false]
                refine cw_ret ?_; rw [hr10]; exact Re () (Vt Vn)
              · refine Tx ?_
                refine rw_q rfl rfl rfl (q_add rfl rfl (fun _ => rfl) rfl (fun _ => rfl) (fun _ => by omega)) ?_
                refine Tx ?_
                refine ⟨(n5 + 1), ⟨hlt2, (by rw [← hf5, drop_gt hlt2]; simp only [delta_Check_L2b, hc15, hc16, cond_true, cond_false] : (delta_Check d1) = (delta_Check_L2b d1 (d1.wayHere.drop (n5 + 1)) (n5 + 1))).symm⟩, (by simp only []; omega), Le4⟩
          · have hge2 : d1.wayHere.length ≤ n5 := by have := of_decide_eq_false hc14; omega
            refine Tx ?_
            refine rw_q rfl rfl rfl (q_add rfl rfl (fun _ => rfl) rfl (fun _ => rfl) (fun _ => by decide)) ?_
            refine Tx ?_
            refine ⟨2, ⟨by omega, (by rw [← hf5, List.drop_of_length_le hge2]; simp only [delta_Check_L2b, cond_true, cond_false] : (delta_Check d1) = (delta_Check_U0_2)).symm⟩, (show 2 - 2 < 2 - 1 by decide), Le4⟩
    · exact Bool.noConfusion (hc9.symm.trans (decide_eq_true (by decide)))
  · have hf1 : (delta_Check_U0_2) = (delta_Check d1) := hf1
    refine Tx ?_
    refine Cd (b := decide ((2 : Int) < 2)) (fun hc17 => ?_) fun hc17 => ?_
    · exact Bool.noConfusion (hc17.symm.trans (decide_eq_false (by decide)))
    · refine Tx ?_
      have hr11 : (delta_Check d1) = 0 := by rw [← hf1]; simp only [delta_Check_U0_2, cond_true, cond_false]
      refine cw_ret ?_; rw [hr11]; exact Re () (Vt Vn)

def delta_Same (a1 : Delta) (b1 : Delta) : Bool :=
  ((((decide (a1.gone = b1.gone)) && (decide (a1.here = b1.here))) && (decide (a1.wayGone = b1.wayGone))) && (decide (a1.wayHere = b1.wayHere)))
theorem delta_Same_spec (y1 : SlV) (y2 : SlV) (y3 : SlV) (y4 : SlV) (a1 : Delta) (y5 : SlV) (y6 : SlV) (y7 : SlV) (y8 : SlV) (b1 : Delta) : Does Try.prog 64 [.agg ⟨[y1.val a1.gone.length, y2.val a1.here.length, y3.val a1.wayGone.length, y4.val a1.wayHere.length]⟩, .agg ⟨[y5.val b1.gone.length, y6.val b1.here.length, y7.val b1.wayGone.length, y8.val b1.wayHere.length]⟩] [RdL EInt y1 a1.gone, RdL EPlace y2 a1.here, RdL EInt y3 a1.wayGone, RdL EPlace y4 a1.wayHere, RdL EInt y5 b1.gone, RdL EPlace y6 b1.here, RdL EInt y7 b1.wayGone, RdL EPlace y8 b1.wayHere] (fun (_ : Unit) => .bool (delta_Same a1 b1)) (fun (_ : Unit) => []) := by
  refine does_of tab_ok Try.func64 rfl Try.ntmps64 Try.results64 rfl inferInstance (fun _ => inferInstance) fun C => ?_
  refine Pc EInt y1 a1.gone 8 fun hlen1 => ?_
  refine Pc EPlace y2 a1.here 24 fun hlen2 => ?_
  refine Pc EInt y3 a1.wayGone 8 fun hlen3 => ?_
  refine Pc EPlace y4 a1.wayHere 24 fun hlen4 => ?_
  refine Pc EInt y5 b1.gone 8 fun hlen5 => ?_
  refine Pc EPlace y6 b1.here 24 fun hlen6 => ?_
  refine Pc EInt y7 b1.wayGone 8 fun hlen7 => ?_
  refine Pc EPlace y8 b1.wayHere 24 fun hlen8 => ?_
  refine Tx ?_
  refine Bx fun g1 => ?_
  refine Bx fun g2 => ?_
  refine Tx ?_
  refine Cl ((fun y1 a y2 b => slices_Equal_Int_spec' y1 y2 a b) y1 a1.gone y5 b1.gone) fun _ => ?_
  refine Tx ?_
  refine rw_callg (fun hG_ => (fun y1 a y2 b => slices_Equal_Place_spec' y1 y2 a b) y2 a1.here y6 b1.here) (fun _ => rfl) .sq (guard_vt rfl rfl rfl) rfl rfl rfl Kr rfl Bt Sm ?_
  refine Tx ?_
  refine rw_callg (fun hG_ => (fun y1 a y2 b => slices_Equal_Int_spec' y1 y2 a b) y3 a1.wayGone y7 b1.wayGone) (fun _ => rfl) .sq (guard_vt rfl rfl rfl) rfl rfl rfl Kr rfl Bt Sm ?_
  refine Tx ?_
  refine rw_callg (fun hG_ => (fun y1 a y2 b => slices_Equal_Place_spec' y1 y2 a b) y4 a1.wayHere y8 b1.wayHere) (fun _ => rfl) .sq (guard_vt rfl rfl rfl) rfl rfl rfl Kr rfl Bt Sm ?_
  refine Tx ?_
  have hr1 : (delta_Same a1 b1) = ((((decide (a1.gone = b1.gone)) && (decide (a1.here = b1.here))) && (decide (a1.wayGone = b1.wayGone))) && (decide (a1.wayHere = b1.wayHere))) := by simp only [delta_Same, cond_true, cond_false]
  refine cw_ret ?_; rw [hr1]; exact Re () (Vt Vn)
end Go.Proofs.Ytchdacbjiomplaa
