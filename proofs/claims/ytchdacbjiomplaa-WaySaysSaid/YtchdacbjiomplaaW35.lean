/- Part of this claim. No condition. -/
import Derived.Test.YtchdacbjiomplaaW32
import Derived.Test.YtchdacbjiomplaaW18
set_option linter.unusedVariables false
set_option linter.unusedSimpArgs false
set_option maxHeartbeats 2000000
namespace Go.Proofs.Ytchdacbjiomplaa
open Go Go.Proofs.Ytchdacbjiomplaa.Fw Go.Proofs
attribute [local irreducible] RdL RdN VarP RW CW
def orangeryref_CheckMail_L0  : List Mail → Int
  | [] => 0
  | pn1 :: rn1 => (bif (!(orangeryref_in (pn1.kind) 1 3)) then 4 else (bif (!(orangeryref_in (pn1.who) 0 2)) then 5 else (bif (((pn1.kind) == 1) && (((((((((pn1.life) != 0) || ((pn1.seq) != 0)) || ((pn1.time) != 0)) || ((pn1.version) != 0)) || ((pn1.frm) != 0)) || decide ((((((pn1.v).roots).length : Int) + (((pn1.v).known).length : Int)) + (((pn1.v).way).length : Int)) > 0)) || decide (((((((pn1.d).gone).length : Int) + (((pn1.d).here).length : Int)) + (((pn1.d).wayGone).length : Int)) + (((pn1.d).wayHere).length : Int)) > 0)) || (((pn1.o).who) != (pn1.who)))) then 4 else (bif ((pn1.kind) == 1) then (bif ((orangeryref_CheckOp (pn1.o)) != 0) then (orangeryref_CheckOp (pn1.o)) else (orangeryref_CheckMail_L0 rn1)) else (bif (!(decide ((pn1.o) = (⟨0, 0, 0, 0, 0, 0, 0⟩ : Op)))) then 4 else (bif (((pn1.kind) == 2) && (((pn1.frm) != 0) || decide (((((((pn1.d).gone).length : Int) + (((pn1.d).here).length : Int)) + (((pn1.d).wayGone).length : Int)) + (((pn1.d).wayHere).length : Int)) > 0))) then 4 else (bif (((pn1.kind) == 3) && decide ((((((pn1.v).roots).length : Int) + (((pn1.v).known).length : Int)) + (((pn1.v).way).length : Int)) > 0)) then 4 else (bif (((((!(orangeryref_in (pn1.life) 1 50)) || (!(orangeryref_in (pn1.seq) 0 30))) || (!(orangeryref_in (pn1.time) 0 10000))) || (!(orangeryref_in (pn1.version) 1 60))) || (!(orangeryref_in (pn1.frm) 0 ((pn1.version) - 1)))) then 3 else (bif ((pn1.kind) == 3) then (bif ((orangeryref_CheckDelta (pn1.d)) != 0) then (orangeryref_CheckDelta (pn1.d)) else (orangeryref_CheckMail_L0 rn1)) else (bif ((orangeryref_CheckView (pn1.v)) != 0) then (orangeryref_CheckView (pn1.v)) else (orangeryref_CheckMail_L0 rn1)))))))))))
def orangeryref_CheckMail (l1 : List Mail) : Int :=
  (bif decide ((l1.length : Int) > 30) then 2 else (orangeryref_CheckMail_L0 l1))
theorem orangeryref_CheckMail_spec (y1 : SlV) (l1 : List Mail) : Does Try.prog 70 [y1.val l1.length] [RdN NMail y1 l1] (fun (_ : Unit) => .int .i64 (orangeryref_CheckMail l1)) (fun (_ : Unit) => []) := by
  refine does_of tab_ok Try.func70 rfl Try.ntmps70 Try.results70 rfl inferInstance (fun _ => inferInstance) fun C => ?_
  refine Pn NMail y1 l1 280 fun hlen1 => ?_
  refine Tx ?_
  refine Cd (b := decide ((l1.length : Int) > 30)) (fun hc1 => ?_) fun hc1 => ?_
  · have hc1p := of_decide_eq_true hc1
    refine Tx ?_
    have hr1 : (orangeryref_CheckMail l1) = 2 := by rw [orangeryref_CheckMail]; (try simp only [hc1, cond_true, cond_false])
    refine cw_ret ?_; rw [hr1]; exact Re () (Vt Vn)
  · have hc1p := of_decide_eq_false hc1
    refine Tx ?_
    (repeat refine cw_seq ?_); refine Lp [2,13,14] [] (fun (n1 : Nat) => (⟨[(15, .v (.int .i64 (n1 : Int)))], [], [], [], (n1 ≤ l1.length) ∧ (orangeryref_CheckMail_L0 (l1.drop n1)) = (orangeryref_CheckMail l1), l1.length - n1⟩ : Ls)) 0 (Sc (Sc (Sc Sn))) (.nil) ⟨Nat.zero_le _, (by rw [orangeryref_CheckMail]; (try simp only [hc1, cond_true, cond_false]) : (orangeryref_CheckMail l1) = (orangeryref_CheckMail_L0 l1)).symm⟩ Le4 ?_
    rintro n1 ⟨hkn1, hf1⟩
    simp only [List.cons_append, List.nil_append]
    refine Tx ?_
    refine Cd (b := decide ((n1 : Int) < (l1.length : Int))) (fun hc2 => ?_) fun hc2 => ?_
    · have hlt0 : n1 < l1.length := Int.ofNat_lt.1 (of_decide_eq_true hc2)
      refine Tx ?_
      refine rw_exN NMail (X := y1) (l := l1) Mm fun (γ1 : Nat → SlV × SlV × SlV × SlV × SlV × SlV × SlV) => ?_
      refine rw_q rfl rfl rfl (q_idxN NMail γ1 n1 rfl rfl (fun _ => rfl) rfl (fun _ => rfl) rfl rfl rfl Mm rfl (fun _ => rfl) (fun _ => by first | assumption | omega)) ?_
      refine rw_q rfl rfl rfl (q_is (v' := .agg ⟨[.int .i64 ((gt l1 n1).kind), .int .i64 ((gt l1 n1).who), .int .i64 ((gt l1 n1).life), .int .i64 ((gt l1 n1).seq), .int .i64 ((gt l1 n1).time), .int .i64 ((gt l1 n1).version), .int .i64 ((gt l1 n1).frm), .int .i64 (((gt l1 n1).o).time), .int .i64 (((gt l1 n1).o).who), .int .i64 (((gt l1 n1).o).node), .int .i64 (((gt l1 n1).o).parent), .int .i64 (((gt l1 n1).o).name), .int .i64 (((gt l1 n1).o).life), .int .i64 (((gt l1 n1).o).seq), ((γ1 n1).1).val (((gt l1 n1).v).roots).length, ((γ1 n1).2.1).val (((gt l1 n1).v).known).length, ((γ1 n1).2.2.1).val (((gt l1 n1).v).way).length, ((γ1 n1).2.2.2.1).val (((gt l1 n1).d).gone).length, ((γ1 n1).2.2.2.2.1).val (((gt l1 n1).d).here).length, ((γ1 n1).2.2.2.2.2.1).val (((gt l1 n1).d).wayGone).length, ((γ1 n1).2.2.2.2.2.2).val (((gt l1 n1).d).wayHere).length]⟩) (q_leAN NMail γ1 rfl rfl (fun _ => rfl) rfl rfl Mm (fun _ => by first | assumption | omega)) rfl) ?_
      refine rw_fact (F := RdL EInt ((γ1 n1).1) (((gt l1 n1).v).roots)) [FactsG NMail γ1 l1] Sm (fun M w h => (allF1 h) n1 (by first | assumption | omega) _ (.head _)) ?_
      refine rw_fact (F := RdL EPlace ((γ1 n1).2.1) (((gt l1 n1).v).known)) [FactsG NMail γ1 l1] Sm (fun M w h => (allF1 h) n1 (by first | assumption | omega) _ (.tail _ (.head _))) ?_
      refine rw_fact (F := RdL EPlace ((γ1 n1).2.2.1) (((gt l1 n1).v).way)) [FactsG NMail γ1 l1] Sm (fun M w h => (allF1 h) n1 (by first | assumption | omega) _ (.tail _ (.tail _ (.head _)))) ?_
      refine rw_fact (F := RdL EInt ((γ1 n1).2.2.2.1) (((gt l1 n1).d).gone)) [FactsG NMail γ1 l1] Sm (fun M w h => (allF1 h) n1 (by first | assumption | omega) _ (.tail _ (.tail _ (.tail _ (.head _))))) ?_
      refine rw_fact (F := RdL EPlace ((γ1 n1).2.2.2.2.1) (((gt l1 n1).d).here)) [FactsG NMail γ1 l1] Sm (fun M w h => (allF1 h) n1 (by first | assumption | omega) _ (.tail _ (.tail _ (.tail _ (.tail _ (.head _)))))) ?_
      refine rw_fact (F := RdL EInt ((γ1 n1).2.2.2.2.2.1) (((gt l1 n1).d).wayGone)) [FactsG NMail γ1 l1] Sm (fun M w h => (allF1 h) n1 (by first | assumption | omega) _ (.tail _ (.tail _ (.tail _ (.tail _ (.tail _ (.head _))))))) ?_
      refine rw_fact (F := RdL EPlace ((γ1 n1).2.2.2.2.2.2) (((gt l1 n1).d).wayHere)) [FactsG NMail γ1 l1] Sm (fun M w h => (allF1 h) n1 (by first | assumption | omega) _ (.tail _ (.tail _ (.tail _ (.tail _ (.tail _ (.tail _ (.head _)))))))) ?_
      refine Pr EInt ((γ1 n1).1) (((gt l1 n1).v).roots) 8 fun hlen2 => ?_
      refine Pr EPlace ((γ1 n1).2.1) (((gt l1 n1).v).known) 24 fun hlen3 => ?_
      refine Pr EPlace ((γ1 n1).2.2.1) (((gt l1 n1).v).way) 24 fun hlen4 => ?_
      refine Pr EInt ((γ1 n1).2.2.2.1) (((gt l1 n1).d).gone) 8 fun hlen5 => ?_
      refine Pr EPlace ((γ1 n1).2.2.2.2.1) (((gt l1 n1).d).here) 24 fun hlen6 => ?_
      refine Pr EInt ((γ1 n1).2.2.2.2.2.1) (((gt l1 n1).d).wayGone) 8 fun hlen7 => ?_
      refine Pr EPlace ((γ1 n1).2.2.2.2.2.2) (((gt l1 n1).d).wayHere) 24 fun hlen8 => ?_
      refine Al fun g1 => ?_
      refine Tx ?_
      refine Cl (orangeryref_in_spec ((gt l1 n1).kind) 1 3) fun _ => ?_
      refine Tx ?_
      refine Cd (b := (!(orangeryref_in ((gt l1 n1).kind) 1 3))) (fun hc3 => ?_) fun hc3 => ?_
      · refine Tx ?_
        have hr2 : (orangeryref_CheckMail l1) = 4 := by rw [← hf1, drop_gt hlt0]; simp only [orangeryref_CheckMail_L0]; (try simp only [hc3, cond_true, cond_false])
        refine cw_ret ?_; rw [hr2]; exact Re () (Vt Vn)
      · refine Tx ?_
        refine Cl (orangeryref_in_spec ((gt l1 n1).who) 0 2) fun _ => ?_
        refine Tx ?_
        refine Cd (b := (!(orangeryref_in ((gt l1 n1).who) 0 2))) (fun hc4 => ?_) fun hc4 => ?_
        · refine Tx ?_
          have hr3 : (orangeryref_CheckMail l1) = 5 := by rw [← hf1, drop_gt hlt0]; simp only [orangeryref_CheckMail_L0]; (try simp only [hc3, cond_true, cond_false]); (try simp only [hc4, cond_true, cond_false])
          refine cw_ret ?_; rw [hr3]; exact Re () (Vt Vn)
        · refine Tx ?_
          refine rw_q rfl rfl rfl (q_add rfl rfl (fun _ => rfl) rfl (fun _ => rfl) (fun _ => by omega)) ?_
          refine Tx ?_
          refine rw_q rfl rfl rfl (q_add rfl rfl (fun _ => rfl) rfl (fun _ => rfl) (fun _ => by omega)) ?_
          refine Tx ?_
          refine rw_q rfl rfl rfl (q_add rfl rfl (fun _ => rfl) rfl (fun _ => rfl) (fun _ => by omega)) ?_
          refine Tx ?_
          refine rw_q rfl rfl rfl (q_add rfl rfl (fun _ => rfl) rfl (fun _ => rfl) (fun _ => by omega)) ?_
          refine Tx ?_
          refine rw_q rfl rfl rfl (q_add rfl rfl (fun _ => rfl) rfl (fun _ => rfl) (fun _ => by omega)) ?_
          refine Tx ?_
          refine Cd (b := ((((gt l1 n1).kind) == 1) && ((((((((((gt l1 n1).life) != 0) || (((gt l1 n1).seq) != 0)) || (((gt l1 n1).time) != 0)) || (((gt l1 n1).version) != 0)) || (((gt l1 n1).frm) != 0)) || decide (((((((gt l1 n1).v).roots).length : Int) + ((((gt l1 n1).v).known).length : Int)) + ((((gt l1 n1).v).way).length : Int)) > 0)) || decide ((((((((gt l1 n1).d).gone).length : Int) + ((((gt l1 n1).d).here).length : Int)) + ((((gt l1 n1).d).wayGone).length : Int)) + ((((gt l1 n1).d).wayHere).length : Int)) > 0)) || ((((gt l1 n1).o).who) != ((gt l1 n1).who))))) (fun hc5 => ?_) fun hc5 => ?_
          · refine Tx ?_
            have hr4 : (orangeryref_CheckMail l1) = 4 := by rw [← hf1, drop_gt hlt0]; simp only [orangeryref_CheckMail_L0]; (try simp only [hc3, cond_true, cond_false]); (try simp only [hc4, cond_true, cond_false]); (try simp only [hc5, cond_true, cond_false])
            refine cw_ret ?_; rw [hr4]; exact Re () (Vt Vn)
          · refine Tx ?_
            refine Cd (b := (((gt l1 n1).kind) == 1)) (fun hc6 => ?_) fun hc6 => ?_
            · have hc6p := eq_of_beq hc6
              refine Tx ?_
              refine Cl (orangeryref_CheckOp_spec ((gt l1 n1).o)) fun _ => ?_
              refine Tx ?_
              refine Cd (b := ((orangeryref_CheckOp ((gt l1 n1).o)) != 0)) (fun hc7 => ?_) fun hc7 => ?_
              · have hc7p := bne_iff_ne.1 hc7
                refine Tx ?_
                have hr5 : (orangeryref_CheckMail l1) = (orangeryref_CheckOp ((gt l1 n1).o)) := by rw [← hf1, drop_gt hlt0]; simp only [orangeryref_CheckMail_L0]; (try simp only [hc3, cond_true, cond_false]); (try simp only [hc4, cond_true, cond_false]); (try simp only [hc5, cond_true, cond_false]); (try simp only [hc6, cond_true, cond_false]); (try simp only [hc7, cond_true, cond_false])
                refine cw_ret ?_; rw [hr5]; exact Re () (Vt Vn)
              · have hc7p := eq_of_bne_false hc7
                refine Tx ?_
                refine rw_q rfl rfl rfl (q_add rfl rfl (fun _ => rfl) rfl (fun _ => rfl) (fun _ => by omega)) ?_
                refine Tx ?_
                refine ⟨(n1 + 1), ⟨hlt0, (by rw [← hf1, drop_gt hlt0]; simp only [orangeryref_CheckMail_L0]; (try simp only [hc3, cond_true, cond_false]); (try simp only [hc4, cond_true, cond_false]); (try simp only [hc5, cond_true, cond_false]); (try simp only [hc6, cond_true, cond_false]); (try simp only [hc7, cond_true, cond_false]) : (orangeryref_CheckMail l1) = (orangeryref_CheckMail_L0 (l1.drop (n1 + 1)))).symm⟩, (by simp only []; omega), Le4⟩
            · have hc6p := ne_of_beq_false hc6
              refine Tx ?_
              refine rw_q rfl rfl rfl (q_neE eqT_Op (flatEq_Op ((gt l1 n1).o) (⟨0, 0, 0, 0, 0, 0, 0⟩ : Op)) rfl rfl (fun _ => rfl) rfl (fun _ => rfl) rfl rfl) ?_
              refine Tx ?_
              refine Cd (b := (!(decide (((gt l1 n1).o) = (⟨0, 0, 0, 0, 0, 0, 0⟩ : Op))))) (fun hc8 => ?_) fun hc8 => ?_
              · refine Tx ?_
                refine Cd (b := (!(decide (((gt l1 n1).o) = (⟨0, 0, 0, 0, 0, 0, 0⟩ : Op))))) (fun hc9 => ?_) fun hc9 => ?_
                · refine Tx ?_
                  have hr6 : (orangeryref_CheckMail l1) = 4 := by rw [← hf1, drop_gt hlt0]; simp only [orangeryref_CheckMail_L0]; (try simp only [hc3, cond_true, cond_false]); (try simp only [hc4, cond_true, cond_false]); (try simp only [hc5, cond_true, cond_false]); (try simp only [hc6, cond_true, cond_false]); (try simp only [hc8, cond_true, cond_false])
                  refine cw_ret ?_; rw [hr6]; exact Re () (Vt Vn)
                · exact Bool.noConfusion (hc9.symm.trans hc8)
              · refine Tx ?_
                refine Cd (b := ((((gt l1 n1).kind) == 2) && ((((gt l1 n1).frm) != 0) || decide ((((((((gt l1 n1).d).gone).length : Int) + ((((gt l1 n1).d).here).length : Int)) + ((((gt l1 n1).d).wayGone).length : Int)) + ((((gt l1 n1).d).wayHere).length : Int)) > 0)))) (fun hc10 => ?_) fun hc10 => ?_
                · refine Tx ?_
                  refine Cd (b := ((((gt l1 n1).kind) == 2) && ((((gt l1 n1).frm) != 0) || decide ((((((((gt l1 n1).d).gone).length : Int) + ((((gt l1 n1).d).here).length : Int)) + ((((gt l1 n1).d).wayGone).length : Int)) + ((((gt l1 n1).d).wayHere).length : Int)) > 0)))) (fun hc11 => ?_) fun hc11 => ?_
                  · refine Tx ?_
                    have hr7 : (orangeryref_CheckMail l1) = 4 := by rw [← hf1, drop_gt hlt0]; simp only [orangeryref_CheckMail_L0]; (try simp only [hc3, cond_true, cond_false]); (try simp only [hc4, cond_true, cond_false]); (try simp only [hc5, cond_true, cond_false]); (try simp only [hc6, cond_true, cond_false]); (try simp only [hc8, cond_true, cond_false]); (try simp only [hc10, cond_true, cond_false])
                    refine cw_ret ?_; rw [hr7]; exact Re () (Vt Vn)
                  · exact Bool.noConfusion (hc11.symm.trans hc10)
                · refine Tx ?_
                  refine Cd (b := ((((gt l1 n1).kind) == 3) && decide (((((((gt l1 n1).v).roots).length : Int) + ((((gt l1 n1).v).known).length : Int)) + ((((gt l1 n1).v).way).length : Int)) > 0))) (fun hc12 => ?_) fun hc12 => ?_
                  · refine Tx ?_
                    have hr8 : (orangeryref_CheckMail l1) = 4 := by rw [← hf1, drop_gt hlt0]; simp only [orangeryref_CheckMail_L0]; (try simp only [hc3, cond_true, cond_false]); (try simp only [hc4, cond_true, cond_false]); (try simp only [hc5, cond_true, cond_false]); (try simp only [hc6, cond_true, cond_false]); (try simp only [hc8, cond_true, cond_false]); (try simp only [hc10, cond_true, cond_false]); (try simp only [hc12, cond_true, cond_false])
                    refine cw_ret ?_; rw [hr8]; exact Re () (Vt Vn)
                  · refine Tx ?_
                    refine Cl (orangeryref_in_spec ((gt l1 n1).life) 1 50) fun _ => ?_
                    refine Tx ?_
                    refine rw_callg (fun hG_ => orangeryref_in_spec ((gt l1 n1).seq) 0 30) (fun _ => rfl) .sq (guard_vf rfl rfl rfl) rfl rfl rfl Kr rfl Bt Sm ?_
                    refine Tx ?_
                    refine rw_callg (fun hG_ => orangeryref_in_spec ((gt l1 n1).time) 0 10000) (fun _ => rfl) .sq (guard_vf rfl rfl rfl) rfl rfl rfl Kr rfl Bt Sm ?_
                    refine Tx ?_
                    refine rw_callg (fun hG_ => orangeryref_in_spec ((gt l1 n1).version) 1 60) (fun _ => rfl) .sq (guard_vf rfl rfl rfl) rfl rfl rfl Kr rfl Bt Sm ?_
                    refine Tx ?_
                    refine rw_qg (guard_vf rfl rfl rfl) rfl rfl (q_sub rfl rfl Bt rfl Bt (by intro h; simp [orangeryref_in] at h; omega)) ?_
                    refine rw_callg (fun hG_ => orangeryref_in_spec ((gt l1 n1).frm) 0 (((gt l1 n1).version) - 1)) (fun _ => rfl) .sq (guard_vf rfl rfl rfl) rfl rfl rfl Kr rfl Bt Sm ?_
                    refine Tx ?_
                    refine Cd (b := (((((!(orangeryref_in ((gt l1 n1).life) 1 50)) || (!(orangeryref_in ((gt l1 n1).seq) 0 30))) || (!(orangeryref_in ((gt l1 n1).time) 0 10000))) || (!(orangeryref_in ((gt l1 n1).version) 1 60))) || (!(orangeryref_in ((gt l1 n1).frm) 0 (((gt l1 n1).version) - 1))))) (fun hc13 => ?_) fun hc13 => ?_
                    · refine Tx ?_
                      have hr9 : (orangeryref_CheckMail l1) = 3 := by rw [← hf1, drop_gt hlt0]; simp only [orangeryref_CheckMail_L0]; (try simp only [hc3, cond_true, cond_false]); (try simp only [hc4, cond_true, cond_false]); (try simp only [hc5, cond_true, cond_false]); (try simp only [hc6, cond_true, cond_false]); (try simp only [hc8, cond_true, cond_false]); (try simp only [hc10, cond_true, cond_false]); (try simp only [hc12, cond_true, cond_false]); (try simp only [hc13, cond_true, cond_false])
                      refine cw_ret ?_; rw [hr9]; exact Re () (Vt Vn)
                    · refine Tx ?_
                      refine Cl (orangeryref_CheckView_spec ((γ1 n1).1) ((γ1 n1).2.1) ((γ1 n1).2.2.1) ((gt l1 n1).v)) fun _ => ?_
                      refine Tx ?_
                      refine Cd (b := (((gt l1 n1).kind) == 3)) (fun hc14 => ?_) fun hc14 => ?_
                      · have hc14p := eq_of_beq hc14
                        refine Tx ?_
                        refine Cl (orangeryref_CheckDelta_spec ((γ1 n1).2.2.2.1) ((γ1 n1).2.2.2.2.1) ((γ1 n1).2.2.2.2.2.1) ((γ1 n1).2.2.2.2.2.2) ((gt l1 n1).d)) fun _ => ?_
                        refine Tx ?_
                        refine Cd (b := ((orangeryref_CheckDelta ((gt l1 n1).d)) != 0)) (fun hc15 => ?_) fun hc15 => ?_
                        · have hc15p := bne_iff_ne.1 hc15
                          refine Tx ?_
                          have hr10 : (orangeryref_CheckMail l1) = (orangeryref_CheckDelta ((gt l1 n1).d)) := by rw [← hf1, drop_gt hlt0]; simp only [orangeryref_CheckMail_L0]; (try simp only [hc3, cond_true, cond_false]); (try simp only [hc4, cond_true, cond_false]); (try simp only [hc5, cond_true, cond_false]); (try simp only [hc6, cond_true, cond_false]); (try simp only [hc8, cond_true, cond_false]); (try simp only [hc10, cond_true, cond_false]); (try simp only [hc12, cond_true, cond_false]); (try simp only [hc13, cond_true, cond_false]); (try simp only [hc14, cond_true, cond_false]); (try simp only [hc15, cond_true, cond_false])
                          refine cw_ret ?_; rw [hr10]; exact Re () (Vt Vn)
                        · have hc15p := eq_of_bne_false hc15
                          refine Tx ?_
                          refine rw_q rfl rfl rfl (q_add rfl rfl (fun _ => rfl) rfl (fun _ => rfl) (fun _ => by omega)) ?_
                          refine Tx ?_
                          refine ⟨(n1 + 1), ⟨hlt0, (by rw [← hf1, drop_gt hlt0]; simp only [orangeryref_CheckMail_L0]; (try simp only [hc3, cond_true, cond_false]); (try simp only [hc4, cond_true, cond_false]); (try simp only [hc5, cond_true, cond_false]); (try simp only [hc6, cond_true, cond_false]); (try simp only [hc8, cond_true, cond_false]); (try simp only [hc10, cond_true, cond_false]); (try simp only [hc12, cond_true, cond_false]); (try simp only [hc13, cond_true, cond_false]); (try simp only [hc14, cond_true, cond_false]); (try simp only [hc15, cond_true, cond_false]) : (orangeryref_CheckMail l1) = (orangeryref_CheckMail_L0 (l1.drop (n1 + 1)))).symm⟩, (by simp only []; omega), Le4⟩
                      · have hc14p := ne_of_beq_false hc14
                        refine Tx ?_
                        refine Cd (b := ((orangeryref_CheckView ((gt l1 n1).v)) != 0)) (fun hc16 => ?_) fun hc16 => ?_
                        · have hc16p := bne_iff_ne.1 hc16
                          refine Tx ?_
                          have hr11 : (orangeryref_CheckMail l1) = (orangeryref_CheckView ((gt l1 n1).v)) := by rw [← hf1, drop_gt hlt0]; simp only [orangeryref_CheckMail_L0]; (try simp only [hc3, cond_true, cond_false]); (try simp only [hc4, cond_true, cond_false]); (try simp only [hc5, cond_true, cond_false]); (try simp only [hc6, cond_true, cond_false]); (try simp only [hc8, cond_true, cond_false]); (try simp only [hc10, cond_true, cond_false]); (try simp only [hc12, cond_true, cond_false]); (try simp only [hc13, cond_true, cond_false]); (try simp only [hc14, cond_true, cond_false]); (try simp only [hc16, cond_true, cond_false])
                          refine cw_ret ?_; rw [hr11]; exact Re () (Vt Vn)
                        · have hc16p := eq_of_bne_false hc16
                          refine Tx ?_
                          refine rw_q rfl rfl rfl (q_add rfl rfl (fun _ => rfl) rfl (fun _ => rfl) (fun _ => by omega)) ?_
                          refine Tx ?_
                          refine ⟨(n1 + 1), ⟨hlt0, (by rw [← hf1, drop_gt hlt0]; simp only [orangeryref_CheckMail_L0]; (try simp only [hc3, cond_true, cond_false]); (try simp only [hc4, cond_true, cond_false]); (try simp only [hc5, cond_true, cond_false]); (try simp only [hc6, cond_true, cond_false]); (try simp only [hc8, cond_true, cond_false]); (try simp only [hc10, cond_true, cond_false]); (try simp only [hc12, cond_true, cond_false]); (try simp only [hc13, cond_true, cond_false]); (try simp only [hc14, cond_true, cond_false]); (try simp only [hc16, cond_true, cond_false]) : (orangeryref_CheckMail l1) = (orangeryref_CheckMail_L0 (l1.drop (n1 + 1)))).symm⟩, (by simp only []; omega), Le4⟩
    · have hge0 : l1.length ≤ n1 := by have := of_decide_eq_false hc2; omega
      refine Tx ?_
      have hr12 : (orangeryref_CheckMail l1) = 0 := by rw [← hf1, List.drop_of_length_le hge0]; simp only [orangeryref_CheckMail_L0, cond_true, cond_false]
      refine cw_ret ?_; rw [hr12]; exact Re () (Vt Vn)

def orangeryref_CheckClient_L0 (c1 : Client) (me1 : Int) : List Op → Int → Int → Int
  | [], seq1, last1 => 0
  | pn1 :: rn1, seq1, last1 => (bif ((orangeryref_CheckOp pn1) != 0) then (orangeryref_CheckOp pn1) else (bif ((((((pn1.who) != me1) || ((pn1.life) != c1.life)) || ((pn1.seq) != (seq1 + 1))) || decide ((pn1.time) ≤ last1)) || decide ((pn1.time) > c1.time)) then 4 else (orangeryref_CheckClient_L0 c1 me1 rn1 (seq1 + 1) (pn1.time))))
def orangeryref_CheckClient (c1 : Client) (me1 : Int) : Int :=
  (bif (!(orangeryref_in me1 0 2)) then 5 else (bif ((((!(orangeryref_in c1.life 0 50)) || (!(orangeryref_in c1.time 0 10000))) || (!(orangeryref_in c1.seq 0 30))) || (!(orangeryref_in c1.version 0 60))) then 3 else (bif decide ((c1.pending.length : Int) > 8) then 2 else (bif ((orangeryref_CheckView c1.v) != 0) then (orangeryref_CheckView c1.v) else (bif ((((c1.life == 0) && ((decide (c1.time > 0) || decide (c1.seq > 0)) || decide (c1.version > 0))) || ((c1.version == 0) && decide ((c1.v.roots.length : Int) > 0))) || decide ((c1.pending.length : Int) > c1.seq)) then 4 else (orangeryref_CheckClient_L0 c1 me1 c1.pending (c1.seq - (c1.pending.length : Int)) 0))))))
theorem orangeryref_CheckClient_spec (y1 : SlV) (y2 : SlV) (y3 : SlV) (y4 : SlV) (c1 : Client) (me1 : Int) : Does Try.prog 99 [.agg ⟨[.int .i64 c1.life, .int .i64 c1.time, .int .i64 c1.seq, y1.val c1.pending.length, .int .i64 c1.version, y2.val c1.v.roots.length, y3.val c1.v.known.length, y4.val c1.v.way.length]⟩, .int .i64 me1] [RdL EOp y1 c1.pending, RdL EInt y2 c1.v.roots, RdL EPlace y3 c1.v.known, RdL EPlace y4 c1.v.way] (fun (_ : Unit) => .int .i64 (orangeryref_CheckClient c1 me1)) (fun (_ : Unit) => []) := by
  refine does_of tab_ok Try.func99 rfl Try.ntmps99 Try.results99 rfl inferInstance (fun _ => inferInstance) fun C => ?_
  refine Pc EOp y1 c1.pending 56 fun hlen1 => ?_
  refine Pc EInt y2 c1.v.roots 8 fun hlen2 => ?_
  refine Pc EPlace y3 c1.v.known 24 fun hlen3 => ?_
  refine Pc EPlace y4 c1.v.way 24 fun hlen4 => ?_
  refine Tx ?_
  refine Bx fun g1 => ?_
  refine Tx ?_
  refine Cl (orangeryref_in_spec me1 0 2) fun _ => ?_
  refine Tx ?_
  refine Cd (b := (!(orangeryref_in me1 0 2))) (fun hc1 => ?_) fun hc1 => ?_
  · refine Tx ?_
    have hr1 : (orangeryref_CheckClient c1 me1) = 5 := by simp only [orangeryref_CheckClient, hc1, cond_true, cond_false]
    refine cw_ret ?_; rw [hr1]; exact Re () (Vt Vn)
  · refine Tx ?_
    refine Cl (orangeryref_in_spec c1.life 0 50) fun _ => ?_
    refine Tx ?_
    refine rw_callg (fun hG_ => orangeryref_in_spec c1.time 0 10000) (fun _ => rfl) .sq (guard_vf rfl rfl rfl) rfl rfl rfl Kr rfl Bt Sm ?_
    refine Tx ?_
    refine rw_callg (fun hG_ => orangeryref_in_spec c1.seq 0 30) (fun _ => rfl) .sq (guard_vf rfl rfl rfl) rfl rfl rfl Kr rfl Bt Sm ?_
    refine Tx ?_
    refine rw_callg (fun hG_ => orangeryref_in_spec c1.version 0 60) (fun _ => rfl) .sq (guard_vf rfl rfl rfl) rfl rfl rfl Kr rfl Bt Sm ?_
    refine Tx ?_
    refine Cd (b := ((((!(orangeryref_in c1.life 0 50)) || (!(orangeryref_in c1.time 0 10000))) || (!(orangeryref_in c1.seq 0 30))) || (!(orangeryref_in c1.version 0 60)))) (fun hc2 => ?_) fun hc2 => ?_
    · refine Tx ?_
      have hr2 : (orangeryref_CheckClient c1 me1) = 3 := by simp only [orangeryref_CheckClient, hc1, hc2, cond_true, cond_false]
      refine cw_ret ?_; rw [hr2]; exact Re () (Vt Vn)
    · have hrg := hc2
      simp only [orangeryref_in, Bool.or_eq_false_iff, Bool.not_eq_false', Bool.and_eq_true, decide_eq_true_eq] at hrg
      refine Tx ?_
      refine Cd (b := decide ((c1.pending.length : Int) > 8)) (fun hc3 => ?_) fun hc3 => ?_
      · have hc3p := of_decide_eq_true hc3
        refine Tx ?_
        have hr3 : (orangeryref_CheckClient c1 me1) = 2 := by simp only [orangeryref_CheckClient, hc1, hc2, hc3, cond_true, cond_false]
        refine cw_ret ?_; rw [hr3]; exact Re () (Vt Vn)
      · have hc3p := of_decide_eq_false hc3
        refine Tx ?_
        refine Cl (orangeryref_CheckView_spec y2 y3 y4 c1.v) fun _ => ?_
        refine Tx ?_
        refine Cd (b := ((orangeryref_CheckView c1.v) != 0)) (fun hc4 => ?_) fun hc4 => ?_
        · have hc4p := bne_iff_ne.1 hc4
          refine Tx ?_
          have hr4 : (orangeryref_CheckClient c1 me1) = (orangeryref_CheckView c1.v) := by simp only [orangeryref_CheckClient, hc1, hc2, hc3, hc4, cond_true, cond_false]
          refine cw_ret ?_; rw [hr4]; exact Re () (Vt Vn)
        · have hc4p := eq_of_bne_false hc4
          refine Tx ?_
          refine Cd (b := ((((c1.life == 0) && ((decide (c1.time > 0) || decide (c1.seq > 0)) || decide (c1.version > 0))) || ((c1.version == 0) && decide ((c1.v.roots.length : Int) > 0))) || decide ((c1.pending.length : Int) > c1.seq))) (fun hc5 => ?_) fun hc5 => ?_
          · refine Tx ?_
            have hr5 : (orangeryref_CheckClient c1 me1) = 4 := by simp only [orangeryref_CheckClient, hc1, hc2, hc3, hc4, hc5, cond_true, cond_false]
            refine cw_ret ?_; rw [hr5]; exact Re () (Vt Vn)
          · refine Tx ?_
            refine rw_q rfl rfl rfl (q_sub rfl rfl (fun _ => rfl) rfl (fun _ => rfl) (fun _ => by omega)) ?_
            refine Tx ?_
            (repeat refine cw_seq ?_); refine Lp [1,2,4,91,92] [true] (fun (i_ : Int × Int × Nat) => match i_ with | ⟨seq1, last1, n1⟩ => (⟨[(6, .v (.int .i64 seq1)), (7, .v (.int .i64 last1)), (93, .v (.int .i64 (n1 : Int)))], [], [], [], (n1 ≤ c1.pending.length) ∧ (seq1 = c1.seq - (c1.pending.length : Int) + (n1 : Int)) ∧ (orangeryref_CheckClient_L0 c1 me1 (c1.pending.drop n1) seq1 last1) = (orangeryref_CheckClient c1 me1), c1.pending.length - n1⟩ : Ls)) ⟨(c1.seq - (c1.pending.length : Int)), 0, 0⟩ (Sc (Sc (Sc (Sc (Sc Sn))))) (.keep (.nil)) ⟨Nat.zero_le _, (by simp), (by simp only [orangeryref_CheckClient, hc1, hc2, hc3, hc4, hc5, cond_true, cond_false] : (orangeryref_CheckClient c1 me1) = (orangeryref_CheckClient_L0 c1 me1 c1.pending (c1.seq - (c1.pending.length : Int)) 0)).symm⟩ Le4 ?_
            rintro ⟨seq1, last1, n1⟩ ⟨hkn1, hsq, hf1⟩
            simp only [List.cons_append, List.nil_append]
            refine Tx ?_
            refine Cd (b := decide ((n1 : Int) < (c1.pending.length : Int))) (fun hc6 => ?_) fun hc6 => ?_
            · have hlt0 : n1 < c1.pending.length := Int.ofNat_lt.1 (of_decide_eq_true hc6)
              refine Tx ?_
              refine rw_q rfl rfl rfl (q_idx EOp n1 rfl rfl (fun _ => rfl) rfl (fun _ => rfl) rfl rfl rfl Mm rfl (fun _ => rfl) (fun _ => by first | assumption | omega)) ?_
              refine rw_q rfl rfl rfl (q_leA EOp rfl rfl (fun _ => rfl) rfl rfl Mm (fun _ => by first | assumption | omega)) ?_
              refine Al fun g2 => ?_
              refine Tx ?_
              refine Cl (orangeryref_CheckOp_spec (gt c1.pending n1)) fun _ => ?_
              refine Tx ?_
              refine Cd (b := ((orangeryref_CheckOp (gt c1.pending n1)) != 0)) (fun hc7 => ?_) fun hc7 => ?_
              · have hc7p := bne_iff_ne.1 hc7
                refine Tx ?_
                have hr6 : (orangeryref_CheckClient c1 me1) = (orangeryref_CheckOp (gt c1.pending n1)) := by rw [← hf1, drop_gt hlt0]; simp only [orangeryref_CheckClient_L0, hc7, cond_true, cond_false]
                refine cw_ret ?_; rw [hr6]; exact Re () (Vt Vn)
              · have hc7p := eq_of_bne_false hc7
                refine Tx ?_
                refine rw_q rfl rfl rfl (q_add rfl rfl (fun _ => rfl) rfl (fun _ => rfl) (fun _ => by omega)) ?_
                refine Tx ?_
                refine Cd (b := (((((((gt c1.pending n1).who) != me1) || (((gt c1.pending n1).life) != c1.life)) || (((gt c1.pending n1).seq) != (seq1 + 1))) || decide (((gt c1.pending n1).time) ≤ last1)) || decide (((gt c1.pending n1).time) > c1.time))) (fun hc8 => ?_) fun hc8 => ?_
                · refine Tx ?_
                  have hr7 : (orangeryref_CheckClient c1 me1) = 4 := by rw [← hf1, drop_gt hlt0]; simp only [orangeryref_CheckClient_L0, hc7, hc8, cond_true, cond_false]
                  refine cw_ret ?_; rw [hr7]; exact Re () (Vt Vn)
                · refine Tx ?_
                  refine rw_q rfl rfl rfl (q_add rfl rfl (fun _ => rfl) rfl (fun _ => rfl) (fun _ => by omega)) ?_
                  refine Tx ?_
                  refine ⟨⟨(seq1 + 1), (gt c1.pending n1).time, (n1 + 1)⟩, ⟨hlt0, (by (try simp only []); omega), (by rw [← hf1, drop_gt hlt0]; simp only [orangeryref_CheckClient_L0, hc7, hc8, cond_true, cond_false] : (orangeryref_CheckClient c1 me1) = (orangeryref_CheckClient_L0 c1 me1 (c1.pending.drop (n1 + 1)) (seq1 + 1) ((gt c1.pending n1).time))).symm⟩, (by simp only []; omega), Le4⟩
            · have hge0 : c1.pending.length ≤ n1 := by have := of_decide_eq_false hc6; omega
              refine Tx ?_
              have hr8 : (orangeryref_CheckClient c1 me1) = 0 := by rw [← hf1, List.drop_of_length_le hge0]; simp only [orangeryref_CheckClient_L0, cond_true, cond_false]
              refine cw_ret ?_; rw [hr8]; exact Re () (Vt Vn)

def orangeryref_SameClient (a1 : Client) (b1 : Client) : Bool :=
  ((((((a1.life == b1.life) && (a1.time == b1.time)) && (a1.seq == b1.seq)) && (a1.version == b1.version)) && (decide (a1.pending = b1.pending))) && (orangeryref_SameView a1.v b1.v))
theorem orangeryref_SameClient_spec (y1 : SlV) (y2 : SlV) (y3 : SlV) (y4 : SlV) (a1 : Client) (y5 : SlV) (y6 : SlV) (y7 : SlV) (y8 : SlV) (b1 : Client) : Does Try.prog 100 [.agg ⟨[.int .i64 a1.life, .int .i64 a1.time, .int .i64 a1.seq, y1.val a1.pending.length, .int .i64 a1.version, y2.val a1.v.roots.length, y3.val a1.v.known.length, y4.val a1.v.way.length]⟩, .agg ⟨[.int .i64 b1.life, .int .i64 b1.time, .int .i64 b1.seq, y5.val b1.pending.length, .int .i64 b1.version, y6.val b1.v.roots.length, y7.val b1.v.known.length, y8.val b1.v.way.length]⟩] [RdL EOp y1 a1.pending, RdL EInt y2 a1.v.roots, RdL EPlace y3 a1.v.known, RdL EPlace y4 a1.v.way, RdL EOp y5 b1.pending, RdL EInt y6 b1.v.roots, RdL EPlace y7 b1.v.known, RdL EPlace y8 b1.v.way] (fun (_ : Unit) => .bool (orangeryref_SameClient a1 b1)) (fun (_ : Unit) => []) := by
  refine does_of tab_ok Try.func100 rfl Try.ntmps100 Try.results100 rfl inferInstance (fun _ => inferInstance) fun C => ?_
  refine Pc EOp y1 a1.pending 56 fun hlen1 => ?_
  refine Pc EInt y2 a1.v.roots 8 fun hlen2 => ?_
  refine Pc EPlace y3 a1.v.known 24 fun hlen3 => ?_
  refine Pc EPlace y4 a1.v.way 24 fun hlen4 => ?_
  refine Pc EOp y5 b1.pending 56 fun hlen5 => ?_
  refine Pc EInt y6 b1.v.roots 8 fun hlen6 => ?_
  refine Pc EPlace y7 b1.v.known 24 fun hlen7 => ?_
  refine Pc EPlace y8 b1.v.way 24 fun hlen8 => ?_
  refine Tx ?_
  refine Bx fun g1 => ?_
  refine Bx fun g2 => ?_
  refine Tx ?_
  refine rw_callg (fun hG_ => (fun y1 a y2 b => slices_Equal_Op_spec' y1 y2 a b) y1 a1.pending y5 b1.pending) (fun _ => rfl) .sq (guard_vt rfl rfl rfl) rfl rfl rfl Kr rfl Bt Sm ?_
  refine Tx ?_
  refine rw_callg (fun hG_ => orangeryref_SameView_spec y2 y3 y4 a1.v y6 y7 y8 b1.v) (fun _ => rfl) .sq (guard_vt rfl rfl rfl) rfl rfl rfl Kr rfl Bt Sm ?_
  refine Tx ?_
  have hr1 : (orangeryref_SameClient a1 b1) = ((((((a1.life == b1.life) && (a1.time == b1.time)) && (a1.seq == b1.seq)) && (a1.version == b1.version)) && (decide (a1.pending = b1.pending))) && (orangeryref_SameView a1.v b1.v)) := by simp only [orangeryref_SameClient, cond_true, cond_false]
  refine cw_ret ?_; rw [hr1]; exact Re () (Vt Vn)

def orangeryref_Begun (life1 : Int) (time1 : Int) : Client × Int :=
  (bif ((!(orangeryref_in life1 1 50)) || (!(orangeryref_in time1 0 10000))) then ((⟨0, 0, 0, ([] : List Op), 0, (⟨([] : List Int), ([] : List Place), ([] : List Place)⟩ : View)⟩ : Client), 3) else ((⟨life1, time1, 0, ([] : List Op), 0, (⟨([] : List Int), ([] : List Place), ([] : List Place)⟩ : View)⟩ : Client), 0))
theorem orangeryref_Begun_spec (life1 : Int) (time1 : Int) : Does Try.prog 98 [.int .i64 life1, .int .i64 time1] [] (fun (X : SlV × SlV × SlV × SlV) => .tuple #[.agg ⟨[.int .i64 (((orangeryref_Begun life1 time1).1).life), .int .i64 (((orangeryref_Begun life1 time1).1).time), .int .i64 (((orangeryref_Begun life1 time1).1).seq), X.1.val (((orangeryref_Begun life1 time1).1).pending).length, .int .i64 (((orangeryref_Begun life1 time1).1).version), X.2.1.val ((((orangeryref_Begun life1 time1).1).v).roots).length, X.2.2.1.val ((((orangeryref_Begun life1 time1).1).v).known).length, X.2.2.2.val ((((orangeryref_Begun life1 time1).1).v).way).length]⟩, .int .i64 ((orangeryref_Begun life1 time1).2)]) (fun (X : SlV × SlV × SlV × SlV) => [RdL EOp X.1 (((orangeryref_Begun life1 time1).1).pending), RdL EInt X.2.1 ((((orangeryref_Begun life1 time1).1).v).roots), RdL EPlace X.2.2.1 ((((orangeryref_Begun life1 time1).1).v).known), RdL EPlace X.2.2.2 ((((orangeryref_Begun life1 time1).1).v).way)]) := by
  refine does_of tab_ok Try.func98 rfl Try.ntmps98 Try.results98 rfl inferInstance (fun _ => inferInstance) fun C => ?_
  refine Tx ?_
  refine Al fun g1 => ?_
  refine Tx ?_
  refine Cl (orangeryref_in_spec life1 1 50) fun _ => ?_
  refine Tx ?_
  refine rw_callg (fun hG_ => orangeryref_in_spec time1 0 10000) (fun _ => rfl) .sq (guard_vf rfl rfl rfl) rfl rfl rfl Kr rfl Bt Sm ?_
  refine Tx ?_
  refine Cd (b := ((!(orangeryref_in life1 1 50)) || (!(orangeryref_in time1 0 10000)))) (fun hc1 => ?_) fun hc1 => ?_
  · refine Tx ?_
    refine Fc EOp ?_
    refine Fc EInt ?_
    refine Fc EPlace ?_
    have hr1 : (orangeryref_Begun life1 time1) = ((⟨0, 0, 0, ([] : List Op), 0, (⟨([] : List Int), ([] : List Place), ([] : List Place)⟩ : View)⟩ : Client), 3) := by simp only [orangeryref_Begun, hc1, cond_true, cond_false]
    refine cw_ret ?_; rw [hr1]; exact Re ⟨(⟨none, 0⟩ : SlV), (⟨none, 0⟩ : SlV), (⟨none, 0⟩ : SlV), (⟨none, 0⟩ : SlV)⟩ (Va (Vt Vn))
  · refine Tx ?_
    refine Fc EOp ?_
    refine Fc EInt ?_
    refine Fc EPlace ?_
    have hr2 : (orangeryref_Begun life1 time1) = ((⟨life1, time1, 0, ([] : List Op), 0, (⟨([] : List Int), ([] : List Place), ([] : List Place)⟩ : View)⟩ : Client), 0) := by simp only [orangeryref_Begun, hc1, cond_true, cond_false]
    refine cw_ret ?_; rw [hr2]; exact Re ⟨(⟨none, 0⟩ : SlV), (⟨none, 0⟩ : SlV), (⟨none, 0⟩ : SlV), (⟨none, 0⟩ : SlV)⟩ (Va (Vt Vn))
end Go.Proofs.Ytchdacbjiomplaa
