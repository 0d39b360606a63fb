/- Part of this claim. No condition. -/
import Derived.Test.YtkialfeahkdiaaaTLib
set_option linter.unusedVariables false
set_option linter.unusedSimpArgs false
namespace Go.Proofs.Ytkialfeahkdiaaa
open Go Go.Proofs.Ytkialfeahkdiaaa.Fw Go.Proofs
theorem Names_spec  : Does Try.prog 3 [] [] (fun (_ : Unit) => .bool true) (fun (_ : Unit) => []) := by
  refine does_of tab_ok Try.func3 rfl Try.ntmps3 Try.results3 rfl inferInstance (fun _ => inferInstance) fun C => ?_
  (repeat refine cw_seq ?_); refine cw_region ?_
  refine rw_q rfl rfl rfl (q_pev rfl (fun _ => rfl)) ?_
  refine rw_nil ?_
  (repeat refine cw_seq ?_); refine cw_region ?_
  refine rw_bslice .sq (guard_none rfl) rfl rfl rfl rfl rfl rfl rfl rfl rfl rfl rfl rfl rfl fun x1 x1b => ?_
  refine rw_le (le_freeze intC [0, 1, 2, 3, 4, 5, 6, 7, 8] (by repeat (first | exact .here _ _ _ | apply UpdO.there)) rfl rfl (fun e _ => rfl)) ?_
  refine rw_q rfl rfl rfl (q_pev rfl (fun _ => rfl)) ?_
  refine rw_nil ?_
  (repeat refine cw_seq ?_); refine cw_region ?_
  refine rw_q rfl rfl rfl (q_pev rfl (fun _ => rfl)) ?_
  refine rw_q rfl rfl rfl (q_pev rfl (fun _ => rfl)) ?_
  refine rw_q rfl rfl rfl (q_pev rfl (fun _ => rfl)) ?_
  refine rw_nil ?_
  (repeat refine cw_seq ?_); refine cw_block ?_
  (repeat refine cw_seq ?_); refine cw_loopS [7, 8] [] (fun (k : Nat) => [(9, .v (.int .i64 k))]) (fun (k : Nat) => []) (fun (k : Nat) => []) (fun (k : Nat) => []) (fun (k : Nat) => k ≤ 9) (fun (k : Nat) => 9 - k) 0 (.cons rfl (.cons rfl (.nil _))) (.nil) (by omega) (Le.of rfl (by repeat (first | exact .nil _ | refine .cons rfl ?_)) (by repeat (first | exact .nil _ | refine .cons (by repeat (first | exact .here _ _ | apply Pick.there)) ?_)) (by repeat (first | exact .nil _ | refine .cons (by repeat (first | exact .here _ _ | apply Pick.there)) ?_)) (by repeat (first | exact .nil _ | refine .cons (by repeat (first | exact .head _ | apply List.Mem.tail)) ?_))) ?_
  rintro k hk0
  simp only [List.cons_append, List.nil_append]
  (repeat refine cw_seq ?_); refine cw_region ?_
  refine rw_q rfl rfl rfl (q_pev rfl (fun _ => rfl)) ?_
  refine rw_nil ?_
  (repeat refine cw_seq ?_); refine cw_cond rfl rfl (fun hc0 => ?_) (fun hc0 => ?_)
  · skip
    have hltn : k < 9 := by simp at hc0; omega
    have hlt : k < [0, 1, 2, 3, 4, 5, 6, 7, 8].length := hltn
    (repeat refine cw_seq ?_); refine cw_skip ?_
    (repeat refine cw_seq ?_); refine cw_block ?_
    (repeat refine cw_seq ?_); refine cw_region ?_
    refine rw_q rfl rfl rfl (q_pev rfl (fun _ => rfl)) ?_
    refine rw_q rfl rfl rfl (q_idx _ rfl rfl (fun _ => rfl) rfl (fun _ => rfl) rfl rfl (by repeat (first | exact .head _ | apply List.Mem.tail)) rfl (fun _ => rfl) (fun _ => by first | assumption | omega)) ?_
    refine rw_q rfl rfl rfl (q_le1 rfl rfl (fun _ => rfl) rfl (by repeat (first | exact .head _ | apply List.Mem.tail)) (fun _ => by first | assumption | omega) rfl) ?_
    refine rw_q rfl rfl rfl (q_pev rfl (fun _ => rfl)) ?_
    refine rw_q rfl rfl rfl (q_pev rfl (fun _ => rfl)) ?_
    refine rw_nil ?_
    (repeat refine cw_seq ?_); refine cw_region ?_
    refine rw_q rfl rfl rfl (q_pev rfl (fun _ => rfl)) ?_
    refine rw_q rfl rfl rfl (q_pev rfl (fun _ => rfl)) ?_
    refine rw_q rfl rfl rfl (q_pev rfl (fun _ => rfl)) ?_
    refine rw_nil ?_
    (repeat refine cw_seq ?_); refine cw_cond rfl rfl (fun hc1 => ?_) (fun hc1 => ?_)
    · skip
      exfalso
      have hall : ∀ k : Nat, k < 9 → gt [0, 1, 2, 3, 4, 5, 6, 7, 8] k = (k : Int) := by decide
      rw [hall k hltn] at hc1
      simp at hc1
    · skip
      (repeat refine cw_seq ?_); refine cw_skip ?_
      (repeat refine cw_seq ?_); refine cw_region ?_
      refine rw_q rfl rfl rfl (q_add rfl rfl (fun _ => rfl) rfl (fun _ => rfl) (fun _ => by omega)) ?_
      refine rw_q rfl rfl rfl (q_pev rfl (fun _ => rfl)) ?_
      refine rw_nil ?_
      refine ⟨k + 1, (by omega), (by simp only []; omega), (Le.of rfl (by repeat (first | exact .nil _ | refine .cons rfl ?_)) (by repeat (first | exact .nil _ | refine .cons (by repeat (first | exact .here _ _ | apply Pick.there)) ?_)) (by repeat (first | exact .nil _ | refine .cons (by repeat (first | exact .here _ _ | apply Pick.there)) ?_)) (by repeat (first | exact .nil _ | refine .cons (by repeat (first | exact .head _ | apply List.Mem.tail)) ?_)))⟩
  · skip
    have hge : 9 ≤ k := by simp at hc0; omega
    (repeat refine cw_seq ?_); refine cw_exit ?_
    (repeat refine cw_seq ?_); refine cw_region ?_
    refine rw_bslice .sq (guard_none rfl) rfl rfl rfl rfl rfl rfl rfl rfl rfl rfl rfl rfl rfl fun x2 x2b => ?_
    refine rw_le (le_freeze intC [16, 99, 10000, 3, 50, 30, 8, 4, 60, 60000, 30, 100] (by repeat (first | exact .here _ _ _ | apply UpdO.there)) rfl rfl (fun e _ => rfl)) ?_
    refine rw_q rfl rfl rfl (q_pev rfl (fun _ => rfl)) ?_
    refine rw_nil ?_
    (repeat refine cw_seq ?_); refine cw_region ?_
    refine rw_bslice .sq (guard_none rfl) rfl rfl rfl rfl rfl rfl rfl rfl rfl rfl rfl rfl rfl fun x3 x3b => ?_
    refine rw_le (le_freeze intC [1, 2, 3, 1, 2, 3, 1, 2, 3, 4, 5, 6, 7, 8, 9, 10, 11] (by repeat (first | exact .here _ _ _ | apply UpdO.there)) rfl rfl (fun e _ => rfl)) ?_
    refine rw_q rfl rfl rfl (q_pev rfl (fun _ => rfl)) ?_
    refine rw_nil ?_
    (repeat refine cw_seq ?_); refine cw_region ?_
    refine rw_q rfl rfl rfl (q_pev rfl (fun _ => rfl)) ?_
    refine rw_bslice .sq (guard_none rfl) rfl rfl rfl rfl rfl rfl rfl rfl rfl rfl rfl rfl rfl fun x4 x4b => ?_
    refine rw_le (le_freeze intC [16, 99, 10000, 3, 50, 30, 8, 4, 60, 60000, 30, 100] (by repeat (first | exact .here _ _ _ | apply UpdO.there)) rfl rfl (fun e _ => rfl)) ?_
    refine rw_call (Equal_int_spec x2 x4 [16, 99, 10000, 3, 50, 30, 8, 4, 60, 60000, 30, 100] [16, 99, 10000, 3, 50, 30, 8, 4, 60, 60000, 30, 100] (by decide)) .sq (guard_none rfl) rfl rfl rfl (by kernel_rfl) rfl rfl (by repeat (first | exact .nil _ | refine .cons (by repeat (first | exact .head _ | apply List.Mem.tail)) ?_)) ?_
    intro _
    refine rw_q rfl rfl rfl (q_pev rfl (fun _ => rfl)) ?_
    refine rw_qg (guard_vt rfl rfl rfl) rfl rfl (q_pev rfl (by intros; simp only [*, Bool.true_and, Bool.and_true, Bool.or_not_self, Bool.not_or_self, Bool.or_true, Bool.true_or, Bool.not_true, Bool.not_false, Bool.or_false, Bool.false_or, Bool.and_self])) ?_
    refine rw_split .sq (guard_vt rfl rfl rfl) (fun hg5 => ?_) (fun hg5 => ?_)
    · skip
      refine rw_bslice .sq (guard_is (guard_vt rfl rfl rfl) hg5) rfl rfl rfl rfl rfl rfl rfl rfl rfl rfl rfl rfl rfl fun x6 x6b => ?_
      refine rw_le (le_freeze intC [1, 2, 3, 1, 2, 3, 1, 2, 3, 4, 5, 6, 7, 8, 9, 10, 11] (by repeat (first | exact .here _ _ _ | apply UpdO.there)) rfl rfl (fun e _ => rfl)) ?_
      refine rw_call (Equal_int_spec x3 x6 [1, 2, 3, 1, 2, 3, 1, 2, 3, 4, 5, 6, 7, 8, 9, 10, 11] [1, 2, 3, 1, 2, 3, 1, 2, 3, 4, 5, 6, 7, 8, 9, 10, 11] (by decide)) .sq (guard_is (guard_vt rfl rfl rfl) hg5) rfl rfl rfl (by kernel_rfl) rfl rfl (by repeat (first | exact .nil _ | refine .cons (by repeat (first | exact .head _ | apply List.Mem.tail)) ?_)) ?_
      intro _
      refine rw_q rfl rfl rfl (q_pev rfl (by intros; simp only [*, Bool.true_and, Bool.and_true, Bool.or_not_self, Bool.not_or_self, Bool.or_true, Bool.true_or, Bool.not_true, Bool.not_false, Bool.or_false, Bool.false_or, Bool.and_self])) ?_
      refine rw_q rfl rfl rfl (q_pev rfl (fun _ => rfl)) ?_
      refine rw_nil ?_
      (repeat refine cw_seq ?_); refine cw_ret ?_
      refine ⟨(), _, (.cons (.tmp rfl) .nil), ?_, (by repeat (first | exact .nil _ | refine .cons (by repeat (first | exact .head _ | apply List.Mem.tail)) ?_))⟩
      simp [resVal]
    · skip
      exact absurd hg5 (by decide)
end Go.Proofs.Ytkialfeahkdiaaa
