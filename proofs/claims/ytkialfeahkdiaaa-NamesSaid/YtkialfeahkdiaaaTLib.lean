/- Part of this claim. No condition. -/
import Derived.Test.YtkialfeahkdiaaaTSpec
set_option linter.unusedVariables false
set_option linter.unusedSimpArgs false
namespace Go.Proofs.Ytkialfeahkdiaaa
open Go Go.Proofs.Ytkialfeahkdiaaa.Fw Go.Proofs

/-! ### slices -/
def indexF {α : Type} [DecidableEq α] : List α → α → Nat → Int
  | [], _, _ => -1
  | a :: r, v, k => if a = v then (k : Int) else indexF r v (k + 1)
def indexV {α : Type} [DecidableEq α] (l : List α) (v : α) : Int := indexF l v 0
theorem indexF_mem {α : Type} [DecidableEq α] (v : α) : ∀ (l : List α) (k : Nat), decide (indexF l v k ≥ 0) = decide (v ∈ l)
  | [], k => by simp [indexF]
  | a :: r, k => by
    rw [indexF]
    by_cases h : a = v
    · simp [h]
    · rw [if_neg h, indexF_mem v r (k + 1)]
      simp [Ne.symm h]
theorem indexV_mem {α : Type} [DecidableEq α] (l : List α) (v : α) : decide (indexV l v ≥ 0) = decide (v ∈ l) := indexF_mem v l 0
theorem Clone_place_spec (x : SlV) (l : List Place) (hl : l.length * 24 ≤ 140737488355328) : Does Try.prog 137 [x.val l.length] [RdL placeC 3 x l] (fun (X : SlV) => X.val l.length) (fun (X : SlV) => [RdL placeC 3 X l]) := by
  refine does_of tab_ok Try.func137 rfl Try.ntmps137 Try.results137 rfl inferInstance (fun _ => inferInstance) fun C => ?_
  (repeat refine cw_seq ?_); refine cw_region ?_
  refine rw_q rfl rfl rfl (q_pev rfl (fun _ => rfl)) ?_
  refine rw_nil ?_
  (repeat refine cw_seq ?_); refine cw_region ?_
  refine rw_q rfl rfl rfl (q_pev rfl (fun _ => rfl)) ?_
  refine rw_q rfl rfl rfl (q_eqnil rfl rfl (fun _ => rfl) rfl) ?_
  refine rw_nil ?_
  (repeat refine cw_seq ?_); refine cw_cond rfl rfl (fun hc0 => ?_) (fun hc0 => ?_)
  · skip
    refine cw_pure [RdL placeC 3 x l] (by repeat (first | exact .nil _ | refine .cons (by repeat (first | exact .head _ | apply List.Mem.tail)) ?_)) (fun M w h => (allF1 h).nil_of hc0) fun hnil => ?_
    subst hnil
    refine cw_fact (F := RdL placeC 3 ⟨none, 0⟩ ([] : List Place)) [] (.nil _) (fun M w _ => RdL.nil _ _ _ _ (by omega) M w) ?_
    (repeat refine cw_seq ?_); refine cw_region ?_
    refine rw_q rfl rfl rfl (q_pev rfl (fun _ => rfl)) ?_
    refine rw_nil ?_
    (repeat refine cw_seq ?_); refine cw_ret ?_
    refine ⟨⟨none, 0⟩, _, (.cons (.tmp rfl) .nil), ?_, (by repeat (first | exact .nil _ | refine .cons (by repeat (first | exact .head _ | apply List.Mem.tail)) ?_))⟩
    rfl
  · skip
    (repeat refine cw_seq ?_); refine cw_skip ?_
    (repeat refine cw_seq ?_); refine cw_region ?_
    refine rw_bslice .sq (guard_none rfl) rfl rfl rfl rfl rfl rfl rfl rfl rfl rfl rfl rfl rfl fun x1 x1b => ?_
    refine rw_q rfl rfl rfl (q_pev rfl (fun _ => rfl)) ?_
    refine rw_append .sq (fun _ _ => .inl ⟨_, rfl⟩) (guard_none rfl) rfl rfl rfl rfl rfl rfl rfl (fun _ _ => (by repeat (first | exact .here _ _ _ | apply UpdO.there))) rfl rfl rfl rfl rfl rfl (reads_rd (by repeat (first | exact .head _ | apply List.Mem.tail)) rfl (one_place l)) (by simp only []; omega) (by simp only []; omega) fun X2 X2b => ?_
    refine rw_q rfl rfl rfl (q_pev rfl (fun _ => rfl)) ?_
    refine rw_nil ?_
    refine cw_le (le_freeze placeC l (by repeat (first | exact .here _ _ _ | apply UpdO.there)) (by simp) (by simp [zerosL]) (fun e _ => rfl)) ?_
    (repeat refine cw_seq ?_); refine cw_ret ?_
    refine ⟨X2, _, (.cons (.tmp rfl) .nil), ?_, (by repeat (first | exact .nil _ | refine .cons (by repeat (first | exact .head _ | apply List.Mem.tail)) ?_))⟩
    simp [resVal]

theorem Clone_int_spec (x : SlV) (l : List Int) (hl : l.length * 8 ≤ 140737488355328) : Does Try.prog 129 [x.val l.length] [RdL intC 1 x l] (fun (X : SlV) => X.val l.length) (fun (X : SlV) => [RdL intC 1 X l]) := by
  refine does_of tab_ok Try.func129 rfl Try.ntmps129 Try.results129 rfl inferInstance (fun _ => inferInstance) fun C => ?_
  (repeat refine cw_seq ?_); refine cw_region ?_
  refine rw_q rfl rfl rfl (q_pev rfl (fun _ => rfl)) ?_
  refine rw_nil ?_
  (repeat refine cw_seq ?_); refine cw_region ?_
  refine rw_q rfl rfl rfl (q_pev rfl (fun _ => rfl)) ?_
  refine rw_q rfl rfl rfl (q_eqnil rfl rfl (fun _ => rfl) rfl) ?_
  refine rw_nil ?_
  (repeat refine cw_seq ?_); refine cw_cond rfl rfl (fun hc0 => ?_) (fun hc0 => ?_)
  · skip
    refine cw_pure [RdL intC 1 x l] (by repeat (first | exact .nil _ | refine .cons (by repeat (first | exact .head _ | apply List.Mem.tail)) ?_)) (fun M w h => (allF1 h).nil_of hc0) fun hnil => ?_
    subst hnil
    refine cw_fact (F := RdL intC 1 ⟨none, 0⟩ ([] : List Int)) [] (.nil _) (fun M w _ => RdL.nil _ _ _ _ (by omega) M w) ?_
    (repeat refine cw_seq ?_); refine cw_region ?_
    refine rw_q rfl rfl rfl (q_pev rfl (fun _ => rfl)) ?_
    refine rw_nil ?_
    (repeat refine cw_seq ?_); refine cw_ret ?_
    refine ⟨⟨none, 0⟩, _, (.cons (.tmp rfl) .nil), ?_, (by repeat (first | exact .nil _ | refine .cons (by repeat (first | exact .head _ | apply List.Mem.tail)) ?_))⟩
    rfl
  · skip
    (repeat refine cw_seq ?_); refine cw_skip ?_
    (repeat refine cw_seq ?_); refine cw_region ?_
    refine rw_bslice .sq (guard_none rfl) rfl rfl rfl rfl rfl rfl rfl rfl rfl rfl rfl rfl rfl fun x1 x1b => ?_
    refine rw_q rfl rfl rfl (q_pev rfl (fun _ => rfl)) ?_
    refine rw_append .sq (fun _ _ => .inl ⟨_, rfl⟩) (guard_none rfl) rfl rfl rfl rfl rfl rfl rfl (fun _ _ => (by repeat (first | exact .here _ _ _ | apply UpdO.there))) rfl rfl rfl rfl rfl rfl (reads_rd (by repeat (first | exact .head _ | apply List.Mem.tail)) rfl (one_int l)) (by simp only []; omega) (by simp only []; omega) fun X2 X2b => ?_
    refine rw_q rfl rfl rfl (q_pev rfl (fun _ => rfl)) ?_
    refine rw_nil ?_
    refine cw_le (le_freeze intC l (by repeat (first | exact .here _ _ _ | apply UpdO.there)) (by simp) (by simp [zerosL]) (fun e _ => rfl)) ?_
    (repeat refine cw_seq ?_); refine cw_ret ?_
    refine ⟨X2, _, (.cons (.tmp rfl) .nil), ?_, (by repeat (first | exact .nil _ | refine .cons (by repeat (first | exact .head _ | apply List.Mem.tail)) ?_))⟩
    simp [resVal]

theorem Clone_op_spec (x : SlV) (l : List Op) (hl : l.length * 56 ≤ 140737488355328) : Does Try.prog 155 [x.val l.length] [RdL opC 7 x l] (fun (X : SlV) => X.val l.length) (fun (X : SlV) => [RdL opC 7 X l]) := by
  refine does_of tab_ok Try.func155 rfl Try.ntmps155 Try.results155 rfl inferInstance (fun _ => inferInstance) fun C => ?_
  (repeat refine cw_seq ?_); refine cw_region ?_
  refine rw_q rfl rfl rfl (q_pev rfl (fun _ => rfl)) ?_
  refine rw_nil ?_
  (repeat refine cw_seq ?_); refine cw_region ?_
  refine rw_q rfl rfl rfl (q_pev rfl (fun _ => rfl)) ?_
  refine rw_q rfl rfl rfl (q_eqnil rfl rfl (fun _ => rfl) rfl) ?_
  refine rw_nil ?_
  (repeat refine cw_seq ?_); refine cw_cond rfl rfl (fun hc0 => ?_) (fun hc0 => ?_)
  · skip
    refine cw_pure [RdL opC 7 x l] (by repeat (first | exact .nil _ | refine .cons (by repeat (first | exact .head _ | apply List.Mem.tail)) ?_)) (fun M w h => (allF1 h).nil_of hc0) fun hnil => ?_
    subst hnil
    refine cw_fact (F := RdL opC 7 ⟨none, 0⟩ ([] : List Op)) [] (.nil _) (fun M w _ => RdL.nil _ _ _ _ (by omega) M w) ?_
    (repeat refine cw_seq ?_); refine cw_region ?_
    refine rw_q rfl rfl rfl (q_pev rfl (fun _ => rfl)) ?_
    refine rw_nil ?_
    (repeat refine cw_seq ?_); refine cw_ret ?_
    refine ⟨⟨none, 0⟩, _, (.cons (.tmp rfl) .nil), ?_, (by repeat (first | exact .nil _ | refine .cons (by repeat (first | exact .head _ | apply List.Mem.tail)) ?_))⟩
    rfl
  · skip
    (repeat refine cw_seq ?_); refine cw_skip ?_
    (repeat refine cw_seq ?_); refine cw_region ?_
    refine rw_bslice .sq (guard_none rfl) rfl rfl rfl rfl rfl rfl rfl rfl rfl rfl rfl rfl rfl fun x1 x1b => ?_
    refine rw_q rfl rfl rfl (q_pev rfl (fun _ => rfl)) ?_
    refine rw_append .sq (fun _ _ => .inl ⟨_, rfl⟩) (guard_none rfl) rfl rfl rfl rfl rfl rfl rfl (fun _ _ => (by repeat (first | exact .here _ _ _ | apply UpdO.there))) rfl rfl rfl rfl rfl rfl (reads_rd (by repeat (first | exact .head _ | apply List.Mem.tail)) rfl (one_op l)) (by simp only []; omega) (by simp only []; omega) fun X2 X2b => ?_
    refine rw_q rfl rfl rfl (q_pev rfl (fun _ => rfl)) ?_
    refine rw_nil ?_
    refine cw_le (le_freeze opC l (by repeat (first | exact .here _ _ _ | apply UpdO.there)) (by simp) (by simp [zerosL]) (fun e _ => rfl)) ?_
    (repeat refine cw_seq ?_); refine cw_ret ?_
    refine ⟨X2, _, (.cons (.tmp rfl) .nil), ?_, (by repeat (first | exact .nil _ | refine .cons (by repeat (first | exact .head _ | apply List.Mem.tail)) ?_))⟩
    simp [resVal]

theorem Clone_step_spec (x : SlV) (l : List Step) (hl : l.length * 88 ≤ 140737488355328) : Does Try.prog 209 [x.val l.length] [RdL stepC 11 x l] (fun (X : SlV) => X.val l.length) (fun (X : SlV) => [RdL stepC 11 X l]) := by
  refine does_of tab_ok Try.func209 rfl Try.ntmps209 Try.results209 rfl inferInstance (fun _ => inferInstance) fun C => ?_
  (repeat refine cw_seq ?_); refine cw_region ?_
  refine rw_q rfl rfl rfl (q_pev rfl (fun _ => rfl)) ?_
  refine rw_nil ?_
  (repeat refine cw_seq ?_); refine cw_region ?_
  refine rw_q rfl rfl rfl (q_pev rfl (fun _ => rfl)) ?_
  refine rw_q rfl rfl rfl (q_eqnil rfl rfl (fun _ => rfl) rfl) ?_
  refine rw_nil ?_
  (repeat refine cw_seq ?_); refine cw_cond rfl rfl (fun hc0 => ?_) (fun hc0 => ?_)
  · skip
    refine cw_pure [RdL stepC 11 x l] (by repeat (first | exact .nil _ | refine .cons (by repeat (first | exact .head _ | apply List.Mem.tail)) ?_)) (fun M w h => (allF1 h).nil_of hc0) fun hnil => ?_
    subst hnil
    refine cw_fact (F := RdL stepC 11 ⟨none, 0⟩ ([] : List Step)) [] (.nil _) (fun M w _ => RdL.nil _ _ _ _ (by omega) M w) ?_
    (repeat refine cw_seq ?_); refine cw_region ?_
    refine rw_q rfl rfl rfl (q_pev rfl (fun _ => rfl)) ?_
    refine rw_nil ?_
    (repeat refine cw_seq ?_); refine cw_ret ?_
    refine ⟨⟨none, 0⟩, _, (.cons (.tmp rfl) .nil), ?_, (by repeat (first | exact .nil _ | refine .cons (by repeat (first | exact .head _ | apply List.Mem.tail)) ?_))⟩
    rfl
  · skip
    (repeat refine cw_seq ?_); refine cw_skip ?_
    (repeat refine cw_seq ?_); refine cw_region ?_
    refine rw_bslice .sq (guard_none rfl) rfl rfl rfl rfl rfl rfl rfl rfl rfl rfl rfl rfl rfl fun x1 x1b => ?_
    refine rw_q rfl rfl rfl (q_pev rfl (fun _ => rfl)) ?_
    refine rw_append .sq (fun _ _ => .inl ⟨_, rfl⟩) (guard_none rfl) rfl rfl rfl rfl rfl rfl rfl (fun _ _ => (by repeat (first | exact .here _ _ _ | apply UpdO.there))) rfl rfl rfl rfl rfl rfl (reads_rd (by repeat (first | exact .head _ | apply List.Mem.tail)) rfl (one_step l)) (by simp only []; omega) (by simp only []; omega) fun X2 X2b => ?_
    refine rw_q rfl rfl rfl (q_pev rfl (fun _ => rfl)) ?_
    refine rw_nil ?_
    refine cw_le (le_freeze stepC l (by repeat (first | exact .here _ _ _ | apply UpdO.there)) (by simp) (by simp [zerosL]) (fun e _ => rfl)) ?_
    (repeat refine cw_seq ?_); refine cw_ret ?_
    refine ⟨X2, _, (.cons (.tmp rfl) .nil), ?_, (by repeat (first | exact .nil _ | refine .cons (by repeat (first | exact .head _ | apply List.Mem.tail)) ?_))⟩
    simp [resVal]

theorem Equal_place_spec (x y : SlV) (l r : List Place) (hl : l.length < 1000000000000000000) : Does Try.prog 34 [x.val l.length, y.val r.length] [RdL placeC 3 x l, RdL placeC 3 y r] (fun (_ : Unit) => .bool (decide (l = r))) (fun (_ : Unit) => []) := by
  refine does_of tab_ok Try.func34 rfl Try.ntmps34 Try.results34 rfl inferInstance (fun _ => inferInstance) fun C => ?_
  (repeat refine cw_seq ?_); refine cw_region ?_
  refine rw_q rfl rfl rfl (q_pev rfl (fun _ => rfl)) ?_
  refine rw_nil ?_
  (repeat refine cw_seq ?_); refine cw_region ?_
  refine rw_q rfl rfl rfl (q_pev rfl (fun _ => rfl)) ?_
  refine rw_q rfl rfl rfl (q_pev rfl (fun _ => rfl)) ?_
  refine rw_q rfl rfl rfl (q_pev rfl (fun _ => rfl)) ?_
  refine rw_q rfl rfl rfl (q_pev rfl (fun _ => rfl)) ?_
  refine rw_q rfl rfl rfl (q_pev rfl (fun _ => rfl)) ?_
  refine rw_nil ?_
  (repeat refine cw_seq ?_); refine cw_cond rfl rfl (fun hc0 => ?_) (fun hc0 => ?_)
  · skip
    have hne : l ≠ r := fun h => by subst h; simp at hc0
    (repeat refine cw_seq ?_); refine cw_region ?_
    refine rw_q rfl rfl rfl (q_pev rfl (fun _ => rfl)) ?_
    refine rw_nil ?_
    (repeat refine cw_seq ?_); refine cw_ret ?_
    refine ⟨(), _, (.cons (.tmp rfl) .nil), ?_, (by repeat (first | exact .nil _ | refine .cons (by repeat (first | exact .head _ | apply List.Mem.tail)) ?_))⟩
    simp [resVal, hne]
  · skip
    have hlen : l.length = r.length := by simp at hc0; exact_mod_cast hc0
    (repeat refine cw_seq ?_); refine cw_skip ?_
    (repeat refine cw_seq ?_); refine cw_region ?_
    refine rw_q rfl rfl rfl (q_pev rfl (fun _ => rfl)) ?_
    refine rw_q rfl rfl rfl (q_pev rfl (fun _ => rfl)) ?_
    refine rw_q rfl rfl rfl (q_pev rfl (fun _ => rfl)) ?_
    refine rw_nil ?_
    (repeat refine cw_seq ?_); refine cw_block ?_
    (repeat refine cw_seq ?_); refine cw_loopS [0, 1, 12] [] (fun (k : Nat) => [(13, .v (.int .i64 k))]) (fun (k : Nat) => []) (fun (k : Nat) => []) (fun (k : Nat) => []) (fun (k : Nat) => k ≤ l.length ∧ decide (l.drop k = r.drop k) = decide (l = r)) (fun (k : Nat) => l.length - k) 0 (.cons rfl (.cons rfl (.cons rfl (.nil _)))) (.nil) ⟨Nat.zero_le _, rfl⟩ (Le.of rfl (by repeat (first | exact .nil _ | refine .cons rfl ?_)) (by repeat (first | exact .nil _ | refine .cons (by repeat (first | exact .here _ _ | apply Pick.there)) ?_)) (by repeat (first | exact .nil _ | refine .cons (by repeat (first | exact .here _ _ | apply Pick.there)) ?_)) (by repeat (first | exact .nil _ | refine .cons (by repeat (first | exact .head _ | apply List.Mem.tail)) ?_))) ?_
    rintro k ⟨hk0, hf0⟩
    simp only [List.cons_append, List.nil_append]
    (repeat refine cw_seq ?_); refine cw_region ?_
    refine rw_q rfl rfl rfl (q_pev rfl (fun _ => rfl)) ?_
    refine rw_nil ?_
    (repeat refine cw_seq ?_); refine cw_cond rfl rfl (fun hc1 => ?_) (fun hc1 => ?_)
    · skip
      have hlt : k < l.length := by simpa using hc1
      have hlr : k < r.length := by omega
      rw [drop_gt hlt, drop_gt hlr] at hf0
      (repeat refine cw_seq ?_); refine cw_skip ?_
      (repeat refine cw_seq ?_); refine cw_block ?_
      (repeat refine cw_seq ?_); refine cw_region ?_
      refine rw_q rfl rfl rfl (q_pev rfl (fun _ => rfl)) ?_
      refine rw_q rfl rfl rfl (q_pev rfl (fun _ => rfl)) ?_
      refine rw_nil ?_
      (repeat refine cw_seq ?_); refine cw_regionA (fun _ => []) ?_
      refine ra_q (.an (i := 0) (js := [1, 3, 4, 5, 6, 7, 8]) rfl (by kernel_rfl) (by kernel_rfl) (by kernel_rfl) (by kernel_rfl)) (SplitB.all _) (by simp) rfl rfl rfl (q_pev rfl (fun _ => rfl)) ?_
      refine ra_q (.an (i := 1) (js := [3, 4, 5, 6, 7, 8]) rfl (by kernel_rfl) (by kernel_rfl) (by kernel_rfl) (by kernel_rfl)) (SplitB.all _) (by simp) rfl rfl rfl (q_pev rfl (fun _ => rfl)) ?_
      refine ra_q (.an (i := 2) (js := [4, 5, 6, 7, 8]) rfl (by kernel_rfl) (by kernel_rfl) (by kernel_rfl) (by kernel_rfl)) (SplitB.all _) (by simp) rfl rfl rfl (q_idx _ rfl rfl (fun _ => rfl) rfl (fun _ => rfl) rfl rfl (by repeat (first | exact .head _ | apply List.Mem.tail)) rfl (fun _ => rfl) (fun _ => by first | assumption | omega)) ?_
      refine ra_q (.an (i := 3) (js := [4, 5, 6, 7]) rfl (by kernel_rfl) (by kernel_rfl) (by kernel_rfl) (by kernel_rfl)) (SplitB.all _) (by simp) rfl rfl rfl (q_leA rfl rfl (fun _ => rfl) rfl (by repeat (first | exact .head _ | apply List.Mem.tail)) (fun _ => by first | assumption | omega)) ?_
      refine ra_q (.an (i := 4) (js := [5, 7, 8]) rfl (by kernel_rfl) (by kernel_rfl) (by kernel_rfl) (by kernel_rfl)) (SplitB.all _) (by simp) rfl rfl rfl (q_pev rfl (fun _ => rfl)) ?_
      refine ra_q (.an (i := 5) (js := [7, 8]) rfl (by kernel_rfl) (by kernel_rfl) (by kernel_rfl) (by kernel_rfl)) (SplitB.all _) (by simp) rfl rfl rfl (q_pev rfl (fun _ => rfl)) ?_
      refine ra_q (.an (i := 6) (js := [8]) rfl (by kernel_rfl) (by kernel_rfl) (by kernel_rfl) (by kernel_rfl)) (SplitB.all _) (by simp) rfl rfl rfl (q_idx _ rfl rfl (fun _ => rfl) rfl (fun _ => rfl) rfl rfl (by repeat (first | exact .head _ | apply List.Mem.tail)) rfl (fun _ => rfl) (fun _ => by first | assumption | omega)) ?_
      refine ra_q (.an (i := 7) (js := []) rfl (by kernel_rfl) (by kernel_rfl) (by kernel_rfl) (by kernel_rfl)) (SplitB.all _) (by simp) rfl rfl rfl (q_leA rfl rfl (fun _ => rfl) rfl (by repeat (first | exact .head _ | apply List.Mem.tail)) (fun _ => by first | assumption | omega)) ?_
      refine ra_q (.an (i := 8) (js := []) rfl (by kernel_rfl) (by kernel_rfl) (by kernel_rfl) (by kernel_rfl)) (SplitB.all _) (by simp) rfl rfl rfl (q_nes eqT_place rfl rfl (fun _ => rfl) rfl (fun _ => rfl) rfl rfl) ?_
      refine ra_nil (by kernel_rfl) ?_
      (repeat refine cw_seq ?_); refine cw_cond rfl rfl (fun hc2 => ?_) (fun hc2 => ?_)
      · skip
        rw [flatEq_place] at hc2
        have hne : gt l k ≠ gt r k := by simpa using hc2
        (repeat refine cw_seq ?_); refine cw_region ?_
        refine rw_q rfl rfl rfl (q_pev rfl (fun _ => rfl)) ?_
        refine rw_nil ?_
        (repeat refine cw_seq ?_); refine cw_ret ?_
        refine ⟨(), _, (.cons (.tmp rfl) .nil), ?_, (by repeat (first | exact .nil _ | refine .cons (by repeat (first | exact .head _ | apply List.Mem.tail)) ?_))⟩
        rw [← hf0]; simp [resVal, hne]
      · skip
        rw [flatEq_place] at hc2
        have heq : gt l k = gt r k := by simpa using hc2
        rw [heq] at hf0
        have hnext : decide (l.drop (k + 1) = r.drop (k + 1)) = decide (l = r) := by rw [← hf0]; simp
        (repeat refine cw_seq ?_); refine cw_skip ?_
        (repeat refine cw_seq ?_); refine cw_region ?_
        refine rw_q rfl rfl rfl (q_add rfl rfl (fun _ => rfl) rfl (fun _ => rfl) (fun _ => by omega)) ?_
        refine rw_q rfl rfl rfl (q_pev rfl (fun _ => rfl)) ?_
        refine rw_nil ?_
        refine ⟨k + 1, ⟨hlt, hnext⟩, (by simp only []; omega), (Le.of rfl (by repeat (first | exact .nil _ | refine .cons rfl ?_)) (by repeat (first | exact .nil _ | refine .cons (by repeat (first | exact .here _ _ | apply Pick.there)) ?_)) (by repeat (first | exact .nil _ | refine .cons (by repeat (first | exact .here _ _ | apply Pick.there)) ?_)) (by repeat (first | exact .nil _ | refine .cons (by repeat (first | exact .head _ | apply List.Mem.tail)) ?_)))⟩
    · skip
      have hge : l.length ≤ k := by simpa using hc1
      (repeat refine cw_seq ?_); refine cw_exit ?_
      (repeat refine cw_seq ?_); refine cw_region ?_
      refine rw_q rfl rfl rfl (q_pev rfl (fun _ => rfl)) ?_
      refine rw_nil ?_
      (repeat refine cw_seq ?_); refine cw_ret ?_
      refine ⟨(), _, (.cons (.tmp rfl) .nil), ?_, (by repeat (first | exact .nil _ | refine .cons (by repeat (first | exact .head _ | apply List.Mem.tail)) ?_))⟩
      rw [← hf0, List.drop_of_length_le hge, List.drop_of_length_le (by omega)]; simp [resVal]

theorem Equal_int_spec (x y : SlV) (l r : List Int) (hl : l.length < 1000000000000000000) : Does Try.prog 27 [x.val l.length, y.val r.length] [RdL intC 1 x l, RdL intC 1 y r] (fun (_ : Unit) => .bool (decide (l = r))) (fun (_ : Unit) => []) := by
  refine does_of tab_ok Try.func27 rfl Try.ntmps27 Try.results27 rfl inferInstance (fun _ => inferInstance) fun C => ?_
  (repeat refine cw_seq ?_); refine cw_region ?_
  refine rw_q rfl rfl rfl (q_pev rfl (fun _ => rfl)) ?_
  refine rw_nil ?_
  (repeat refine cw_seq ?_); refine cw_region ?_
  refine rw_q rfl rfl rfl (q_pev rfl (fun _ => rfl)) ?_
  refine rw_q rfl rfl rfl (q_pev rfl (fun _ => rfl)) ?_
  refine rw_q rfl rfl rfl (q_pev rfl (fun _ => rfl)) ?_
  refine rw_q rfl rfl rfl (q_pev rfl (fun _ => rfl)) ?_
  refine rw_q rfl rfl rfl (q_pev rfl (fun _ => rfl)) ?_
  refine rw_nil ?_
  (repeat refine cw_seq ?_); refine cw_cond rfl rfl (fun hc0 => ?_) (fun hc0 => ?_)
  · skip
    have hne : l ≠ r := fun h => by subst h; simp at hc0
    (repeat refine cw_seq ?_); refine cw_region ?_
    refine rw_q rfl rfl rfl (q_pev rfl (fun _ => rfl)) ?_
    refine rw_nil ?_
    (repeat refine cw_seq ?_); refine cw_ret ?_
    refine ⟨(), _, (.cons (.tmp rfl) .nil), ?_, (by repeat (first | exact .nil _ | refine .cons (by repeat (first | exact .head _ | apply List.Mem.tail)) ?_))⟩
    simp [resVal, hne]
  · skip
    have hlen : l.length = r.length := by simp at hc0; exact_mod_cast hc0
    (repeat refine cw_seq ?_); refine cw_skip ?_
    (repeat refine cw_seq ?_); refine cw_region ?_
    refine rw_q rfl rfl rfl (q_pev rfl (fun _ => rfl)) ?_
    refine rw_q rfl rfl rfl (q_pev rfl (fun _ => rfl)) ?_
    refine rw_q rfl rfl rfl (q_pev rfl (fun _ => rfl)) ?_
    refine rw_nil ?_
    (repeat refine cw_seq ?_); refine cw_block ?_
    (repeat refine cw_seq ?_); refine cw_loopS [0, 1, 12] [] (fun (k : Nat) => [(13, .v (.int .i64 k))]) (fun (k : Nat) => []) (fun (k : Nat) => []) (fun (k : Nat) => []) (fun (k : Nat) => k ≤ l.length ∧ decide (l.drop k = r.drop k) = decide (l = r)) (fun (k : Nat) => l.length - k) 0 (.cons rfl (.cons rfl (.cons rfl (.nil _)))) (.nil) ⟨Nat.zero_le _, rfl⟩ (Le.of rfl (by repeat (first | exact .nil _ | refine .cons rfl ?_)) (by repeat (first | exact .nil _ | refine .cons (by repeat (first | exact .here _ _ | apply Pick.there)) ?_)) (by repeat (first | exact .nil _ | refine .cons (by repeat (first | exact .here _ _ | apply Pick.there)) ?_)) (by repeat (first | exact .nil _ | refine .cons (by repeat (first | exact .head _ | apply List.Mem.tail)) ?_))) ?_
    rintro k ⟨hk0, hf0⟩
    simp only [List.cons_append, List.nil_append]
    (repeat refine cw_seq ?_); refine cw_region ?_
    refine rw_q rfl rfl rfl (q_pev rfl (fun _ => rfl)) ?_
    refine rw_nil ?_
    (repeat refine cw_seq ?_); refine cw_cond rfl rfl (fun hc1 => ?_) (fun hc1 => ?_)
    · skip
      have hlt : k < l.length := by simpa using hc1
      have hlr : k < r.length := by omega
      rw [drop_gt hlt, drop_gt hlr] at hf0
      (repeat refine cw_seq ?_); refine cw_skip ?_
      (repeat refine cw_seq ?_); refine cw_block ?_
      (repeat refine cw_seq ?_); refine cw_region ?_
      refine rw_q rfl rfl rfl (q_pev rfl (fun _ => rfl)) ?_
      refine rw_q rfl rfl rfl (q_pev rfl (fun _ => rfl)) ?_
      refine rw_nil ?_
      (repeat refine cw_seq ?_); refine cw_regionA (fun _ => []) ?_
      refine ra_q (.an (i := 0) (js := [1, 3, 4, 5, 6, 7, 8]) rfl (by kernel_rfl) (by kernel_rfl) (by kernel_rfl) (by kernel_rfl)) (SplitB.all _) (by simp) rfl rfl rfl (q_pev rfl (fun _ => rfl)) ?_
      refine ra_q (.an (i := 1) (js := [3, 4, 5, 6, 7, 8]) rfl (by kernel_rfl) (by kernel_rfl) (by kernel_rfl) (by kernel_rfl)) (SplitB.all _) (by simp) rfl rfl rfl (q_pev rfl (fun _ => rfl)) ?_
      refine ra_q (.an (i := 2) (js := [4, 5, 6, 7, 8]) rfl (by kernel_rfl) (by kernel_rfl) (by kernel_rfl) (by kernel_rfl)) (SplitB.all _) (by simp) rfl rfl rfl (q_idx _ rfl rfl (fun _ => rfl) rfl (fun _ => rfl) rfl rfl (by repeat (first | exact .head _ | apply List.Mem.tail)) rfl (fun _ => rfl) (fun _ => by first | assumption | omega)) ?_
      refine ra_q (.an (i := 3) (js := [4, 5, 6, 7]) rfl (by kernel_rfl) (by kernel_rfl) (by kernel_rfl) (by kernel_rfl)) (SplitB.all _) (by simp) rfl rfl rfl (q_le1 rfl rfl (fun _ => rfl) rfl (by repeat (first | exact .head _ | apply List.Mem.tail)) (fun _ => by first | assumption | omega) rfl) ?_
      refine ra_q (.an (i := 4) (js := [5, 7, 8]) rfl (by kernel_rfl) (by kernel_rfl) (by kernel_rfl) (by kernel_rfl)) (SplitB.all _) (by simp) rfl rfl rfl (q_pev rfl (fun _ => rfl)) ?_
      refine ra_q (.an (i := 5) (js := [7, 8]) rfl (by kernel_rfl) (by kernel_rfl) (by kernel_rfl) (by kernel_rfl)) (SplitB.all _) (by simp) rfl rfl rfl (q_pev rfl (fun _ => rfl)) ?_
      refine ra_q (.an (i := 6) (js := [8]) rfl (by kernel_rfl) (by kernel_rfl) (by kernel_rfl) (by kernel_rfl)) (SplitB.all _) (by simp) rfl rfl rfl (q_idx _ rfl rfl (fun _ => rfl) rfl (fun _ => rfl) rfl rfl (by repeat (first | exact .head _ | apply List.Mem.tail)) rfl (fun _ => rfl) (fun _ => by first | assumption | omega)) ?_
      refine ra_q (.an (i := 7) (js := []) rfl (by kernel_rfl) (by kernel_rfl) (by kernel_rfl) (by kernel_rfl)) (SplitB.all _) (by simp) rfl rfl rfl (q_le1 rfl rfl (fun _ => rfl) rfl (by repeat (first | exact .head _ | apply List.Mem.tail)) (fun _ => by first | assumption | omega) rfl) ?_
      refine ra_q (.an (i := 8) (js := []) rfl (by kernel_rfl) (by kernel_rfl) (by kernel_rfl) (by kernel_rfl)) (SplitB.all _) (by simp) rfl rfl rfl (q_pev rfl (fun _ => rfl)) ?_
      refine ra_nil (by kernel_rfl) ?_
      (repeat refine cw_seq ?_); refine cw_cond rfl rfl (fun hc2 => ?_) (fun hc2 => ?_)
      · skip
        have hne : gt l k ≠ gt r k := by simpa using hc2
        (repeat refine cw_seq ?_); refine cw_region ?_
        refine rw_q rfl rfl rfl (q_pev rfl (fun _ => rfl)) ?_
        refine rw_nil ?_
        (repeat refine cw_seq ?_); refine cw_ret ?_
        refine ⟨(), _, (.cons (.tmp rfl) .nil), ?_, (by repeat (first | exact .nil _ | refine .cons (by repeat (first | exact .head _ | apply List.Mem.tail)) ?_))⟩
        rw [← hf0]; simp [resVal, hne]
      · skip
        have heq : gt l k = gt r k := by simpa using hc2
        rw [heq] at hf0
        have hnext : decide (l.drop (k + 1) = r.drop (k + 1)) = decide (l = r) := by rw [← hf0]; simp
        (repeat refine cw_seq ?_); refine cw_skip ?_
        (repeat refine cw_seq ?_); refine cw_region ?_
        refine rw_q rfl rfl rfl (q_add rfl rfl (fun _ => rfl) rfl (fun _ => rfl) (fun _ => by omega)) ?_
        refine rw_q rfl rfl rfl (q_pev rfl (fun _ => rfl)) ?_
        refine rw_nil ?_
        refine ⟨k + 1, ⟨hlt, hnext⟩, (by simp only []; omega), (Le.of rfl (by repeat (first | exact .nil _ | refine .cons rfl ?_)) (by repeat (first | exact .nil _ | refine .cons (by repeat (first | exact .here _ _ | apply Pick.there)) ?_)) (by repeat (first | exact .nil _ | refine .cons (by repeat (first | exact .here _ _ | apply Pick.there)) ?_)) (by repeat (first | exact .nil _ | refine .cons (by repeat (first | exact .head _ | apply List.Mem.tail)) ?_)))⟩
    · skip
      have hge : l.length ≤ k := by simpa using hc1
      (repeat refine cw_seq ?_); refine cw_exit ?_
      (repeat refine cw_seq ?_); refine cw_region ?_
      refine rw_q rfl rfl rfl (q_pev rfl (fun _ => rfl)) ?_
      refine rw_nil ?_
      (repeat refine cw_seq ?_); refine cw_ret ?_
      refine ⟨(), _, (.cons (.tmp rfl) .nil), ?_, (by repeat (first | exact .nil _ | refine .cons (by repeat (first | exact .head _ | apply List.Mem.tail)) ?_))⟩
      rw [← hf0, List.drop_of_length_le hge, List.drop_of_length_le (by omega)]; simp [resVal]

theorem Equal_op_spec (x y : SlV) (l r : List Op) (hl : l.length < 1000000000000000000) : Does Try.prog 92 [x.val l.length, y.val r.length] [RdL opC 7 x l, RdL opC 7 y r] (fun (_ : Unit) => .bool (decide (l = r))) (fun (_ : Unit) => []) := by
  refine does_of tab_ok Try.func92 rfl Try.ntmps92 Try.results92 rfl inferInstance (fun _ => inferInstance) fun C => ?_
  (repeat refine cw_seq ?_); refine cw_region ?_
  refine rw_q rfl rfl rfl (q_pev rfl (fun _ => rfl)) ?_
  refine rw_nil ?_
  (repeat refine cw_seq ?_); refine cw_region ?_
  refine rw_q rfl rfl rfl (q_pev rfl (fun _ => rfl)) ?_
  refine rw_q rfl rfl rfl (q_pev rfl (fun _ => rfl)) ?_
  refine rw_q rfl rfl rfl (q_pev rfl (fun _ => rfl)) ?_
  refine rw_q rfl rfl rfl (q_pev rfl (fun _ => rfl)) ?_
  refine rw_q rfl rfl rfl (q_pev rfl (fun _ => rfl)) ?_
  refine rw_nil ?_
  (repeat refine cw_seq ?_); refine cw_cond rfl rfl (fun hc0 => ?_) (fun hc0 => ?_)
  · skip
    have hne : l ≠ r := fun h => by subst h; simp at hc0
    (repeat refine cw_seq ?_); refine cw_region ?_
    refine rw_q rfl rfl rfl (q_pev rfl (fun _ => rfl)) ?_
    refine rw_nil ?_
    (repeat refine cw_seq ?_); refine cw_ret ?_
    refine ⟨(), _, (.cons (.tmp rfl) .nil), ?_, (by repeat (first | exact .nil _ | refine .cons (by repeat (first | exact .head _ | apply List.Mem.tail)) ?_))⟩
    simp [resVal, hne]
  · skip
    have hlen : l.length = r.length := by simp at hc0; exact_mod_cast hc0
    (repeat refine cw_seq ?_); refine cw_skip ?_
    (repeat refine cw_seq ?_); refine cw_region ?_
    refine rw_q rfl rfl rfl (q_pev rfl (fun _ => rfl)) ?_
    refine rw_q rfl rfl rfl (q_pev rfl (fun _ => rfl)) ?_
    refine rw_q rfl rfl rfl (q_pev rfl (fun _ => rfl)) ?_
    refine rw_nil ?_
    (repeat refine cw_seq ?_); refine cw_block ?_
    (repeat refine cw_seq ?_); refine cw_loopS [0, 1, 12] [] (fun (k : Nat) => [(13, .v (.int .i64 k))]) (fun (k : Nat) => []) (fun (k : Nat) => []) (fun (k : Nat) => []) (fun (k : Nat) => k ≤ l.length ∧ decide (l.drop k = r.drop k) = decide (l = r)) (fun (k : Nat) => l.length - k) 0 (.cons rfl (.cons rfl (.cons rfl (.nil _)))) (.nil) ⟨Nat.zero_le _, rfl⟩ (Le.of rfl (by repeat (first | exact .nil _ | refine .cons rfl ?_)) (by repeat (first | exact .nil _ | refine .cons (by repeat (first | exact .here _ _ | apply Pick.there)) ?_)) (by repeat (first | exact .nil _ | refine .cons (by repeat (first | exact .here _ _ | apply Pick.there)) ?_)) (by repeat (first | exact .nil _ | refine .cons (by repeat (first | exact .head _ | apply List.Mem.tail)) ?_))) ?_
    rintro k ⟨hk0, hf0⟩
    simp only [List.cons_append, List.nil_append]
    (repeat refine cw_seq ?_); refine cw_region ?_
    refine rw_q rfl rfl rfl (q_pev rfl (fun _ => rfl)) ?_
    refine rw_nil ?_
    (repeat refine cw_seq ?_); refine cw_cond rfl rfl (fun hc1 => ?_) (fun hc1 => ?_)
    · skip
      have hlt : k < l.length := by simpa using hc1
      have hlr : k < r.length := by omega
      rw [drop_gt hlt, drop_gt hlr] at hf0
      (repeat refine cw_seq ?_); refine cw_skip ?_
      (repeat refine cw_seq ?_); refine cw_block ?_
      (repeat refine cw_seq ?_); refine cw_region ?_
      refine rw_q rfl rfl rfl (q_pev rfl (fun _ => rfl)) ?_
      refine rw_q rfl rfl rfl (q_pev rfl (fun _ => rfl)) ?_
      refine rw_nil ?_
      (repeat refine cw_seq ?_); refine cw_regionA (fun _ => []) ?_
      refine ra_q (.an (i := 0) (js := [1, 3, 4, 5, 6, 7, 8]) rfl (by kernel_rfl) (by kernel_rfl) (by kernel_rfl) (by kernel_rfl)) (SplitB.all _) (by simp) rfl rfl rfl (q_pev rfl (fun _ => rfl)) ?_
      refine ra_q (.an (i := 1) (js := [3, 4, 5, 6, 7, 8]) rfl (by kernel_rfl) (by kernel_rfl) (by kernel_rfl) (by kernel_rfl)) (SplitB.all _) (by simp) rfl rfl rfl (q_pev rfl (fun _ => rfl)) ?_
      refine ra_q (.an (i := 2) (js := [4, 5, 6, 7, 8]) rfl (by kernel_rfl) (by kernel_rfl) (by kernel_rfl) (by kernel_rfl)) (SplitB.all _) (by simp) rfl rfl rfl (q_idx _ rfl rfl (fun _ => rfl) rfl (fun _ => rfl) rfl rfl (by repeat (first | exact .head _ | apply List.Mem.tail)) rfl (fun _ => rfl) (fun _ => by first | assumption | omega)) ?_
      refine ra_q (.an (i := 3) (js := [4, 5, 6, 7]) rfl (by kernel_rfl) (by kernel_rfl) (by kernel_rfl) (by kernel_rfl)) (SplitB.all _) (by simp) rfl rfl rfl (q_leA rfl rfl (fun _ => rfl) rfl (by repeat (first | exact .head _ | apply List.Mem.tail)) (fun _ => by first | assumption | omega)) ?_
      refine ra_q (.an (i := 4) (js := [5, 7, 8]) rfl (by kernel_rfl) (by kernel_rfl) (by kernel_rfl) (by kernel_rfl)) (SplitB.all _) (by simp) rfl rfl rfl (q_pev rfl (fun _ => rfl)) ?_
      refine ra_q (.an (i := 5) (js := [7, 8]) rfl (by kernel_rfl) (by kernel_rfl) (by kernel_rfl) (by kernel_rfl)) (SplitB.all _) (by simp) rfl rfl rfl (q_pev rfl (fun _ => rfl)) ?_
      refine ra_q (.an (i := 6) (js := [8]) rfl (by kernel_rfl) (by kernel_rfl) (by kernel_rfl) (by kernel_rfl)) (SplitB.all _) (by simp) rfl rfl rfl (q_idx _ rfl rfl (fun _ => rfl) rfl (fun _ => rfl) rfl rfl (by repeat (first | exact .head _ | apply List.Mem.tail)) rfl (fun _ => rfl) (fun _ => by first | assumption | omega)) ?_
      refine ra_q (.an (i := 7) (js := []) rfl (by kernel_rfl) (by kernel_rfl) (by kernel_rfl) (by kernel_rfl)) (SplitB.all _) (by simp) rfl rfl rfl (q_leA rfl rfl (fun _ => rfl) rfl (by repeat (first | exact .head _ | apply List.Mem.tail)) (fun _ => by first | assumption | omega)) ?_
      refine ra_q (.an (i := 8) (js := []) rfl (by kernel_rfl) (by kernel_rfl) (by kernel_rfl) (by kernel_rfl)) (SplitB.all _) (by simp) rfl rfl rfl (q_nes eqT_op rfl rfl (fun _ => rfl) rfl (fun _ => rfl) rfl rfl) ?_
      refine ra_nil (by kernel_rfl) ?_
      (repeat refine cw_seq ?_); refine cw_cond rfl rfl (fun hc2 => ?_) (fun hc2 => ?_)
      · skip
        rw [flatEq_op] at hc2
        have hne : gt l k ≠ gt r k := by simpa using hc2
        (repeat refine cw_seq ?_); refine cw_region ?_
        refine rw_q rfl rfl rfl (q_pev rfl (fun _ => rfl)) ?_
        refine rw_nil ?_
        (repeat refine cw_seq ?_); refine cw_ret ?_
        refine ⟨(), _, (.cons (.tmp rfl) .nil), ?_, (by repeat (first | exact .nil _ | refine .cons (by repeat (first | exact .head _ | apply List.Mem.tail)) ?_))⟩
        rw [← hf0]; simp [resVal, hne]
      · skip
        rw [flatEq_op] at hc2
        have heq : gt l k = gt r k := by simpa using hc2
        rw [heq] at hf0
        have hnext : decide (l.drop (k + 1) = r.drop (k + 1)) = decide (l = r) := by rw [← hf0]; simp
        (repeat refine cw_seq ?_); refine cw_skip ?_
        (repeat refine cw_seq ?_); refine cw_region ?_
        refine rw_q rfl rfl rfl (q_add rfl rfl (fun _ => rfl) rfl (fun _ => rfl) (fun _ => by omega)) ?_
        refine rw_q rfl rfl rfl (q_pev rfl (fun _ => rfl)) ?_
        refine rw_nil ?_
        refine ⟨k + 1, ⟨hlt, hnext⟩, (by simp only []; omega), (Le.of rfl (by repeat (first | exact .nil _ | refine .cons rfl ?_)) (by repeat (first | exact .nil _ | refine .cons (by repeat (first | exact .here _ _ | apply Pick.there)) ?_)) (by repeat (first | exact .nil _ | refine .cons (by repeat (first | exact .here _ _ | apply Pick.there)) ?_)) (by repeat (first | exact .nil _ | refine .cons (by repeat (first | exact .head _ | apply List.Mem.tail)) ?_)))⟩
    · skip
      have hge : l.length ≤ k := by simpa using hc1
      (repeat refine cw_seq ?_); refine cw_exit ?_
      (repeat refine cw_seq ?_); refine cw_region ?_
      refine rw_q rfl rfl rfl (q_pev rfl (fun _ => rfl)) ?_
      refine rw_nil ?_
      (repeat refine cw_seq ?_); refine cw_ret ?_
      refine ⟨(), _, (.cons (.tmp rfl) .nil), ?_, (by repeat (first | exact .nil _ | refine .cons (by repeat (first | exact .head _ | apply List.Mem.tail)) ?_))⟩
      rw [← hf0, List.drop_of_length_le hge, List.drop_of_length_le (by omega)]; simp [resVal]

theorem Equal_step_spec (x y : SlV) (l r : List Step) (hl : l.length < 1000000000000000000) : Does Try.prog 78 [x.val l.length, y.val r.length] [RdL stepC 11 x l, RdL stepC 11 y r] (fun (_ : Unit) => .bool (decide (l = r))) (fun (_ : Unit) => []) := by
  refine does_of tab_ok Try.func78 rfl Try.ntmps78 Try.results78 rfl inferInstance (fun _ => inferInstance) fun C => ?_
  (repeat refine cw_seq ?_); refine cw_region ?_
  refine rw_q rfl rfl rfl (q_pev rfl (fun _ => rfl)) ?_
  refine rw_nil ?_
  (repeat refine cw_seq ?_); refine cw_region ?_
  refine rw_q rfl rfl rfl (q_pev rfl (fun _ => rfl)) ?_
  refine rw_q rfl rfl rfl (q_pev rfl (fun _ => rfl)) ?_
  refine rw_q rfl rfl rfl (q_pev rfl (fun _ => rfl)) ?_
  refine rw_q rfl rfl rfl (q_pev rfl (fun _ => rfl)) ?_
  refine rw_q rfl rfl rfl (q_pev rfl (fun _ => rfl)) ?_
  refine rw_nil ?_
  (repeat refine cw_seq ?_); refine cw_cond rfl rfl (fun hc0 => ?_) (fun hc0 => ?_)
  · skip
    have hne : l ≠ r := fun h => by subst h; simp at hc0
    (repeat refine cw_seq ?_); refine cw_region ?_
    refine rw_q rfl rfl rfl (q_pev rfl (fun _ => rfl)) ?_
    refine rw_nil ?_
    (repeat refine cw_seq ?_); refine cw_ret ?_
    refine ⟨(), _, (.cons (.tmp rfl) .nil), ?_, (by repeat (first | exact .nil _ | refine .cons (by repeat (first | exact .head _ | apply List.Mem.tail)) ?_))⟩
    simp [resVal, hne]
  · skip
    have hlen : l.length = r.length := by simp at hc0; exact_mod_cast hc0
    (repeat refine cw_seq ?_); refine cw_skip ?_
    (repeat refine cw_seq ?_); refine cw_region ?_
    refine rw_q rfl rfl rfl (q_pev rfl (fun _ => rfl)) ?_
    refine rw_q rfl rfl rfl (q_pev rfl (fun _ => rfl)) ?_
    refine rw_q rfl rfl rfl (q_pev rfl (fun _ => rfl)) ?_
    refine rw_nil ?_
    (repeat refine cw_seq ?_); refine cw_block ?_
    (repeat refine cw_seq ?_); refine cw_loopS [0, 1, 12] [] (fun (k : Nat) => [(13, .v (.int .i64 k))]) (fun (k : Nat) => []) (fun (k : Nat) => []) (fun (k : Nat) => []) (fun (k : Nat) => k ≤ l.length ∧ decide (l.drop k = r.drop k) = decide (l = r)) (fun (k : Nat) => l.length - k) 0 (.cons rfl (.cons rfl (.cons rfl (.nil _)))) (.nil) ⟨Nat.zero_le _, rfl⟩ (Le.of rfl (by repeat (first | exact .nil _ | refine .cons rfl ?_)) (by repeat (first | exact .nil _ | refine .cons (by repeat (first | exact .here _ _ | apply Pick.there)) ?_)) (by repeat (first | exact .nil _ | refine .cons (by repeat (first | exact .here _ _ | apply Pick.there)) ?_)) (by repeat (first | exact .nil _ | refine .cons (by repeat (first | exact .head _ | apply List.Mem.tail)) ?_))) ?_
    rintro k ⟨hk0, hf0⟩
    simp only [List.cons_append, List.nil_append]
    (repeat refine cw_seq ?_); refine cw_region ?_
    refine rw_q rfl rfl rfl (q_pev rfl (fun _ => rfl)) ?_
    refine rw_nil ?_
    (repeat refine cw_seq ?_); refine cw_cond rfl rfl (fun hc1 => ?_) (fun hc1 => ?_)
    · skip
      have hlt : k < l.length := by simpa using hc1
      have hlr : k < r.length := by omega
      rw [drop_gt hlt, drop_gt hlr] at hf0
      (repeat refine cw_seq ?_); refine cw_skip ?_
      (repeat refine cw_seq ?_); refine cw_block ?_
      (repeat refine cw_seq ?_); refine cw_region ?_
      refine rw_q rfl rfl rfl (q_pev rfl (fun _ => rfl)) ?_
      refine rw_q rfl rfl rfl (q_pev rfl (fun _ => rfl)) ?_
      refine rw_nil ?_
      (repeat refine cw_seq ?_); refine cw_regionA (fun _ => []) ?_
      refine ra_q (.an (i := 0) (js := [1, 3, 4, 5, 6, 7, 8]) rfl (by kernel_rfl) (by kernel_rfl) (by kernel_rfl) (by kernel_rfl)) (SplitB.all _) (by simp) rfl rfl rfl (q_pev rfl (fun _ => rfl)) ?_
      refine ra_q (.an (i := 1) (js := [3, 4, 5, 6, 7, 8]) rfl (by kernel_rfl) (by kernel_rfl) (by kernel_rfl) (by kernel_rfl)) (SplitB.all _) (by simp) rfl rfl rfl (q_pev rfl (fun _ => rfl)) ?_
      refine ra_q (.an (i := 2) (js := [4, 5, 6, 7, 8]) rfl (by kernel_rfl) (by kernel_rfl) (by kernel_rfl) (by kernel_rfl)) (SplitB.all _) (by simp) rfl rfl rfl (q_idx _ rfl rfl (fun _ => rfl) rfl (fun _ => rfl) rfl rfl (by repeat (first | exact .head _ | apply List.Mem.tail)) rfl (fun _ => rfl) (fun _ => by first | assumption | omega)) ?_
      refine ra_q (.an (i := 3) (js := [4, 5, 6, 7]) rfl (by kernel_rfl) (by kernel_rfl) (by kernel_rfl) (by kernel_rfl)) (SplitB.all _) (by simp) rfl rfl rfl (q_leA rfl rfl (fun _ => rfl) rfl (by repeat (first | exact .head _ | apply List.Mem.tail)) (fun _ => by first | assumption | omega)) ?_
      refine ra_q (.an (i := 4) (js := [5, 7, 8]) rfl (by kernel_rfl) (by kernel_rfl) (by kernel_rfl) (by kernel_rfl)) (SplitB.all _) (by simp) rfl rfl rfl (q_pev rfl (fun _ => rfl)) ?_
      refine ra_q (.an (i := 5) (js := [7, 8]) rfl (by kernel_rfl) (by kernel_rfl) (by kernel_rfl) (by kernel_rfl)) (SplitB.all _) (by simp) rfl rfl rfl (q_pev rfl (fun _ => rfl)) ?_
      refine ra_q (.an (i := 6) (js := [8]) rfl (by kernel_rfl) (by kernel_rfl) (by kernel_rfl) (by kernel_rfl)) (SplitB.all _) (by simp) rfl rfl rfl (q_idx _ rfl rfl (fun _ => rfl) rfl (fun _ => rfl) rfl rfl (by repeat (first | exact .head _ | apply List.Mem.tail)) rfl (fun _ => rfl) (fun _ => by first | assumption | omega)) ?_
      refine ra_q (.an (i := 7) (js := []) rfl (by kernel_rfl) (by kernel_rfl) (by kernel_rfl) (by kernel_rfl)) (SplitB.all _) (by simp) rfl rfl rfl (q_leA rfl rfl (fun _ => rfl) rfl (by repeat (first | exact .head _ | apply List.Mem.tail)) (fun _ => by first | assumption | omega)) ?_
      refine ra_q (.an (i := 8) (js := []) rfl (by kernel_rfl) (by kernel_rfl) (by kernel_rfl) (by kernel_rfl)) (SplitB.all _) (by simp) rfl rfl rfl (q_nes eqT_step rfl rfl (fun _ => rfl) rfl (fun _ => rfl) rfl rfl) ?_
      refine ra_nil (by kernel_rfl) ?_
      (repeat refine cw_seq ?_); refine cw_cond rfl rfl (fun hc2 => ?_) (fun hc2 => ?_)
      · skip
        rw [flatEq_step] at hc2
        have hne : gt l k ≠ gt r k := by simpa using hc2
        (repeat refine cw_seq ?_); refine cw_region ?_
        refine rw_q rfl rfl rfl (q_pev rfl (fun _ => rfl)) ?_
        refine rw_nil ?_
        (repeat refine cw_seq ?_); refine cw_ret ?_
        refine ⟨(), _, (.cons (.tmp rfl) .nil), ?_, (by repeat (first | exact .nil _ | refine .cons (by repeat (first | exact .head _ | apply List.Mem.tail)) ?_))⟩
        rw [← hf0]; simp [resVal, hne]
      · skip
        rw [flatEq_step] at hc2
        have heq : gt l k = gt r k := by simpa using hc2
        rw [heq] at hf0
        have hnext : decide (l.drop (k + 1) = r.drop (k + 1)) = decide (l = r) := by rw [← hf0]; simp
        (repeat refine cw_seq ?_); refine cw_skip ?_
        (repeat refine cw_seq ?_); refine cw_region ?_
        refine rw_q rfl rfl rfl (q_add rfl rfl (fun _ => rfl) rfl (fun _ => rfl) (fun _ => by omega)) ?_
        refine rw_q rfl rfl rfl (q_pev rfl (fun _ => rfl)) ?_
        refine rw_nil ?_
        refine ⟨k + 1, ⟨hlt, hnext⟩, (by simp only []; omega), (Le.of rfl (by repeat (first | exact .nil _ | refine .cons rfl ?_)) (by repeat (first | exact .nil _ | refine .cons (by repeat (first | exact .here _ _ | apply Pick.there)) ?_)) (by repeat (first | exact .nil _ | refine .cons (by repeat (first | exact .here _ _ | apply Pick.there)) ?_)) (by repeat (first | exact .nil _ | refine .cons (by repeat (first | exact .head _ | apply List.Mem.tail)) ?_)))⟩
    · skip
      have hge : l.length ≤ k := by simpa using hc1
      (repeat refine cw_seq ?_); refine cw_exit ?_
      (repeat refine cw_seq ?_); refine cw_region ?_
      refine rw_q rfl rfl rfl (q_pev rfl (fun _ => rfl)) ?_
      refine rw_nil ?_
      (repeat refine cw_seq ?_); refine cw_ret ?_
      refine ⟨(), _, (.cons (.tmp rfl) .nil), ?_, (by repeat (first | exact .nil _ | refine .cons (by repeat (first | exact .head _ | apply List.Mem.tail)) ?_))⟩
      rw [← hf0, List.drop_of_length_le hge, List.drop_of_length_le (by omega)]; simp [resVal]

theorem Index_place_spec (x : SlV) (l : List Place) (v : Place) (hl : l.length < 1000000000000000000) : Does Try.prog 132 [x.val l.length, .agg ⟨placeC v⟩] [RdL placeC 3 x l] (fun (_ : Unit) => .int .i64 (indexV l v)) (fun (_ : Unit) => []) := by
  refine does_of tab_ok Try.func132 rfl Try.ntmps132 Try.results132 rfl inferInstance (fun _ => inferInstance) fun C => ?_
  (repeat refine cw_seq ?_); refine cw_region ?_
  refine rw_box_agg .sq (guard_none rfl) rfl rfl rfl rfl rfl fun g1 => ?_
  refine rw_q rfl rfl rfl (q_pev rfl (fun _ => rfl)) ?_
  refine rw_nil ?_
  (repeat refine cw_seq ?_); refine cw_region ?_
  refine rw_q rfl rfl rfl (q_pev rfl (fun _ => rfl)) ?_
  refine rw_q rfl rfl rfl (q_pev rfl (fun _ => rfl)) ?_
  refine rw_q rfl rfl rfl (q_pev rfl (fun _ => rfl)) ?_
  refine rw_nil ?_
  (repeat refine cw_seq ?_); refine cw_block ?_
  (repeat refine cw_seq ?_); refine cw_loopS [0, 3, 7] [true] (fun (k : Nat) => [(8, .v (.int .i64 k))]) (fun (k : Nat) => []) (fun (k : Nat) => []) (fun (k : Nat) => []) (fun (k : Nat) => k ≤ l.length ∧ indexF (l.drop k) v k = indexV l v) (fun (k : Nat) => l.length - k) 0 (.cons rfl (.cons rfl (.cons rfl (.nil _)))) (.keep (.nil)) ⟨Nat.zero_le _, rfl⟩ (Le.of rfl (by repeat (first | exact .nil _ | refine .cons rfl ?_)) (by repeat (first | exact .nil _ | refine .cons (by repeat (first | exact .here _ _ | apply Pick.there)) ?_)) (by repeat (first | exact .nil _ | refine .cons (by repeat (first | exact .here _ _ | apply Pick.there)) ?_)) (by repeat (first | exact .nil _ | refine .cons (by repeat (first | exact .head _ | apply List.Mem.tail)) ?_))) ?_
  rintro k ⟨hk0, hf0⟩
  simp only [List.cons_append, List.nil_append]
  (repeat refine cw_seq ?_); refine cw_region ?_
  refine rw_q rfl rfl rfl (q_pev rfl (fun _ => rfl)) ?_
  refine rw_nil ?_
  (repeat refine cw_seq ?_); refine cw_cond rfl rfl (fun hc0 => ?_) (fun hc0 => ?_)
  · skip
    have hlt : k < l.length := by simpa using hc0
    rw [drop_gt hlt] at hf0
    (repeat refine cw_seq ?_); refine cw_skip ?_
    (repeat refine cw_seq ?_); refine cw_block ?_
    (repeat refine cw_seq ?_); refine cw_region ?_
    refine rw_q rfl rfl rfl (q_pev rfl (fun _ => rfl)) ?_
    refine rw_q rfl rfl rfl (q_pev rfl (fun _ => rfl)) ?_
    refine rw_nil ?_
    (repeat refine cw_seq ?_); refine cw_regionA (fun _ => []) ?_
    refine ra_q (.an (i := 0) (js := [1, 2, 3, 4]) rfl (by kernel_rfl) (by kernel_rfl) (by kernel_rfl) (by kernel_rfl)) (SplitB.all _) (by simp) rfl rfl rfl (q_ldA rfl rfl (fun _ => rfl) rfl (by repeat (first | exact .head _ | apply List.Mem.tail)) rfl) ?_
    refine ra_q (.an (i := 1) (js := [2, 4, 5]) rfl (by kernel_rfl) (by kernel_rfl) (by kernel_rfl) (by kernel_rfl)) (SplitB.all _) (by simp) rfl rfl rfl (q_pev rfl (fun _ => rfl)) ?_
    refine ra_q (.an (i := 2) (js := [4, 5]) rfl (by kernel_rfl) (by kernel_rfl) (by kernel_rfl) (by kernel_rfl)) (SplitB.all _) (by simp) rfl rfl rfl (q_pev rfl (fun _ => rfl)) ?_
    refine ra_q (.an (i := 3) (js := [5]) rfl (by kernel_rfl) (by kernel_rfl) (by kernel_rfl) (by kernel_rfl)) (SplitB.all _) (by simp) rfl rfl rfl (q_idx _ rfl rfl (fun _ => rfl) rfl (fun _ => rfl) rfl rfl (by repeat (first | exact .head _ | apply List.Mem.tail)) rfl (fun _ => rfl) (fun _ => by first | assumption | omega)) ?_
    refine ra_q (.an (i := 4) (js := []) rfl (by kernel_rfl) (by kernel_rfl) (by kernel_rfl) (by kernel_rfl)) (SplitB.all _) (by simp) rfl rfl rfl (q_leA rfl rfl (fun _ => rfl) rfl (by repeat (first | exact .head _ | apply List.Mem.tail)) (fun _ => by first | assumption | omega)) ?_
    refine ra_q (.an (i := 5) (js := []) rfl (by kernel_rfl) (by kernel_rfl) (by kernel_rfl) (by kernel_rfl)) (SplitB.all _) (by simp) rfl rfl rfl (q_eqs eqT_place rfl rfl (fun _ => rfl) rfl (fun _ => rfl) rfl rfl) ?_
    refine ra_nil (by kernel_rfl) ?_
    (repeat refine cw_seq ?_); refine cw_cond rfl rfl (fun hc1 => ?_) (fun hc1 => ?_)
    · skip
      rw [flatEq_place] at hc1
      have heq : v = gt l k := by simpa using hc1
      (repeat refine cw_seq ?_); refine cw_region ?_
      refine rw_q rfl rfl rfl (q_pev rfl (fun _ => rfl)) ?_
      refine rw_q rfl rfl rfl (q_pev rfl (fun _ => rfl)) ?_
      refine rw_nil ?_
      (repeat refine cw_seq ?_); refine cw_ret ?_
      refine ⟨(), _, (.cons (.tmp rfl) .nil), ?_, (by repeat (first | exact .nil _ | refine .cons (by repeat (first | exact .head _ | apply List.Mem.tail)) ?_))⟩
      rw [← hf0, indexF, if_pos heq.symm]; rfl
    · skip
      rw [flatEq_place] at hc1
      have hne : v ≠ gt l k := by simpa using hc1
      have hnext : indexF (l.drop (k + 1)) v (k + 1) = indexV l v := by rw [← hf0, indexF, if_neg (fun h => hne h.symm)]
      (repeat refine cw_seq ?_); refine cw_skip ?_
      (repeat refine cw_seq ?_); refine cw_region ?_
      refine rw_q rfl rfl rfl (q_add rfl rfl (fun _ => rfl) rfl (fun _ => rfl) (fun _ => by omega)) ?_
      refine rw_q rfl rfl rfl (q_pev rfl (fun _ => rfl)) ?_
      refine rw_nil ?_
      refine ⟨k + 1, ⟨hlt, hnext⟩, (by simp only []; omega), (Le.of rfl (by repeat (first | exact .nil _ | refine .cons rfl ?_)) (by repeat (first | exact .nil _ | refine .cons (by repeat (first | exact .here _ _ | apply Pick.there)) ?_)) (by repeat (first | exact .nil _ | refine .cons (by repeat (first | exact .here _ _ | apply Pick.there)) ?_)) (by repeat (first | exact .nil _ | refine .cons (by repeat (first | exact .head _ | apply List.Mem.tail)) ?_)))⟩
  · skip
    have hge : l.length ≤ k := by simpa using hc0
    (repeat refine cw_seq ?_); refine cw_exit ?_
    (repeat refine cw_seq ?_); refine cw_region ?_
    refine rw_q rfl rfl rfl (q_pev rfl (fun _ => rfl)) ?_
    refine rw_nil ?_
    (repeat refine cw_seq ?_); refine cw_ret ?_
    refine ⟨(), _, (.cons (.tmp rfl) .nil), ?_, (by repeat (first | exact .nil _ | refine .cons (by repeat (first | exact .head _ | apply List.Mem.tail)) ?_))⟩
    rw [← hf0, List.drop_of_length_le hge]; rfl

theorem Contains_place_spec (x : SlV) (l : List Place) (v : Place) (hl : l.length < 1000000000000000000) : Does Try.prog 42 [x.val l.length, .agg ⟨placeC v⟩] [RdL placeC 3 x l] (fun (_ : Unit) => .bool (decide (v ∈ l))) (fun (_ : Unit) => []) := by
  refine does_of tab_ok Try.func42 rfl Try.ntmps42 Try.results42 rfl inferInstance (fun _ => inferInstance) fun C => ?_
  (repeat refine cw_seq ?_); refine cw_region ?_
  refine rw_box_agg .sq (guard_none rfl) rfl rfl rfl rfl rfl fun g1 => ?_
  refine rw_q rfl rfl rfl (q_pev rfl (fun _ => rfl)) ?_
  refine rw_nil ?_
  (repeat refine cw_seq ?_); refine cw_region ?_
  refine rw_q rfl rfl rfl (q_pev rfl (fun _ => rfl)) ?_
  refine rw_q rfl rfl rfl (q_ldA rfl rfl (fun _ => rfl) rfl (by repeat (first | exact .head _ | apply List.Mem.tail)) rfl) ?_
  refine rw_call (Index_place_spec x l v hl) .sq (guard_none rfl) rfl rfl rfl (by kernel_rfl) rfl rfl (by repeat (first | exact .nil _ | refine .cons (by repeat (first | exact .head _ | apply List.Mem.tail)) ?_)) ?_
  intro _
  refine rw_q rfl rfl rfl (q_pev rfl (fun _ => rfl)) ?_
  refine rw_q rfl rfl rfl (q_pev rfl (fun _ => rfl)) ?_
  refine rw_nil ?_
  (repeat refine cw_seq ?_); refine cw_ret ?_
  refine ⟨(), _, (.cons (.tmp rfl) .nil), ?_, (by repeat (first | exact .nil _ | refine .cons (by repeat (first | exact .head _ | apply List.Mem.tail)) ?_))⟩
  rw [← indexV_mem]; rfl

theorem Index_int_spec (x : SlV) (l : List Int) (v : Int) (hl : l.length < 1000000000000000000) : Does Try.prog 172 [x.val l.length, .int .i64 v] [RdL intC 1 x l] (fun (_ : Unit) => .int .i64 (indexV l v)) (fun (_ : Unit) => []) := by
  refine does_of tab_ok Try.func172 rfl Try.ntmps172 Try.results172 rfl inferInstance (fun _ => inferInstance) fun C => ?_
  (repeat refine cw_seq ?_); refine cw_region ?_
  refine rw_q rfl rfl rfl (q_pev rfl (fun _ => rfl)) ?_
  refine rw_nil ?_
  (repeat refine cw_seq ?_); refine cw_region ?_
  refine rw_q rfl rfl rfl (q_pev rfl (fun _ => rfl)) ?_
  refine rw_q rfl rfl rfl (q_pev rfl (fun _ => rfl)) ?_
  refine rw_q rfl rfl rfl (q_pev rfl (fun _ => rfl)) ?_
  refine rw_nil ?_
  (repeat refine cw_seq ?_); refine cw_block ?_
  (repeat refine cw_seq ?_); refine cw_loopS [0, 1, 7] [] (fun (k : Nat) => [(8, .v (.int .i64 k))]) (fun (k : Nat) => []) (fun (k : Nat) => []) (fun (k : Nat) => []) (fun (k : Nat) => k ≤ l.length ∧ indexF (l.drop k) v k = indexV l v) (fun (k : Nat) => l.length - k) 0 (.cons rfl (.cons rfl (.cons rfl (.nil _)))) (.nil) ⟨Nat.zero_le _, rfl⟩ (Le.of rfl (by repeat (first | exact .nil _ | refine .cons rfl ?_)) (by repeat (first | exact .nil _ | refine .cons (by repeat (first | exact .here _ _ | apply Pick.there)) ?_)) (by repeat (first | exact .nil _ | refine .cons (by repeat (first | exact .here _ _ | apply Pick.there)) ?_)) (by repeat (first | exact .nil _ | refine .cons (by repeat (first | exact .head _ | apply List.Mem.tail)) ?_))) ?_
  rintro k ⟨hk0, hf0⟩
  simp only [List.cons_append, List.nil_append]
  (repeat refine cw_seq ?_); refine cw_region ?_
  refine rw_q rfl rfl rfl (q_pev rfl (fun _ => rfl)) ?_
  refine rw_nil ?_
  (repeat refine cw_seq ?_); refine cw_cond rfl rfl (fun hc0 => ?_) (fun hc0 => ?_)
  · skip
    have hlt : k < l.length := by simpa using hc0
    rw [drop_gt hlt] at hf0
    (repeat refine cw_seq ?_); refine cw_skip ?_
    (repeat refine cw_seq ?_); refine cw_block ?_
    (repeat refine cw_seq ?_); refine cw_region ?_
    refine rw_q rfl rfl rfl (q_pev rfl (fun _ => rfl)) ?_
    refine rw_q rfl rfl rfl (q_pev rfl (fun _ => rfl)) ?_
    refine rw_nil ?_
    (repeat refine cw_seq ?_); refine cw_region ?_
    refine rw_q rfl rfl rfl (q_pev rfl (fun _ => rfl)) ?_
    refine rw_q rfl rfl rfl (q_pev rfl (fun _ => rfl)) ?_
    refine rw_q rfl rfl rfl (q_pev rfl (fun _ => rfl)) ?_
    refine rw_q rfl rfl rfl (q_idx _ rfl rfl (fun _ => rfl) rfl (fun _ => rfl) rfl rfl (by repeat (first | exact .head _ | apply List.Mem.tail)) rfl (fun _ => rfl) (fun _ => by first | assumption | omega)) ?_
    refine rw_q rfl rfl rfl (q_le1 rfl rfl (fun _ => rfl) rfl (by repeat (first | exact .head _ | apply List.Mem.tail)) (fun _ => by first | assumption | omega) rfl) ?_
    refine rw_q rfl rfl rfl (q_pev rfl (fun _ => rfl)) ?_
    refine rw_nil ?_
    (repeat refine cw_seq ?_); refine cw_cond rfl rfl (fun hc1 => ?_) (fun hc1 => ?_)
    · skip
      have heq : v = gt l k := by simpa using hc1
      (repeat refine cw_seq ?_); refine cw_region ?_
      refine rw_q rfl rfl rfl (q_pev rfl (fun _ => rfl)) ?_
      refine rw_q rfl rfl rfl (q_pev rfl (fun _ => rfl)) ?_
      refine rw_nil ?_
      (repeat refine cw_seq ?_); refine cw_ret ?_
      refine ⟨(), _, (.cons (.tmp rfl) .nil), ?_, (by repeat (first | exact .nil _ | refine .cons (by repeat (first | exact .head _ | apply List.Mem.tail)) ?_))⟩
      rw [← hf0, indexF, if_pos heq.symm]; rfl
    · skip
      have hne : v ≠ gt l k := by simpa using hc1
      have hnext : indexF (l.drop (k + 1)) v (k + 1) = indexV l v := by rw [← hf0, indexF, if_neg (fun h => hne h.symm)]
      (repeat refine cw_seq ?_); refine cw_skip ?_
      (repeat refine cw_seq ?_); refine cw_region ?_
      refine rw_q rfl rfl rfl (q_add rfl rfl (fun _ => rfl) rfl (fun _ => rfl) (fun _ => by omega)) ?_
      refine rw_q rfl rfl rfl (q_pev rfl (fun _ => rfl)) ?_
      refine rw_nil ?_
      refine ⟨k + 1, ⟨hlt, hnext⟩, (by simp only []; omega), (Le.of rfl (by repeat (first | exact .nil _ | refine .cons rfl ?_)) (by repeat (first | exact .nil _ | refine .cons (by repeat (first | exact .here _ _ | apply Pick.there)) ?_)) (by repeat (first | exact .nil _ | refine .cons (by repeat (first | exact .here _ _ | apply Pick.there)) ?_)) (by repeat (first | exact .nil _ | refine .cons (by repeat (first | exact .head _ | apply List.Mem.tail)) ?_)))⟩
  · skip
    have hge : l.length ≤ k := by simpa using hc0
    (repeat refine cw_seq ?_); refine cw_exit ?_
    (repeat refine cw_seq ?_); refine cw_region ?_
    refine rw_q rfl rfl rfl (q_pev rfl (fun _ => rfl)) ?_
    refine rw_nil ?_
    (repeat refine cw_seq ?_); refine cw_ret ?_
    refine ⟨(), _, (.cons (.tmp rfl) .nil), ?_, (by repeat (first | exact .nil _ | refine .cons (by repeat (first | exact .head _ | apply List.Mem.tail)) ?_))⟩
    rw [← hf0, List.drop_of_length_le hge]; rfl

theorem Contains_int_spec (x : SlV) (l : List Int) (v : Int) (hl : l.length < 1000000000000000000) : Does Try.prog 107 [x.val l.length, .int .i64 v] [RdL intC 1 x l] (fun (_ : Unit) => .bool (decide (v ∈ l))) (fun (_ : Unit) => []) := by
  refine does_of tab_ok Try.func107 rfl Try.ntmps107 Try.results107 rfl inferInstance (fun _ => inferInstance) fun C => ?_
  (repeat refine cw_seq ?_); refine cw_region ?_
  refine rw_q rfl rfl rfl (q_pev rfl (fun _ => rfl)) ?_
  refine rw_nil ?_
  (repeat refine cw_seq ?_); refine cw_region ?_
  refine rw_q rfl rfl rfl (q_pev rfl (fun _ => rfl)) ?_
  refine rw_q rfl rfl rfl (q_pev rfl (fun _ => rfl)) ?_
  refine rw_call (Index_int_spec x l v hl) .sq (guard_none rfl) rfl rfl rfl (by kernel_rfl) rfl rfl (by repeat (first | exact .nil _ | refine .cons (by repeat (first | exact .head _ | apply List.Mem.tail)) ?_)) ?_
  intro _
  refine rw_q rfl rfl rfl (q_pev rfl (fun _ => rfl)) ?_
  refine rw_q rfl rfl rfl (q_pev rfl (fun _ => rfl)) ?_
  refine rw_nil ?_
  (repeat refine cw_seq ?_); refine cw_ret ?_
  refine ⟨(), _, (.cons (.tmp rfl) .nil), ?_, (by repeat (first | exact .nil _ | refine .cons (by repeat (first | exact .head _ | apply List.Mem.tail)) ?_))⟩
  rw [← indexV_mem]; rfl

theorem Index_op_spec (x : SlV) (l : List Op) (v : Op) (hl : l.length < 1000000000000000000) : Does Try.prog 163 [x.val l.length, .agg ⟨opC v⟩] [RdL opC 7 x l] (fun (_ : Unit) => .int .i64 (indexV l v)) (fun (_ : Unit) => []) := by
  refine does_of tab_ok Try.func163 rfl Try.ntmps163 Try.results163 rfl inferInstance (fun _ => inferInstance) fun C => ?_
  (repeat refine cw_seq ?_); refine cw_region ?_
  refine rw_box_agg .sq (guard_none rfl) rfl rfl rfl rfl rfl fun g1 => ?_
  refine rw_q rfl rfl rfl (q_pev rfl (fun _ => rfl)) ?_
  refine rw_nil ?_
  (repeat refine cw_seq ?_); refine cw_region ?_
  refine rw_q rfl rfl rfl (q_pev rfl (fun _ => rfl)) ?_
  refine rw_q rfl rfl rfl (q_pev rfl (fun _ => rfl)) ?_
  refine rw_q rfl rfl rfl (q_pev rfl (fun _ => rfl)) ?_
  refine rw_nil ?_
  (repeat refine cw_seq ?_); refine cw_block ?_
  (repeat refine cw_seq ?_); refine cw_loopS [0, 3, 7] [true] (fun (k : Nat) => [(8, .v (.int .i64 k))]) (fun (k : Nat) => []) (fun (k : Nat) => []) (fun (k : Nat) => []) (fun (k : Nat) => k ≤ l.length ∧ indexF (l.drop k) v k = indexV l v) (fun (k : Nat) => l.length - k) 0 (.cons rfl (.cons rfl (.cons rfl (.nil _)))) (.keep (.nil)) ⟨Nat.zero_le _, rfl⟩ (Le.of rfl (by repeat (first | exact .nil _ | refine .cons rfl ?_)) (by repeat (first | exact .nil _ | refine .cons (by repeat (first | exact .here _ _ | apply Pick.there)) ?_)) (by repeat (first | exact .nil _ | refine .cons (by repeat (first | exact .here _ _ | apply Pick.there)) ?_)) (by repeat (first | exact .nil _ | refine .cons (by repeat (first | exact .head _ | apply List.Mem.tail)) ?_))) ?_
  rintro k ⟨hk0, hf0⟩
  simp only [List.cons_append, List.nil_append]
  (repeat refine cw_seq ?_); refine cw_region ?_
  refine rw_q rfl rfl rfl (q_pev rfl (fun _ => rfl)) ?_
  refine rw_nil ?_
  (repeat refine cw_seq ?_); refine cw_cond rfl rfl (fun hc0 => ?_) (fun hc0 => ?_)
  · skip
    have hlt : k < l.length := by simpa using hc0
    rw [drop_gt hlt] at hf0
    (repeat refine cw_seq ?_); refine cw_skip ?_
    (repeat refine cw_seq ?_); refine cw_block ?_
    (repeat refine cw_seq ?_); refine cw_region ?_
    refine rw_q rfl rfl rfl (q_pev rfl (fun _ => rfl)) ?_
    refine rw_q rfl rfl rfl (q_pev rfl (fun _ => rfl)) ?_
    refine rw_nil ?_
    (repeat refine cw_seq ?_); refine cw_regionA (fun _ => []) ?_
    refine ra_q (.an (i := 0) (js := [1, 2, 3, 4]) rfl (by kernel_rfl) (by kernel_rfl) (by kernel_rfl) (by kernel_rfl)) (SplitB.all _) (by simp) rfl rfl rfl (q_ldA rfl rfl (fun _ => rfl) rfl (by repeat (first | exact .head _ | apply List.Mem.tail)) rfl) ?_
    refine ra_q (.an (i := 1) (js := [2, 4, 5]) rfl (by kernel_rfl) (by kernel_rfl) (by kernel_rfl) (by kernel_rfl)) (SplitB.all _) (by simp) rfl rfl rfl (q_pev rfl (fun _ => rfl)) ?_
    refine ra_q (.an (i := 2) (js := [4, 5]) rfl (by kernel_rfl) (by kernel_rfl) (by kernel_rfl) (by kernel_rfl)) (SplitB.all _) (by simp) rfl rfl rfl (q_pev rfl (fun _ => rfl)) ?_
    refine ra_q (.an (i := 3) (js := [5]) rfl (by kernel_rfl) (by kernel_rfl) (by kernel_rfl) (by kernel_rfl)) (SplitB.all _) (by simp) rfl rfl rfl (q_idx _ rfl rfl (fun _ => rfl) rfl (fun _ => rfl) rfl rfl (by repeat (first | exact .head _ | apply List.Mem.tail)) rfl (fun _ => rfl) (fun _ => by first | assumption | omega)) ?_
    refine ra_q (.an (i := 4) (js := []) rfl (by kernel_rfl) (by kernel_rfl) (by kernel_rfl) (by kernel_rfl)) (SplitB.all _) (by simp) rfl rfl rfl (q_leA rfl rfl (fun _ => rfl) rfl (by repeat (first | exact .head _ | apply List.Mem.tail)) (fun _ => by first | assumption | omega)) ?_
    refine ra_q (.an (i := 5) (js := []) rfl (by kernel_rfl) (by kernel_rfl) (by kernel_rfl) (by kernel_rfl)) (SplitB.all _) (by simp) rfl rfl rfl (q_eqs eqT_op rfl rfl (fun _ => rfl) rfl (fun _ => rfl) rfl rfl) ?_
    refine ra_nil (by kernel_rfl) ?_
    (repeat refine cw_seq ?_); refine cw_cond rfl rfl (fun hc1 => ?_) (fun hc1 => ?_)
    · skip
      rw [flatEq_op] at hc1
      have heq : v = gt l k := by simpa using hc1
      (repeat refine cw_seq ?_); refine cw_region ?_
      refine rw_q rfl rfl rfl (q_pev rfl (fun _ => rfl)) ?_
      refine rw_q rfl rfl rfl (q_pev rfl (fun _ => rfl)) ?_
      refine rw_nil ?_
      (repeat refine cw_seq ?_); refine cw_ret ?_
      refine ⟨(), _, (.cons (.tmp rfl) .nil), ?_, (by repeat (first | exact .nil _ | refine .cons (by repeat (first | exact .head _ | apply List.Mem.tail)) ?_))⟩
      rw [← hf0, indexF, if_pos heq.symm]; rfl
    · skip
      rw [flatEq_op] at hc1
      have hne : v ≠ gt l k := by simpa using hc1
      have hnext : indexF (l.drop (k + 1)) v (k + 1) = indexV l v := by rw [← hf0, indexF, if_neg (fun h => hne h.symm)]
      (repeat refine cw_seq ?_); refine cw_skip ?_
      (repeat refine cw_seq ?_); refine cw_region ?_
      refine rw_q rfl rfl rfl (q_add rfl rfl (fun _ => rfl) rfl (fun _ => rfl) (fun _ => by omega)) ?_
      refine rw_q rfl rfl rfl (q_pev rfl (fun _ => rfl)) ?_
      refine rw_nil ?_
      refine ⟨k + 1, ⟨hlt, hnext⟩, (by simp only []; omega), (Le.of rfl (by repeat (first | exact .nil _ | refine .cons rfl ?_)) (by repeat (first | exact .nil _ | refine .cons (by repeat (first | exact .here _ _ | apply Pick.there)) ?_)) (by repeat (first | exact .nil _ | refine .cons (by repeat (first | exact .here _ _ | apply Pick.there)) ?_)) (by repeat (first | exact .nil _ | refine .cons (by repeat (first | exact .head _ | apply List.Mem.tail)) ?_)))⟩
  · skip
    have hge : l.length ≤ k := by simpa using hc0
    (repeat refine cw_seq ?_); refine cw_exit ?_
    (repeat refine cw_seq ?_); refine cw_region ?_
    refine rw_q rfl rfl rfl (q_pev rfl (fun _ => rfl)) ?_
    refine rw_nil ?_
    (repeat refine cw_seq ?_); refine cw_ret ?_
    refine ⟨(), _, (.cons (.tmp rfl) .nil), ?_, (by repeat (first | exact .nil _ | refine .cons (by repeat (first | exact .head _ | apply List.Mem.tail)) ?_))⟩
    rw [← hf0, List.drop_of_length_le hge]; rfl

theorem Contains_op_spec (x : SlV) (l : List Op) (v : Op) (hl : l.length < 1000000000000000000) : Does Try.prog 85 [x.val l.length, .agg ⟨opC v⟩] [RdL opC 7 x l] (fun (_ : Unit) => .bool (decide (v ∈ l))) (fun (_ : Unit) => []) := by
  refine does_of tab_ok Try.func85 rfl Try.ntmps85 Try.results85 rfl inferInstance (fun _ => inferInstance) fun C => ?_
  (repeat refine cw_seq ?_); refine cw_region ?_
  refine rw_box_agg .sq (guard_none rfl) rfl rfl rfl rfl rfl fun g1 => ?_
  refine rw_q rfl rfl rfl (q_pev rfl (fun _ => rfl)) ?_
  refine rw_nil ?_
  (repeat refine cw_seq ?_); refine cw_region ?_
  refine rw_q rfl rfl rfl (q_pev rfl (fun _ => rfl)) ?_
  refine rw_q rfl rfl rfl (q_ldA rfl rfl (fun _ => rfl) rfl (by repeat (first | exact .head _ | apply List.Mem.tail)) rfl) ?_
  refine rw_call (Index_op_spec x l v hl) .sq (guard_none rfl) rfl rfl rfl (by kernel_rfl) rfl rfl (by repeat (first | exact .nil _ | refine .cons (by repeat (first | exact .head _ | apply List.Mem.tail)) ?_)) ?_
  intro _
  refine rw_q rfl rfl rfl (q_pev rfl (fun _ => rfl)) ?_
  refine rw_q rfl rfl rfl (q_pev rfl (fun _ => rfl)) ?_
  refine rw_nil ?_
  (repeat refine cw_seq ?_); refine cw_ret ?_
  refine ⟨(), _, (.cons (.tmp rfl) .nil), ?_, (by repeat (first | exact .nil _ | refine .cons (by repeat (first | exact .head _ | apply List.Mem.tail)) ?_))⟩
  rw [← indexV_mem]; rfl
end Go.Proofs.Ytkialfeahkdiaaa
