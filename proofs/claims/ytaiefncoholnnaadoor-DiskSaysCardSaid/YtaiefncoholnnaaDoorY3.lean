/- Part of this claim. No condition. -/
import Derived.Test.YtaiefncoholnnaaDoorY2
set_option linter.unusedVariables false
set_option linter.unusedSimpArgs false
set_option maxHeartbeats 2000000
namespace Go.Proofs.YtaiefncoholnnaaDoor
open Go Go.Proofs.YtaiefncoholnnaaDoor.Fw Go.Proofs
attribute [local irreducible] RdL RdN VarP LibP RW CW
def orangeryref_RecText_1_L0  : List Int → (List Str) → (List Str)
  | [], l2 => l2
  | pn1 :: rn1, l2 => (orangeryref_RecText_1_L0 rn1 (l2 ++ [(Lib.itoa pn1)]))
def orangeryref_RecText_1 (l1 : List Int) (w1 : List Str) : (List Str) :=
  (orangeryref_RecText_1_L0 l1 w1)
theorem orangeryref_RecText_1_spec (y1 : SlV) (l1 : List Int) (c1 : Nat) (y2 : SlV) (y2b : Option Nat) (w1 : List Str) (hb : ∀ n ∈ l1, I64 n) (hwl : w1.length + l1.length ≤ 100000) : DoesG Tryd.prog 37 [y1.val l1.length, .pointer (some ⟨c1, 0, none⟩)] [RdL EInt y1 l1, LibP Tryd.prog] ⟨[⟨c1, 61, [y2.val w1.length]⟩], [ownL EStr 9 y2 y2b w1]⟩ (fun (X : SlV × Option Nat) => .tuple #[]) (fun (X : SlV × Option Nat) => []) (fun (X : SlV × Option Nat) => ⟨[⟨c1, 61, [X.1.val (orangeryref_RecText_1 l1 w1).length]⟩], [ownL EStr 9 X.1 X.2 (orangeryref_RecText_1 l1 w1)]⟩) := by
  refine does_ofG tab_ok Tryd.func37 rfl Tryd.ntmps37 Tryd.results37 rfl inferInstance (fun _ => inferInstance) fun C => ?_
  refine Pc EInt y1 l1 8 fun hlen1 => ?_
  refine Tx ?_
  (repeat refine cw_seq ?_); refine Lp [1,5,6] [false] (fun (i_ : Nat × List Str × SlV × Option Nat) => match i_ with | ⟨n1, l2, x1, x1b⟩ => (⟨[(7, .v (.int .i64 (n1 : Int)))], [⟨c1, 61, [x1.val l2.length]⟩], [ownL EStr 9 x1 x1b l2], [], (n1 ≤ l1.length) ∧ (l2.length ≤ n1 + w1.length) ∧ (orangeryref_RecText_1_L0 (l1.drop n1) l2) = (orangeryref_RecText_1 l1 w1), l1.length - n1⟩ : Ls)) ⟨0, w1, y2, y2b⟩ (Sc (Sc (Sc Sn))) (.drop (.nil)) ⟨Nat.zero_le _, (by first | exact Nat.le_refl _ | exact Nat.zero_le _ | omega), (by simp only [orangeryref_RecText_1, cond_true, cond_false] : (orangeryref_RecText_1 l1 w1) = (orangeryref_RecText_1_L0 l1 w1)).symm⟩ Le4 ?_
  rintro ⟨n1, l2, x1, x1b⟩ ⟨hkn1, hl2, hf1⟩
  simp only [List.cons_append, List.nil_append]
  refine Tx ?_
  refine Cd (b := decide ((n1 : Int) < (l1.length : Int))) (fun hc1 => ?_) fun hc1 => ?_
  · have hlt0 : n1 < l1.length := Int.ofNat_lt.1 (of_decide_eq_true hc1)
    refine Tx ?_
    refine rw_q rfl rfl rfl (q_idx EInt n1 rfl rfl (fun _ => rfl) rfl (fun _ => rfl) rfl rfl rfl Mm rfl (fun _ => rfl) (fun _ => by first | assumption | omega)) ?_
    refine rw_q rfl rfl rfl (q_le1 EInt rfl rfl (fun _ => rfl) rfl rfl Mm (fun _ => by first | assumption | omega) rfl) ?_
    refine Tx ?_
    (repeat refine cw_seq ?_); refine cw_regionA (fun j => match j with | 4 => some x1b.toList | 5 => some [c1] | _ => some []) ?_
    refine Ra 0 [1,2,3] rfl Q1 ?_
    refine Rb 1 [] [2,3,4,5] rfl Qp ?_
    refine ra_one 2 Kr ?_
    refine rw_call (lib_Itoa (gt l1 n1) (hb _ (gt_mem hlt0))) (.an rfl rfl) (guard_none rfl) rfl rfl rfl Kr rfl rfl Sm ?_
    intro _
    refine ra_one 3 Kr ?_
    refine rw_bsliceL EStr [(Lib.itoa (gt l1 n1))] (.an rfl rfl) (guard_none rfl) rfl rfl rfl rfl rfl rfl rfl rfl rfl rfl rfl rfl rfl rfl rfl fun x2 x2b => ?_
    refine ra_one 4 Kr ?_
    refine rw_appendL EStr l2 [(Lib.itoa (gt l1 n1))] (b := x1b) (.an rfl rfl) (fun g h => .inr (by simp [h])) (guard_none rfl) rfl rfl rfl rfl rfl rfl rfl (fun _ _ => Uo) rfl rfl rfl rfl rfl rfl rfl (reads_ownL (e := 9) (b := x2b) Mm) (by show (_ + 1) * 16 ≤ _; omega) fun x3 x3b => ?_
    refine ra_one 5 Kr ?_
    refine rw_st1 (.an rfl rfl) (.inr (by simp)) (guard_none rfl) rfl rfl rfl rfl rfl rfl rfl rfl rfl Ub rfl ?_
    refine ra_nil Kr ?_
    refine Tx ?_
    refine rw_q rfl rfl rfl (q_add rfl rfl (fun _ => rfl) rfl (fun _ => rfl) (fun _ => by omega)) ?_
    refine Tx ?_
    refine ⟨⟨(n1 + 1), (l2 ++ [(Lib.itoa (gt l1 n1))]), x3, x3b⟩, ⟨hlt0, (by simp only [List.length_append, List.length_cons, List.length_nil]; omega), (by rw [← hf1, drop_gt hlt0]; simp only [orangeryref_RecText_1_L0, cond_true, cond_false] : (orangeryref_RecText_1 l1 w1) = (orangeryref_RecText_1_L0 (l1.drop (n1 + 1)) (l2 ++ [(Lib.itoa (gt l1 n1))]))).symm⟩, (by simp only []; omega), Le4⟩
  · have hge0 : l1.length ≤ n1 := by have := of_decide_eq_false hc1; omega
    refine Tx ?_
    have hr1 : (orangeryref_RecText_1 l1 w1) = l2 := by rw [← hf1, List.drop_of_length_le hge0]; simp only [orangeryref_RecText_1_L0, cond_true, cond_false]
    rw [hr1]
    exact ⟨⟨x1, x1b⟩, _, .nil, rfl, Sm, Sp, Sp⟩


theorem RecText_1_L0_eq : ∀ (l : List Int) (w : List Str), orangeryref_RecText_1_L0 l w = w ++ l.map Lib.itoa
  | [], w => by simp [orangeryref_RecText_1_L0]
  | a :: r, w => by rw [orangeryref_RecText_1_L0, RecText_1_L0_eq r]; simp
theorem RecText_1_eq (l : List Int) (w : List Str) : orangeryref_RecText_1 l w = w ++ l.map Lib.itoa := RecText_1_L0_eq l w
theorem joinTail_le : ∀ (l : List Int), (∀ n ∈ l, I64 n) → (Lib.joinTail [32] (l.map Lib.itoa)).length ≤ 22 * l.length
  | [], _ => by simp [Lib.joinTail]
  | a :: r, h => by
    have h1 := joinTail_le r (fun n hn => h n (.tail _ hn))
    have h2 := Lib.itoa_length_le a (h a (.head _)).1 (h a (.head _)).2
    simp only [Lib.joinTail, List.map_cons, List.flatten_cons, List.length_append, List.length_cons, List.length_nil] at h1 ⊢
    omega
theorem rt_len {l : List Int} {w : Str} (h : ∀ n ∈ l, I64 n) (hl : l.length ≤ 1000) (hw : w.length ≤ 10) : (Lib.join (orangeryref_RecText_1 l [w]) [32]).length ≤ 140737488355328 := by
  rw [RecText_1_eq, List.singleton_append, Lib.join_cons, List.length_append]
  have := joinTail_le l h
  omega
theorem rt_len2 {a : Int} {l : List Int} {w : Str} (h : ∀ n ∈ a :: l, I64 n) (hl : l.length ≤ 900) (hw : w.length ≤ 10) : (Lib.join (orangeryref_RecText_1 l (orangeryref_RecText_1 [a] [w])) [32]).length ≤ 140737488355328 := by
  have h2 : orangeryref_RecText_1 l (orangeryref_RecText_1 [a] [w]) = orangeryref_RecText_1 (a :: l) [w] := by simp [RecText_1_eq]
  rw [h2]
  exact rt_len h (by simp only [List.length_cons]; omega) hw
theorem rec_of {r : Rec} (h : orangeryref_CheckRec r = 0) : note_Check r = 0 := (CheckRec_eq r).trans h
theorem kind_one {r : Rec} (h : (r.kind == 1) = false) (h2 : (r.kind == 2) = true) : True := trivial
end Go.Proofs.YtaiefncoholnnaaDoor
