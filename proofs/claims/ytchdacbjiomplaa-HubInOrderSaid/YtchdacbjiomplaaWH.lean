/- Part of this claim. No condition. -/
import Derived.Test.YtchdacbjiomplaaWS
import Derived.Test.YtchdacbjiomplaaWA
set_option linter.unusedVariables false
set_option linter.unusedSimpArgs false
set_option maxHeartbeats 2000000
namespace Go.Proofs.Ytchdacbjiomplaa
open Go Go.Proofs.Ytchdacbjiomplaa.Fw Go.Proofs
attribute [local irreducible] RdL RdN VarP RW CW
def history_Fold_1 (a1 : Op) (b1 : Op) : Int :=
  (bif (move_Before (⟨a1.time, a1.who⟩ : Stamp) (⟨b1.time, b1.who⟩ : Stamp)) then (-1) else (bif (move_Before (⟨b1.time, b1.who⟩ : Stamp) (⟨a1.time, a1.who⟩ : Stamp)) then 1 else 0))
theorem history_Fold_1_spec (a1 : Op) (b1 : Op) : Does Try.prog 157 [.agg ⟨[.int .i64 a1.time, .int .i64 a1.who, .int .i64 a1.node, .int .i64 a1.parent, .int .i64 a1.name, .int .i64 a1.life, .int .i64 a1.seq]⟩, .agg ⟨[.int .i64 b1.time, .int .i64 b1.who, .int .i64 b1.node, .int .i64 b1.parent, .int .i64 b1.name, .int .i64 b1.life, .int .i64 b1.seq]⟩] [] (fun (_ : Unit) => .int .i64 (history_Fold_1 a1 b1)) (fun (_ : Unit) => []) := by
  refine does_of tab_ok Try.func157 rfl Try.ntmps157 Try.results157 rfl inferInstance (fun _ => inferInstance) fun C => ?_
  refine Tx ?_
  refine Bx fun g1 => ?_
  refine Bx fun g2 => ?_
  refine Tx ?_
  refine Cl (move_Before_spec (⟨a1.time, a1.who⟩ : Stamp) (⟨b1.time, b1.who⟩ : Stamp)) fun _ => ?_
  refine rw_nil ?_
  (repeat refine cw_seq ?_)
  refine Cd (b := (move_Before (⟨a1.time, a1.who⟩ : Stamp) (⟨b1.time, b1.who⟩ : Stamp))) (fun hc1 => ?_) fun hc1 => ?_
  · refine Tx ?_
    have hr1 : (history_Fold_1 a1 b1) = (-1) := by simp only [history_Fold_1, hc1, cond_true, cond_false]
    refine cw_ret ?_; rw [hr1]; exact Re () (Vt Vn)
  · refine Tx ?_
    refine Cl (move_Before_spec (⟨b1.time, b1.who⟩ : Stamp) (⟨a1.time, a1.who⟩ : Stamp)) fun _ => ?_
    refine rw_nil ?_
    (repeat refine cw_seq ?_)
    refine Cd (b := (move_Before (⟨b1.time, b1.who⟩ : Stamp) (⟨a1.time, a1.who⟩ : Stamp))) (fun hc2 => ?_) fun hc2 => ?_
    · refine Tx ?_
      have hr2 : (history_Fold_1 a1 b1) = 1 := by simp only [history_Fold_1, hc1, hc2, cond_true, cond_false]
      refine cw_ret ?_; rw [hr2]; exact Re () (Vt Vn)
    · refine Tx ?_
      have hr3 : (history_Fold_1 a1 b1) = 0 := by simp only [history_Fold_1, hc1, hc2, cond_true, cond_false]
      refine cw_ret ?_; rw [hr3]; exact Re () (Vt Vn)

def history_Fold_L1 (l1 : List Op) : List Op → Nat → (List Step) → (List Place) → (History × Int)
  | [], n2, l2, p1 => ((⟨l2, p1⟩ : History), 0)
  | pn2 :: rn2, n2, l2, p1 => (bif (decide ((n2 : Int) > 0) && decide ((⟨(gt (slices_SortStableFunc_Op l1 history_Fold_1) (n2 - 1)).time, (gt (slices_SortStableFunc_Op l1 history_Fold_1) (n2 - 1)).who⟩ : Stamp) = (⟨pn2.time, pn2.who⟩ : Stamp))) then ((⟨([] : List Step), ([] : List Place)⟩ : History), 6) else (bif (((move_Do p1 pn2).2.2) != 0) then ((⟨([] : List Step), ([] : List Place)⟩ : History), (move_Do p1 pn2).2.2) else (history_Fold_L1 l1 rn2 (n2 + 1) (l2 ++ [((move_Do p1 pn2).2.1)]) ((move_Do p1 pn2).1))))
def history_Fold_L0 (l1 : List Op) : List Op → (History × Int)
  | [] => (history_Fold_L1 l1 (slices_SortStableFunc_Op l1 history_Fold_1) 0 [] [])
  | pn1 :: rn1 => (bif ((move_Check pn1) != 0) then ((⟨([] : List Step), ([] : List Place)⟩ : History), (move_Check pn1)) else (history_Fold_L0 l1 rn1))
def history_Fold (l1 : List Op) : History × Int :=
  (bif decide ((l1.length : Int) > 30) then ((⟨([] : List Step), ([] : List Place)⟩ : History), 2) else (history_Fold_L0 l1 l1))
theorem history_Fold_spec (y1 : SlV) (l1 : List Op) : Does Try.prog 75 [y1.val l1.length] [RdL EOp y1 l1] (fun (X : SlV × SlV) => .tuple #[.agg ⟨[X.1.val (((history_Fold l1).1).l).length, X.2.val (((history_Fold l1).1).t).length]⟩, .int .i64 ((history_Fold l1).2)]) (fun (X : SlV × SlV) => [RdL EStep X.1 (((history_Fold l1).1).l), RdL EPlace X.2 (((history_Fold l1).1).t)]) := by
  refine does_of tab_ok Try.func75 rfl Try.ntmps75 Try.results75 rfl inferInstance (fun _ => inferInstance) fun C => ?_
  refine Pc EOp y1 l1 56 fun hlen1 => ?_
  refine Tx ?_
  refine Al fun g1 => ?_
  refine Tx ?_
  refine Cd (b := decide ((l1.length : Int) > 30)) (fun hc1 => ?_) fun hc1 => ?_
  · have hc1p := of_decide_eq_true hc1
    refine Tx ?_
    refine Fc EStep ?_
    refine Fc EPlace ?_
    have hr1 : (history_Fold l1) = ((⟨([] : List Step), ([] : List Place)⟩ : History), 2) := by simp only [history_Fold, hc1, cond_true, cond_false]
    refine cw_ret ?_; rw [hr1]; exact Re ⟨(⟨none, 0⟩ : SlV), (⟨none, 0⟩ : SlV)⟩ (Va (Vt Vn))
  · have hc1p := of_decide_eq_false hc1
    refine Tx ?_
    (repeat refine cw_seq ?_); refine Lp [0,2,3,17,18] [true] (fun (n1 : Nat) => (⟨[(19, .v (.int .i64 (n1 : Int)))], [], [], [], (n1 ≤ l1.length) ∧ (history_Fold_L0 l1 (l1.drop n1)) = (history_Fold l1), l1.length - n1⟩ : Ls)) 0 (Sc (Sc (Sc (Sc (Sc Sn))))) (.keep (.nil)) ⟨Nat.zero_le _, (by simp only [history_Fold, hc1, cond_true, cond_false] : (history_Fold l1) = (history_Fold_L0 l1 l1)).symm⟩ Le4 ?_
    rintro n1 ⟨hkn1, hf1⟩
    simp only [List.cons_append, List.nil_append]
    refine Tx ?_
    refine Cd (b := decide ((n1 : Int) < (l1.length : Int))) (fun hc2 => ?_) fun hc2 => ?_
    · have hlt0 : n1 < l1.length := Int.ofNat_lt.1 (of_decide_eq_true hc2)
      refine Tx ?_
      refine rw_q rfl rfl rfl (q_idx EOp n1 rfl rfl (fun _ => rfl) rfl (fun _ => rfl) rfl rfl rfl Mm rfl (fun _ => rfl) (fun _ => by first | assumption | omega)) ?_
      refine rw_q rfl rfl rfl (q_leA EOp rfl rfl (fun _ => rfl) rfl rfl Mm (fun _ => by first | assumption | omega)) ?_
      refine Al fun g2 => ?_
      refine Tx ?_
      refine Cl (move_Check_spec (gt l1 n1)) fun _ => ?_
      refine Tx ?_
      refine Cd (b := ((move_Check (gt l1 n1)) != 0)) (fun hc3 => ?_) fun hc3 => ?_
      · have hc3p := bne_iff_ne.1 hc3
        refine Tx ?_
        refine Fc EStep ?_
        refine Fc EPlace ?_
        have hr2 : (history_Fold l1) = ((⟨([] : List Step), ([] : List Place)⟩ : History), (move_Check (gt l1 n1))) := by rw [← hf1, drop_gt hlt0]; simp only [history_Fold_L0, hc3, cond_true, cond_false]
        refine cw_ret ?_; rw [hr2]; exact Re ⟨(⟨none, 0⟩ : SlV), (⟨none, 0⟩ : SlV)⟩ (Va (Vt Vn))
      · have hc3p := eq_of_bne_false hc3
        refine Tx ?_
        refine rw_q rfl rfl rfl (q_add rfl rfl (fun _ => rfl) rfl (fun _ => rfl) (fun _ => by omega)) ?_
        refine Tx ?_
        refine ⟨(n1 + 1), ⟨hlt0, (by rw [← hf1, drop_gt hlt0]; simp only [history_Fold_L0, hc3, cond_true, cond_false] : (history_Fold l1) = (history_Fold_L0 l1 (l1.drop (n1 + 1)))).symm⟩, (by simp only []; omega), Le4⟩
    · have hge0 : l1.length ≤ n1 := by have := of_decide_eq_false hc2; omega
      refine Tx ?_
      refine Cg (slices_Clone_Op_spec y1 l1) fun x1 => ?_
      refine Tx ?_
      refine rw_callG (slices_SortStableFunc_Op_spec x1.1 x1.2 l1 _ _ _ history_Fold_1 Kr (fun a0_ a1_ => history_Fold_1_spec a0_ a1_) (by omega)) .sq (.inl ⟨_, rfl⟩) (guard_none rfl) rfl rfl rfl Kr rfl rfl Sm (.nil _) (by first | exact .cons (.here _ _) (.nil _) | exact .cons (.there _ (.here _ _)) (.nil _) | exact .cons (.there _ (.there _ (.here _ _))) (.nil _) | exact .cons (.there _ (.there _ (.there _ (.here _ _)))) (.nil _)) ?_
      intro _
      have hv1l : l1.length = (slices_SortStableFunc_Op l1 history_Fold_1).length := (ST_Op_len l1 history_Fold_1 (by omega)).symm
      have hv1 : x1.1.val l1.length = x1.1.val (slices_SortStableFunc_Op l1 history_Fold_1).length := congrArg (SlV.val x1.1) hv1l
      try rw [hv1]
      refine Tx ?_
      refine Al fun g3 => ?_
      refine Tx ?_
      refine cw_le (le_freezeL EOp 33 x1.1 x1.2 (slices_SortStableFunc_Op l1 history_Fold_1) Uo) ?_
      refine Pc EOp x1.1 (slices_SortStableFunc_Op l1 history_Fold_1) 56 fun hlen2 => ?_
      (repeat refine cw_seq ?_); refine Lp [0,2,3,7,34,35] [false, true] (fun (i_ : Nat × List Step × SlV × Option Nat × List Place × SlV) => match i_ with | ⟨n2, l2, x2, x2b, p1, x3⟩ => (⟨[(36, .v (.int .i64 (n2 : Int)))], [⟨g3, 94, [x2.val l2.length, x3.val p1.length]⟩], [ownL EStep 37 x2 x2b l2], [RdL EPlace x3 p1], (n2 ≤ (slices_SortStableFunc_Op l1 history_Fold_1).length) ∧ (l2.length ≤ n2) ∧ (l2.length = n2) ∧ (history_Fold_L1 l1 ((slices_SortStableFunc_Op l1 history_Fold_1).drop n2) n2 l2 p1) = (history_Fold l1), (slices_SortStableFunc_Op l1 history_Fold_1).length - n2⟩ : Ls)) ⟨0, [], ⟨none, 0⟩, none, [], ⟨none, 0⟩⟩ (Sc (Sc (Sc (Sc (Sc (Sc Sn)))))) (.drop (.keep (.nil))) ⟨Nat.zero_le _, (by first | exact Nat.le_refl _ | exact Nat.zero_le _ | omega), rfl, (by rw [← hf1, List.drop_of_length_le hge0]; simp only [history_Fold_L0, cond_true, cond_false] : (history_Fold l1) = (history_Fold_L1 l1 (slices_SortStableFunc_Op l1 history_Fold_1) 0 [] [])).symm⟩ (Le.trans (le_nilL EStep 37) (Le.trans (le_fact (RdL EPlace ⟨none, 0⟩ ([] : List Place)) [] (.nil _) (fun M w _ => RdL.nil _ _ _ (by omega) M w)) Le4)) ?_
      rintro ⟨n2, l2, x2, x2b, p1, x3⟩ ⟨hkn2, hl2, hhl, hf2⟩
      simp only [List.cons_append, List.nil_append]
      refine Tx ?_
      refine Cd (b := decide ((n2 : Int) < ((slices_SortStableFunc_Op l1 history_Fold_1).length : Int))) (fun hc4 => ?_) fun hc4 => ?_
      · have hlt1 : n2 < (slices_SortStableFunc_Op l1 history_Fold_1).length := Int.ofNat_lt.1 (of_decide_eq_true hc4)
        refine Tx ?_
        refine rw_q rfl rfl rfl (q_idx EOp n2 rfl rfl (fun _ => rfl) rfl (fun _ => rfl) rfl rfl rfl Mm rfl (fun _ => rfl) (fun _ => by first | assumption | omega)) ?_
        refine rw_q rfl rfl rfl (q_leA EOp rfl rfl (fun _ => rfl) rfl rfl Mm (fun _ => by first | assumption | omega)) ?_
        refine Al fun g4 => ?_
        refine Tx ?_
        (repeat refine cw_seq ?_); refine cw_regionA (fun _ => some []) ?_
        refine Rb 0 [] [1,2,3,4,5,6,7,8,9,10,11,12] rfl Qp ?_
        refine Rb 1 [] [2,3,4,5,6,7,8,9,10,11,12] rfl Qp ?_
        refine Ra 2 [] rfl Qp ?_
        refine Gb 3 [4,5,9,10] [6,7,8,11,12] rfl (guard_vt rfl rfl rfl) (q_pev rfl Bt) ?_
        refine Gb 4 [9,10] [5,6,7,8,11,12] rfl (guard_vt rfl rfl rfl) (q_pev rfl Bt) ?_
        refine Gb 5 [9,10] [6,7,8,11,12] rfl (guard_vt rfl rfl rfl) (q_sub rfl rfl Bt rfl Bt (by intro h; first | omega | (simp at h; omega))) ?_
        refine Gb 6 [9,10] [7,8,11,12] rfl (guard_vt rfl rfl rfl) (q_idx EOp (n2 - 1) rfl rfl Bt rfl Bt rfl rfl rfl Mm rfl (by intro h; first | omega | rfl | (simp at h; omega)) (by first | (intro _; first | assumption | omega) | (intro h; simp at h; omega))) ?_
        refine Gb 7 [9,10] [8,11,12] rfl (guard_vt rfl rfl rfl) (q_fae rfl rfl Bt rfl rfl) ?_
        refine Gb 8 [9,10] [11,12] rfl (guard_vt rfl rfl rfl) (q_leP EOp rfl rfl Bt rfl rfl Mm (by first | (intro _; first | assumption | omega) | (intro h; simp at h; omega)) rfl) ?_
        refine Gb 9 [] [10,11,12] rfl (guard_vt rfl rfl rfl) (q_pev rfl Bt) ?_
        refine Gb 10 [] [11,12] rfl (guard_vt rfl rfl rfl) (q_ldP rfl rfl Bt rfl Mm rfl) ?_
        refine Ga 11 [] rfl (guard_vt rfl rfl rfl) (q_eqE eqT_Stamp (flatEq_Stamp (⟨(gt (slices_SortStableFunc_Op l1 history_Fold_1) (n2 - 1)).time, (gt (slices_SortStableFunc_Op l1 history_Fold_1) (n2 - 1)).who⟩ : Stamp) (⟨(gt (slices_SortStableFunc_Op l1 history_Fold_1) n2).time, (gt (slices_SortStableFunc_Op l1 history_Fold_1) n2).who⟩ : Stamp)) rfl rfl Bt rfl Bt rfl rfl) ?_
        refine Ra 12 [] rfl (q_pev rfl Bt) ?_
        refine ra_nil Kr ?_
        (repeat refine cw_seq ?_)
        refine Cd (b := (decide ((n2 : Int) > 0) && decide ((⟨(gt (slices_SortStableFunc_Op l1 history_Fold_1) (n2 - 1)).time, (gt (slices_SortStableFunc_Op l1 history_Fold_1) (n2 - 1)).who⟩ : Stamp) = (⟨(gt (slices_SortStableFunc_Op l1 history_Fold_1) n2).time, (gt (slices_SortStableFunc_Op l1 history_Fold_1) n2).who⟩ : Stamp)))) (fun hc5 => ?_) fun hc5 => ?_
        · refine Tx ?_
          refine Fc EStep ?_
          refine Fc EPlace ?_
          have hr3 : (history_Fold l1) = ((⟨([] : List Step), ([] : List Place)⟩ : History), 6) := by rw [← hf2, drop_gt hlt1]; simp only [history_Fold_L1, hc5, cond_true, cond_false]
          refine cw_ret ?_; rw [hr3]; exact Re ⟨(⟨none, 0⟩ : SlV), (⟨none, 0⟩ : SlV)⟩ (Va (Vt Vn))
        · refine Tx ?_
          refine Cl (move_Do_spec x3 p1 (gt (slices_SortStableFunc_Op l1 history_Fold_1) n2)) fun x4 => ?_
          refine Pr EPlace x4 ((move_Do p1 (gt (slices_SortStableFunc_Op l1 history_Fold_1) n2)).1) 24 fun hlen3 => ?_
          refine Tx ?_
          refine Al fun g5 => ?_
          refine Al fun g6 => ?_
          refine Tx ?_
          refine Cd (b := (((move_Do p1 (gt (slices_SortStableFunc_Op l1 history_Fold_1) n2)).2.2) != 0)) (fun hc6 => ?_) fun hc6 => ?_
          · have hc6p := bne_iff_ne.1 hc6
            refine Tx ?_
            refine Fc EStep ?_
            refine Fc EPlace ?_
            have hr4 : (history_Fold l1) = ((⟨([] : List Step), ([] : List Place)⟩ : History), (move_Do p1 (gt (slices_SortStableFunc_Op l1 history_Fold_1) n2)).2.2) := by rw [← hf2, drop_gt hlt1]; simp only [history_Fold_L1, hc5, hc6, cond_true, cond_false]
            refine cw_ret ?_; rw [hr4]; exact Re ⟨(⟨none, 0⟩ : SlV), (⟨none, 0⟩ : SlV)⟩ (Va (Vt Vn))
          · have hc6p := eq_of_bne_false hc6
            refine Tx ?_
            (repeat refine cw_seq ?_); refine cw_regionA (fun j => match j with | 5 => some x2b.toList | 7 => some [g3] | 9 => some [g3] | _ => some []) ?_
            refine ra_q (.an (i := 0) (js := [1, 2, 3, 4, 5]) rfl Kr Kr Kr Kr) (SplitB.all _) (by intro g hg; simp only [List.mem_append, List.mem_singleton, List.not_mem_nil, or_false, false_or, Option.mem_toList, Option.mem_def, List.append_nil] at hg; first | exact .inr ⟨ownL EStep 37 x2 x2b l2, Mm, hg⟩) rfl rfl rfl (q_ldA rfl rfl (fun _ => rfl) rfl Mm rfl) ?_
            refine Rb 1 [3,4] [2,5,6,7,8,9] rfl Qp ?_
            refine Ra 2 [3,4] rfl Q1 ?_
            refine Rb 3 [6] [4,5,7,8,9] rfl (q_ldA rfl rfl (fun _ => rfl) rfl Mm rfl) ?_
            refine ra_q (.an (i := 6) (js := [4, 5]) rfl Kr Kr Kr Kr) (SplitB.all _) (by intro g hg; simp only [List.mem_append, List.mem_singleton, List.not_mem_nil, or_false, false_or, Option.mem_toList, Option.mem_def, List.append_nil] at hg; first | exact .inr ⟨ownL EStep 37 x2 x2b l2, Mm, hg⟩) rfl rfl rfl (q_pev rfl (fun _ => rfl)) ?_
            refine ra_one 4 Kr ?_
            refine rw_bsliceL EStep [((move_Do p1 (gt (slices_SortStableFunc_Op l1 history_Fold_1) n2)).2.1)] (.an rfl rfl) (guard_none rfl) rfl rfl rfl rfl rfl rfl rfl rfl rfl rfl rfl rfl rfl rfl rfl fun x5 x5b => ?_
            refine ra_one 5 Kr ?_
            refine rw_appendL EStep l2 [((move_Do p1 (gt (slices_SortStableFunc_Op l1 history_Fold_1) n2)).2.1)] (b := x2b) (.an rfl rfl) (fun g h => .inr (by simp [h])) (guard_none rfl) rfl rfl rfl rfl rfl rfl rfl (fun _ _ => Uo) rfl rfl rfl rfl rfl rfl rfl (reads_ownL (e := 37) (b := x5b) Mm) (by show (l2.length + 1) * 88 ≤ 140737488355328; (try simp only [List.length_append, List.length_cons, List.length_nil]); omega) fun x6 x6b => ?_
            refine ra_one 7 Kr ?_
            refine rw_stP (.an rfl rfl) (.inr (by simp)) (guard_none rfl) rfl rfl rfl rfl rfl rfl rfl rfl rfl Ub rfl ?_
            refine Ra 8 [] rfl Qp ?_
            refine ra_one 9 Kr ?_
            refine rw_st1 (.an rfl rfl) (.inr (by simp)) (guard_none rfl) rfl rfl rfl rfl rfl rfl rfl rfl rfl Ub rfl ?_
            refine ra_nil Kr ?_
            refine Tx ?_
            refine rw_q rfl rfl rfl (q_add rfl rfl (fun _ => rfl) rfl (fun _ => rfl) (fun _ => by omega)) ?_
            refine Tx ?_
            refine ⟨⟨(n2 + 1), (l2 ++ [((move_Do p1 (gt (slices_SortStableFunc_Op l1 history_Fold_1) n2)).2.1)]), x6, x6b, (move_Do p1 (gt (slices_SortStableFunc_Op l1 history_Fold_1) n2)).1, x4⟩, ⟨hlt1, (by simp only [List.length_append, List.length_cons, List.length_nil]; omega), (by simp only [List.length_append, List.length_cons, List.length_nil]; omega), (by rw [← hf2, drop_gt hlt1]; simp only [history_Fold_L1, hc5, hc6, cond_true, cond_false] : (history_Fold l1) = (history_Fold_L1 l1 ((slices_SortStableFunc_Op l1 history_Fold_1).drop (n2 + 1)) (n2 + 1) (l2 ++ [((move_Do p1 (gt (slices_SortStableFunc_Op l1 history_Fold_1) n2)).2.1)]) ((move_Do p1 (gt (slices_SortStableFunc_Op l1 history_Fold_1) n2)).1))).symm⟩, (by simp only []; omega), Le4⟩
      · have hge1 : (slices_SortStableFunc_Op l1 history_Fold_1).length ≤ n2 := by have := of_decide_eq_false hc4; omega
        refine Tx ?_
        refine cw_le (le_freezeL EStep 37 x2 x2b l2 Uo) ?_
        have hr5 : (history_Fold l1) = ((⟨l2, p1⟩ : History), 0) := by rw [← hf2, List.drop_of_length_le hge1]; simp only [history_Fold_L1, cond_true, cond_false]
        refine cw_ret ?_; rw [hr5]; exact Re ⟨x2, x3⟩ (Va (Vt Vn))

def history_Ops_L0  : List Step → (List Op) → (List Op)
  | [], l1 => l1
  | pn1 :: rn1, l1 => (history_Ops_L0 rn1 (l1 ++ [(pn1.o)]))
def history_Ops (h1 : History) : List Op :=
  (history_Ops_L0 h1.l [])
theorem history_Ops_spec (y1 : SlV) (y2 : SlV) (h1 : History) : Does Try.prog 162 [.agg ⟨[y1.val h1.l.length, y2.val h1.t.length]⟩] [RdL EStep y1 h1.l, RdL EPlace y2 h1.t] (fun (X : SlV) => X.val (history_Ops h1).length) (fun (X : SlV) => [RdL EOp X (history_Ops h1)]) := by
  refine does_of tab_ok Try.func162 rfl Try.ntmps162 Try.results162 rfl inferInstance (fun _ => inferInstance) fun C => ?_
  refine Pc EStep y1 h1.l 88 fun hlen1 => ?_
  refine Pc EPlace y2 h1.t 24 fun hlen2 => ?_
  refine Tx ?_
  refine Bx fun g1 => ?_
  refine Tx ?_
  (repeat refine cw_seq ?_); refine Lp [2,7,8] [true] (fun (i_ : List Op × SlV × Option Nat × Nat) => match i_ with | ⟨l1, x1, x1b, n1⟩ => (⟨[(3, .v (x1.val l1.length)), (9, .v (.int .i64 (n1 : Int)))], [], [ownL EOp 33 x1 x1b l1], [], (n1 ≤ h1.l.length) ∧ (l1.length ≤ n1) ∧ (history_Ops_L0 (h1.l.drop n1) l1) = (history_Ops h1), h1.l.length - n1⟩ : Ls)) ⟨[], ⟨none, 0⟩, none, 0⟩ (Sc (Sc (Sc Sn))) (.keep (.nil)) ⟨Nat.zero_le _, (by first | exact Nat.le_refl _ | exact Nat.zero_le _ | omega), (by simp only [history_Ops, cond_true, cond_false] : (history_Ops h1) = (history_Ops_L0 h1.l [])).symm⟩ (Le.trans (le_nilL EOp 33) Le4) ?_
  rintro ⟨l1, x1, x1b, n1⟩ ⟨hkn1, hl1, hf1⟩
  simp only [List.cons_append, List.nil_append]
  refine Tx ?_
  refine Cd (b := decide ((n1 : Int) < (h1.l.length : Int))) (fun hc1 => ?_) fun hc1 => ?_
  · have hlt0 : n1 < h1.l.length := Int.ofNat_lt.1 (of_decide_eq_true hc1)
    refine Tx ?_
    refine rw_q rfl rfl rfl (q_idx EStep n1 rfl rfl (fun _ => rfl) rfl (fun _ => rfl) rfl rfl rfl Mm rfl (fun _ => rfl) (fun _ => by first | assumption | omega)) ?_
    refine rw_q rfl rfl rfl (q_leA EStep rfl rfl (fun _ => rfl) rfl rfl Mm (fun _ => by first | assumption | omega)) ?_
    refine Al fun g2 => ?_
    refine Tx ?_
    refine rw_bsliceL EOp [((gt h1.l n1).o)] .sq (guard_none rfl) rfl rfl rfl rfl rfl rfl rfl rfl rfl rfl rfl rfl rfl rfl rfl fun x2 x2b => ?_
    refine rw_appendL EOp l1 [((gt h1.l n1).o)] (b := x1b) .sq (fun _ _ => .inl ⟨_, rfl⟩) (guard_none rfl) rfl rfl rfl rfl rfl rfl rfl (fun _ _ => Uo) rfl rfl rfl rfl rfl rfl rfl (reads_ownL (e := 33) (b := x2b) Mm) (by show (l1.length + 1) * 56 ≤ 140737488355328; (try simp only [List.length_append, List.length_cons, List.length_nil]); omega) fun x3 x3b => ?_
    refine Tx ?_
    refine rw_q rfl rfl rfl (q_add rfl rfl (fun _ => rfl) rfl (fun _ => rfl) (fun _ => by omega)) ?_
    refine Tx ?_
    refine ⟨⟨(l1 ++ [((gt h1.l n1).o)]), x3, x3b, (n1 + 1)⟩, ⟨hlt0, (by simp only [List.length_append, List.length_cons, List.length_nil]; omega), (by rw [← hf1, drop_gt hlt0]; simp only [history_Ops_L0, cond_true, cond_false] : (history_Ops h1) = (history_Ops_L0 (h1.l.drop (n1 + 1)) (l1 ++ [((gt h1.l n1).o)]))).symm⟩, (by simp only []; omega), Le4⟩
  · have hge0 : h1.l.length ≤ n1 := by have := of_decide_eq_false hc1; omega
    refine Tx ?_
    refine cw_le (le_freezeL EOp 33 x1 x1b l1 Uo) ?_
    have hr1 : (history_Ops h1) = l1 := by rw [← hf1, List.drop_of_length_le hge0]; simp only [history_Ops_L0, cond_true, cond_false]
    refine cw_ret ?_; rw [hr1]; exact Re x1 (Vt Vn)

def history_Same (a1 : History) (b1 : History) : Bool :=
  ((decide (a1.l = b1.l)) && (decide (a1.t = b1.t)))
theorem history_Same_spec (y1 : SlV) (y2 : SlV) (a1 : History) (y3 : SlV) (y4 : SlV) (b1 : History) : Does Try.prog 83 [.agg ⟨[y1.val a1.l.length, y2.val a1.t.length]⟩, .agg ⟨[y3.val b1.l.length, y4.val b1.t.length]⟩] [RdL EStep y1 a1.l, RdL EPlace y2 a1.t, RdL EStep y3 b1.l, RdL EPlace y4 b1.t] (fun (_ : Unit) => .bool (history_Same a1 b1)) (fun (_ : Unit) => []) := by
  refine does_of tab_ok Try.func83 rfl Try.ntmps83 Try.results83 rfl inferInstance (fun _ => inferInstance) fun C => ?_
  refine Pc EStep y1 a1.l 88 fun hlen1 => ?_
  refine Pc EPlace y2 a1.t 24 fun hlen2 => ?_
  refine Pc EStep y3 b1.l 88 fun hlen3 => ?_
  refine Pc EPlace y4 b1.t 24 fun hlen4 => ?_
  refine Tx ?_
  refine Bx fun g1 => ?_
  refine Bx fun g2 => ?_
  refine Tx ?_
  refine Cl ((fun y1 a y2 b => slices_Equal_Step_spec' y1 y2 a b) y1 a1.l y3 b1.l) fun _ => ?_
  refine Tx ?_
  refine rw_callg (fun hG_ => (fun y1 a y2 b => slices_Equal_Place_spec' y1 y2 a b) y2 a1.t y4 b1.t) (fun _ => rfl) .sq (guard_vt rfl rfl rfl) rfl rfl rfl Kr rfl Bt Sm ?_
  refine Tx ?_
  have hr1 : (history_Same a1 b1) = ((decide (a1.l = b1.l)) && (decide (a1.t = b1.t))) := by simp only [history_Same, cond_true, cond_false]
  refine cw_ret ?_; rw [hr1]; exact Re () (Vt Vn)

def history_Check (h1 : History) : Int :=
  (bif ((((history_Fold (history_Ops h1)).2) == 0) && (!(history_Same ((history_Fold (history_Ops h1)).1) h1))) then 4 else (history_Fold (history_Ops h1)).2)
theorem history_Check_spec (y1 : SlV) (y2 : SlV) (h1 : History) : Does Try.prog 81 [.agg ⟨[y1.val h1.l.length, y2.val h1.t.length]⟩] [RdL EStep y1 h1.l, RdL EPlace y2 h1.t] (fun (_ : Unit) => .int .i64 (history_Check h1)) (fun (_ : Unit) => []) := by
  refine does_of tab_ok Try.func81 rfl Try.ntmps81 Try.results81 rfl inferInstance (fun _ => inferInstance) fun C => ?_
  refine Pc EStep y1 h1.l 88 fun hlen1 => ?_
  refine Pc EPlace y2 h1.t 24 fun hlen2 => ?_
  refine Tx ?_
  refine Bx fun g1 => ?_
  refine Tx ?_
  refine Cl (history_Ops_spec y1 y2 h1) fun x1 => ?_
  refine Pr EOp x1 (history_Ops h1) 56 fun hlen3 => ?_
  refine Cl (history_Fold_spec x1 (history_Ops h1)) fun x2 => ?_
  refine Pr EStep x2.1 (((history_Fold (history_Ops h1)).1).l) 88 fun hlen4 => ?_
  refine Pr EPlace x2.2 (((history_Fold (history_Ops h1)).1).t) 24 fun hlen5 => ?_
  refine Tx ?_
  refine Al fun g2 => ?_
  refine Tx ?_
  refine rw_callg (fun hG_ => history_Same_spec x2.1 x2.2 ((history_Fold (history_Ops h1)).1) y1 y2 h1) (fun _ => rfl) .sq (guard_vt rfl rfl rfl) rfl rfl rfl Kr rfl Bt Sm ?_
  refine Tx ?_
  refine Cd (b := ((((history_Fold (history_Ops h1)).2) == 0) && (!(history_Same ((history_Fold (history_Ops h1)).1) h1)))) (fun hc1 => ?_) fun hc1 => ?_
  · refine Tx ?_
    have hr1 : (history_Check h1) = 4 := by simp only [history_Check, hc1, cond_true, cond_false]
    refine cw_ret ?_; rw [hr1]; exact Re () (Vt Vn)
  · refine Tx ?_
    have hr2 : (history_Check h1) = (history_Fold (history_Ops h1)).2 := by simp only [history_Check, hc1, cond_true, cond_false]
    refine cw_ret ?_; rw [hr2]; exact Re () (Vt Vn)
end Go.Proofs.Ytchdacbjiomplaa

set_option maxHeartbeats 2000000
namespace Go.Proofs.Ytchdacbjiomplaa
open Go Go.Proofs.Ytchdacbjiomplaa.Fw Go.Proofs
attribute [local irreducible] RdL RdN VarP RW CW
def history_Copy (h1 : History) : History :=
  (⟨h1.l, (tree_Copy h1.t)⟩ : History)
theorem history_Copy_spec (y1 : SlV) (y2 : SlV) (h1 : History) : DoesG Try.prog 189 [.agg ⟨[y1.val h1.l.length, y2.val h1.t.length]⟩] [RdL EStep y1 h1.l, RdL EPlace y2 h1.t] ⟨[], []⟩ (fun (X : SlV × Option Nat × SlV) => .agg ⟨[X.1.val ((history_Copy h1).l).length, X.2.2.val ((history_Copy h1).t).length]⟩) (fun (X : SlV × Option Nat × SlV) => [RdL EPlace X.2.2 ((history_Copy h1).t)]) (fun (X : SlV × Option Nat × SlV) => ⟨[], [ownL EStep 37 X.1 X.2.1 ((history_Copy h1).l)]⟩) := by
  refine does_ofG tab_ok Try.func189 rfl Try.ntmps189 Try.results189 rfl inferInstance (fun _ => inferInstance) fun C => ?_
  refine Pc EStep y1 h1.l 88 fun hlen1 => ?_
  refine Pc EPlace y2 h1.t 24 fun hlen2 => ?_
  refine Tx ?_
  refine Bx fun g1 => ?_
  refine Al fun g2 => ?_
  refine rw_nil ?_
  (repeat refine cw_seq ?_); refine cw_regionA (fun j => match j with | 7 => some [g2] | _ => some []) ?_
  refine Rb 0 [3,4] [1,2,5,6,7] rfl Qp ?_
  refine Rb 1 [3,4] [2,5,6,7] rfl Q1 ?_
  refine Rb 3 [2] [4,5,6,7] rfl Qp ?_
  refine Rb 4 [2] [5,6,7] rfl (q_ldP rfl rfl (fun _ => rfl) rfl Mm rfl) ?_
  refine ra_one 2 Kr ?_
  refine rw_callG (slices_Clone_Step_spec y1 h1.l) (.an rfl rfl) (.inr (by simp [Lent.ids])) (guard_none rfl) rfl rfl rfl Kr rfl rfl Sm (.nil _) (.nil _) ?_
  intro x1
  refine ra_one 5 Kr ?_
  refine rw_callG (tree_Copy_spec y2 h1.t) (.an rfl rfl) (.inr (by simp [Lent.ids])) (guard_none rfl) rfl rfl rfl Kr rfl rfl Sm (.nil _) (.nil _) ?_
  intro x2
  refine Ra 6 [] rfl Qp ?_
  refine ra_one 7 Kr ?_
  refine rw_stA (.an rfl rfl) (.inr (by simp)) (guard_none rfl) rfl rfl rfl rfl rfl rfl rfl rfl rfl Ub rfl ?_
  refine ra_nil Kr ?_
  (repeat refine cw_seq ?_)
  refine cw_le (le_freezeL EPlace 35 x2.1 x2.2 (tree_Copy h1.t) Uo) ?_
  have hr1 : (history_Copy h1) = (⟨h1.l, (tree_Copy h1.t)⟩ : History) := by simp only [history_Copy, cond_true, cond_false]
  refine cw_ret ?_; rw [hr1]; exact Re ⟨x1.1, x1.2, x2.1⟩ (Va Vn)

def slices_IndexFunc_Step_L0 (f1 : Step → Bool) : List Step → Nat → Int
  | [], n1 => (-1)
  | pn1 :: rn1, n1 => (bif (f1 pn1) then (n1 : Int) else (slices_IndexFunc_Step_L0 f1 rn1 (n1 + 1)))
def slices_IndexFunc_Step (s1 : List Step) (f1 : Step → Bool) : Int :=
  (slices_IndexFunc_Step_L0 f1 s1 0)
theorem slices_IndexFunc_Step_spec (y1 : SlV) (s1 : List Step) (f2 : Nat) (caps1 : List Value) (pre1 : List Pred) [StabL pre1] (f1 : Step → Bool) (hfb1 : tab.fnb f2 = true) (hfn1 : ∀ (a0_ : Step), Does Try.prog f2 ([.agg ⟨[.int .i64 a0_.o.time, .int .i64 a0_.o.who, .int .i64 a0_.o.node, .int .i64 a0_.o.parent, .int .i64 a0_.o.name, .int .i64 a0_.o.life, .int .i64 a0_.o.seq, .bool a0_.did, .int .i64 a0_.was.node, .int .i64 a0_.was.parent, .int .i64 a0_.was.name]⟩] ++ caps1) pre1 (fun (_ : Unit) => .bool (f1 a0_)) (fun (_ : Unit) => [])) : Does Try.prog 208 [y1.val s1.length, .func (.func f2) #[] ⟨caps1⟩] (RdL EStep y1 s1 :: pre1) (fun (_ : Unit) => .int .i64 (slices_IndexFunc_Step s1 f1)) (fun (_ : Unit) => []) := by
  refine does_of tab_ok Try.func208 rfl Try.ntmps208 Try.results208 rfl inferInstance (fun _ => inferInstance) fun C => ?_
  refine cw_pure (φ := s1.length * 88 ≤ 140737488355328) [RdL EStep y1 s1] Sf (fun M w h => (allF1 h).len) fun hlen1 => ?_
  refine Tx ?_
  (repeat refine cw_seq ?_); refine Lp [0,1,4,7] [] (fun (n1 : Nat) => (⟨[(8, .v (.int .i64 (n1 : Int)))], [], [], [], (n1 ≤ s1.length) ∧ (slices_IndexFunc_Step_L0 f1 (s1.drop n1) n1) = (slices_IndexFunc_Step s1 f1), s1.length - n1⟩ : Ls)) 0 (Sc (Sc (Sc (Sc Sn)))) (.nil) ⟨Nat.zero_le _, (by simp only [slices_IndexFunc_Step, cond_true, cond_false] : (slices_IndexFunc_Step s1 f1) = (slices_IndexFunc_Step_L0 f1 s1 0)).symm⟩ Le5 ?_
  rintro n1 ⟨hkn1, hf1⟩
  simp only [List.cons_append, List.nil_append]
  refine Tx ?_
  refine Cd (b := decide ((n1 : Int) < (s1.length : Int))) (fun hc1 => ?_) fun hc1 => ?_
  · have hlt0 : n1 < s1.length := Int.ofNat_lt.1 (of_decide_eq_true hc1)
    refine Tx ?_
    refine rw_q rfl rfl rfl (q_idx EStep n1 rfl rfl (fun _ => rfl) rfl (fun _ => rfl) rfl rfl rfl Mm rfl (fun _ => rfl) (fun _ => by first | assumption | omega)) ?_
    refine rw_q rfl rfl rfl (q_leA EStep rfl rfl (fun _ => rfl) rfl rfl Mm (fun _ => by first | assumption | omega)) ?_
    refine rw_callv (hfn1 (gt s1 n1)) .sq (guard_none rfl) rfl rfl rfl rfl rfl (by assumption) rfl rfl rfl Sf ?_
    intro _
    refine rw_nil ?_
    (repeat refine cw_seq ?_)
    refine Cd (b := (f1 (gt s1 n1))) (fun hc2 => ?_) fun hc2 => ?_
    · refine Tx ?_
      have hr1 : (slices_IndexFunc_Step s1 f1) = (n1 : Int) := by rw [← hf1, drop_gt hlt0]; simp only [slices_IndexFunc_Step_L0, hc2, cond_true, cond_false]
      refine cw_ret ?_
      rw [hr1]
      exact ⟨(), _, (.cons (.tmp rfl) .nil), rfl, Sf, .nil _, .nil _⟩
    · refine Tx ?_
      refine rw_q rfl rfl rfl (q_add rfl rfl (fun _ => rfl) rfl (fun _ => rfl) (fun _ => by omega)) ?_
      refine Tx ?_
      refine ⟨(n1 + 1), ⟨hlt0, (by rw [← hf1, drop_gt hlt0]; simp only [slices_IndexFunc_Step_L0, hc2, cond_true, cond_false] : (slices_IndexFunc_Step s1 f1) = (slices_IndexFunc_Step_L0 f1 (s1.drop (n1 + 1)) (n1 + 1))).symm⟩, (by simp only []; omega), Le5⟩
  · have hge0 : s1.length ≤ n1 := by have := of_decide_eq_false hc1; omega
    refine Tx ?_
    have hr2 : (slices_IndexFunc_Step s1 f1) = (-1) := by rw [← hf1, List.drop_of_length_le hge0]; simp only [slices_IndexFunc_Step_L0, cond_true, cond_false]
    refine cw_ret ?_
    rw [hr2]
    exact ⟨(), _, (.cons (.tmp rfl) .nil), rfl, Sf, .nil _, .nil _⟩
def slices_ContainsFunc_Step (s1 : List Step) (f1 : Step → Bool) : Bool :=
  decide ((slices_IndexFunc_Step s1 f1) ≥ 0)
theorem slices_ContainsFunc_Step_spec (y1 : SlV) (s1 : List Step) (f2 : Nat) (caps1 : List Value) (pre1 : List Pred) [StabL pre1] (f1 : Step → Bool) (hfb1 : tab.fnb f2 = true) (hfn1 : ∀ (a0_ : Step), Does Try.prog f2 ([.agg ⟨[.int .i64 a0_.o.time, .int .i64 a0_.o.who, .int .i64 a0_.o.node, .int .i64 a0_.o.parent, .int .i64 a0_.o.name, .int .i64 a0_.o.life, .int .i64 a0_.o.seq, .bool a0_.did, .int .i64 a0_.was.node, .int .i64 a0_.was.parent, .int .i64 a0_.was.name]⟩] ++ caps1) pre1 (fun (_ : Unit) => .bool (f1 a0_)) (fun (_ : Unit) => [])) : Does Try.prog 187 [y1.val s1.length, .func (.func f2) #[] ⟨caps1⟩] (RdL EStep y1 s1 :: pre1) (fun (_ : Unit) => .bool (slices_ContainsFunc_Step s1 f1)) (fun (_ : Unit) => []) := by
  refine does_of tab_ok Try.func187 rfl Try.ntmps187 Try.results187 rfl inferInstance (fun _ => inferInstance) fun C => ?_
  refine cw_pure (φ := s1.length * 88 ≤ 140737488355328) [RdL EStep y1 s1] Sf (fun M w h => (allF1 h).len) fun hlen1 => ?_
  refine Tx ?_
  refine rw_call (slices_IndexFunc_Step_spec y1 s1 _ _ _ f1 (by assumption) hfn1) .sq (guard_none rfl) rfl rfl rfl Kr rfl rfl Sf ?_
  intro _
  refine Tx ?_
  have hr1 : (slices_ContainsFunc_Step s1 f1) = decide ((slices_IndexFunc_Step s1 f1) ≥ 0) := by simp only [slices_ContainsFunc_Step, cond_true, cond_false]
  refine cw_ret ?_
  rw [hr1]
  exact ⟨(), _, (.cons (.tmp rfl) .nil), rfl, Sf, .nil _, .nil _⟩
theorem slices_ContainsFunc_Step_eq (s : List Step) (f : Step → Bool) : slices_ContainsFunc_Step s f = s.any f := by
  have key : ∀ (l : List Step) (k : Nat), decide (slices_IndexFunc_Step_L0 f l k ≥ 0) = l.any f := by
    intro l
    induction l with
    | nil => intro k; rfl
    | cons p r ih =>
      intro k
      rw [slices_IndexFunc_Step_L0, List.any_cons]
      cases f p with
      | true => simp only [cond_true, Bool.true_or, decide_eq_true_eq]; omega
      | false => rw [cond_false, ih, Bool.false_or]
  exact key s 0
theorem slices_ContainsFunc_Step_spec' (y1 : SlV) (s1 : List Step) (f1 : Nat) (caps1 : List Value) (pre1 : List Pred) [StabL pre1] (p1 : Step → Bool) (hfb1 : tab.fnb f1 = true) (hfn1 : ∀ (a0_ : Step), Does Try.prog f1 ([.agg ⟨[.int .i64 a0_.o.time, .int .i64 a0_.o.who, .int .i64 a0_.o.node, .int .i64 a0_.o.parent, .int .i64 a0_.o.name, .int .i64 a0_.o.life, .int .i64 a0_.o.seq, .bool a0_.did, .int .i64 a0_.was.node, .int .i64 a0_.was.parent, .int .i64 a0_.was.name]⟩] ++ caps1) pre1 (fun (_ : Unit) => .bool (p1 a0_)) (fun (_ : Unit) => [])) :
    Does Try.prog 187 [y1.val s1.length, .func (.func f1) #[] ⟨caps1⟩] (RdL EStep y1 s1 :: pre1) (fun (_ : Unit) => .bool (s1.any p1)) (fun (_ : Unit) => []) := by
  have := slices_ContainsFunc_Step_spec y1 s1 f1 caps1 pre1 p1 hfb1 hfn1
  rw [slices_ContainsFunc_Step_eq] at this
  exact this

def history_Put_1 (s1 : Step) (o1 : Op) : Bool :=
  decide ((⟨s1.o.time, s1.o.who⟩ : Stamp) = (⟨o1.time, o1.who⟩ : Stamp))
theorem history_Put_1_spec (s1 : Step) (c1 : Nat) (o1 : Op) : Does Try.prog 188 [.agg ⟨[.int .i64 s1.o.time, .int .i64 s1.o.who, .int .i64 s1.o.node, .int .i64 s1.o.parent, .int .i64 s1.o.name, .int .i64 s1.o.life, .int .i64 s1.o.seq, .bool s1.did, .int .i64 s1.was.node, .int .i64 s1.was.parent, .int .i64 s1.was.name]⟩, .pointer (some ⟨c1, 0, none⟩)] [VarP c1 [.int .i64 o1.time, .int .i64 o1.who, .int .i64 o1.node, .int .i64 o1.parent, .int .i64 o1.name, .int .i64 o1.life, .int .i64 o1.seq]] (fun (_ : Unit) => .bool (history_Put_1 s1 o1)) (fun (_ : Unit) => []) := by
  refine does_of tab_ok Try.func188 rfl Try.ntmps188 Try.results188 rfl inferInstance (fun _ => inferInstance) fun C => ?_
  refine Tx ?_
  refine Bx fun g1 => ?_
  refine Tx ?_
  refine rw_q rfl rfl rfl (q_eqE eqT_Stamp (flatEq_Stamp (⟨s1.o.time, s1.o.who⟩ : Stamp) (⟨o1.time, o1.who⟩ : Stamp)) rfl rfl (fun _ => rfl) rfl (fun _ => rfl) rfl rfl) ?_
  refine Tx ?_
  have hr1 : (history_Put_1 s1 o1) = decide ((⟨s1.o.time, s1.o.who⟩ : Stamp) = (⟨o1.time, o1.who⟩ : Stamp)) := by simp only [history_Put_1, cond_true, cond_false]
  refine cw_ret ?_; rw [hr1]; exact Re () (Vt Vn)

def history_Put_L1  : List Op → (List Step) → (List Place) → (History × Int)
  | [], l2, p2 => ((⟨l2, p2⟩ : History), 0)
  | pn2 :: rn2, l2, p2 => (bif (((move_Do p2 pn2).2.2) != 0) then ((⟨([] : List Step), ([] : List Place)⟩ : History), (move_Do p2 pn2).2.2) else (history_Put_L1 rn2 (l2 ++ [((move_Do p2 pn2).2.1)]) ((move_Do p2 pn2).1)))
def history_Put_L0 (o1 : Op) : Nat → (List Op) → Int → (List Step) → (List Place) → (History × Int)
  | 0, later1, n1, l1, p1 => default
  | f_k0 + 1, later1, n1, l1, p1 => (bif (decide (n1 > 0) && (move_Before (⟨o1.time, o1.who⟩ : Stamp) (⟨((gt l1 ((n1 - 1).toNat)).o).time, ((gt l1 ((n1 - 1).toNat)).o).who⟩ : Stamp))) then (bif (((move_Undo p1 (gt l1 ((n1 - 1).toNat))).2) != 0) then ((⟨([] : List Step), ([] : List Place)⟩ : History), (move_Undo p1 (gt l1 ((n1 - 1).toNat))).2) else (history_Put_L0 o1 f_k0 (later1 ++ [((gt l1 ((n1 - 1).toNat)).o)]) (n1 - 1) (l1.take ((n1 - 1).toNat)) ((move_Undo p1 (gt l1 ((n1 - 1).toNat))).1))) else (history_Put_L1 (slices_ReverseK_Op later1 1) l1 p1))
def history_Put (h1 : History) (o1 : Op) : History × Int :=
  (bif ((move_Check o1) != 0) then ((⟨([] : List Step), ([] : List Place)⟩ : History), (move_Check o1)) else (bif (h1.l.any (fun a0_ => history_Put_1 a0_ o1)) then ((⟨([] : List Step), ([] : List Place)⟩ : History), 6) else (bif ((h1.l.length : Int) == 30) then ((⟨([] : List Step), ([] : List Place)⟩ : History), 2) else (history_Put_L0 o1 (h1.l.length + 1) [o1] (h1.l.length : Int) h1.l h1.t))))
theorem history_Put_spec (y1 : SlV) (y2 : SlV) (h1 : History) (o1 : Op) (hl : h1.l.length ≤ 1000) : Does Try.prog 159 [.agg ⟨[y1.val h1.l.length, y2.val h1.t.length]⟩, .agg ⟨[.int .i64 o1.time, .int .i64 o1.who, .int .i64 o1.node, .int .i64 o1.parent, .int .i64 o1.name, .int .i64 o1.life, .int .i64 o1.seq]⟩] [RdL EStep y1 h1.l, RdL EPlace y2 h1.t] (fun (X : SlV × SlV) => .tuple #[.agg ⟨[X.1.val (((history_Put h1 o1).1).l).length, X.2.val (((history_Put h1 o1).1).t).length]⟩, .int .i64 ((history_Put h1 o1).2)]) (fun (X : SlV × SlV) => [RdL EStep X.1 (((history_Put h1 o1).1).l), RdL EPlace X.2 (((history_Put h1 o1).1).t)]) := by
  refine does_of tab_ok Try.func159 rfl Try.ntmps159 Try.results159 rfl inferInstance (fun _ => inferInstance) fun C => ?_
  refine Pc EStep y1 h1.l 88 fun hlen1 => ?_
  refine Pc EPlace y2 h1.t 24 fun hlen2 => ?_
  refine Tx ?_
  refine Bx fun g1 => ?_
  refine Bx fun g2 => ?_
  refine Al fun g3 => ?_
  refine Tx ?_
  refine Cl (move_Check_spec o1) fun _ => ?_
  refine Tx ?_
  refine Cd (b := ((move_Check o1) != 0)) (fun hc1 => ?_) fun hc1 => ?_
  · have hc1p := bne_iff_ne.1 hc1
    refine Tx ?_
    refine Fc EStep ?_
    refine Fc EPlace ?_
    have hr1 : (history_Put h1 o1) = ((⟨([] : List Step), ([] : List Place)⟩ : History), (move_Check o1)) := by simp only [history_Put, hc1, cond_true, cond_false]
    refine cw_ret ?_; rw [hr1]; exact Re ⟨(⟨none, 0⟩ : SlV), (⟨none, 0⟩ : SlV)⟩ (Va (Vt Vn))
  · have hc1p := eq_of_bne_false hc1
    refine Tx ?_
    refine rw_le (le_var (g := g2) Pk) ?_
    refine Cl (slices_ContainsFunc_Step_spec' y1 h1.l _ _ _ (fun a0_ => history_Put_1 a0_ o1) Kr (fun a0_ => history_Put_1_spec a0_ g2 o1)) fun _ => ?_
    refine rw_nil ?_
    (repeat refine cw_seq ?_)
    refine Cd (b := (h1.l.any (fun a0_ => history_Put_1 a0_ o1))) (fun hc2 => ?_) fun hc2 => ?_
    · refine Tx ?_
      refine Fc EStep ?_
      refine Fc EPlace ?_
      have hr2 : (history_Put h1 o1) = ((⟨([] : List Step), ([] : List Place)⟩ : History), 6) := by simp only [history_Put, hc1, hc2, cond_true, cond_false]
      refine cw_ret ?_; rw [hr2]; exact Re ⟨(⟨none, 0⟩ : SlV), (⟨none, 0⟩ : SlV)⟩ (Va (Vt Vn))
    · refine Tx ?_
      refine Cd (b := ((h1.l.length : Int) == 30)) (fun hc3 => ?_) fun hc3 => ?_
      · have hc3p := eq_of_beq hc3
        refine Tx ?_
        refine Fc EStep ?_
        refine Fc EPlace ?_
        have hr3 : (history_Put h1 o1) = ((⟨([] : List Step), ([] : List Place)⟩ : History), 2) := by simp only [history_Put, hc1, hc2, hc3, cond_true, cond_false]
        refine cw_ret ?_; rw [hr3]; exact Re ⟨(⟨none, 0⟩ : SlV), (⟨none, 0⟩ : SlV)⟩ (Va (Vt Vn))
      · have hc3p := ne_of_beq_false hc3
        refine Tx ?_
        refine Cg (history_Copy_spec y1 y2 h1) fun x1 => ?_
        refine Pr EPlace x1.2.2 h1.t 24 fun hlen3 => ?_
        refine Tx ?_
        refine rw_bsliceL EOp [o1] .sq (guard_none rfl) rfl rfl rfl rfl rfl rfl rfl rfl rfl rfl rfl rfl rfl rfl rfl fun x2 x2b => ?_
        refine Tx ?_
        (repeat refine cw_seq ?_); refine Lp [2,3,4,5] [true, false] (fun (i_ : List Op × SlV × Option Nat × Int × List Step × List Place × SlV × Nat) => match i_ with | ⟨later1, x3, x3b, n1, l1, p1, x5, fz1⟩ => (⟨[(7, .v (x3.val later1.length)), (8, .v (.int .i64 n1))], [⟨g1, 94, [x1.1.val l1.length, x5.val p1.length]⟩], [ownL EOp 33 x3 x3b later1, ownL EStep 37 x1.1 x1.2.1 l1], [RdL EPlace x5 p1], (n1 = (l1.length : Int) ∧ 1 ≤ later1.length ∧ later1.length + l1.length = h1.l.length + 1) ∧ (n1.toNat < fz1) ∧ (history_Put_L0 o1 (fz1) later1 n1 l1 p1) = (history_Put h1 o1), fz1⟩ : Ls)) ⟨[o1], x2, x2b, (h1.l.length : Int), h1.l, h1.t, x1.2.2, h1.l.length + 1⟩ (Sc (Sc (Sc (Sc Sn)))) (.keep (.drop (.nil))) ⟨⟨rfl, Nat.le_refl _, by simp only [List.length_cons, List.length_nil]; omega⟩, (by first | exact Nat.le_refl _ | exact Nat.zero_le _ | omega), (by simp only [history_Put, hc1, hc2, hc3, cond_true, cond_false] : (history_Put h1 o1) = (history_Put_L0 o1 (h1.l.length + 1) [o1] (h1.l.length : Int) h1.l h1.t)).symm⟩ Le4 ?_
        rintro ⟨later1, x3, x3b, n1, l1, p1, x5, fz1⟩ ⟨hi, hzfz1, hf1⟩
        simp only [List.cons_append, List.nil_append]
        have hlt0_ : fz1 = (fz1 - 1) + 1 := by omega
        (repeat refine cw_seq ?_); refine cw_regionA (fun _ => some []) ?_
        refine Rb 0 [] [1,2,3,4,5,6,7,8,9,10,11,12,13,14] rfl Qp ?_
        refine Rb 1 [] [2,3,4,5,6,7,8,9,10,11,12,13,14] rfl Qp ?_
        refine Ra 2 [] rfl Qp ?_
        refine Gb 3 [5,6,7,8,9,10,11,12] [4,13,14] rfl (guard_vt rfl rfl rfl) (q_pev rfl Bt) ?_
        refine Gb 4 [5,6,7,8,9,10,11,12] [13,14] rfl (guard_vt rfl rfl rfl) (q_lfP rfl rfl Bt rfl Mm rfl) ?_
        refine Gb 5 [7,8] [6,9,10,11,12,13,14] rfl (guard_vt rfl rfl rfl) (q_pev rfl Bt) ?_
        refine Gb 6 [7,8] [9,10,11,12,13,14] rfl (guard_vt rfl rfl rfl) (q_ld1 rfl rfl Bt rfl Mm rfl) ?_
        refine Gb 7 [] [8,9,10,11,12,13,14] rfl (guard_vt rfl rfl rfl) (q_pev rfl Bt) ?_
        refine Gb 8 [] [9,10,11,12,13,14] rfl (guard_vt rfl rfl rfl) (q_sub rfl rfl Bt rfl Bt (by intro h; first | omega | (simp at h; omega))) ?_
        refine rw_qgO EStep (e := 37) (X := x1.1) (b := x1.2.1) (l := l1) Mm (.ab (i := 9) (js := []) [10, 11, 12, 13, 14] rfl Kr Kr Kr Kr Kr) (guard_vt rfl rfl rfl) rfl rfl (q_idx EStep ((n1 - 1).toNat) rfl rfl Bt rfl Bt rfl rfl rfl (.head _) rfl (by intro h; first | omega | rfl | (simp at h; omega)) (by first | (intro _; first | assumption | omega | (simp only [List.length_set]; omega)) | (intro h; simp at h; omega))) ?_
        refine Gb 10 [] [11,12,13,14] rfl (guard_vt rfl rfl rfl) (q_fae rfl rfl Bt rfl rfl) ?_
        refine Gb 11 [] [12,13,14] rfl (guard_vt rfl rfl rfl) (q_fae rfl rfl Bt rfl rfl) ?_
        refine rw_qgO EStep (e := 37) (X := x1.1) (b := x1.2.1) (l := l1) Mm (.ab (i := 12) (js := []) [13, 14] rfl Kr Kr Kr Kr Kr) (guard_vt rfl rfl rfl) rfl rfl (q_leP EStep rfl rfl Bt rfl rfl (.head _) (by first | (intro _; first | assumption | omega | (simp only [List.length_set]; omega)) | (intro h; simp at h; omega)) rfl) ?_
        refine ra_one 13 Kr ?_
        refine rw_callg (fun hG_ => move_Before_spec (⟨o1.time, o1.who⟩ : Stamp) (⟨((gt l1 ((n1 - 1).toNat)).o).time, ((gt l1 ((n1 - 1).toNat)).o).who⟩ : Stamp)) (fun _ => rfl) (.an rfl rfl) (guard_vt rfl rfl rfl) rfl rfl rfl Kr rfl Bt Sm ?_
        refine Ra 14 [] rfl (q_pev rfl Bt) ?_
        refine ra_nil Kr ?_
        (repeat refine cw_seq ?_)
        refine Cd (b := (decide (n1 > 0) && (move_Before (⟨o1.time, o1.who⟩ : Stamp) (⟨((gt l1 ((n1 - 1).toNat)).o).time, ((gt l1 ((n1 - 1).toNat)).o).who⟩ : Stamp)))) (fun hc4 => ?_) fun hc4 => ?_
        · have hn0 := of_decide_eq_true (Bool.and_eq_true_iff.1 hc4).1
          refine Tx ?_
          refine cw_join [2, 3, 4, 5, 7, 8, 39, 40, 41, 53] [true, true] (fun (i_ : Nat × SlV) => match i_ with | ⟨g4, x6⟩ => [(9, .v (.pointer (some ⟨g4, 0, none⟩))), (10, .v (.int .i64 ((move_Undo p1 (gt l1 ((n1 - 1).toNat))).2))), (56, .v (.tuple #[.agg ⟨[x6.val ((move_Undo p1 (gt l1 ((n1 - 1).toNat))).1).length]⟩, .int .i64 ((move_Undo p1 (gt l1 ((n1 - 1).toNat))).2)])), (57, .v (.pointer (some ⟨g1, 1, none⟩))), (58, .v (.agg ⟨[x5.val p1.length]⟩)), (59, .v (.pointer (some ⟨g1, 0, none⟩))), (60, .v (x1.1.val l1.length)), (61, .v (.int .i64 n1)), (62, .v (.int .i64 (n1 - 1))), (64, .v (.agg ⟨[.int .i64 (((gt l1 ((n1 - 1).toNat)).o).time), .int .i64 (((gt l1 ((n1 - 1).toNat)).o).who), .int .i64 (((gt l1 ((n1 - 1).toNat)).o).node), .int .i64 (((gt l1 ((n1 - 1).toNat)).o).parent), .int .i64 (((gt l1 ((n1 - 1).toNat)).o).name), .int .i64 (((gt l1 ((n1 - 1).toNat)).o).life), .int .i64 (((gt l1 ((n1 - 1).toNat)).o).seq), .bool ((gt l1 ((n1 - 1).toNat)).did), .int .i64 (((gt l1 ((n1 - 1).toNat)).was).node), .int .i64 (((gt l1 ((n1 - 1).toNat)).was).parent), .int .i64 (((gt l1 ((n1 - 1).toNat)).was).name)]⟩)), (65, .v (.tuple #[.agg ⟨[x6.val ((move_Undo p1 (gt l1 ((n1 - 1).toNat))).1).length]⟩, .int .i64 ((move_Undo p1 (gt l1 ((n1 - 1).toNat))).2)])), (66, .v (.agg ⟨[x6.val ((move_Undo p1 (gt l1 ((n1 - 1).toNat))).1).length]⟩)), (67, .v (.int .i64 ((move_Undo p1 (gt l1 ((n1 - 1).toNat))).2)))]) (fun (i_ : Nat × SlV) => match i_ with | ⟨g4, x6⟩ => [⟨g4, 29, [x6.val ((move_Undo p1 (gt l1 ((n1 - 1).toNat))).1).length]⟩]) (fun (i_ : Nat × SlV) => match i_ with | ⟨g4, x6⟩ => [ownL EOp 33 x3 x3b later1, ownL EStep 37 x1.1 x1.2.1 l1]) (fun (i_ : Nat × SlV) => match i_ with | ⟨g4, x6⟩ => [RdL EPlace x6 ((move_Undo p1 (gt l1 ((n1 - 1).toNat))).1), RdL EPlace x5 p1]) (fun _ => True) (.cons rfl (.cons rfl (.cons rfl (.cons rfl (.cons rfl (.cons rfl (.cons rfl (.cons rfl (.cons rfl (.cons rfl (.nil _))))))))))) (.keep (.keep (.nil))) ?_ ?_
          · refine cw_regionA (fun j => match j with | 13 => none | _ => some []) ?_
            refine Rb 0 [2,3,4,5,6,7,12] [1,8,9,10,11,13,14] rfl Qp ?_
            refine Rb 1 [2,3,4,5,6,7,12] [8,9,10,11,13,14] rfl (q_ldP rfl rfl (fun _ => rfl) rfl Mm rfl) ?_
            refine Rb 2 [4,5,12] [3,6,7,8,9,10,11,13,14] rfl Qp ?_
            refine Rb 3 [4,5,12] [6,7,8,9,10,11,13,14] rfl Q1 ?_
            refine Rb 4 [12] [5,6,7,8,9,10,11,13,14] rfl Qp ?_
            refine Rb 5 [12] [6,7,8,9,10,11,13,14] rfl (q_sub rfl rfl (fun _ => rfl) rfl (fun _ => rfl) (fun _ => by omega)) ?_
            refine rw_qO EStep (e := 37) (X := x1.1) (b := x1.2.1) (l := l1) Mm (.ab (i := 6) (js := [12]) [7, 8, 9, 10, 11, 13, 14] rfl Kr Kr Kr Kr Kr) rfl rfl rfl (q_idx EStep ((n1 - 1).toNat) rfl rfl (fun _ => rfl) rfl (fun _ => rfl) rfl rfl rfl (.head _) rfl (fun _ => by omega) (fun _ => by first | assumption | omega | (simp only [List.length_set]; omega))) ?_
            refine rw_qO EStep (e := 37) (X := x1.1) (b := x1.2.1) (l := l1) Mm (.ab (i := 7) (js := [12]) [8, 9, 10, 11, 13, 14] rfl Kr Kr Kr Kr Kr) rfl rfl rfl (q_leA EStep rfl rfl (fun _ => rfl) rfl rfl (.head _) (fun _ => by first | assumption | omega | (simp only [List.length_set]; omega))) ?_
            refine ra_two 8 12 Kr ?_ ?_
            · refine rw_call (move_Undo_spec x5 p1 (gt l1 ((n1 - 1).toNat))) (.an rfl rfl) (guard_none rfl) rfl rfl rfl Kr rfl rfl Sm ?_
              intro x7
              refine Pr EPlace x7 ((move_Undo p1 (gt l1 ((n1 - 1).toNat))).1) 24 fun hlen4 => ?_
              refine Ra 9 [12] rfl Qp ?_
              refine Ra 10 [11,12] rfl Qp ?_
              refine ra_p (.an (i := 11) (js := [12, 13]) rfl Kr Kr Kr Kr) rfl rfl rfl (q_pev rfl (fun _ => rfl)) ?_
              refine ra_one 12 Kr ?_
              refine rw_alloc (.an rfl rfl) (guard_none rfl) rfl rfl rfl rfl fun g5 => ?_
              refine ra_one 13 Kr ?_
              refine rw_stA (.lo [g5] rfl rfl) (.inr (by simp)) (guard_none rfl) rfl rfl rfl rfl rfl rfl rfl rfl rfl Ub rfl ?_
              refine Ra 14 [] rfl Qp ?_
              refine ra_nil Kr ?_
              refine ⟨⟨g5, x7⟩, trivial, Le4⟩
            · refine rw_alloc (.an rfl rfl) (guard_none rfl) rfl rfl rfl rfl fun g6 => ?_
              refine ra_one 8 Kr ?_
              refine rw_call (move_Undo_spec x5 p1 (gt l1 ((n1 - 1).toNat))) (.an rfl rfl) (guard_none rfl) rfl rfl rfl Kr rfl rfl Sm ?_
              intro x8
              refine Pr EPlace x8 ((move_Undo p1 (gt l1 ((n1 - 1).toNat))).1) 24 fun hlen5 => ?_
              refine Ra 9 [] rfl Qp ?_
              refine Ra 10 [11] rfl Qp ?_
              refine ra_p (.an (i := 11) (js := [13]) rfl Kr Kr Kr Kr) rfl rfl rfl (q_pev rfl (fun _ => rfl)) ?_
              refine ra_one 13 Kr ?_
              refine rw_stA (.lo [g6] rfl rfl) (.inr (by simp)) (guard_none rfl) rfl rfl rfl rfl rfl rfl rfl rfl rfl Ub rfl ?_
              refine Ra 14 [] rfl Qp ?_
              refine ra_nil Kr ?_
              refine ⟨⟨g6, x8⟩, trivial, Le4⟩
          · rintro ⟨g4, x6⟩ -
            simp only [List.cons_append, List.nil_append]
            refine Tx ?_
            refine Cd (b := (((move_Undo p1 (gt l1 ((n1 - 1).toNat))).2) != 0)) (fun hc5 => ?_) fun hc5 => ?_
            · have hc5p := bne_iff_ne.1 hc5
              refine Tx ?_
              refine Fc EStep ?_
              refine Fc EPlace ?_
              have hr4 : (history_Put h1 o1) = ((⟨([] : List Step), ([] : List Place)⟩ : History), (move_Undo p1 (gt l1 ((n1 - 1).toNat))).2) := by rw [← hf1]; (conv => lhs; rw [hlt0_]); simp only [history_Put_L0, hc4, hc5, cond_true, cond_false]
              refine cw_ret ?_; rw [hr4]; exact Re ⟨(⟨none, 0⟩ : SlV), (⟨none, 0⟩ : SlV)⟩ (Va (Vt Vn))
            · have hc5p := eq_of_bne_false hc5
              refine Tx ?_
              refine rw_q rfl rfl rfl (q_sub rfl rfl (fun _ => rfl) rfl (fun _ => rfl) (fun _ => by omega)) ?_
              refine rw_qO EStep (e := 37) (X := x1.1) (b := x1.2.1) (l := l1) Mm .sq rfl rfl rfl (q_idx EStep ((n1 - 1).toNat) rfl rfl (fun _ => rfl) rfl (fun _ => rfl) rfl rfl rfl (.head _) rfl (fun _ => by omega) (fun _ => by first | assumption | omega | (simp only [List.length_set]; omega))) ?_
              refine rw_q rfl rfl rfl (q_fae rfl rfl (fun _ => rfl) rfl rfl) ?_
              refine rw_qO EStep (e := 37) (X := x1.1) (b := x1.2.1) (l := l1) Mm .sq rfl rfl rfl (q_leP EStep rfl rfl (fun _ => rfl) rfl rfl (.head _) (fun _ => by first | assumption | omega | (simp only [List.length_set]; omega)) rfl) ?_
              refine rw_bsliceL EOp [((gt l1 ((n1 - 1).toNat)).o)] .sq (guard_none rfl) rfl rfl rfl rfl rfl rfl rfl rfl rfl rfl rfl rfl rfl rfl rfl fun x9 x9b => ?_
              refine rw_appendL EOp later1 [((gt l1 ((n1 - 1).toNat)).o)] (b := x3b) .sq (fun _ _ => .inl ⟨_, rfl⟩) (guard_none rfl) rfl rfl rfl rfl rfl rfl rfl (fun _ _ => Uo) rfl rfl rfl rfl rfl rfl rfl (reads_ownL (e := 33) (b := x9b) Mm) (by show (later1.length + 1) * 56 ≤ 140737488355328; (try simp only [List.length_append, List.length_cons, List.length_nil]); omega) fun x10 x10b => ?_
              refine Tx ?_
              (repeat refine cw_seq ?_); refine cw_regionA (fun j => match j with | 7 => some [g1] | 9 => some [g1] | _ => some []) ?_
              refine Ra 0 [1,2,3,4,5] rfl (q_ldA rfl rfl (fun _ => rfl) rfl Mm rfl) ?_
              refine Rb 1 [3,4] [2,5,6,7,8,9] rfl Qp ?_
              refine Ra 2 [3,4] rfl Q1 ?_
              refine ra_q (.ab (i := 3) (js := [6, 7]) [4, 5, 8, 9] rfl Kr Kr Kr Kr Kr) (.keep (.drop (SplitB.all _))) (by intro g hg; simp at hg; simp [hg]) rfl rfl rfl (q_pev rfl (fun _ => rfl)) ?_
              refine ra_q (.an (i := 4) (js := [6, 7]) rfl Kr Kr Kr Kr) (.keep (.drop (SplitB.all _))) (by intro g hg; simp at hg; simp [hg]) rfl rfl rfl (q_sub rfl rfl (fun _ => rfl) rfl (fun _ => rfl) (fun _ => by omega)) ?_
              refine Ra 6 [5] rfl Qp ?_
              refine ra_two 5 7 Kr ?_ ?_
              · refine rw_takeOL EStep l1 ((n1 - 1).toNat) (e := 37) (X := x1.1) (ob := x1.2.1) (.an rfl rfl) (guard_none rfl) rfl rfl rfl rfl rfl rfl rfl rfl rfl Uo (by omega) (by first | omega | (simp only [List.length_set]; omega)) ?_
                refine ra_one 7 Kr ?_
                refine rw_stP (.an rfl rfl) (.inr (by simp)) (guard_none rfl) rfl rfl rfl rfl rfl rfl rfl rfl rfl Ub rfl ?_
                refine Ra 8 [] rfl Qp ?_
                refine ra_one 9 Kr ?_
                refine rw_st1 (.an rfl rfl) (.inr (by simp)) (guard_none rfl) rfl rfl rfl rfl rfl rfl rfl rfl rfl Ub rfl ?_
                refine ra_nil Kr ?_
                refine Tx ?_
                refine rw_q rfl rfl rfl (q_sub rfl rfl (fun _ => rfl) rfl (fun _ => rfl) (fun _ => by omega)) ?_
                refine Tx ?_
                refine ⟨⟨(later1 ++ [((gt l1 ((n1 - 1).toNat)).o)]), x10, x10b, (n1 - 1), (l1.take ((n1 - 1).toNat)), (move_Undo p1 (gt l1 ((n1 - 1).toNat))).1, x6, (fz1 - 1)⟩, ⟨(by (try simp only [List.length_append, List.length_cons, List.length_nil, List.length_take]); omega), (by (try simp only []); first | omega | (simp only [List.length_append, List.length_cons, List.length_nil]; omega)), (by rw [← hf1]; (conv => lhs; rw [hlt0_]); simp only [history_Put_L0, hc4, hc5, cond_true, cond_false] : (history_Put h1 o1) = (history_Put_L0 o1 (fz1 - 1) (later1 ++ [((gt l1 ((n1 - 1).toNat)).o)]) (n1 - 1) (l1.take ((n1 - 1).toNat)) ((move_Undo p1 (gt l1 ((n1 - 1).toNat))).1))).symm⟩, (by simp only []; omega), Le4⟩
              · refine rw_stP (.an rfl rfl) (.inr (by simp)) (guard_none rfl) rfl rfl rfl rfl rfl rfl rfl rfl rfl Ub rfl ?_
                refine ra_one 5 Kr ?_
                refine rw_takeOL EStep l1 ((n1 - 1).toNat) (e := 37) (X := x1.1) (ob := x1.2.1) (.an rfl rfl) (guard_none rfl) rfl rfl rfl rfl rfl rfl rfl rfl rfl Uo (by omega) (by first | omega | (simp only [List.length_set]; omega)) ?_
                refine Ra 8 [] rfl Qp ?_
                refine ra_one 9 Kr ?_
                refine rw_st1 (.an rfl rfl) (.inr (by simp)) (guard_none rfl) rfl rfl rfl rfl rfl rfl rfl rfl rfl Ub rfl ?_
                refine ra_nil Kr ?_
                refine Tx ?_
                refine rw_q rfl rfl rfl (q_sub rfl rfl (fun _ => rfl) rfl (fun _ => rfl) (fun _ => by omega)) ?_
                refine Tx ?_
                refine ⟨⟨(later1 ++ [((gt l1 ((n1 - 1).toNat)).o)]), x10, x10b, (n1 - 1), (l1.take ((n1 - 1).toNat)), (move_Undo p1 (gt l1 ((n1 - 1).toNat))).1, x6, (fz1 - 1)⟩, ⟨(by (try simp only [List.length_append, List.length_cons, List.length_nil, List.length_take]); omega), (by (try simp only []); first | omega | (simp only [List.length_append, List.length_cons, List.length_nil]; omega)), (by rw [← hf1]; (conv => lhs; rw [hlt0_]); simp only [history_Put_L0, hc4, hc5, cond_true, cond_false] : (history_Put h1 o1) = (history_Put_L0 o1 (fz1 - 1) (later1 ++ [((gt l1 ((n1 - 1).toNat)).o)]) (n1 - 1) (l1.take ((n1 - 1).toNat)) ((move_Undo p1 (gt l1 ((n1 - 1).toNat))).1))).symm⟩, (by simp only []; omega), Le4⟩
        · refine Tx ?_
          refine rw_q rfl rfl rfl (q_drop EOp 1 (l := later1) (X := x3) rfl rfl (fun _ => rfl) rfl (fun _ => rfl) rfl rfl (fun _ => by first | omega | (simp only [List.length_set]; omega)) (fun _ => by first | omega | (simp only [List.length_set]; omega))) ?_
          refine rw_callG (slices_ReverseK_Op_spec x3 x3b later1 1 (by omega)) .sq (.inl ⟨_, rfl⟩) (guard_none rfl) rfl rfl rfl Kr rfl rfl Sm (.nil _) (by first | exact .cons (.here _ _) (.nil _) | exact .cons (.there _ (.here _ _)) (.nil _) | exact .cons (.there _ (.there _ (.here _ _))) (.nil _) | exact .cons (.there _ (.there _ (.there _ (.here _ _)))) (.nil _)) ?_
          intro _
          have hv1l : later1.length = (slices_ReverseK_Op later1 1).length := (RK_Op_len later1 1 (by omega)).symm
          have hv1 : x3.val later1.length = x3.val (slices_ReverseK_Op later1 1).length := congrArg (SlV.val x3) hv1l
          try rw [hv1]
          have hv2 : (⟨slA x3.a x3.c 1 EOp.esz, x3.c - 1⟩ : SlV).val (later1.drop 1).length = (⟨slA x3.a x3.c 1 EOp.esz, x3.c - 1⟩ : SlV).val ((slices_ReverseK_Op later1 1).drop 1).length := by congr 1; simp only [List.length_drop, List.length_set] <;> omega
          try rw [hv2]
          refine Tx ?_
          refine cw_le (le_freezeL EOp 33 x3 x3b (slices_ReverseK_Op later1 1) Uo) ?_
          refine Pc EOp x3 (slices_ReverseK_Op later1 1) 56 fun hlen6 => ?_
          (repeat refine cw_seq ?_); refine Lp [2,4,5,93,94] [false, true] (fun (i_ : Nat × List Step × SlV × Option Nat × List Place × SlV) => match i_ with | ⟨n2, l2, x11, x11b, p2, x12⟩ => (⟨[(95, .v (.int .i64 (n2 : Int)))], [⟨g1, 94, [x11.val l2.length, x12.val p2.length]⟩], [ownL EStep 37 x11 x11b l2], [RdL EPlace x12 p2], (n2 ≤ (slices_ReverseK_Op later1 1).length) ∧ (l2.length ≤ n2 + l1.length) ∧ (history_Put_L1 ((slices_ReverseK_Op later1 1).drop n2) l2 p2) = (history_Put h1 o1), (slices_ReverseK_Op later1 1).length - n2⟩ : Ls)) ⟨0, l1, x1.1, x1.2.1, p1, x5⟩ (Sc (Sc (Sc (Sc (Sc Sn))))) (.drop (.keep (.nil))) ⟨Nat.zero_le _, (by first | exact Nat.le_refl _ | exact Nat.zero_le _ | omega), (by rw [← hf1]; (conv => lhs; rw [hlt0_]); simp only [history_Put_L0, hc4, cond_true, cond_false] : (history_Put h1 o1) = (history_Put_L1 (slices_ReverseK_Op later1 1) l1 p1)).symm⟩ Le4 ?_
          rintro ⟨n2, l2, x11, x11b, p2, x12⟩ ⟨hkn2, hl2, hf2⟩
          simp only [List.cons_append, List.nil_append]
          refine Tx ?_
          refine Cd (b := decide ((n2 : Int) < ((slices_ReverseK_Op later1 1).length : Int))) (fun hc6 => ?_) fun hc6 => ?_
          · have hlt1 : n2 < (slices_ReverseK_Op later1 1).length := Int.ofNat_lt.1 (of_decide_eq_true hc6)
            refine Tx ?_
            refine rw_q rfl rfl rfl (q_idx EOp n2 rfl rfl (fun _ => rfl) rfl (fun _ => rfl) rfl rfl rfl Mm rfl (fun _ => rfl) (fun _ => by first | assumption | omega)) ?_
            refine rw_q rfl rfl rfl (q_leA EOp rfl rfl (fun _ => rfl) rfl rfl Mm (fun _ => by first | assumption | omega)) ?_
            refine Al fun g7 => ?_
            refine Tx ?_
            refine Cl (move_Do_spec x12 p2 (gt (slices_ReverseK_Op later1 1) n2)) fun x13 => ?_
            refine Pr EPlace x13 ((move_Do p2 (gt (slices_ReverseK_Op later1 1) n2)).1) 24 fun hlen7 => ?_
            refine Tx ?_
            refine Al fun g8 => ?_
            refine Al fun g9 => ?_
            refine Tx ?_
            refine Cd (b := (((move_Do p2 (gt (slices_ReverseK_Op later1 1) n2)).2.2) != 0)) (fun hc7 => ?_) fun hc7 => ?_
            · have hc7p := bne_iff_ne.1 hc7
              refine Tx ?_
              refine Fc EStep ?_
              refine Fc EPlace ?_
              have hr5 : (history_Put h1 o1) = ((⟨([] : List Step), ([] : List Place)⟩ : History), (move_Do p2 (gt (slices_ReverseK_Op later1 1) n2)).2.2) := by rw [← hf2, drop_gt hlt1]; simp only [history_Put_L1, hc7, cond_true, cond_false]
              refine cw_ret ?_; rw [hr5]; exact Re ⟨(⟨none, 0⟩ : SlV), (⟨none, 0⟩ : SlV)⟩ (Va (Vt Vn))
            · have hc7p := eq_of_bne_false hc7
              refine Tx ?_
              (repeat refine cw_seq ?_); refine cw_regionA (fun j => match j with | 5 => some x11b.toList | 7 => some [g1] | 9 => some [g1] | _ => some []) ?_
              refine ra_q (.an (i := 0) (js := [1, 2, 3, 4, 5]) rfl Kr Kr Kr Kr) (SplitB.all _) (by intro g hg; simp only [List.mem_append, List.mem_singleton, List.not_mem_nil, or_false, false_or, Option.mem_toList, Option.mem_def, List.append_nil] at hg; first | exact .inr ⟨ownL EStep 37 x11 x11b l2, Mm, hg⟩) rfl rfl rfl (q_ldA rfl rfl (fun _ => rfl) rfl Mm rfl) ?_
              refine Rb 1 [3,4] [2,5,6,7,8,9] rfl Qp ?_
              refine Ra 2 [3,4] rfl Q1 ?_
              refine Rb 3 [6] [4,5,7,8,9] rfl (q_ldA rfl rfl (fun _ => rfl) rfl Mm rfl) ?_
              refine ra_q (.an (i := 6) (js := [4, 5]) rfl Kr Kr Kr Kr) (SplitB.all _) (by intro g hg; simp only [List.mem_append, List.mem_singleton, List.not_mem_nil, or_false, false_or, Option.mem_toList, Option.mem_def, List.append_nil] at hg; first | exact .inr ⟨ownL EStep 37 x11 x11b l2, Mm, hg⟩) rfl rfl rfl (q_pev rfl (fun _ => rfl)) ?_
              refine ra_one 4 Kr ?_
              refine rw_bsliceL EStep [((move_Do p2 (gt (slices_ReverseK_Op later1 1) n2)).2.1)] (.an rfl rfl) (guard_none rfl) rfl rfl rfl rfl rfl rfl rfl rfl rfl rfl rfl rfl rfl rfl rfl fun x14 x14b => ?_
              refine ra_one 5 Kr ?_
              refine rw_appendL EStep l2 [((move_Do p2 (gt (slices_ReverseK_Op later1 1) n2)).2.1)] (b := x11b) (.an rfl rfl) (fun g h => .inr (by simp [h])) (guard_none rfl) rfl rfl rfl rfl rfl rfl rfl (fun _ _ => Uo) rfl rfl rfl rfl rfl rfl rfl (reads_ownL (e := 37) (b := x14b) Mm) (by show (l2.length + 1) * 88 ≤ 140737488355328; (try simp only [List.length_append, List.length_cons, List.length_nil]); omega) fun x15 x15b => ?_
              refine ra_one 7 Kr ?_
              refine rw_stP (.an rfl rfl) (.inr (by simp)) (guard_none rfl) rfl rfl rfl rfl rfl rfl rfl rfl rfl Ub rfl ?_
              refine Ra 8 [] rfl Qp ?_
              refine ra_one 9 Kr ?_
              refine rw_st1 (.an rfl rfl) (.inr (by simp)) (guard_none rfl) rfl rfl rfl rfl rfl rfl rfl rfl rfl Ub rfl ?_
              refine ra_nil Kr ?_
              refine Tx ?_
              refine rw_q rfl rfl rfl (q_add rfl rfl (fun _ => rfl) rfl (fun _ => rfl) (fun _ => by omega)) ?_
              refine Tx ?_
              refine ⟨⟨(n2 + 1), (l2 ++ [((move_Do p2 (gt (slices_ReverseK_Op later1 1) n2)).2.1)]), x15, x15b, (move_Do p2 (gt (slices_ReverseK_Op later1 1) n2)).1, x13⟩, ⟨hlt1, (by simp only [List.length_append, List.length_cons, List.length_nil]; omega), (by rw [← hf2, drop_gt hlt1]; simp only [history_Put_L1, hc7, cond_true, cond_false] : (history_Put h1 o1) = (history_Put_L1 ((slices_ReverseK_Op later1 1).drop (n2 + 1)) (l2 ++ [((move_Do p2 (gt (slices_ReverseK_Op later1 1) n2)).2.1)]) ((move_Do p2 (gt (slices_ReverseK_Op later1 1) n2)).1))).symm⟩, (by simp only []; omega), Le4⟩
          · have hge1 : (slices_ReverseK_Op later1 1).length ≤ n2 := by have := of_decide_eq_false hc6; omega
            refine Tx ?_
            refine cw_le (le_freezeL EStep 37 x11 x11b l2 Uo) ?_
            have hr6 : (history_Put h1 o1) = ((⟨l2, p2⟩ : History), 0) := by rw [← hf2, List.drop_of_length_le hge1]; simp only [history_Put_L1, cond_true, cond_false]
            refine cw_ret ?_; rw [hr6]; exact Re ⟨x11, x12⟩ (Va (Vt Vn))
end Go.Proofs.Ytchdacbjiomplaa

set_option maxHeartbeats 2000000
namespace Go.Proofs.Ytchdacbjiomplaa
open Go Go.Proofs.Ytchdacbjiomplaa.Fw Go.Proofs
attribute [local irreducible] RdL RdN VarP RW CW
theorem history_Ops_eq (h : History) : history_Ops h = h.l.map (·.o) := by
  have key : ∀ (l : List Step) (acc : List Op), history_Ops_L0 l acc = acc ++ l.map (·.o) := by
    intro l
    induction l with
    | nil => intro acc; simp [history_Ops_L0]
    | cons p r ih => intro acc; rw [history_Ops_L0, ih]; simp
  unfold history_Ops
  rw [key]; simp
theorem history_Fold_len {l : List Op} (h : (history_Fold l).2 = 0) : l.length ≤ 30 := by
  unfold history_Fold at h
  cases hc : decide ((l.length : Int) > 30) with
  | true => rw [hc, cond_true] at h; cases h
  | false => have := of_decide_eq_false hc; omega
theorem history_Check_fold {h : History} (hc : history_Check h = 0) : (history_Fold (history_Ops h)).2 = 0 ∧ history_Same (history_Fold (history_Ops h)).1 h = true := by
  unfold history_Check at hc
  cases h1 : ((history_Fold (history_Ops h)).2 == 0 && !history_Same (history_Fold (history_Ops h)).1 h) with
  | true => rw [h1, cond_true] at hc; cases hc
  | false =>
    rw [h1, cond_false] at hc
    rw [hc] at h1
    exact ⟨hc, by simpa using h1⟩
theorem history_Check_len {h : History} (hc : history_Check h = 0) : h.l.length ≤ 30 := by
  have := history_Fold_len (history_Check_fold hc).1
  rw [history_Ops_eq, List.length_map] at this
  exact this

def history_Insert (h1 : History) (o1 : Op) : History × Int :=
  (bif ((history_Check h1) != 0) then ((⟨([] : List Step), ([] : List Place)⟩ : History), (history_Check h1)) else (((history_Put h1 o1).1), (history_Put h1 o1).2))
theorem history_Insert_spec (y1 : SlV) (y2 : SlV) (h1 : History) (o1 : Op) : Does Try.prog 77 [.agg ⟨[y1.val h1.l.length, y2.val h1.t.length]⟩, .agg ⟨[.int .i64 o1.time, .int .i64 o1.who, .int .i64 o1.node, .int .i64 o1.parent, .int .i64 o1.name, .int .i64 o1.life, .int .i64 o1.seq]⟩] [RdL EStep y1 h1.l, RdL EPlace y2 h1.t] (fun (X : SlV × SlV) => .tuple #[.agg ⟨[X.1.val (((history_Insert h1 o1).1).l).length, X.2.val (((history_Insert h1 o1).1).t).length]⟩, .int .i64 ((history_Insert h1 o1).2)]) (fun (X : SlV × SlV) => [RdL EStep X.1 (((history_Insert h1 o1).1).l), RdL EPlace X.2 (((history_Insert h1 o1).1).t)]) := by
  refine does_of tab_ok Try.func77 rfl Try.ntmps77 Try.results77 rfl inferInstance (fun _ => inferInstance) fun C => ?_
  refine Pc EStep y1 h1.l 88 fun hlen1 => ?_
  refine Pc EPlace y2 h1.t 24 fun hlen2 => ?_
  refine Tx ?_
  refine Bx fun g1 => ?_
  refine Bx fun g2 => ?_
  refine Al fun g3 => ?_
  refine Tx ?_
  refine Cl (history_Check_spec y1 y2 h1) fun _ => ?_
  refine Tx ?_
  refine Cd (b := ((history_Check h1) != 0)) (fun hc1 => ?_) fun hc1 => ?_
  · have hc1p := bne_iff_ne.1 hc1
    refine Tx ?_
    refine Fc EStep ?_
    refine Fc EPlace ?_
    have hr1 : (history_Insert h1 o1) = ((⟨([] : List Step), ([] : List Place)⟩ : History), (history_Check h1)) := by simp only [history_Insert, hc1, cond_true, cond_false]
    refine cw_ret ?_; rw [hr1]; exact Re ⟨(⟨none, 0⟩ : SlV), (⟨none, 0⟩ : SlV)⟩ (Va (Vt Vn))
  · have hc1p := eq_of_bne_false hc1
    refine Tx ?_
    refine Cl (history_Put_spec y1 y2 h1 o1 (Nat.le_trans (history_Check_len (eq_of_bne_false (by assumption))) (by omega))) fun x1 => ?_
    refine Pr EStep x1.1 (((history_Put h1 o1).1).l) 88 fun hlen3 => ?_
    refine Pr EPlace x1.2 (((history_Put h1 o1).1).t) 24 fun hlen4 => ?_
    refine Tx ?_
    have hr2 : (history_Insert h1 o1) = (((history_Put h1 o1).1), (history_Put h1 o1).2) := by simp only [history_Insert, hc1, cond_true, cond_false]
    refine cw_ret ?_; rw [hr2]; exact Re ⟨x1.1, x1.2⟩ (Va (Vt Vn))

def orangerylaw_folded  : Bool :=
  ((((((((((((((history_Fold [(orangerylaw_op 1 0 1 2), (orangerylaw_op 3 0 2 1)]).2) == 0) && (((history_Insert ((history_Fold [(orangerylaw_op 1 0 1 2), (orangerylaw_op 3 0 2 1)]).1) (orangerylaw_op 2 1 1 0)).2) == 0)) && (((history_Fold [(orangerylaw_op 3 0 2 1), (orangerylaw_op 2 1 1 0), (orangerylaw_op 1 0 1 2)]).2) == 0)) && (((history_Insert ((history_Fold [(orangerylaw_op 1 0 1 2), (orangerylaw_op 3 0 2 1)]).1) (orangerylaw_op 3 0 5 0)).2) == 6)) && (((((history_Fold [(orangerylaw_op 1 0 1 2), (orangerylaw_op 3 0 2 1)]).1).l).length : Int) == 2)) && (!((gt (((history_Fold [(orangerylaw_op 1 0 1 2), (orangerylaw_op 3 0 2 1)]).1).l) 1).did))) && (((((history_Fold [(orangerylaw_op 1 0 1 2), (orangerylaw_op 3 0 2 1)]).1).t).length : Int) == 1)) && (((((history_Insert ((history_Fold [(orangerylaw_op 1 0 1 2), (orangerylaw_op 3 0 2 1)]).1) (orangerylaw_op 2 1 1 0)).1).l).length : Int) == 3)) && (gt (((history_Insert ((history_Fold [(orangerylaw_op 1 0 1 2), (orangerylaw_op 3 0 2 1)]).1) (orangerylaw_op 2 1 1 0)).1).l) 2).did) && (((((history_Insert ((history_Fold [(orangerylaw_op 1 0 1 2), (orangerylaw_op 3 0 2 1)]).1) (orangerylaw_op 2 1 1 0)).1).t).length : Int) == 2)) && (history_Same ((history_Insert ((history_Fold [(orangerylaw_op 1 0 1 2), (orangerylaw_op 3 0 2 1)]).1) (orangerylaw_op 2 1 1 0)).1) ((history_Fold [(orangerylaw_op 3 0 2 1), (orangerylaw_op 2 1 1 0), (orangerylaw_op 1 0 1 2)]).1))) && ((history_Check ((history_Insert ((history_Fold [(orangerylaw_op 1 0 1 2), (orangerylaw_op 3 0 2 1)]).1) (orangerylaw_op 2 1 1 0)).1)) == 0))
theorem orangerylaw_folded_spec  : Does Try.prog 76 [] [] (fun (_ : Unit) => .bool (orangerylaw_folded)) (fun (_ : Unit) => []) := by
  refine does_of tab_ok Try.func76 rfl Try.ntmps76 Try.results76 rfl inferInstance (fun _ => inferInstance) fun C => ?_
  refine Tx ?_
  refine Cl (orangerylaw_op_spec 1 0 1 2) fun _ => ?_
  refine Cl (orangerylaw_op_spec 3 0 2 1) fun _ => ?_
  refine rw_bsliceL EOp [(orangerylaw_op 1 0 1 2), (orangerylaw_op 3 0 2 1)] .sq (guard_none rfl) rfl rfl rfl rfl rfl rfl rfl rfl rfl rfl rfl rfl rfl rfl rfl fun x1 x1b => ?_
  refine rw_le (le_freezeL EOp 33 x1 x1b [(orangerylaw_op 1 0 1 2), (orangerylaw_op 3 0 2 1)] Uo) ?_
  refine Cl (history_Fold_spec x1 [(orangerylaw_op 1 0 1 2), (orangerylaw_op 3 0 2 1)]) fun x2 => ?_
  refine Pr EStep x2.1 (((history_Fold [(orangerylaw_op 1 0 1 2), (orangerylaw_op 3 0 2 1)]).1).l) 88 fun hlen1 => ?_
  refine Pr EPlace x2.2 (((history_Fold [(orangerylaw_op 1 0 1 2), (orangerylaw_op 3 0 2 1)]).1).t) 24 fun hlen2 => ?_
  refine Tx ?_
  refine Al fun g1 => ?_
  refine Tx ?_
  refine cw_join [0, 1, 2] [true] (fun (i_ : Nat × SlV × SlV) => match i_ with | ⟨g2, x3, x4⟩ => [(3, .v (.pointer (some ⟨g2, 0, none⟩))), (4, .v (.int .i64 ((history_Insert ((history_Fold [(orangerylaw_op 1 0 1 2), (orangerylaw_op 3 0 2 1)]).1) (orangerylaw_op 2 1 1 0)).2)))]) (fun (i_ : Nat × SlV × SlV) => match i_ with | ⟨g2, x3, x4⟩ => [⟨g2, 94, [x3.val (((history_Insert ((history_Fold [(orangerylaw_op 1 0 1 2), (orangerylaw_op 3 0 2 1)]).1) (orangerylaw_op 2 1 1 0)).1).l).length, x4.val (((history_Insert ((history_Fold [(orangerylaw_op 1 0 1 2), (orangerylaw_op 3 0 2 1)]).1) (orangerylaw_op 2 1 1 0)).1).t).length]⟩]) (fun (i_ : Nat × SlV × SlV) => match i_ with | ⟨g2, x3, x4⟩ => []) (fun (i_ : Nat × SlV × SlV) => match i_ with | ⟨g2, x3, x4⟩ => [RdL EStep x3 (((history_Insert ((history_Fold [(orangerylaw_op 1 0 1 2), (orangerylaw_op 3 0 2 1)]).1) (orangerylaw_op 2 1 1 0)).1).l), RdL EPlace x4 (((history_Insert ((history_Fold [(orangerylaw_op 1 0 1 2), (orangerylaw_op 3 0 2 1)]).1) (orangerylaw_op 2 1 1 0)).1).t)]) (fun _ => True) (.cons rfl (.cons rfl (.cons rfl (.nil _)))) (.keep (.nil)) ?_ ?_
  · refine cw_regionA (fun j => match j with | 7 => none | _ => some []) ?_
    refine Rb 0 [1,6] [2,3,4,5,7,8] rfl (q_ldA rfl rfl (fun _ => rfl) rfl Mm rfl) ?_
    refine ra_two 1 6 Kr ?_ ?_
    · refine rw_call (orangerylaw_op_spec 2 1 1 0) (.an rfl rfl) (guard_none rfl) rfl rfl rfl Kr rfl rfl Sm ?_
      intro _
      refine ra_two 2 6 Kr ?_ ?_
      · refine rw_call (history_Insert_spec x2.1 x2.2 ((history_Fold [(orangerylaw_op 1 0 1 2), (orangerylaw_op 3 0 2 1)]).1) (orangerylaw_op 2 1 1 0)) (.an rfl rfl) (guard_none rfl) rfl rfl rfl Kr rfl rfl Sm ?_
        intro x5
        refine Pr EStep x5.1 (((history_Insert ((history_Fold [(orangerylaw_op 1 0 1 2), (orangerylaw_op 3 0 2 1)]).1) (orangerylaw_op 2 1 1 0)).1).l) 88 fun hlen3 => ?_
        refine Pr EPlace x5.2 (((history_Insert ((history_Fold [(orangerylaw_op 1 0 1 2), (orangerylaw_op 3 0 2 1)]).1) (orangerylaw_op 2 1 1 0)).1).t) 24 fun hlen4 => ?_
        refine Ra 3 [6] rfl Qp ?_
        refine Ra 4 [5,6] rfl Qp ?_
        refine ra_p (.an (i := 5) (js := [6, 7]) rfl Kr Kr Kr Kr) rfl rfl rfl (q_pev rfl (fun _ => rfl)) ?_
        refine ra_one 6 Kr ?_
        refine rw_alloc (.an rfl rfl) (guard_none rfl) rfl rfl rfl rfl fun g3 => ?_
        refine ra_one 7 Kr ?_
        refine rw_stA (.lo [g3] rfl rfl) (.inr (by simp)) (guard_none rfl) rfl rfl rfl rfl rfl rfl rfl rfl rfl Ub rfl ?_
        refine Ra 8 [] rfl Qp ?_
        refine ra_nil Kr ?_
        refine ⟨⟨g3, x5.1, x5.2⟩, trivial, Le4⟩
      · refine rw_alloc (.an rfl rfl) (guard_none rfl) rfl rfl rfl rfl fun g4 => ?_
        refine ra_one 2 Kr ?_
        refine rw_call (history_Insert_spec x2.1 x2.2 ((history_Fold [(orangerylaw_op 1 0 1 2), (orangerylaw_op 3 0 2 1)]).1) (orangerylaw_op 2 1 1 0)) (.an rfl rfl) (guard_none rfl) rfl rfl rfl Kr rfl rfl Sm ?_
        intro x6
        refine Pr EStep x6.1 (((history_Insert ((history_Fold [(orangerylaw_op 1 0 1 2), (orangerylaw_op 3 0 2 1)]).1) (orangerylaw_op 2 1 1 0)).1).l) 88 fun hlen5 => ?_
        refine Pr EPlace x6.2 (((history_Insert ((history_Fold [(orangerylaw_op 1 0 1 2), (orangerylaw_op 3 0 2 1)]).1) (orangerylaw_op 2 1 1 0)).1).t) 24 fun hlen6 => ?_
        refine Ra 3 [] rfl Qp ?_
        refine Ra 4 [5] rfl Qp ?_
        refine ra_p (.an (i := 5) (js := [7]) rfl Kr Kr Kr Kr) rfl rfl rfl (q_pev rfl (fun _ => rfl)) ?_
        refine ra_one 7 Kr ?_
        refine rw_stA (.lo [g4] rfl rfl) (.inr (by simp)) (guard_none rfl) rfl rfl rfl rfl rfl rfl rfl rfl rfl Ub rfl ?_
        refine Ra 8 [] rfl Qp ?_
        refine ra_nil Kr ?_
        refine ⟨⟨g4, x6.1, x6.2⟩, trivial, Le4⟩
    · refine rw_alloc (.an rfl rfl) (guard_none rfl) rfl rfl rfl rfl fun g5 => ?_
      refine ra_one 1 Kr ?_
      refine rw_call (orangerylaw_op_spec 2 1 1 0) (.an rfl rfl) (guard_none rfl) rfl rfl rfl Kr rfl rfl Sm ?_
      intro _
      refine ra_one 2 Kr ?_
      refine rw_call (history_Insert_spec x2.1 x2.2 ((history_Fold [(orangerylaw_op 1 0 1 2), (orangerylaw_op 3 0 2 1)]).1) (orangerylaw_op 2 1 1 0)) (.an rfl rfl) (guard_none rfl) rfl rfl rfl Kr rfl rfl Sm ?_
      intro x7
      refine Pr EStep x7.1 (((history_Insert ((history_Fold [(orangerylaw_op 1 0 1 2), (orangerylaw_op 3 0 2 1)]).1) (orangerylaw_op 2 1 1 0)).1).l) 88 fun hlen7 => ?_
      refine Pr EPlace x7.2 (((history_Insert ((history_Fold [(orangerylaw_op 1 0 1 2), (orangerylaw_op 3 0 2 1)]).1) (orangerylaw_op 2 1 1 0)).1).t) 24 fun hlen8 => ?_
      refine Ra 3 [] rfl Qp ?_
      refine Ra 4 [5] rfl Qp ?_
      refine ra_p (.an (i := 5) (js := [7]) rfl Kr Kr Kr Kr) rfl rfl rfl (q_pev rfl (fun _ => rfl)) ?_
      refine ra_one 7 Kr ?_
      refine rw_stA (.lo [g5] rfl rfl) (.inr (by simp)) (guard_none rfl) rfl rfl rfl rfl rfl rfl rfl rfl rfl Ub rfl ?_
      refine Ra 8 [] rfl Qp ?_
      refine ra_nil Kr ?_
      refine ⟨⟨g5, x7.1, x7.2⟩, trivial, Le4⟩
  · rintro ⟨g2, x3, x4⟩ -
    simp only [List.cons_append, List.nil_append]
    refine Tx ?_
    refine Cl (orangerylaw_op_spec 3 0 2 1) fun _ => ?_
    refine Cl (orangerylaw_op_spec 2 1 1 0) fun _ => ?_
    refine Cl (orangerylaw_op_spec 1 0 1 2) fun _ => ?_
    refine rw_bsliceL EOp [(orangerylaw_op 3 0 2 1), (orangerylaw_op 2 1 1 0), (orangerylaw_op 1 0 1 2)] .sq (guard_none rfl) rfl rfl rfl rfl rfl rfl rfl rfl rfl rfl rfl rfl rfl rfl rfl fun x8 x8b => ?_
    refine rw_le (le_freezeL EOp 33 x8 x8b [(orangerylaw_op 3 0 2 1), (orangerylaw_op 2 1 1 0), (orangerylaw_op 1 0 1 2)] Uo) ?_
    refine Cl (history_Fold_spec x8 [(orangerylaw_op 3 0 2 1), (orangerylaw_op 2 1 1 0), (orangerylaw_op 1 0 1 2)]) fun x9 => ?_
    refine Pr EStep x9.1 (((history_Fold [(orangerylaw_op 3 0 2 1), (orangerylaw_op 2 1 1 0), (orangerylaw_op 1 0 1 2)]).1).l) 88 fun hlen9 => ?_
    refine Pr EPlace x9.2 (((history_Fold [(orangerylaw_op 3 0 2 1), (orangerylaw_op 2 1 1 0), (orangerylaw_op 1 0 1 2)]).1).t) 24 fun hlen10 => ?_
    refine Tx ?_
    refine Al fun g6 => ?_
    refine Tx ?_
    refine cw_join [0, 1, 2, 3, 4, 5, 6] [true, true, true] (fun (_ : Unit) => [(8, .v (.int .i64 ((history_Insert ((history_Fold [(orangerylaw_op 1 0 1 2), (orangerylaw_op 3 0 2 1)]).1) (orangerylaw_op 3 0 5 0)).2)))]) (fun (_ : Unit) => []) (fun (_ : Unit) => []) (fun (_ : Unit) => []) (fun _ => True) (.cons rfl (.cons rfl (.cons rfl (.cons rfl (.cons rfl (.cons rfl (.cons rfl (.nil _)))))))) (.keep (.keep (.keep (.nil)))) ?_ ?_
    · refine cw_regionA (fun j => match j with | 7 => none | _ => some []) ?_
      refine Rb 0 [1,6] [2,3,4,5,7,8] rfl (q_ldA rfl rfl (fun _ => rfl) rfl Mm rfl) ?_
      refine ra_two 1 6 Kr ?_ ?_
      · refine rw_call (orangerylaw_op_spec 3 0 5 0) (.an rfl rfl) (guard_none rfl) rfl rfl rfl Kr rfl rfl Sm ?_
        intro _
        refine ra_two 2 6 Kr ?_ ?_
        · refine rw_call (history_Insert_spec x2.1 x2.2 ((history_Fold [(orangerylaw_op 1 0 1 2), (orangerylaw_op 3 0 2 1)]).1) (orangerylaw_op 3 0 5 0)) (.an rfl rfl) (guard_none rfl) rfl rfl rfl Kr rfl rfl Sm ?_
          intro x10
          refine Pr EStep x10.1 (((history_Insert ((history_Fold [(orangerylaw_op 1 0 1 2), (orangerylaw_op 3 0 2 1)]).1) (orangerylaw_op 3 0 5 0)).1).l) 88 fun hlen11 => ?_
          refine Pr EPlace x10.2 (((history_Insert ((history_Fold [(orangerylaw_op 1 0 1 2), (orangerylaw_op 3 0 2 1)]).1) (orangerylaw_op 3 0 5 0)).1).t) 24 fun hlen12 => ?_
          refine Ra 3 [6] rfl Qp ?_
          refine Ra 4 [5,6] rfl Qp ?_
          refine ra_p (.an (i := 5) (js := [6, 7]) rfl Kr Kr Kr Kr) rfl rfl rfl (q_pev rfl (fun _ => rfl)) ?_
          refine ra_one 6 Kr ?_
          refine rw_alloc (.an rfl rfl) (guard_none rfl) rfl rfl rfl rfl fun g7 => ?_
          refine ra_one 7 Kr ?_
          refine rw_stA (.lo [g7] rfl rfl) (.inr (by simp)) (guard_none rfl) rfl rfl rfl rfl rfl rfl rfl rfl rfl Ub rfl ?_
          refine Ra 8 [] rfl Qp ?_
          refine ra_nil Kr ?_
          refine ⟨⟨⟩, trivial, Le4⟩
        · refine rw_alloc (.an rfl rfl) (guard_none rfl) rfl rfl rfl rfl fun g8 => ?_
          refine ra_one 2 Kr ?_
          refine rw_call (history_Insert_spec x2.1 x2.2 ((history_Fold [(orangerylaw_op 1 0 1 2), (orangerylaw_op 3 0 2 1)]).1) (orangerylaw_op 3 0 5 0)) (.an rfl rfl) (guard_none rfl) rfl rfl rfl Kr rfl rfl Sm ?_
          intro x11
          refine Pr EStep x11.1 (((history_Insert ((history_Fold [(orangerylaw_op 1 0 1 2), (orangerylaw_op 3 0 2 1)]).1) (orangerylaw_op 3 0 5 0)).1).l) 88 fun hlen13 => ?_
          refine Pr EPlace x11.2 (((history_Insert ((history_Fold [(orangerylaw_op 1 0 1 2), (orangerylaw_op 3 0 2 1)]).1) (orangerylaw_op 3 0 5 0)).1).t) 24 fun hlen14 => ?_
          refine Ra 3 [] rfl Qp ?_
          refine Ra 4 [5] rfl Qp ?_
          refine ra_p (.an (i := 5) (js := [7]) rfl Kr Kr Kr Kr) rfl rfl rfl (q_pev rfl (fun _ => rfl)) ?_
          refine ra_one 7 Kr ?_
          refine rw_stA (.lo [g8] rfl rfl) (.inr (by simp)) (guard_none rfl) rfl rfl rfl rfl rfl rfl rfl rfl rfl Ub rfl ?_
          refine Ra 8 [] rfl Qp ?_
          refine ra_nil Kr ?_
          refine ⟨⟨⟩, trivial, Le4⟩
      · refine rw_alloc (.an rfl rfl) (guard_none rfl) rfl rfl rfl rfl fun g9 => ?_
        refine ra_one 1 Kr ?_
        refine rw_call (orangerylaw_op_spec 3 0 5 0) (.an rfl rfl) (guard_none rfl) rfl rfl rfl Kr rfl rfl Sm ?_
        intro _
        refine ra_one 2 Kr ?_
        refine rw_call (history_Insert_spec x2.1 x2.2 ((history_Fold [(orangerylaw_op 1 0 1 2), (orangerylaw_op 3 0 2 1)]).1) (orangerylaw_op 3 0 5 0)) (.an rfl rfl) (guard_none rfl) rfl rfl rfl Kr rfl rfl Sm ?_
        intro x12
        refine Pr EStep x12.1 (((history_Insert ((history_Fold [(orangerylaw_op 1 0 1 2), (orangerylaw_op 3 0 2 1)]).1) (orangerylaw_op 3 0 5 0)).1).l) 88 fun hlen15 => ?_
        refine Pr EPlace x12.2 (((history_Insert ((history_Fold [(orangerylaw_op 1 0 1 2), (orangerylaw_op 3 0 2 1)]).1) (orangerylaw_op 3 0 5 0)).1).t) 24 fun hlen16 => ?_
        refine Ra 3 [] rfl Qp ?_
        refine Ra 4 [5] rfl Qp ?_
        refine ra_p (.an (i := 5) (js := [7]) rfl Kr Kr Kr Kr) rfl rfl rfl (q_pev rfl (fun _ => rfl)) ?_
        refine ra_one 7 Kr ?_
        refine rw_stA (.lo [g9] rfl rfl) (.inr (by simp)) (guard_none rfl) rfl rfl rfl rfl rfl rfl rfl rfl rfl Ub rfl ?_
        refine Ra 8 [] rfl Qp ?_
        refine ra_nil Kr ?_
        refine ⟨⟨⟩, trivial, Le4⟩
    · rintro _ -
      simp only [List.cons_append, List.nil_append]
      refine Tx ?_
      refine rw_qg (guard_vt rfl rfl rfl) rfl rfl (q_idx EStep 1 rfl rfl Bt rfl Bt rfl rfl rfl Mm rfl (by intro h; first | omega | rfl | (simp at h; omega)) (by first | (intro _; first | assumption | omega) | (intro h; simp at h; omega))) ?_
      refine rw_qg (guard_vt rfl rfl rfl) rfl rfl (q_fae rfl rfl Bt rfl rfl) ?_
      refine rw_qg (guard_vt rfl rfl rfl) rfl rfl (q_le1 EStep rfl rfl Bt rfl rfl Mm (by first | (intro _; first | assumption | omega) | (intro h; simp at h; omega)) rfl) ?_
      refine Tx ?_
      refine rw_qg (guard_vt rfl rfl rfl) rfl rfl (q_idx EStep 2 rfl rfl Bt rfl Bt rfl rfl rfl Mm rfl (by intro h; first | omega | rfl | (simp at h; omega)) (by first | (intro _; first | assumption | omega) | (intro h; simp at h; omega))) ?_
      refine rw_qg (guard_vt rfl rfl rfl) rfl rfl (q_fae rfl rfl Bt rfl rfl) ?_
      refine rw_qg (guard_vt rfl rfl rfl) rfl rfl (q_le1 EStep rfl rfl Bt rfl rfl Mm (by first | (intro _; first | assumption | omega) | (intro h; simp at h; omega)) rfl) ?_
      refine Tx ?_
      refine rw_callg (fun hG_ => history_Same_spec x3 x4 ((history_Insert ((history_Fold [(orangerylaw_op 1 0 1 2), (orangerylaw_op 3 0 2 1)]).1) (orangerylaw_op 2 1 1 0)).1) x9.1 x9.2 ((history_Fold [(orangerylaw_op 3 0 2 1), (orangerylaw_op 2 1 1 0), (orangerylaw_op 1 0 1 2)]).1)) (fun _ => rfl) .sq (guard_vt rfl rfl rfl) rfl rfl rfl Kr rfl Bt Sm ?_
      refine Tx ?_
      refine rw_callg (fun hG_ => history_Check_spec x3 x4 ((history_Insert ((history_Fold [(orangerylaw_op 1 0 1 2), (orangerylaw_op 3 0 2 1)]).1) (orangerylaw_op 2 1 1 0)).1)) (fun _ => rfl) .sq (guard_vt rfl rfl rfl) rfl rfl rfl Kr rfl Bt Sm ?_
      refine Tx ?_
      have hr1 : (orangerylaw_folded) = ((((((((((((((history_Fold [(orangerylaw_op 1 0 1 2), (orangerylaw_op 3 0 2 1)]).2) == 0) && (((history_Insert ((history_Fold [(orangerylaw_op 1 0 1 2), (orangerylaw_op 3 0 2 1)]).1) (orangerylaw_op 2 1 1 0)).2) == 0)) && (((history_Fold [(orangerylaw_op 3 0 2 1), (orangerylaw_op 2 1 1 0), (orangerylaw_op 1 0 1 2)]).2) == 0)) && (((history_Insert ((history_Fold [(orangerylaw_op 1 0 1 2), (orangerylaw_op 3 0 2 1)]).1) (orangerylaw_op 3 0 5 0)).2) == 6)) && (((((history_Fold [(orangerylaw_op 1 0 1 2), (orangerylaw_op 3 0 2 1)]).1).l).length : Int) == 2)) && (!((gt (((history_Fold [(orangerylaw_op 1 0 1 2), (orangerylaw_op 3 0 2 1)]).1).l) 1).did))) && (((((history_Fold [(orangerylaw_op 1 0 1 2), (orangerylaw_op 3 0 2 1)]).1).t).length : Int) == 1)) && (((((history_Insert ((history_Fold [(orangerylaw_op 1 0 1 2), (orangerylaw_op 3 0 2 1)]).1) (orangerylaw_op 2 1 1 0)).1).l).length : Int) == 3)) && (gt (((history_Insert ((history_Fold [(orangerylaw_op 1 0 1 2), (orangerylaw_op 3 0 2 1)]).1) (orangerylaw_op 2 1 1 0)).1).l) 2).did) && (((((history_Insert ((history_Fold [(orangerylaw_op 1 0 1 2), (orangerylaw_op 3 0 2 1)]).1) (orangerylaw_op 2 1 1 0)).1).t).length : Int) == 2)) && (history_Same ((history_Insert ((history_Fold [(orangerylaw_op 1 0 1 2), (orangerylaw_op 3 0 2 1)]).1) (orangerylaw_op 2 1 1 0)).1) ((history_Fold [(orangerylaw_op 3 0 2 1), (orangerylaw_op 2 1 1 0), (orangerylaw_op 1 0 1 2)]).1))) && ((history_Check ((history_Insert ((history_Fold [(orangerylaw_op 1 0 1 2), (orangerylaw_op 3 0 2 1)]).1) (orangerylaw_op 2 1 1 0)).1)) == 0)) := by simp only [orangerylaw_folded, cond_true, cond_false]
      refine cw_ret ?_; rw [hr1]; exact Re () (Vt Vn)
end Go.Proofs.Ytchdacbjiomplaa
