/- Part of this claim. No condition. -/
import Derived.Test.YtchdacbjiomplaaW16
import Derived.Test.YtchdacbjiomplaaLDelta
set_option linter.unusedVariables false
set_option linter.unusedSimpArgs false
set_option maxHeartbeats 2000000
namespace Go.Proofs.Ytchdacbjiomplaa
open Go Go.Proofs.Ytchdacbjiomplaa.Fw Go.Proofs
attribute [local irreducible] RdL RdN VarP RW CW
def delta_turn_L1  : List Place → (List Place) → (List Place)
  | [], p2 => p2
  | pn2 :: rn2, p2 => (delta_turn_L1 rn2 (tree_Put p2 pn2))
def delta_turn_L0 (here1 : List Place) : List Int → (List Place) → (List Place)
  | [], p1 => (delta_turn_L1 here1 p1)
  | pn1 :: rn1, p1 => (delta_turn_L0 here1 rn1 (tree_Put p1 (⟨pn1, (-1), 0⟩ : Place)))
def delta_turn (l1 : List Place) (gone1 : List Int) (here1 : List Place) : List Place :=
  (delta_turn_L0 here1 gone1 l1)
theorem delta_turn_spec (y1 : SlV) (l1 : List Place) (y2 : SlV) (gone1 : List Int) (y3 : SlV) (here1 : List Place) (hlt : l1.length ≤ 1000 ∧ gone1.length ≤ 1000 ∧ here1.length ≤ 1000) : Does Try.prog 144 [y1.val l1.length, y2.val gone1.length, y3.val here1.length] [RdL EPlace y1 l1, RdL EInt y2 gone1, RdL EPlace y3 here1] (fun (X : SlV) => X.val (delta_turn l1 gone1 here1).length) (fun (X : SlV) => [RdL EPlace X (delta_turn l1 gone1 here1)]) := by
  refine does_of tab_ok Try.func144 rfl Try.ntmps144 Try.results144 rfl inferInstance (fun _ => inferInstance) fun C => ?_
  refine Pc EPlace y1 l1 24 fun hlen1 => ?_
  refine Pc EInt y2 gone1 8 fun hlen2 => ?_
  refine Pc EPlace y3 here1 24 fun hlen3 => ?_
  refine Tx ?_
  refine Cg (slices_Clone_Place_spec y1 l1) fun x1 => ?_
  refine Rp rfl rfl rfl rfl ?_
  refine Al fun g1 => ?_
  refine Tx ?_
  (repeat refine cw_seq ?_); refine Lp [2,6,7,15,16] [false] (fun (i_ : Nat × List Place × SlV) => match i_ with | ⟨n1, p1, x2⟩ => (⟨[(17, .v (.int .i64 (n1 : Int)))], [⟨g1, 29, [x2.val p1.length]⟩], [], [RdL EPlace x2 p1], (n1 ≤ gone1.length) ∧ (p1.length ≤ l1.length + n1) ∧ (delta_turn_L0 here1 (gone1.drop n1) p1) = (delta_turn l1 gone1 here1), gone1.length - n1⟩ : Ls)) ⟨0, l1, x1.1⟩ (Sc (Sc (Sc (Sc (Sc Sn))))) (.drop (.nil)) ⟨Nat.zero_le _, (by simp), (by simp only [delta_turn, cond_true, cond_false] : (delta_turn l1 gone1 here1) = (delta_turn_L0 here1 gone1 l1)).symm⟩ (Le.trans (le_freezeL EPlace 35 x1.1 x1.2 l1 Uo) Le4) ?_
  rintro ⟨n1, p1, x2⟩ ⟨hkn1, hpb, hf1⟩
  simp only [List.cons_append, List.nil_append]
  refine Tx ?_
  refine Cd (b := decide ((n1 : Int) < (gone1.length : Int))) (fun hc1 => ?_) fun hc1 => ?_
  · have hlt0 : n1 < gone1.length := Int.ofNat_lt.1 (of_decide_eq_true hc1)
    refine Tx ?_
    refine rw_q rfl rfl rfl (q_idx EInt n1 rfl rfl (fun _ => rfl) rfl (fun _ => rfl) rfl rfl rfl Mm rfl (fun _ => rfl) (fun _ => by first | assumption | omega)) ?_
    refine rw_q rfl rfl rfl (q_le1 EInt rfl rfl (fun _ => rfl) rfl rfl Mm (fun _ => by first | assumption | omega) rfl) ?_
    refine Tx ?_
    refine Cl (tree_Put_spec x2 p1 (⟨(gt gone1 n1), (-1), 0⟩ : Place) (by omega)) fun x3 => ?_
    refine Pr EPlace x3 (tree_Put p1 (⟨(gt gone1 n1), (-1), 0⟩ : Place)) 24 fun hlen4 => ?_
    refine Tx ?_
    refine rw_q rfl rfl rfl (q_add rfl rfl (fun _ => rfl) rfl (fun _ => rfl) (fun _ => by omega)) ?_
    refine Tx ?_
    refine ⟨⟨(n1 + 1), (tree_Put p1 (⟨(gt gone1 n1), (-1), 0⟩ : Place)), x3⟩, ⟨hlt0, (by have := putl_len p1 (⟨(gt gone1 n1), (-1), 0⟩ : Place); simp only []; omega), (by rw [← hf1, drop_gt hlt0]; simp only [delta_turn_L0, cond_true, cond_false] : (delta_turn l1 gone1 here1) = (delta_turn_L0 here1 (gone1.drop (n1 + 1)) (tree_Put p1 (⟨(gt gone1 n1), (-1), 0⟩ : Place)))).symm⟩, (by simp only []; omega), Le4⟩
  · have hge0 : gone1.length ≤ n1 := by have := of_decide_eq_false hc1; omega
    refine Tx ?_
    (repeat refine cw_seq ?_); refine Lp [6,7,26,27] [false] (fun (i_ : Nat × List Place × SlV) => match i_ with | ⟨n2, p2, x4⟩ => (⟨[(28, .v (.int .i64 (n2 : Int)))], [⟨g1, 29, [x4.val p2.length]⟩], [], [RdL EPlace x4 p2], (n2 ≤ here1.length) ∧ (p2.length ≤ l1.length + gone1.length + n2) ∧ (delta_turn_L1 (here1.drop n2) p2) = (delta_turn l1 gone1 here1), here1.length - n2⟩ : Ls)) ⟨0, p1, x2⟩ (Sc (Sc (Sc (Sc Sn)))) (.drop (.nil)) ⟨Nat.zero_le _, (by omega), (by rw [← hf1, List.drop_of_length_le hge0]; simp only [delta_turn_L0, cond_true, cond_false] : (delta_turn l1 gone1 here1) = (delta_turn_L1 here1 p1)).symm⟩ Le4 ?_
    rintro ⟨n2, p2, x4⟩ ⟨hkn2, hpc, hf2⟩
    simp only [List.cons_append, List.nil_append]
    refine Tx ?_
    refine Cd (b := decide ((n2 : Int) < (here1.length : Int))) (fun hc2 => ?_) fun hc2 => ?_
    · have hlt1 : n2 < here1.length := Int.ofNat_lt.1 (of_decide_eq_true hc2)
      refine Tx ?_
      refine rw_q rfl rfl rfl (q_idx EPlace n2 rfl rfl (fun _ => rfl) rfl (fun _ => rfl) rfl rfl rfl Mm rfl (fun _ => rfl) (fun _ => by first | assumption | omega)) ?_
      refine rw_q rfl rfl rfl (q_leA EPlace rfl rfl (fun _ => rfl) rfl rfl Mm (fun _ => by first | assumption | omega)) ?_
      refine Al fun g2 => ?_
      refine Tx ?_
      refine Cl (tree_Put_spec x4 p2 (gt here1 n2) (by omega)) fun x5 => ?_
      refine Pr EPlace x5 (tree_Put p2 (gt here1 n2)) 24 fun hlen5 => ?_
      refine Tx ?_
      refine rw_q rfl rfl rfl (q_add rfl rfl (fun _ => rfl) rfl (fun _ => rfl) (fun _ => by omega)) ?_
      refine Tx ?_
      refine ⟨⟨(n2 + 1), (tree_Put p2 (gt here1 n2)), x5⟩, ⟨hlt1, (by have := putl_len p2 (gt here1 n2); simp only []; omega), (by rw [← hf2, drop_gt hlt1]; simp only [delta_turn_L1, cond_true, cond_false] : (delta_turn l1 gone1 here1) = (delta_turn_L1 (here1.drop (n2 + 1)) (tree_Put p2 (gt here1 n2)))).symm⟩, (by simp only []; omega), Le4⟩
    · have hge1 : here1.length ≤ n2 := by have := of_decide_eq_false hc2; omega
      refine Tx ?_
      have hr1 : (delta_turn l1 gone1 here1) = p2 := by rw [← hf2, List.drop_of_length_le hge1]; simp only [delta_turn_L1, cond_true, cond_false]
      refine cw_ret ?_; rw [hr1]; exact Re x4 (Vt Vn)

def delta_Apply (v1 : View) (d1 : Delta) : View × Int :=
  (bif ((view_Check v1) != 0) then ((⟨([] : List Int), ([] : List Place), ([] : List Place)⟩ : View), (view_Check v1)) else (bif ((delta_Check d1) != 0) then ((⟨([] : List Int), ([] : List Place), ([] : List Place)⟩ : View), (delta_Check d1)) else (bif ((view_Check (⟨v1.roots, (delta_turn v1.known d1.gone d1.here), (delta_turn v1.way d1.wayGone d1.wayHere)⟩ : View)) != 0) then ((⟨([] : List Int), ([] : List Place), ([] : List Place)⟩ : View), (view_Check (⟨v1.roots, (delta_turn v1.known d1.gone d1.here), (delta_turn v1.way d1.wayGone d1.wayHere)⟩ : View))) else ((⟨v1.roots, (delta_turn v1.known d1.gone d1.here), (delta_turn v1.way d1.wayGone d1.wayHere)⟩ : View), 0))))
theorem delta_Apply_spec (y1 : SlV) (y2 : SlV) (y3 : SlV) (v1 : View) (y4 : SlV) (y5 : SlV) (y6 : SlV) (y7 : SlV) (d1 : Delta) : Does Try.prog 59 [.agg ⟨[y1.val v1.roots.length, y2.val v1.known.length, y3.val v1.way.length]⟩, .agg ⟨[y4.val d1.gone.length, y5.val d1.here.length, y6.val d1.wayGone.length, y7.val d1.wayHere.length]⟩] [RdL EInt y1 v1.roots, RdL EPlace y2 v1.known, RdL EPlace y3 v1.way, RdL EInt y4 d1.gone, RdL EPlace y5 d1.here, RdL EInt y6 d1.wayGone, RdL EPlace y7 d1.wayHere] (fun (X : SlV × SlV × SlV) => .tuple #[.agg ⟨[X.1.val (((delta_Apply v1 d1).1).roots).length, X.2.1.val (((delta_Apply v1 d1).1).known).length, X.2.2.val (((delta_Apply v1 d1).1).way).length]⟩, .int .i64 ((delta_Apply v1 d1).2)]) (fun (X : SlV × SlV × SlV) => [RdL EInt X.1 (((delta_Apply v1 d1).1).roots), RdL EPlace X.2.1 (((delta_Apply v1 d1).1).known), RdL EPlace X.2.2 (((delta_Apply v1 d1).1).way)]) := by
  refine does_of tab_ok Try.func59 rfl Try.ntmps59 Try.results59 rfl inferInstance (fun _ => inferInstance) fun C => ?_
  refine Pc EInt y1 v1.roots 8 fun hlen1 => ?_
  refine Pc EPlace y2 v1.known 24 fun hlen2 => ?_
  refine Pc EPlace y3 v1.way 24 fun hlen3 => ?_
  refine Pc EInt y4 d1.gone 8 fun hlen4 => ?_
  refine Pc EPlace y5 d1.here 24 fun hlen5 => ?_
  refine Pc EInt y6 d1.wayGone 8 fun hlen6 => ?_
  refine Pc EPlace y7 d1.wayHere 24 fun hlen7 => ?_
  refine Tx ?_
  refine Bx fun g1 => ?_
  refine Bx fun g2 => ?_
  refine Al fun g3 => ?_
  refine Tx ?_
  refine Cl (view_Check_spec y1 y2 y3 v1) fun _ => ?_
  refine Tx ?_
  refine Cd (b := ((view_Check v1) != 0)) (fun hc1 => ?_) fun hc1 => ?_
  · have hc1p := bne_iff_ne.1 hc1
    refine Tx ?_
    refine Fc EInt ?_
    refine Fc EPlace ?_
    have hr1 : (delta_Apply v1 d1) = ((⟨([] : List Int), ([] : List Place), ([] : List Place)⟩ : View), (view_Check v1)) := by simp only [delta_Apply, hc1, cond_true, cond_false]
    refine cw_ret ?_; rw [hr1]; exact Re ⟨(⟨none, 0⟩ : SlV), (⟨none, 0⟩ : SlV), (⟨none, 0⟩ : SlV)⟩ (Va (Vt Vn))
  · have hc1p := eq_of_bne_false hc1
    have hvl := view_len (eq_of_bne_false hc1)
    refine Tx ?_
    refine Cl (delta_Check_spec y4 y5 y6 y7 d1) fun _ => ?_
    refine Tx ?_
    refine Cd (b := ((delta_Check d1) != 0)) (fun hc2 => ?_) fun hc2 => ?_
    · have hc2p := bne_iff_ne.1 hc2
      refine Tx ?_
      refine Fc EInt ?_
      refine Fc EPlace ?_
      have hr2 : (delta_Apply v1 d1) = ((⟨([] : List Int), ([] : List Place), ([] : List Place)⟩ : View), (delta_Check d1)) := by simp only [delta_Apply, hc1, hc2, cond_true, cond_false]
      refine cw_ret ?_; rw [hr2]; exact Re ⟨(⟨none, 0⟩ : SlV), (⟨none, 0⟩ : SlV), (⟨none, 0⟩ : SlV)⟩ (Va (Vt Vn))
    · have hc2p := eq_of_bne_false hc2
      have hdl := delta_len (eq_of_bne_false hc2)
      refine Tx ?_
      refine cw_join [4, 5] [true, true, true] (fun (i_ : Nat × SlV × Option Nat × SlV × SlV) => match i_ with | ⟨g4, x1, b1, x2, x3⟩ => [(8, .v (.pointer (some ⟨g4, 0, none⟩)))]) (fun (i_ : Nat × SlV × Option Nat × SlV × SlV) => match i_ with | ⟨g4, x1, b1, x2, x3⟩ => [⟨g4, 51, [x1.val v1.roots.length, x2.val (delta_turn v1.known d1.gone d1.here).length, x3.val (delta_turn v1.way d1.wayGone d1.wayHere).length]⟩]) (fun (i_ : Nat × SlV × Option Nat × SlV × SlV) => match i_ with | ⟨g4, x1, b1, x2, x3⟩ => [ownL EInt 3 x1 b1 v1.roots]) (fun (i_ : Nat × SlV × Option Nat × SlV × SlV) => match i_ with | ⟨g4, x1, b1, x2, x3⟩ => [RdL EPlace x2 (delta_turn v1.known d1.gone d1.here), RdL EPlace x3 (delta_turn v1.way d1.wayGone d1.wayHere)]) (fun _ => True) (.cons rfl (.cons rfl (.nil _))) (.keep (.keep (.keep (.nil)))) ?_ ?_
      · refine cw_regionA (fun j => match j with | 19 => none | _ => some []) ?_
        refine Rb 0 [3,4,5,6,7,8,10,11,12,13,14,15,18] [1,2,9,16,17,19] rfl Qp ?_
        refine Rb 1 [3,4,5,6,7,8,10,11,12,13,14,15,18] [2,9,16,17,19] rfl Q1 ?_
        refine Rb 3 [2,5,6,7,8,10,11,12,13,14,15,18] [4,9,16,17,19] rfl Qp ?_
        refine Rb 4 [2,5,6,7,8,10,11,12,13,14,15,18] [9,16,17,19] rfl Q1 ?_
        refine Rb 5 [2,7,8,10,11,12,13,14,15,18] [6,9,16,17,19] rfl Qp ?_
        refine Rb 6 [2,7,8,10,11,12,13,14,15,18] [9,16,17,19] rfl Q1 ?_
        refine Rb 7 [2,10,11,12,13,14,15,18] [8,9,16,17,19] rfl Qp ?_
        refine Rb 8 [2,10,11,12,13,14,15,18] [9,16,17,19] rfl Q1 ?_
        refine Rb 10 [2,9,12,13,14,15,18] [11,16,17,19] rfl Qp ?_
        refine Rb 11 [2,9,12,13,14,15,18] [16,17,19] rfl Q1 ?_
        refine Rb 12 [2,9,14,15,18] [13,16,17,19] rfl Qp ?_
        refine Rb 13 [2,9,14,15,18] [16,17,19] rfl Q1 ?_
        refine Rb 14 [2,9,18] [15,16,17,19] rfl Qp ?_
        refine Rb 15 [2,9,18] [16,17,19] rfl Q1 ?_
        refine ra_two 2 18 Kr ?_ ?_
        · refine rw_callG (slices_Clone_Int_spec y1 v1.roots) (.an rfl rfl) (.inr (by simp [Lent.ids])) (guard_none rfl) rfl rfl rfl Kr rfl rfl Sm (.nil _) (.nil _) ?_
          intro x4
          refine ra_two 9 18 Kr ?_ ?_
          · refine rw_call (delta_turn_spec y2 v1.known y4 d1.gone y5 d1.here ⟨by omega, by omega, by omega⟩) (.an rfl rfl) (guard_none rfl) rfl rfl rfl Kr rfl rfl Sm ?_
            intro x5
            refine Pr EPlace x5 (delta_turn v1.known d1.gone d1.here) 24 fun hlen8 => ?_
            refine ra_two 16 18 Kr ?_ ?_
            · refine rw_call (delta_turn_spec y3 v1.way y6 d1.wayGone y7 d1.wayHere ⟨by omega, by omega, by omega⟩) (.an rfl rfl) (guard_none rfl) rfl rfl rfl Kr rfl rfl Sm ?_
              intro x6
              refine Pr EPlace x6 (delta_turn v1.way d1.wayGone d1.wayHere) 24 fun hlen9 => ?_
              refine Ra 17 [18] rfl Qp ?_
              refine ra_one 18 Kr ?_
              refine rw_alloc (.an rfl rfl) (guard_none rfl) rfl rfl rfl rfl fun g5 => ?_
              refine ra_one 19 Kr ?_
              refine rw_stA (.lo [g5] rfl rfl) (.inr (by simp)) (guard_none rfl) rfl rfl rfl rfl rfl rfl rfl rfl rfl Ub rfl ?_
              refine ra_nil Kr ?_
              refine ⟨⟨g5, x4.1, x4.2, x5, x6⟩, trivial, Le4⟩
            · refine rw_alloc (.an rfl rfl) (guard_none rfl) rfl rfl rfl rfl fun g6 => ?_
              refine ra_one 16 Kr ?_
              refine rw_call (delta_turn_spec y3 v1.way y6 d1.wayGone y7 d1.wayHere ⟨by omega, by omega, by omega⟩) (.an rfl rfl) (guard_none rfl) rfl rfl rfl Kr rfl rfl Sm ?_
              intro x7
              refine Pr EPlace x7 (delta_turn v1.way d1.wayGone d1.wayHere) 24 fun hlen10 => ?_
              refine Ra 17 [] rfl Qp ?_
              refine ra_one 19 Kr ?_
              refine rw_stA (.lo [g6] rfl rfl) (.inr (by simp)) (guard_none rfl) rfl rfl rfl rfl rfl rfl rfl rfl rfl Ub rfl ?_
              refine ra_nil Kr ?_
              refine ⟨⟨g6, x4.1, x4.2, x5, x7⟩, trivial, Le4⟩
          · refine rw_alloc (.an rfl rfl) (guard_none rfl) rfl rfl rfl rfl fun g7 => ?_
            refine ra_one 9 Kr ?_
            refine rw_call (delta_turn_spec y2 v1.known y4 d1.gone y5 d1.here ⟨by omega, by omega, by omega⟩) (.an rfl rfl) (guard_none rfl) rfl rfl rfl Kr rfl rfl Sm ?_
            intro x8
            refine Pr EPlace x8 (delta_turn v1.known d1.gone d1.here) 24 fun hlen11 => ?_
            refine ra_one 16 Kr ?_
            refine rw_call (delta_turn_spec y3 v1.way y6 d1.wayGone y7 d1.wayHere ⟨by omega, by omega, by omega⟩) (.an rfl rfl) (guard_none rfl) rfl rfl rfl Kr rfl rfl Sm ?_
            intro x9
            refine Pr EPlace x9 (delta_turn v1.way d1.wayGone d1.wayHere) 24 fun hlen12 => ?_
            refine Ra 17 [] rfl Qp ?_
            refine ra_one 19 Kr ?_
            refine rw_stA (.lo [g7] rfl rfl) (.inr (by simp)) (guard_none rfl) rfl rfl rfl rfl rfl rfl rfl rfl rfl Ub rfl ?_
            refine ra_nil Kr ?_
            refine ⟨⟨g7, x4.1, x4.2, x8, x9⟩, trivial, Le4⟩
        · refine rw_alloc (.an rfl rfl) (guard_none rfl) rfl rfl rfl rfl fun g8 => ?_
          refine ra_one 2 Kr ?_
          refine rw_callG (slices_Clone_Int_spec y1 v1.roots) (.an rfl rfl) (.inr (by simp [Lent.ids])) (guard_none rfl) rfl rfl rfl Kr rfl rfl Sm (.nil _) (.nil _) ?_
          intro x10
          refine ra_one 9 Kr ?_
          refine rw_call (delta_turn_spec y2 v1.known y4 d1.gone y5 d1.here ⟨by omega, by omega, by omega⟩) (.an rfl rfl) (guard_none rfl) rfl rfl rfl Kr rfl rfl Sm ?_
          intro x11
          refine Pr EPlace x11 (delta_turn v1.known d1.gone d1.here) 24 fun hlen13 => ?_
          refine ra_one 16 Kr ?_
          refine rw_call (delta_turn_spec y3 v1.way y6 d1.wayGone y7 d1.wayHere ⟨by omega, by omega, by omega⟩) (.an rfl rfl) (guard_none rfl) rfl rfl rfl Kr rfl rfl Sm ?_
          intro x12
          refine Pr EPlace x12 (delta_turn v1.way d1.wayGone d1.wayHere) 24 fun hlen14 => ?_
          refine Ra 17 [] rfl Qp ?_
          refine ra_one 19 Kr ?_
          refine rw_stA (.lo [g8] rfl rfl) (.inr (by simp)) (guard_none rfl) rfl rfl rfl rfl rfl rfl rfl rfl rfl Ub rfl ?_
          refine ra_nil Kr ?_
          refine ⟨⟨g8, x10.1, x10.2, x11, x12⟩, trivial, Le4⟩
      · rintro ⟨g4, x1, b1, x2, x3⟩ -
        simp only [List.cons_append, List.nil_append]
        refine Tx ?_
        refine rw_callR (view_Check_spec x1 x2 x3 (⟨v1.roots, (delta_turn v1.known d1.gone d1.here), (delta_turn v1.way d1.wayGone d1.wayHere)⟩ : View)) .sq (guard_none rfl) rfl rfl rfl Kr rfl rfl (.own Mm (.fact Mm (.fact Mm (.nil _ _)))) ?_
        intro _
        refine Tx ?_
        refine Cd (b := ((view_Check (⟨v1.roots, (delta_turn v1.known d1.gone d1.here), (delta_turn v1.way d1.wayGone d1.wayHere)⟩ : View)) != 0)) (fun hc3 => ?_) fun hc3 => ?_
        · have hc3p := bne_iff_ne.1 hc3
          refine Tx ?_
          refine Fc EInt ?_
          refine Fc EPlace ?_
          have hr3 : (delta_Apply v1 d1) = ((⟨([] : List Int), ([] : List Place), ([] : List Place)⟩ : View), (view_Check (⟨v1.roots, (delta_turn v1.known d1.gone d1.here), (delta_turn v1.way d1.wayGone d1.wayHere)⟩ : View))) := by simp only [delta_Apply, hc1, hc2, hc3, cond_true, cond_false]
          refine cw_ret ?_; rw [hr3]; exact Re ⟨(⟨none, 0⟩ : SlV), (⟨none, 0⟩ : SlV), (⟨none, 0⟩ : SlV)⟩ (Va (Vt Vn))
        · have hc3p := eq_of_bne_false hc3
          refine Tx ?_
          refine cw_le (le_freezeL EInt 3 x1 b1 v1.roots Uo) ?_
          have hr4 : (delta_Apply v1 d1) = ((⟨v1.roots, (delta_turn v1.known d1.gone d1.here), (delta_turn v1.way d1.wayGone d1.wayHere)⟩ : View), 0) := by simp only [delta_Apply, hc1, hc2, hc3, cond_true, cond_false]
          refine cw_ret ?_; rw [hr4]; exact Re ⟨x1, x2, x3⟩ (Va (Vt Vn))
end Go.Proofs.Ytchdacbjiomplaa
