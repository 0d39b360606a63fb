/- Part of this claim. No condition. -/
import Derived.Test.YtchdacbjiomplaaWV
import Derived.Test.YtchdacbjiomplaaWA
set_option linter.unusedVariables false
set_option linter.unusedSimpArgs false
set_option maxHeartbeats 2000000
namespace Go.Proofs.Ytchdacbjiomplaa
open Go Go.Proofs.Ytchdacbjiomplaa.Fw Go.Proofs
attribute [local irreducible] RW CW
def orangerylaw_seen  : Bool :=
  (((((((((((((view_Of orangerylaw_small [2]).2) == 0) && (((view_Of orangerylaw_small [0]).2) == 0)) && (((view_Of orangerylaw_small [2, 2]).2) == 6)) && (((((view_Of orangerylaw_small [2]).1).known).length : Int) == 2)) && (((gt (((view_Of orangerylaw_small [2]).1).known) 0).node) == 2)) && (((((view_Of orangerylaw_small [2]).1).way).length : Int) == 1)) && (((gt (((view_Of orangerylaw_small [2]).1).way) 0).node) == 1)) && (((((view_Of orangerylaw_small [0]).1).known).length : Int) == 4)) && (((((view_Of orangerylaw_small [0]).1).way).length : Int) == 0)) && ((view_Check ((view_Of orangerylaw_small [2]).1)) == 0)) && ((view_Roots [17]) == 5))
theorem orangerylaw_seen_spec  : Does Try.prog 40 [] [] (fun (_ : Unit) => .bool (orangerylaw_seen)) (fun (_ : Unit) => []) := by
  refine does_of tab_ok Try.func40 rfl Try.ntmps40 Try.results40 rfl inferInstance (fun _ => inferInstance) fun C => ?_
  refine Tx ?_
  refine Cl (orangerylaw_small_spec ) fun x1 => ?_
  refine Pr EPlace x1 orangerylaw_small 24 fun hlen1 => ?_
  refine rw_bsliceL EInt [2] .sq (guard_none rfl) rfl rfl rfl rfl rfl rfl rfl rfl rfl rfl rfl rfl rfl rfl rfl fun x2 x2b => ?_
  refine rw_le (le_freezeL EInt 3 x2 x2b [2] Uo) ?_
  refine Cl (view_Of_spec x1 orangerylaw_small x2 [2]) fun x3 => ?_
  refine Pr EInt x3.1 (((view_Of orangerylaw_small [2]).1).roots) 8 fun hlen2 => ?_
  refine Pr EPlace x3.2.1 (((view_Of orangerylaw_small [2]).1).known) 24 fun hlen3 => ?_
  refine Pr EPlace x3.2.2 (((view_Of orangerylaw_small [2]).1).way) 24 fun hlen4 => ?_
  refine Tx ?_
  refine Al fun g1 => ?_
  refine Tx ?_
  refine Cl (orangerylaw_small_spec ) fun x4 => ?_
  refine Pr EPlace x4 orangerylaw_small 24 fun hlen5 => ?_
  refine rw_bsliceL EInt [0] .sq (guard_none rfl) rfl rfl rfl rfl rfl rfl rfl rfl rfl rfl rfl rfl rfl rfl rfl fun x5 x5b => ?_
  refine rw_le (le_freezeL EInt 3 x5 x5b [0] Uo) ?_
  refine Cl (view_Of_spec x4 orangerylaw_small x5 [0]) fun x6 => ?_
  refine Pr EInt x6.1 (((view_Of orangerylaw_small [0]).1).roots) 8 fun hlen6 => ?_
  refine Pr EPlace x6.2.1 (((view_Of orangerylaw_small [0]).1).known) 24 fun hlen7 => ?_
  refine Pr EPlace x6.2.2 (((view_Of orangerylaw_small [0]).1).way) 24 fun hlen8 => ?_
  refine Tx ?_
  refine Al fun g2 => ?_
  refine Tx ?_
  refine Cl (orangerylaw_small_spec ) fun x7 => ?_
  refine Pr EPlace x7 orangerylaw_small 24 fun hlen9 => ?_
  refine rw_bsliceL EInt [2, 2] .sq (guard_none rfl) rfl rfl rfl rfl rfl rfl rfl rfl rfl rfl rfl rfl rfl rfl rfl fun x8 x8b => ?_
  refine rw_le (le_freezeL EInt 3 x8 x8b [2, 2] Uo) ?_
  refine Cl (view_Of_spec x7 orangerylaw_small x8 [2, 2]) fun x9 => ?_
  refine Pr EInt x9.1 (((view_Of orangerylaw_small [2, 2]).1).roots) 8 fun hlen10 => ?_
  refine Pr EPlace x9.2.1 (((view_Of orangerylaw_small [2, 2]).1).known) 24 fun hlen11 => ?_
  refine Pr EPlace x9.2.2 (((view_Of orangerylaw_small [2, 2]).1).way) 24 fun hlen12 => ?_
  refine Tx ?_
  refine Al fun g3 => ?_
  refine Tx ?_
  refine rw_qg (guard_vt rfl rfl rfl) rfl rfl (q_idx EPlace 0 rfl rfl Bt rfl Bt rfl rfl rfl Mm rfl (by intro h; first | omega | rfl | (simp at h; omega)) (by first | (intro _; first | assumption | omega) | (intro h; simp at h; omega))) ?_
  refine rw_qg (guard_vt rfl rfl rfl) rfl rfl (q_fae rfl rfl Bt rfl rfl) ?_
  refine rw_qg (guard_vt rfl rfl rfl) rfl rfl (q_le1 EPlace rfl rfl Bt rfl rfl Mm (by first | (intro _; first | assumption | omega) | (intro h; simp at h; omega)) rfl) ?_
  refine Tx ?_
  refine rw_qg (guard_vt rfl rfl rfl) rfl rfl (q_idx EPlace 0 rfl rfl Bt rfl Bt rfl rfl rfl Mm rfl (by intro h; first | omega | rfl | (simp at h; omega)) (by first | (intro _; first | assumption | omega) | (intro h; simp at h; omega))) ?_
  refine rw_qg (guard_vt rfl rfl rfl) rfl rfl (q_fae rfl rfl Bt rfl rfl) ?_
  refine rw_qg (guard_vt rfl rfl rfl) rfl rfl (q_le1 EPlace rfl rfl Bt rfl rfl Mm (by first | (intro _; first | assumption | omega) | (intro h; simp at h; omega)) rfl) ?_
  refine Tx ?_
  refine rw_callg (fun hG_ => view_Check_spec x3.1 x3.2.1 x3.2.2 ((view_Of orangerylaw_small [2]).1)) (fun _ => rfl) .sq (guard_vt rfl rfl rfl) rfl rfl rfl Kr rfl Bt Sm ?_
  refine Tx ?_
  refine rw_split .sq (guard_vt rfl rfl rfl) (fun hg1 => ?_) (fun hg1 => absurd hg1 (by decide +kernel))
  refine rw_bsliceL EInt [17] .sq (guard_is (guard_vt rfl rfl rfl) hg1) rfl rfl rfl rfl rfl rfl rfl rfl rfl rfl rfl rfl rfl rfl rfl fun x10 x10b => ?_
  refine rw_callR (view_Roots_spec x10 [17]) .sq (guard_is (guard_vt rfl rfl rfl) hg1) rfl rfl rfl Kr rfl rfl (.own Mm (.nil _ _)) ?_
  intro _
  refine Tx ?_
  have hr1 : (orangerylaw_seen) = (((((((((((((view_Of orangerylaw_small [2]).2) == 0) && (((view_Of orangerylaw_small [0]).2) == 0)) && (((view_Of orangerylaw_small [2, 2]).2) == 6)) && (((((view_Of orangerylaw_small [2]).1).known).length : Int) == 2)) && (((gt (((view_Of orangerylaw_small [2]).1).known) 0).node) == 2)) && (((((view_Of orangerylaw_small [2]).1).way).length : Int) == 1)) && (((gt (((view_Of orangerylaw_small [2]).1).way) 0).node) == 1)) && (((((view_Of orangerylaw_small [0]).1).known).length : Int) == 4)) && (((((view_Of orangerylaw_small [0]).1).way).length : Int) == 0)) && ((view_Check ((view_Of orangerylaw_small [2]).1)) == 0)) && ((view_Roots [17]) == 5)) := by simp only [orangerylaw_seen, hg1, cond_true, cond_false]
  refine cw_ret ?_; rw [hr1]; exact Re () (Vt Vn)

def orangerylaw_ViewMore_L1 (t1 : List Place) (roots1 : List Int) : List Place → Bool
  | [] => true
  | pn2 :: rn2 => (bif ((!(decide (pn2 ∈ (((view_Of t1 roots1).1).known)))) && (!(decide (pn2 ∈ (((view_Of t1 roots1).1).way))))) then false else (orangerylaw_ViewMore_L1 t1 roots1 rn2))
def orangerylaw_ViewMore_L0 (t1 : List Place) (roots1 : List Int) (k1 : Int) : List Place → Bool
  | [] => (orangerylaw_ViewMore_L1 t1 roots1 (((view_Of t1 (roots1.take ((orangerylaw_at k1 ((roots1.length : Int) + 1)).toNat))).1).way))
  | pn1 :: rn1 => (bif (!(decide (pn1 ∈ (((view_Of t1 roots1).1).known)))) then false else (orangerylaw_ViewMore_L0 t1 roots1 k1 rn1))
def orangerylaw_ViewMore (t1 : List Place) (roots1 : List Int) (k1 : Int) : Bool :=
  (bif ((!orangerylaw_seen) || (((view_Of t1 roots1).2) != 0)) then orangerylaw_seen else (bif (((view_Of t1 (roots1.take ((orangerylaw_at k1 ((roots1.length : Int) + 1)).toNat))).2) != 0) then false else (orangerylaw_ViewMore_L0 t1 roots1 k1 (((view_Of t1 (roots1.take ((orangerylaw_at k1 ((roots1.length : Int) + 1)).toNat))).1).known))))
theorem orangerylaw_ViewMore_spec (y1 : SlV) (t1 : List Place) (y2 : SlV) (roots1 : List Int) (k1 : Int) : Does Try.prog 6 [.agg ⟨[y1.val t1.length]⟩, y2.val roots1.length, .int .i64 k1] [RdL EPlace y1 t1, RdL EInt y2 roots1] (fun (_ : Unit) => .bool (orangerylaw_ViewMore t1 roots1 k1)) (fun (_ : Unit) => []) := by
  refine does_of tab_ok Try.func6 rfl Try.ntmps6 Try.results6 rfl inferInstance (fun _ => inferInstance) fun C => ?_
  refine Pc EPlace y1 t1 24 fun hlen1 => ?_
  refine Pc EInt y2 roots1 8 fun hlen2 => ?_
  refine Tx ?_
  refine Bx fun g1 => ?_
  refine Tx ?_
  refine Cl (view_Of_spec y1 t1 y2 roots1) fun x1 => ?_
  refine Pr EInt x1.1 (((view_Of t1 roots1).1).roots) 8 fun hlen3 => ?_
  refine Pr EPlace x1.2.1 (((view_Of t1 roots1).1).known) 24 fun hlen4 => ?_
  refine Pr EPlace x1.2.2 (((view_Of t1 roots1).1).way) 24 fun hlen5 => ?_
  refine Tx ?_
  refine Al fun g2 => ?_
  refine Tx ?_
  refine Cl (orangerylaw_seen_spec ) fun _ => ?_
  refine Tx ?_
  refine Cd (b := ((!orangerylaw_seen) || (((view_Of t1 roots1).2) != 0))) (fun hc1 => ?_) fun hc1 => ?_
  · refine Tx ?_
    refine Cl (orangerylaw_seen_spec ) fun _ => ?_
    refine Tx ?_
    have hr1 : (orangerylaw_ViewMore t1 roots1 k1) = orangerylaw_seen := by simp only [orangerylaw_ViewMore, hc1, cond_true, cond_false]
    refine cw_ret ?_; rw [hr1]; exact Re () (Vt Vn)
  · have hat := at_in (k := k1) (n := (roots1.length : Int) + 1) (by omega)
    refine Tx ?_
    refine cw_join [6, 7] [true, true] (fun (i_ : Nat × SlV × SlV × SlV) => match i_ with | ⟨g3, x2, x3, x4⟩ => [(8, .v (.int .i64 ((view_Of t1 (roots1.take ((orangerylaw_at k1 ((roots1.length : Int) + 1)).toNat))).2))), (9, .v (.pointer (some ⟨g3, 0, none⟩)))]) (fun (i_ : Nat × SlV × SlV × SlV) => match i_ with | ⟨g3, x2, x3, x4⟩ => [⟨g3, 51, [x2.val (((view_Of t1 (roots1.take ((orangerylaw_at k1 ((roots1.length : Int) + 1)).toNat))).1).roots).length, x3.val (((view_Of t1 (roots1.take ((orangerylaw_at k1 ((roots1.length : Int) + 1)).toNat))).1).known).length, x4.val (((view_Of t1 (roots1.take ((orangerylaw_at k1 ((roots1.length : Int) + 1)).toNat))).1).way).length]⟩]) (fun (i_ : Nat × SlV × SlV × SlV) => match i_ with | ⟨g3, x2, x3, x4⟩ => []) (fun (i_ : Nat × SlV × SlV × SlV) => match i_ with | ⟨g3, x2, x3, x4⟩ => [RdL EInt x2 (((view_Of t1 (roots1.take ((orangerylaw_at k1 ((roots1.length : Int) + 1)).toNat))).1).roots), RdL EPlace x3 (((view_Of t1 (roots1.take ((orangerylaw_at k1 ((roots1.length : Int) + 1)).toNat))).1).known), RdL EPlace x4 (((view_Of t1 (roots1.take ((orangerylaw_at k1 ((roots1.length : Int) + 1)).toNat))).1).way)]) (fun _ => True) (.cons rfl (.cons rfl (.nil _))) (.keep (.keep (.nil))) ?_ ?_
    · refine cw_regionA (fun j => match j with | 13 => none | _ => some []) ?_
      refine Rb 0 [1,2,3,4,5,6,7,12] [8,9,10,11,13,14] rfl (q_ldA rfl rfl (fun _ => rfl) rfl Mm rfl) ?_
      refine Rb 1 [2,3,4,5,6,12] [7,8,9,10,11,13,14] rfl Qp ?_
      refine Rb 2 [3,4,5,12] [6,7,8,9,10,11,13,14] rfl Qp ?_
      refine Rb 3 [12] [4,5,6,7,8,9,10,11,13,14] rfl Qp ?_
      refine Rb 4 [12] [5,6,7,8,9,10,11,13,14] rfl Qp ?_
      refine Rb 5 [12] [6,7,8,9,10,11,13,14] rfl (q_add rfl rfl (fun _ => rfl) rfl (fun _ => rfl) (fun _ => by omega)) ?_
      refine ra_two 6 12 Kr ?_ ?_
      · refine rw_call (orangerylaw_at_spec k1 ((roots1.length : Int) + 1) (by omega)) (.an rfl rfl) (guard_none rfl) rfl rfl rfl Kr rfl rfl Sm ?_
        intro _
        refine Rb 7 [12] [8,9,10,11,13,14] rfl (q_take EInt ((orangerylaw_at k1 ((roots1.length : Int) + 1)).toNat) rfl rfl (fun _ => rfl) rfl (fun _ => rfl) rfl rfl Mm (fun _ => by omega) (fun _ => by omega)) ?_
        refine rw_fact (F := RdL EInt y2 (roots1.take ((orangerylaw_at k1 ((roots1.length : Int) + 1)).toNat))) [RdL EInt y2 roots1] Sm (fun M w h => (allF1 h).take _) ?_
        refine ra_two 8 12 Kr ?_ ?_
        · refine rw_call (view_Of_spec y1 t1 y2 (roots1.take ((orangerylaw_at k1 ((roots1.length : Int) + 1)).toNat))) (.an rfl rfl) (guard_none rfl) rfl rfl rfl Kr rfl rfl Sm ?_
          intro x5
          refine Pr EInt x5.1 (((view_Of t1 (roots1.take ((orangerylaw_at k1 ((roots1.length : Int) + 1)).toNat))).1).roots) 8 fun hlen6 => ?_
          refine Pr EPlace x5.2.1 (((view_Of t1 (roots1.take ((orangerylaw_at k1 ((roots1.length : Int) + 1)).toNat))).1).known) 24 fun hlen7 => ?_
          refine Pr EPlace x5.2.2 (((view_Of t1 (roots1.take ((orangerylaw_at k1 ((roots1.length : Int) + 1)).toNat))).1).way) 24 fun hlen8 => ?_
          refine Ra 9 [12] rfl Qp ?_
          refine Ra 10 [11,12] rfl Qp ?_
          refine ra_p (.an (i := 11) (js := [12, 13]) rfl Kr Kr Kr Kr) rfl rfl rfl (q_pev rfl (fun _ => rfl)) ?_
          refine ra_one 12 Kr ?_
          refine rw_alloc (.an rfl rfl) (guard_none rfl) rfl rfl rfl rfl fun g4 => ?_
          refine ra_one 13 Kr ?_
          refine rw_stA (.lo [g4] rfl rfl) (.inr (by simp)) (guard_none rfl) rfl rfl rfl rfl rfl rfl rfl rfl rfl Ub rfl ?_
          refine Ra 14 [] rfl Qp ?_
          refine ra_nil Kr ?_
          refine ⟨⟨g4, x5.1, x5.2.1, x5.2.2⟩, trivial, Le4⟩
        · refine rw_alloc (.an rfl rfl) (guard_none rfl) rfl rfl rfl rfl fun g5 => ?_
          refine ra_one 8 Kr ?_
          refine rw_call (view_Of_spec y1 t1 y2 (roots1.take ((orangerylaw_at k1 ((roots1.length : Int) + 1)).toNat))) (.an rfl rfl) (guard_none rfl) rfl rfl rfl Kr rfl rfl Sm ?_
          intro x6
          refine Pr EInt x6.1 (((view_Of t1 (roots1.take ((orangerylaw_at k1 ((roots1.length : Int) + 1)).toNat))).1).roots) 8 fun hlen9 => ?_
          refine Pr EPlace x6.2.1 (((view_Of t1 (roots1.take ((orangerylaw_at k1 ((roots1.length : Int) + 1)).toNat))).1).known) 24 fun hlen10 => ?_
          refine Pr EPlace x6.2.2 (((view_Of t1 (roots1.take ((orangerylaw_at k1 ((roots1.length : Int) + 1)).toNat))).1).way) 24 fun hlen11 => ?_
          refine Ra 9 [] rfl Qp ?_
          refine Ra 10 [11] rfl Qp ?_
          refine ra_p (.an (i := 11) (js := [13]) rfl Kr Kr Kr Kr) rfl rfl rfl (q_pev rfl (fun _ => rfl)) ?_
          refine ra_one 13 Kr ?_
          refine rw_stA (.lo [g5] rfl rfl) (.inr (by simp)) (guard_none rfl) rfl rfl rfl rfl rfl rfl rfl rfl rfl Ub rfl ?_
          refine Ra 14 [] rfl Qp ?_
          refine ra_nil Kr ?_
          refine ⟨⟨g5, x6.1, x6.2.1, x6.2.2⟩, trivial, Le4⟩
      · refine rw_alloc (.an rfl rfl) (guard_none rfl) rfl rfl rfl rfl fun g6 => ?_
        refine ra_one 6 Kr ?_
        refine rw_call (orangerylaw_at_spec k1 ((roots1.length : Int) + 1) (by omega)) (.an rfl rfl) (guard_none rfl) rfl rfl rfl Kr rfl rfl Sm ?_
        intro _
        refine Rb 7 [] [8,9,10,11,13,14] rfl (q_take EInt ((orangerylaw_at k1 ((roots1.length : Int) + 1)).toNat) rfl rfl (fun _ => rfl) rfl (fun _ => rfl) rfl rfl Mm (fun _ => by omega) (fun _ => by omega)) ?_
        refine rw_fact (F := RdL EInt y2 (roots1.take ((orangerylaw_at k1 ((roots1.length : Int) + 1)).toNat))) [RdL EInt y2 roots1] Sm (fun M w h => (allF1 h).take _) ?_
        refine ra_one 8 Kr ?_
        refine rw_call (view_Of_spec y1 t1 y2 (roots1.take ((orangerylaw_at k1 ((roots1.length : Int) + 1)).toNat))) (.an rfl rfl) (guard_none rfl) rfl rfl rfl Kr rfl rfl Sm ?_
        intro x7
        refine Pr EInt x7.1 (((view_Of t1 (roots1.take ((orangerylaw_at k1 ((roots1.length : Int) + 1)).toNat))).1).roots) 8 fun hlen12 => ?_
        refine Pr EPlace x7.2.1 (((view_Of t1 (roots1.take ((orangerylaw_at k1 ((roots1.length : Int) + 1)).toNat))).1).known) 24 fun hlen13 => ?_
        refine Pr EPlace x7.2.2 (((view_Of t1 (roots1.take ((orangerylaw_at k1 ((roots1.length : Int) + 1)).toNat))).1).way) 24 fun hlen14 => ?_
        refine Ra 9 [] rfl Qp ?_
        refine Ra 10 [11] rfl Qp ?_
        refine ra_p (.an (i := 11) (js := [13]) rfl Kr Kr Kr Kr) rfl rfl rfl (q_pev rfl (fun _ => rfl)) ?_
        refine ra_one 13 Kr ?_
        refine rw_stA (.lo [g6] rfl rfl) (.inr (by simp)) (guard_none rfl) rfl rfl rfl rfl rfl rfl rfl rfl rfl Ub rfl ?_
        refine Ra 14 [] rfl Qp ?_
        refine ra_nil Kr ?_
        refine ⟨⟨g6, x7.1, x7.2.1, x7.2.2⟩, trivial, Le4⟩
    · rintro ⟨g3, x2, x3, x4⟩ -
      simp only [List.cons_append, List.nil_append]
      refine Tx ?_
      refine Cd (b := (((view_Of t1 (roots1.take ((orangerylaw_at k1 ((roots1.length : Int) + 1)).toNat))).2) != 0)) (fun hc2 => ?_) fun hc2 => ?_
      · have hc2p := bne_iff_ne.1 hc2
        refine Tx ?_
        have hr2 : (orangerylaw_ViewMore t1 roots1 k1) = false := by simp only [orangerylaw_ViewMore, hc1, hc2, cond_true, cond_false]
        refine cw_ret ?_; rw [hr2]; exact Re () (Vt Vn)
      · have hc2p := eq_of_bne_false hc2
        refine Tx ?_
        refine Pc EPlace x3 (((view_Of t1 (roots1.take ((orangerylaw_at k1 ((roots1.length : Int) + 1)).toNat))).1).known) 24 fun hlen15 => ?_
        (repeat refine cw_seq ?_); refine Lp [6,7,9,42,43] [true, true, true] (fun (n1 : Nat) => (⟨[(44, .v (.int .i64 (n1 : Int)))], [], [], [], (n1 ≤ (((view_Of t1 (roots1.take ((orangerylaw_at k1 ((roots1.length : Int) + 1)).toNat))).1).known).length) ∧ (orangerylaw_ViewMore_L0 t1 roots1 k1 ((((view_Of t1 (roots1.take ((orangerylaw_at k1 ((roots1.length : Int) + 1)).toNat))).1).known).drop n1)) = (orangerylaw_ViewMore t1 roots1 k1), (((view_Of t1 (roots1.take ((orangerylaw_at k1 ((roots1.length : Int) + 1)).toNat))).1).known).length - n1⟩ : Ls)) 0 (Sc (Sc (Sc (Sc (Sc Sn))))) (.keep (.keep (.keep (.nil)))) ⟨Nat.zero_le _, (by simp only [orangerylaw_ViewMore, hc1, hc2, cond_true, cond_false] : (orangerylaw_ViewMore t1 roots1 k1) = (orangerylaw_ViewMore_L0 t1 roots1 k1 (((view_Of t1 (roots1.take ((orangerylaw_at k1 ((roots1.length : Int) + 1)).toNat))).1).known))).symm⟩ Le4 ?_
        rintro n1 ⟨hkn1, hf1⟩
        simp only [List.cons_append, List.nil_append]
        refine Tx ?_
        refine Cd (b := decide ((n1 : Int) < ((((view_Of t1 (roots1.take ((orangerylaw_at k1 ((roots1.length : Int) + 1)).toNat))).1).known).length : Int))) (fun hc3 => ?_) fun hc3 => ?_
        · have hlt0 : n1 < (((view_Of t1 (roots1.take ((orangerylaw_at k1 ((roots1.length : Int) + 1)).toNat))).1).known).length := Int.ofNat_lt.1 (of_decide_eq_true hc3)
          refine Tx ?_
          refine rw_q rfl rfl rfl (q_idx EPlace n1 rfl rfl (fun _ => rfl) rfl (fun _ => rfl) rfl rfl rfl Mm rfl (fun _ => rfl) (fun _ => by first | assumption | omega)) ?_
          refine rw_q rfl rfl rfl (q_leA EPlace rfl rfl (fun _ => rfl) rfl rfl Mm (fun _ => by first | assumption | omega)) ?_
          refine Al fun g7 => ?_
          refine Tx ?_
          refine Cl (slices_Contains_Place_spec' x1.2.1 (((view_Of t1 roots1).1).known) (gt (((view_Of t1 (roots1.take ((orangerylaw_at k1 ((roots1.length : Int) + 1)).toNat))).1).known) n1)) fun _ => ?_
          refine Tx ?_
          refine Cd (b := (!(decide ((gt (((view_Of t1 (roots1.take ((orangerylaw_at k1 ((roots1.length : Int) + 1)).toNat))).1).known) n1) ∈ (((view_Of t1 roots1).1).known))))) (fun hc4 => ?_) fun hc4 => ?_
          · refine Tx ?_
            have hr3 : (orangerylaw_ViewMore t1 roots1 k1) = false := by rw [← hf1, drop_gt hlt0]; simp only [orangerylaw_ViewMore_L0, hc4, cond_true, cond_false]
            refine cw_ret ?_; rw [hr3]; exact Re () (Vt Vn)
          · refine Tx ?_
            refine rw_q rfl rfl rfl (q_add rfl rfl (fun _ => rfl) rfl (fun _ => rfl) (fun _ => by omega)) ?_
            refine Tx ?_
            refine ⟨(n1 + 1), ⟨hlt0, (by rw [← hf1, drop_gt hlt0]; simp only [orangerylaw_ViewMore_L0, hc4, cond_true, cond_false] : (orangerylaw_ViewMore t1 roots1 k1) = (orangerylaw_ViewMore_L0 t1 roots1 k1 ((((view_Of t1 (roots1.take ((orangerylaw_at k1 ((roots1.length : Int) + 1)).toNat))).1).known).drop (n1 + 1)))).symm⟩, (by simp only []; omega), Le4⟩
        · have hge0 : (((view_Of t1 (roots1.take ((orangerylaw_at k1 ((roots1.length : Int) + 1)).toNat))).1).known).length ≤ n1 := by have := of_decide_eq_false hc3; omega
          refine Tx ?_
          refine Pc EPlace x4 (((view_Of t1 (roots1.take ((orangerylaw_at k1 ((roots1.length : Int) + 1)).toNat))).1).way) 24 fun hlen16 => ?_
          (repeat refine cw_seq ?_); refine Lp [6,7,55,56] [true, true, true] (fun (n2 : Nat) => (⟨[(57, .v (.int .i64 (n2 : Int)))], [], [], [], (n2 ≤ (((view_Of t1 (roots1.take ((orangerylaw_at k1 ((roots1.length : Int) + 1)).toNat))).1).way).length) ∧ (orangerylaw_ViewMore_L1 t1 roots1 ((((view_Of t1 (roots1.take ((orangerylaw_at k1 ((roots1.length : Int) + 1)).toNat))).1).way).drop n2)) = (orangerylaw_ViewMore t1 roots1 k1), (((view_Of t1 (roots1.take ((orangerylaw_at k1 ((roots1.length : Int) + 1)).toNat))).1).way).length - n2⟩ : Ls)) 0 (Sc (Sc (Sc (Sc Sn)))) (.keep (.keep (.keep (.nil)))) ⟨Nat.zero_le _, (by rw [← hf1, List.drop_of_length_le hge0]; simp only [orangerylaw_ViewMore_L0, cond_true, cond_false] : (orangerylaw_ViewMore t1 roots1 k1) = (orangerylaw_ViewMore_L1 t1 roots1 (((view_Of t1 (roots1.take ((orangerylaw_at k1 ((roots1.length : Int) + 1)).toNat))).1).way))).symm⟩ Le4 ?_
          rintro n2 ⟨hkn2, hf2⟩
          simp only [List.cons_append, List.nil_append]
          refine Tx ?_
          refine Cd (b := decide ((n2 : Int) < ((((view_Of t1 (roots1.take ((orangerylaw_at k1 ((roots1.length : Int) + 1)).toNat))).1).way).length : Int))) (fun hc5 => ?_) fun hc5 => ?_
          · have hlt1 : n2 < (((view_Of t1 (roots1.take ((orangerylaw_at k1 ((roots1.length : Int) + 1)).toNat))).1).way).length := Int.ofNat_lt.1 (of_decide_eq_true hc5)
            refine Tx ?_
            refine rw_q rfl rfl rfl (q_idx EPlace n2 rfl rfl (fun _ => rfl) rfl (fun _ => rfl) rfl rfl rfl Mm rfl (fun _ => rfl) (fun _ => by first | assumption | omega)) ?_
            refine rw_q rfl rfl rfl (q_leA EPlace rfl rfl (fun _ => rfl) rfl rfl Mm (fun _ => by first | assumption | omega)) ?_
            refine Al fun g8 => ?_
            refine Tx ?_
            refine Cl (slices_Contains_Place_spec' x1.2.1 (((view_Of t1 roots1).1).known) (gt (((view_Of t1 (roots1.take ((orangerylaw_at k1 ((roots1.length : Int) + 1)).toNat))).1).way) n2)) fun _ => ?_
            refine Tx ?_
            refine rw_callg (fun hG_ => slices_Contains_Place_spec' x1.2.2 (((view_Of t1 roots1).1).way) (gt (((view_Of t1 (roots1.take ((orangerylaw_at k1 ((roots1.length : Int) + 1)).toNat))).1).way) n2)) (fun _ => rfl) .sq (guard_vt rfl rfl rfl) rfl rfl rfl Kr rfl Bt Sm ?_
            refine Tx ?_
            refine Cd (b := ((!(decide ((gt (((view_Of t1 (roots1.take ((orangerylaw_at k1 ((roots1.length : Int) + 1)).toNat))).1).way) n2) ∈ (((view_Of t1 roots1).1).known)))) && (!(decide ((gt (((view_Of t1 (roots1.take ((orangerylaw_at k1 ((roots1.length : Int) + 1)).toNat))).1).way) n2) ∈ (((view_Of t1 roots1).1).way)))))) (fun hc6 => ?_) fun hc6 => ?_
            · refine Tx ?_
              have hr4 : (orangerylaw_ViewMore t1 roots1 k1) = false := by rw [← hf2, drop_gt hlt1]; simp only [orangerylaw_ViewMore_L1, hc6, cond_true, cond_false]
              refine cw_ret ?_; rw [hr4]; exact Re () (Vt Vn)
            · refine Tx ?_
              refine rw_q rfl rfl rfl (q_add rfl rfl (fun _ => rfl) rfl (fun _ => rfl) (fun _ => by omega)) ?_
              refine Tx ?_
              refine ⟨(n2 + 1), ⟨hlt1, (by rw [← hf2, drop_gt hlt1]; simp only [orangerylaw_ViewMore_L1, hc6, cond_true, cond_false] : (orangerylaw_ViewMore t1 roots1 k1) = (orangerylaw_ViewMore_L1 t1 roots1 ((((view_Of t1 (roots1.take ((orangerylaw_at k1 ((roots1.length : Int) + 1)).toNat))).1).way).drop (n2 + 1)))).symm⟩, (by simp only []; omega), Le4⟩
          · have hge1 : (((view_Of t1 (roots1.take ((orangerylaw_at k1 ((roots1.length : Int) + 1)).toNat))).1).way).length ≤ n2 := by have := of_decide_eq_false hc5; omega
            refine Tx ?_
            have hr5 : (orangerylaw_ViewMore t1 roots1 k1) = true := by rw [← hf2, List.drop_of_length_le hge1]; simp only [orangerylaw_ViewMore_L1, cond_true, cond_false]
            refine cw_ret ?_; rw [hr5]; exact Re () (Vt Vn)
end Go.Proofs.Ytchdacbjiomplaa
