/- Part of this claim. No condition. -/
import Derived.Test.YtchdacbjiomplaaLVA
set_option linter.unusedVariables false
set_option linter.unusedSimpArgs false
set_option maxHeartbeats 2000000
namespace Go.Proofs.Ytchdacbjiomplaa
open Go Go.Proofs.Ytchdacbjiomplaa.Fw Go.Proofs
attribute [local irreducible] RdL RdN VarP RW CW
def orangerylaw_ViewAgain_L1 (t1 : List Place) (roots1 : List Int) : List Place → Bool
  | [] => true
  | pn2 :: rn2 => (bif ((((((view_Of t1 roots1).1).known).any (fun a0_ => orangerylaw_ViewAgain_2 a0_ pn2)) || (decide ((pn2.parent) ∈ roots1))) && (!(decide (pn2 ∈ (((view_Of t1 roots1).1).known))))) then false else (orangerylaw_ViewAgain_L1 t1 roots1 rn2))
def orangerylaw_ViewAgain_L0 (t1 : List Place) (roots1 : List Int) : List Place → Nat → Bool
  | [], n1 => (bif ((((view_Of (slices_SortFunc_Place ([((view_Of t1 roots1).1).known, ((view_Of t1 roots1).1).way].flatten) orangerylaw_ViewAgain_1) roots1).2) != 0) || (!(view_Same ((view_Of t1 roots1).1) ((view_Of (slices_SortFunc_Place ([((view_Of t1 roots1).1).known, ((view_Of t1 roots1).1).way].flatten) orangerylaw_ViewAgain_1) roots1).1)))) then false else (orangerylaw_ViewAgain_L1 t1 roots1 t1))
  | pn1 :: rn1, n1 => (bif ((decide ((n1 : Int) > 0) && (((gt (slices_SortFunc_Place ([((view_Of t1 roots1).1).known, ((view_Of t1 roots1).1).way].flatten) orangerylaw_ViewAgain_1) (n1 - 1)).node) == (pn1.node))) || (!(decide ((tree_Find t1 (pn1.node)) = pn1)))) then false else (orangerylaw_ViewAgain_L0 t1 roots1 rn1 (n1 + 1)))
def orangerylaw_ViewAgain (t1 : List Place) (roots1 : List Int) : Bool :=
  (bif ((!orangerylaw_seen) || (((view_Of t1 roots1).2) != 0)) then orangerylaw_seen else (bif ((view_Check ((view_Of t1 roots1).1)) != 0) then false else (orangerylaw_ViewAgain_L0 t1 roots1 (slices_SortFunc_Place ([((view_Of t1 roots1).1).known, ((view_Of t1 roots1).1).way].flatten) orangerylaw_ViewAgain_1) 0)))
theorem orangerylaw_ViewAgain_spec (y1 : SlV) (t1 : List Place) (y2 : SlV) (roots1 : List Int) : Does Try.prog 22 [.agg ⟨[y1.val t1.length]⟩, y2.val roots1.length] [RdL EPlace y1 t1, RdL EInt y2 roots1] (fun (_ : Unit) => .bool (orangerylaw_ViewAgain t1 roots1)) (fun (_ : Unit) => []) := by
  refine does_of tab_ok Try.func22 rfl Try.ntmps22 Try.results22 rfl inferInstance (fun _ => inferInstance) fun C => ?_
  refine Pc EPlace y1 t1 24 fun hlen1 => ?_
  refine Pc EInt y2 roots1 8 fun hlen2 => ?_
  refine Tx ?_
  refine Bx fun g1 => ?_
  refine Tx ?_
  refine Cl (view_Of_spec y1 t1 y2 roots1) fun x1 => ?_
  refine Pr EInt x1.1 (((view_Of t1 roots1).1).roots) 8 fun hlen3 => ?_
  refine Pr EPlace x1.2.1 (((view_Of t1 roots1).1).known) 24 fun hlen4 => ?_
  refine Pr EPlace x1.2.2 (((view_Of t1 roots1).1).way) 24 fun hlen5 => ?_
  refine Tx ?_
  refine Al fun g2 => ?_
  refine Tx ?_
  refine Cl (orangerylaw_seen_spec ) fun _ => ?_
  refine Tx ?_
  refine Cd (b := ((!orangerylaw_seen) || (((view_Of t1 roots1).2) != 0))) (fun hc1 => ?_) fun hc1 => ?_
  · refine Tx ?_
    refine Cl (orangerylaw_seen_spec ) fun _ => ?_
    refine Tx ?_
    have hr1 : (orangerylaw_ViewAgain t1 roots1) = orangerylaw_seen := by simp only [orangerylaw_ViewAgain, hc1, cond_true, cond_false]
    refine cw_ret ?_; rw [hr1]; exact Re () (Vt Vn)
  · have hva := va_good t1 roots1 hc1
    refine Tx ?_
    refine Cl (view_Check_spec x1.1 x1.2.1 x1.2.2 ((view_Of t1 roots1).1)) fun _ => ?_
    refine Tx ?_
    refine Cd (b := ((view_Check ((view_Of t1 roots1).1)) != 0)) (fun hc2 => ?_) fun hc2 => ?_
    · have hc2p := bne_iff_ne.1 hc2
      refine Tx ?_
      have hr2 : (orangerylaw_ViewAgain t1 roots1) = false := by simp only [orangerylaw_ViewAgain, hc1, hc2, cond_true, cond_false]
      refine cw_ret ?_; rw [hr2]; exact Re () (Vt Vn)
    · have hc2p := eq_of_bne_false hc2
      refine Tx ?_
      refine rw_bsliceL NPlaces.E [(x1.2.1, ((view_Of t1 roots1).1).known), (x1.2.2, ((view_Of t1 roots1).1).way)] .sq (guard_none rfl) rfl rfl rfl rfl rfl rfl rfl rfl rfl rfl rfl rfl rfl rfl rfl fun x2 x2b => ?_
      refine rw_le (le_freezeL NPlaces.E 27 x2 x2b [(x1.2.1, ((view_Of t1 roots1).1).known), (x1.2.2, ((view_Of t1 roots1).1).way)] Uo) ?_
      refine rw_fact (F := RdN NPlaces x2 [((view_Of t1 roots1).1).known, ((view_Of t1 roots1).1).way]) [RdL NPlaces.E x2 [(x1.2.1, ((view_Of t1 roots1).1).known), (x1.2.2, ((view_Of t1 roots1).1).way)], RdL EPlace x1.2.1 (((view_Of t1 roots1).1).known), RdL EPlace x1.2.2 (((view_Of t1 roots1).1).way)] Sm (fun M w h => RdN.of NPlaces (hs := [(x1.2.1, ((view_Of t1 roots1).1).known), (x1.2.2, ((view_Of t1 roots1).1).way)]) rfl (h _ (.head _)) (allP_cons (allF_sub Sm h) (allP_cons (allF_sub Sm h) (fun p hp => by cases hp)))) ?_
      refine Cg (slices_Concat_Place_spec' x2 [((view_Of t1 roots1).1).known, ((view_Of t1 roots1).1).way] (by have := hva.le; omega)) fun x3 => ?_
      refine Tx ?_
      refine rw_callG (slices_SortFunc_Place_spec x3.1 x3.2 ([((view_Of t1 roots1).1).known, ((view_Of t1 roots1).1).way].flatten) _ _ _ orangerylaw_ViewAgain_1 Kr (fun a0_ a1_ => orangerylaw_ViewAgain_1_spec a0_ a1_) hva.le hva.good) .sq (.inl ⟨_, rfl⟩) (guard_none rfl) rfl rfl rfl Kr rfl rfl Sm (.nil _) (by first | exact .cons (.here _ _) (.nil _) | exact .cons (.there _ (.here _ _)) (.nil _) | exact .cons (.there _ (.there _ (.here _ _))) (.nil _) | exact .cons (.there _ (.there _ (.there _ (.here _ _)))) (.nil _)) ?_
      intro _
      have hv1l : ([((view_Of t1 roots1).1).known, ((view_Of t1 roots1).1).way].flatten).length = (slices_SortFunc_Place ([((view_Of t1 roots1).1).known, ((view_Of t1 roots1).1).way].flatten) orangerylaw_ViewAgain_1).length := hva.len
      have hv1 : x3.1.val ([((view_Of t1 roots1).1).known, ((view_Of t1 roots1).1).way].flatten).length = x3.1.val (slices_SortFunc_Place ([((view_Of t1 roots1).1).known, ((view_Of t1 roots1).1).way].flatten) orangerylaw_ViewAgain_1).length := congrArg (SlV.val x3.1) hv1l
      try rw [hv1]
      refine Tx ?_
      refine cw_le (le_freezeL EPlace 35 x3.1 x3.2 (slices_SortFunc_Place ([((view_Of t1 roots1).1).known, ((view_Of t1 roots1).1).way].flatten) orangerylaw_ViewAgain_1) Uo) ?_
      refine Pc EPlace x3.1 (slices_SortFunc_Place ([((view_Of t1 roots1).1).known, ((view_Of t1 roots1).1).way].flatten) orangerylaw_ViewAgain_1) 24 fun hlen6 => ?_
      (repeat refine cw_seq ?_); refine Lp [1,2,4,5,6,7,38,39] [true, true] (fun (n1 : Nat) => (⟨[(40, .v (.int .i64 (n1 : Int)))], [], [], [], (n1 ≤ (slices_SortFunc_Place ([((view_Of t1 roots1).1).known, ((view_Of t1 roots1).1).way].flatten) orangerylaw_ViewAgain_1).length) ∧ (orangerylaw_ViewAgain_L0 t1 roots1 ((slices_SortFunc_Place ([((view_Of t1 roots1).1).known, ((view_Of t1 roots1).1).way].flatten) orangerylaw_ViewAgain_1).drop n1) n1) = (orangerylaw_ViewAgain t1 roots1), (slices_SortFunc_Place ([((view_Of t1 roots1).1).known, ((view_Of t1 roots1).1).way].flatten) orangerylaw_ViewAgain_1).length - n1⟩ : Ls)) 0 (Sc (Sc (Sc (Sc (Sc (Sc (Sc (Sc Sn)))))))) (.keep (.keep (.nil))) ⟨Nat.zero_le _, (by simp only [orangerylaw_ViewAgain, hc1, hc2, cond_true, cond_false] : (orangerylaw_ViewAgain t1 roots1) = (orangerylaw_ViewAgain_L0 t1 roots1 (slices_SortFunc_Place ([((view_Of t1 roots1).1).known, ((view_Of t1 roots1).1).way].flatten) orangerylaw_ViewAgain_1) 0)).symm⟩ Le4 ?_
      rintro n1 ⟨hkn1, hf1⟩
      simp only [List.cons_append, List.nil_append]
      refine Tx ?_
      refine Cd (b := decide ((n1 : Int) < ((slices_SortFunc_Place ([((view_Of t1 roots1).1).known, ((view_Of t1 roots1).1).way].flatten) orangerylaw_ViewAgain_1).length : Int))) (fun hc3 => ?_) fun hc3 => ?_
      · have hlt0 : n1 < (slices_SortFunc_Place ([((view_Of t1 roots1).1).known, ((view_Of t1 roots1).1).way].flatten) orangerylaw_ViewAgain_1).length := Int.ofNat_lt.1 (of_decide_eq_true hc3)
        refine Tx ?_
        refine rw_q rfl rfl rfl (q_idx EPlace n1 rfl rfl (fun _ => rfl) rfl (fun _ => rfl) rfl rfl rfl Mm rfl (fun _ => rfl) (fun _ => by first | assumption | omega)) ?_
        refine rw_q rfl rfl rfl (q_leA EPlace rfl rfl (fun _ => rfl) rfl rfl Mm (fun _ => by first | assumption | omega)) ?_
        refine Al fun g3 => ?_
        refine Tx ?_
        (repeat refine cw_seq ?_); refine cw_regionA (fun _ => some []) ?_
        refine Rb 0 [] [1,2,3,4,5,6,7,8,9,10,11,12,13,14,15,16,17,18,19,20] rfl Qp ?_
        refine Rb 1 [] [2,3,4,5,6,7,8,9,10,11,12,13,14,15,16,17,18,19,20] rfl Qp ?_
        refine Rb 2 [] [3,4,5,6,7,8,9,10,11,12,13,14,15,16,17,18,19,20] rfl Qp ?_
        refine Gb 3 [4,5,9,10] [6,7,8,11,12,13,14,15,16,17,18,19,20] rfl (guard_vt rfl rfl rfl) (q_pev rfl Bt) ?_
        refine Gb 4 [9,10] [5,6,7,8,11,12,13,14,15,16,17,18,19,20] rfl (guard_vt rfl rfl rfl) (q_pev rfl Bt) ?_
        refine Gb 5 [9,10] [6,7,8,11,12,13,14,15,16,17,18,19,20] rfl (guard_vt rfl rfl rfl) (q_sub rfl rfl Bt rfl Bt (by intro h; first | omega | (simp at h; omega))) ?_
        refine Gb 6 [9,10] [7,8,11,12,13,14,15,16,17,18,19,20] rfl (guard_vt rfl rfl rfl) (q_idx EPlace (n1 - 1) rfl rfl Bt rfl Bt rfl rfl rfl Mm rfl (by intro h; first | omega | rfl | (simp at h; omega)) (by first | (intro _; first | assumption | omega) | (intro h; simp at h; omega))) ?_
        refine Gb 7 [9,10] [8,11,12,13,14,15,16,17,18,19,20] rfl (guard_vt rfl rfl rfl) (q_fae rfl rfl Bt rfl rfl) ?_
        refine Gb 8 [9,10] [11,12,13,14,15,16,17,18,19,20] rfl (guard_vt rfl rfl rfl) (q_le1 EPlace rfl rfl Bt rfl rfl Mm (by first | (intro _; first | assumption | omega) | (intro h; simp at h; omega)) rfl) ?_
        refine Gb 9 [] [10,11,12,13,14,15,16,17,18,19,20] rfl (guard_vt rfl rfl rfl) (q_pev rfl Bt) ?_
        refine Gb 10 [] [11,12,13,14,15,16,17,18,19,20] rfl (guard_vt rfl rfl rfl) (q_ld1 rfl rfl Bt rfl Mm rfl) ?_
        refine Gb 11 [] [12,13,14,15,16,17,18,19,20] rfl (guard_vt rfl rfl rfl) (q_pev rfl Bt) ?_
        refine Rb 12 [] [13,14,15,16,17,18,19,20] rfl (q_pev rfl Bt) ?_
        refine Ra 13 [] rfl Qp ?_
        refine Gb 14 [15,16,18] [17,19,20] rfl (guard_vf rfl rfl rfl) (q_ldA rfl rfl Bt rfl Mm rfl) ?_
        refine Gb 15 [18] [16,17,19,20] rfl (guard_vf rfl rfl rfl) (q_pev rfl Bt) ?_
        refine Gb 16 [18] [17,19,20] rfl (guard_vf rfl rfl rfl) (q_ld1 rfl rfl Bt rfl Mm rfl) ?_
        refine Gb 18 [17] [19,20] rfl (guard_vf rfl rfl rfl) (q_ldA rfl rfl Bt rfl Mm rfl) ?_
        refine ra_one 17 Kr ?_
        refine rw_callg (fun hG_ => tree_Find_spec y1 t1 ((gt (slices_SortFunc_Place ([((view_Of t1 roots1).1).known, ((view_Of t1 roots1).1).way].flatten) orangerylaw_ViewAgain_1) n1).node)) (fun _ => rfl) (.an rfl rfl) (guard_vf rfl rfl rfl) rfl rfl rfl Kr rfl Bt Sm ?_
        refine Ga 19 [] rfl (guard_vf rfl rfl rfl) (q_neE eqT_Place (flatEq_Place (tree_Find t1 ((gt (slices_SortFunc_Place ([((view_Of t1 roots1).1).known, ((view_Of t1 roots1).1).way].flatten) orangerylaw_ViewAgain_1) n1).node)) (gt (slices_SortFunc_Place ([((view_Of t1 roots1).1).known, ((view_Of t1 roots1).1).way].flatten) orangerylaw_ViewAgain_1) n1)) rfl rfl Bt rfl Bt rfl rfl) ?_
        refine Ra 20 [] rfl (q_pev rfl Bt) ?_
        refine ra_nil Kr ?_
        (repeat refine cw_seq ?_)
        refine Cd (b := ((decide ((n1 : Int) > 0) && (((gt (slices_SortFunc_Place ([((view_Of t1 roots1).1).known, ((view_Of t1 roots1).1).way].flatten) orangerylaw_ViewAgain_1) (n1 - 1)).node) == ((gt (slices_SortFunc_Place ([((view_Of t1 roots1).1).known, ((view_Of t1 roots1).1).way].flatten) orangerylaw_ViewAgain_1) n1).node))) || (!(decide ((tree_Find t1 ((gt (slices_SortFunc_Place ([((view_Of t1 roots1).1).known, ((view_Of t1 roots1).1).way].flatten) orangerylaw_ViewAgain_1) n1).node)) = (gt (slices_SortFunc_Place ([((view_Of t1 roots1).1).known, ((view_Of t1 roots1).1).way].flatten) orangerylaw_ViewAgain_1) n1)))))) (fun hc4 => ?_) fun hc4 => ?_
        · refine Tx ?_
          have hr3 : (orangerylaw_ViewAgain t1 roots1) = false := by rw [← hf1, drop_gt hlt0]; simp only [orangerylaw_ViewAgain_L0, hc4, cond_true, cond_false]
          refine cw_ret ?_; rw [hr3]; exact Re () (Vt Vn)
        · refine Tx ?_
          refine rw_q rfl rfl rfl (q_add rfl rfl (fun _ => rfl) rfl (fun _ => rfl) (fun _ => by omega)) ?_
          refine Tx ?_
          refine ⟨(n1 + 1), ⟨hlt0, (by rw [← hf1, drop_gt hlt0]; simp only [orangerylaw_ViewAgain_L0, hc4, cond_true, cond_false] : (orangerylaw_ViewAgain t1 roots1) = (orangerylaw_ViewAgain_L0 t1 roots1 ((slices_SortFunc_Place ([((view_Of t1 roots1).1).known, ((view_Of t1 roots1).1).way].flatten) orangerylaw_ViewAgain_1).drop (n1 + 1)) (n1 + 1))).symm⟩, (by simp only []; omega), Le4⟩
      · have hge0 : (slices_SortFunc_Place ([((view_Of t1 roots1).1).known, ((view_Of t1 roots1).1).way].flatten) orangerylaw_ViewAgain_1).length ≤ n1 := by have := of_decide_eq_false hc3; omega
        refine Tx ?_
        refine Cl (view_Of_spec x3.1 (slices_SortFunc_Place ([((view_Of t1 roots1).1).known, ((view_Of t1 roots1).1).way].flatten) orangerylaw_ViewAgain_1) y2 roots1) fun x4 => ?_
        refine Pr EInt x4.1 (((view_Of (slices_SortFunc_Place ([((view_Of t1 roots1).1).known, ((view_Of t1 roots1).1).way].flatten) orangerylaw_ViewAgain_1) roots1).1).roots) 8 fun hlen7 => ?_
        refine Pr EPlace x4.2.1 (((view_Of (slices_SortFunc_Place ([((view_Of t1 roots1).1).known, ((view_Of t1 roots1).1).way].flatten) orangerylaw_ViewAgain_1) roots1).1).known) 24 fun hlen8 => ?_
        refine Pr EPlace x4.2.2 (((view_Of (slices_SortFunc_Place ([((view_Of t1 roots1).1).known, ((view_Of t1 roots1).1).way].flatten) orangerylaw_ViewAgain_1) roots1).1).way) 24 fun hlen9 => ?_
        refine Tx ?_
        refine Al fun g4 => ?_
        refine Tx ?_
        refine rw_callg (fun hG_ => view_Same_spec x1.1 x1.2.1 x1.2.2 ((view_Of t1 roots1).1) x4.1 x4.2.1 x4.2.2 ((view_Of (slices_SortFunc_Place ([((view_Of t1 roots1).1).known, ((view_Of t1 roots1).1).way].flatten) orangerylaw_ViewAgain_1) roots1).1)) (fun _ => rfl) .sq (guard_vf rfl rfl rfl) rfl rfl rfl Kr rfl Bt Sm ?_
        refine Tx ?_
        refine Cd (b := ((((view_Of (slices_SortFunc_Place ([((view_Of t1 roots1).1).known, ((view_Of t1 roots1).1).way].flatten) orangerylaw_ViewAgain_1) roots1).2) != 0) || (!(view_Same ((view_Of t1 roots1).1) ((view_Of (slices_SortFunc_Place ([((view_Of t1 roots1).1).known, ((view_Of t1 roots1).1).way].flatten) orangerylaw_ViewAgain_1) roots1).1))))) (fun hc5 => ?_) fun hc5 => ?_
        · refine Tx ?_
          have hr4 : (orangerylaw_ViewAgain t1 roots1) = false := by rw [← hf1, List.drop_of_length_le hge0]; simp only [orangerylaw_ViewAgain_L0, hc5, cond_true, cond_false]
          refine cw_ret ?_; rw [hr4]; exact Re () (Vt Vn)
        · refine Tx ?_
          (repeat refine cw_seq ?_); refine Lp [1,4,5,83,84] [true, true, true] (fun (n2 : Nat) => (⟨[(85, .v (.int .i64 (n2 : Int)))], [], [], [], (n2 ≤ t1.length) ∧ (orangerylaw_ViewAgain_L1 t1 roots1 (t1.drop n2)) = (orangerylaw_ViewAgain t1 roots1), t1.length - n2⟩ : Ls)) 0 (Sc (Sc (Sc (Sc (Sc Sn))))) (.keep (.keep (.keep (.nil)))) ⟨Nat.zero_le _, (by rw [← hf1, List.drop_of_length_le hge0]; simp only [orangerylaw_ViewAgain_L0, hc5, cond_true, cond_false] : (orangerylaw_ViewAgain t1 roots1) = (orangerylaw_ViewAgain_L1 t1 roots1 t1)).symm⟩ Le4 ?_
          rintro n2 ⟨hkn2, hf2⟩
          simp only [List.cons_append, List.nil_append]
          refine Tx ?_
          refine Cd (b := decide ((n2 : Int) < (t1.length : Int))) (fun hc6 => ?_) fun hc6 => ?_
          · have hlt1 : n2 < t1.length := Int.ofNat_lt.1 (of_decide_eq_true hc6)
            refine Tx ?_
            refine rw_q rfl rfl rfl (q_idx EPlace n2 rfl rfl (fun _ => rfl) rfl (fun _ => rfl) rfl rfl rfl Mm rfl (fun _ => rfl) (fun _ => by first | assumption | omega)) ?_
            refine rw_q rfl rfl rfl (q_leA EPlace rfl rfl (fun _ => rfl) rfl rfl Mm (fun _ => by first | assumption | omega)) ?_
            refine Al fun g5 => ?_
            refine Tx ?_
            refine rw_le (le_var (g := g5) Pk) ?_
            refine Cl (slices_ContainsFunc_Place_spec' x1.2.1 (((view_Of t1 roots1).1).known) _ _ _ (fun a0_ => orangerylaw_ViewAgain_2 a0_ (gt t1 n2)) Kr (fun a0_ => orangerylaw_ViewAgain_2_spec a0_ g5 (gt t1 n2))) fun _ => ?_
            refine Tx ?_
            refine rw_qg (guard_vf rfl rfl rfl) rfl rfl (q_lf1 rfl rfl Bt rfl Mm rfl) ?_
            refine rw_callg (fun hG_ => slices_Contains_int_spec' y2 roots1 ((gt t1 n2).parent)) (fun _ => rfl) .sq (guard_vf rfl rfl rfl) rfl rfl rfl Kr rfl Bt Sm ?_
            refine Tx ?_
            refine rw_qg (guard_vt rfl rfl rfl) rfl rfl (q_lfA rfl rfl Bt rfl Mm rfl) ?_
            refine rw_callg (fun hG_ => slices_Contains_Place_spec' x1.2.1 (((view_Of t1 roots1).1).known) (gt t1 n2)) (fun _ => rfl) .sq (guard_vt rfl rfl rfl) rfl rfl rfl Kr rfl Bt Sm ?_
            refine Tx ?_
            refine Cd (b := ((((((view_Of t1 roots1).1).known).any (fun a0_ => orangerylaw_ViewAgain_2 a0_ (gt t1 n2))) || (decide (((gt t1 n2).parent) ∈ roots1))) && (!(decide ((gt t1 n2) ∈ (((view_Of t1 roots1).1).known)))))) (fun hc7 => ?_) fun hc7 => ?_
            · refine Tx ?_
              have hr5 : (orangerylaw_ViewAgain t1 roots1) = false := by rw [← hf2, drop_gt hlt1]; simp only [orangerylaw_ViewAgain_L1, hc7, cond_true, cond_false]
              refine cw_ret ?_; rw [hr5]; exact Re () (Vt Vn)
            · refine Tx ?_
              refine rw_q rfl rfl rfl (q_add rfl rfl (fun _ => rfl) rfl (fun _ => rfl) (fun _ => by omega)) ?_
              refine Tx ?_
              refine ⟨(n2 + 1), ⟨hlt1, (by rw [← hf2, drop_gt hlt1]; simp only [orangerylaw_ViewAgain_L1, hc7, cond_true, cond_false] : (orangerylaw_ViewAgain t1 roots1) = (orangerylaw_ViewAgain_L1 t1 roots1 (t1.drop (n2 + 1)))).symm⟩, (by simp only []; omega), Le4⟩
          · have hge1 : t1.length ≤ n2 := by have := of_decide_eq_false hc6; omega
            refine Tx ?_
            have hr6 : (orangerylaw_ViewAgain t1 roots1) = true := by rw [← hf2, List.drop_of_length_le hge1]; simp only [orangerylaw_ViewAgain_L1, cond_true, cond_false]
            refine cw_ret ?_; rw [hr6]; exact Re () (Vt Vn)
end Go.Proofs.Ytchdacbjiomplaa
