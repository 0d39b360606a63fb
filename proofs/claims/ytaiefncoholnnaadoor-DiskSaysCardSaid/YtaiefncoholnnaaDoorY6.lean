/- Part of this claim. No condition. -/
import Derived.Test.YtaiefncoholnnaaDoorY5
set_option linter.unusedVariables false
set_option linter.unusedSimpArgs false
set_option maxHeartbeats 2000000
namespace Go.Proofs.YtaiefncoholnnaaDoor
open Go Go.Proofs.YtaiefncoholnnaaDoor.Fw Go.Proofs
attribute [local irreducible] RdL RdN VarP LibP RW CW
def orangeryref_RecRead_L0 (s1 : Str) : Nat → Str → Bool → (List Int) → (Rec × Int)
  | 0, rest1, more1, n1 => default
  | f_k0 + 1, rest1, more1, n1 => (bif more1 then (bif ((ate ((cutc 32 rest1).1)) || ((Lib.itoa (ptv ((cutc 32 rest1).1))) != ((cutc 32 rest1).1))) then ((⟨0, 0, 0, ([] : List Int), (⟨0, 0, 0, 0, 0, 0, 0⟩ : Op)⟩ : Rec), 1) else (orangeryref_RecRead_L0 s1 f_k0 ((cutc 32 rest1).2.1) ((cutc 32 rest1).2.2) (n1 ++ [(ptv ((cutc 32 rest1).1))]))) else (bif ((((cutc 32 s1).1) == ([111, 112] : Str)) && ((n1.length : Int) == 7)) then (bif ((orangeryref_CheckRec (⟨1, 0, 0, ([] : List Int), (⟨(gt n1 0), (gt n1 1), (gt n1 2), (gt n1 3), (gt n1 4), (gt n1 5), (gt n1 6)⟩ : Op)⟩ : Rec)) != 0) then ((⟨0, 0, 0, ([] : List Int), (⟨0, 0, 0, 0, 0, 0, 0⟩ : Op)⟩ : Rec), (orangeryref_CheckRec (⟨1, 0, 0, ([] : List Int), (⟨(gt n1 0), (gt n1 1), (gt n1 2), (gt n1 3), (gt n1 4), (gt n1 5), (gt n1 6)⟩ : Op)⟩ : Rec))) else ((⟨1, 0, 0, ([] : List Int), (⟨(gt n1 0), (gt n1 1), (gt n1 2), (gt n1 3), (gt n1 4), (gt n1 5), (gt n1 6)⟩ : Op)⟩ : Rec), 0)) else (bif ((((cutc 32 s1).1) == ([108, 105, 102, 101] : Str)) && ((n1.length : Int) == 2)) then (bif ((orangeryref_CheckRec (⟨2, (gt n1 0), (gt n1 1), ([] : List Int), (⟨0, 0, 0, 0, 0, 0, 0⟩ : Op)⟩ : Rec)) != 0) then ((⟨0, 0, 0, ([] : List Int), (⟨0, 0, 0, 0, 0, 0, 0⟩ : Op)⟩ : Rec), (orangeryref_CheckRec (⟨2, (gt n1 0), (gt n1 1), ([] : List Int), (⟨0, 0, 0, 0, 0, 0, 0⟩ : Op)⟩ : Rec))) else ((⟨2, (gt n1 0), (gt n1 1), ([] : List Int), (⟨0, 0, 0, 0, 0, 0, 0⟩ : Op)⟩ : Rec), 0)) else (bif ((((cutc 32 s1).1) == ([114, 111, 111, 116, 115] : Str)) && decide ((n1.length : Int) ≥ 1)) then (bif ((orangeryref_CheckRec (⟨3, (gt n1 0), 0, (n1.drop 1), (⟨0, 0, 0, 0, 0, 0, 0⟩ : Op)⟩ : Rec)) != 0) then ((⟨0, 0, 0, ([] : List Int), (⟨0, 0, 0, 0, 0, 0, 0⟩ : Op)⟩ : Rec), (orangeryref_CheckRec (⟨3, (gt n1 0), 0, (n1.drop 1), (⟨0, 0, 0, 0, 0, 0, 0⟩ : Op)⟩ : Rec))) else ((⟨3, (gt n1 0), 0, (n1.drop 1), (⟨0, 0, 0, 0, 0, 0, 0⟩ : Op)⟩ : Rec), 0)) else ((⟨0, 0, 0, ([] : List Int), (⟨0, 0, 0, 0, 0, 0, 0⟩ : Op)⟩ : Rec), 1)))))
def orangeryref_RecRead (s1 : Str) : Rec × Int :=
  (orangeryref_RecRead_L0 s1 (s1.length + 3) ((cutc 32 s1).2.1) ((cutc 32 s1).2.2) [])
theorem orangeryref_RecRead_spec (s1 : Str) (hs : s1.length ≤ 60000) : Does Tryd.prog 14 [sV s1] [LibP Tryd.prog] (fun (X : SlV) => .tuple #[.agg ⟨[.int .i64 (((orangeryref_RecRead s1).1).kind), .int .i64 (((orangeryref_RecRead s1).1).who), .int .i64 (((orangeryref_RecRead s1).1).life), X.val (((orangeryref_RecRead s1).1).roots).length, .int .i64 ((((orangeryref_RecRead s1).1).o).time), .int .i64 ((((orangeryref_RecRead s1).1).o).who), .int .i64 ((((orangeryref_RecRead s1).1).o).node), .int .i64 ((((orangeryref_RecRead s1).1).o).parent), .int .i64 ((((orangeryref_RecRead s1).1).o).name), .int .i64 ((((orangeryref_RecRead s1).1).o).life), .int .i64 ((((orangeryref_RecRead s1).1).o).seq)]⟩, .int .i64 ((orangeryref_RecRead s1).2)]) (fun (X : SlV) => [RdL EInt X (((orangeryref_RecRead s1).1).roots)]) := by
  refine does_of tab_ok Tryd.func14 rfl Tryd.ntmps14 Tryd.results14 rfl inferInstance (fun _ => inferInstance) fun C => ?_
  refine Tx ?_
  refine Al fun g1 => ?_
  refine Tx ?_
  refine Cl (lib_Cut s1 ([32] : Str) rfl (by omega)) fun _ => ?_
  have hcm := cut_meas 32 s1
  refine Tx ?_
  (repeat refine cw_seq ?_); refine Lp [2,3,4] [true] (fun (i_ : Str × Bool × List Int × SlV × Option Nat × Nat) => match i_ with | ⟨rest1, more1, n1, x1, x1b, fz1⟩ => (⟨[(5, .v (sV rest1)), (6, .v (.bool more1)), (7, .v (x1.val n1.length))], [], [ownL EInt 3 x1 x1b n1], [], (n1.length + (bif more1 then rest1.length + 1 else 0) ≤ s1.length + 1) ∧ ((bif more1 then rest1.length + 1 else 0) < fz1) ∧ (orangeryref_RecRead_L0 s1 (fz1) rest1 more1 n1) = (orangeryref_RecRead s1), fz1⟩ : Ls)) ⟨(cutc 32 s1).2.1, (cutc 32 s1).2.2, [], ⟨none, 0⟩, none, s1.length + 3⟩ (Sc (Sc (Sc Sn))) (.keep (.nil)) ⟨(by simp only [List.length_nil]; omega), (by first | exact Nat.le_refl _ | exact Nat.zero_le _ | omega), (by simp only [orangeryref_RecRead, cond_true, cond_false] : (orangeryref_RecRead s1) = (orangeryref_RecRead_L0 s1 (s1.length + 3) ((cutc 32 s1).2.1) ((cutc 32 s1).2.2) [])).symm⟩ (Le.trans (le_nilL EInt 3) Le4) ?_
  rintro ⟨rest1, more1, n1, x1, x1b, fz1⟩ ⟨hinv, hzfz1, hf1⟩
  simp only [List.cons_append, List.nil_append]
  have hlt0_ : (fz1 - 1) + 1 = fz1 := by omega
  refine Tx ?_
  refine Cd (b := more1) (fun hc1 => ?_) fun hc1 => ?_
  · have hinv2 := hinv; rw [hc1, cond_true] at hinv2; have hz2 := hzfz1; rw [hc1, cond_true] at hz2
    refine Tx ?_
    refine Cl (lib_Cut rest1 ([32] : Str) rfl (by omega)) fun _ => ?_
    have hcm2 := cut_meas 32 rest1; have hcl2 := cutc_len 32 rest1
    refine Tx ?_
    refine Cl (lib_ParseInt ((cutc 32 rest1).1) 10 64 ⟨rfl, rfl⟩ (by omega)) fun x2 => ?_
    refine Tx ?_
    refine rw_q rfl rfl rfl (q_neNil rfl rfl (fun _ => rfl) und_64) ?_
    refine Tx ?_
    refine rw_callg (fun hG_ => lib_FormatInt (ptv ((cutc 32 rest1).1)) 10 rfl (ptv_bounds _)) (fun _ => rfl) .sq (guard_vf rfl rfl rfl) rfl rfl rfl Kr rfl Bt Sm ?_
    refine Tx ?_
    refine rw_qg (guard_vf rfl rfl rfl) rfl rfl (q_neS (a := (Lib.itoa (ptv ((cutc 32 rest1).1)))) (b := (cutc 32 rest1).1) rfl rfl Bt rfl Bt) ?_
    refine Tx ?_
    refine Cd (b := ((ate ((cutc 32 rest1).1)) || ((Lib.itoa (ptv ((cutc 32 rest1).1))) != ((cutc 32 rest1).1)))) (fun hc2 => ?_) fun hc2 => ?_
    · refine Tx ?_
      refine Fc EInt ?_
      have hr1 : (orangeryref_RecRead s1) = ((⟨0, 0, 0, ([] : List Int), (⟨0, 0, 0, 0, 0, 0, 0⟩ : Op)⟩ : Rec), 1) := by rw [← hf1]; (conv => lhs; rw [← hlt0_]); simp only [orangeryref_RecRead_L0, hc1, hc2, cond_true, cond_false]
      refine cw_ret ?_; rw [hr1]; exact Re (⟨none, 0⟩ : SlV) (Va (Vt Vn))
    · refine Tx ?_
      refine rw_bsliceL EInt [(ptv ((cutc 32 rest1).1))] .sq (guard_none rfl) rfl rfl rfl rfl rfl rfl rfl rfl rfl rfl rfl rfl rfl rfl rfl fun x3 x3b => ?_
      refine rw_appendL EInt n1 [(ptv ((cutc 32 rest1).1))] (b := x1b) .sq (fun _ _ => .inl ⟨_, rfl⟩) (guard_none rfl) rfl rfl rfl rfl rfl rfl rfl (fun _ _ => Uo) rfl rfl rfl rfl rfl rfl rfl (reads_ownL (e := 3) (b := x3b) Mm) (by show (n1.length + 1) * 8 ≤ 140737488355328; (try simp only [List.length_append, List.length_cons, List.length_nil]); omega) fun x4 x4b => ?_
      refine Tx ?_
      refine ⟨⟨(cutc 32 rest1).2.1, (cutc 32 rest1).2.2, (n1 ++ [(ptv ((cutc 32 rest1).1))]), x4, x4b, (fz1 - 1)⟩, ⟨(by simp only [List.length_append, List.length_cons, List.length_nil]; omega), (by (try simp only []); first | omega | (simp only [List.length_append, List.length_cons, List.length_nil]; omega)), (by rw [← hf1]; (conv => lhs; rw [← hlt0_]); simp only [orangeryref_RecRead_L0, hc1, hc2, cond_true, cond_false] : (orangeryref_RecRead s1) = (orangeryref_RecRead_L0 s1 (fz1 - 1) ((cutc 32 rest1).2.1) ((cutc 32 rest1).2.2) (n1 ++ [(ptv ((cutc 32 rest1).1))]))).symm⟩, (by simp only []; omega), Le4⟩
  · refine cw_le (le_freezeL EInt 3 x1 x1b n1 Uo) ?_
    refine Tx ?_
    refine Al fun g2 => ?_
    refine Tx ?_
    refine rw_q rfl rfl rfl (q_eqS (a := (cutc 32 s1).1) (b := ([111, 112] : Str)) rfl rfl (fun _ => rfl) rfl (fun _ => rfl)) ?_
    refine Tx ?_
    refine Cd (b := ((((cutc 32 s1).1) == ([111, 112] : Str)) && ((n1.length : Int) == 7))) (fun hc3 => ?_) fun hc3 => ?_
    · have hl7 := len_of hc3
      refine Tx ?_
      (repeat refine cw_seq ?_); refine cw_regionA (fun j => match j with | 24 => some [g2] | _ => some []) ?_
      refine Rb 0 [3,4,5,7,8,9,10,11,12,13,14,15,16,17,18,19,20,21] [1,2,6,22,23,24] rfl Qp ?_
      refine Rb 1 [3,4,5,7,8,9,10,11,12,13,14,15,16,17,18,19,20,21] [2,6,22,23,24] rfl (q_idx EInt 0 rfl rfl (fun _ => rfl) rfl (fun _ => rfl) rfl rfl rfl Mm rfl (fun _ => rfl) (fun _ => by first | assumption | omega)) ?_
      refine Rb 2 [3,4,5,7,8,9,10,11,12,13,14,15,16,17,18,19,20,21] [6,22,23,24] rfl (q_le1 EInt rfl rfl (fun _ => rfl) rfl rfl Mm (fun _ => by first | assumption | omega) rfl) ?_
      refine Rb 3 [7,8,9,10,11,12,13,14,15,16,17,18,19,20,21] [4,5,6,22,23,24] rfl Qp ?_
      refine Rb 4 [7,8,9,10,11,12,13,14,15,16,17,18,19,20,21] [5,6,22,23,24] rfl (q_idx EInt 1 rfl rfl (fun _ => rfl) rfl (fun _ => rfl) rfl rfl rfl Mm rfl (fun _ => rfl) (fun _ => by first | assumption | omega)) ?_
      refine Rb 5 [7,8,9,10,11,12,13,14,15,16,17,18,19,20,21] [6,22,23,24] rfl (q_le1 EInt rfl rfl (fun _ => rfl) rfl rfl Mm (fun _ => by first | assumption | omega) rfl) ?_
      refine Ra 6 [7,8,9,10,11,12,13,14,15,16,17,18,19,20,21] rfl Qp ?_
      refine Rb 7 [10,11,12,13,14,15,16,17,18,19,20,21] [8,9,22,23,24] rfl Qp ?_
      refine Rb 8 [10,11,12,13,14,15,16,17,18,19,20,21] [9,22,23,24] rfl (q_idx EInt 2 rfl rfl (fun _ => rfl) rfl (fun _ => rfl) rfl rfl rfl Mm rfl (fun _ => rfl) (fun _ => by first | assumption | omega)) ?_
      refine Ra 9 [10,11,12,13,14,15,16,17,18,19,20,21] rfl (q_le1 EInt rfl rfl (fun _ => rfl) rfl rfl Mm (fun _ => by first | assumption | omega) rfl) ?_
      refine Rb 10 [13,14,15,16,17,18,19,20,21] [11,12,22,23,24] rfl Qp ?_
      refine Rb 11 [13,14,15,16,17,18,19,20,21] [12,22,23,24] rfl (q_idx EInt 3 rfl rfl (fun _ => rfl) rfl (fun _ => rfl) rfl rfl rfl Mm rfl (fun _ => rfl) (fun _ => by first | assumption | omega)) ?_
      refine Ra 12 [13,14,15,16,17,18,19,20,21] rfl (q_le1 EInt rfl rfl (fun _ => rfl) rfl rfl Mm (fun _ => by first | assumption | omega) rfl) ?_
      refine Rb 13 [16,17,18,19,20,21] [14,15,22,23,24] rfl Qp ?_
      refine Rb 14 [16,17,18,19,20,21] [15,22,23,24] rfl (q_idx EInt 4 rfl rfl (fun _ => rfl) rfl (fun _ => rfl) rfl rfl rfl Mm rfl (fun _ => rfl) (fun _ => by first | assumption | omega)) ?_
      refine Ra 15 [16,17,18,19,20,21] rfl (q_le1 EInt rfl rfl (fun _ => rfl) rfl rfl Mm (fun _ => by first | assumption | omega) rfl) ?_
      refine Rb 16 [19,20,21] [17,18,22,23,24] rfl Qp ?_
      refine Rb 17 [19,20,21] [18,22,23,24] rfl (q_idx EInt 5 rfl rfl (fun _ => rfl) rfl (fun _ => rfl) rfl rfl rfl Mm rfl (fun _ => rfl) (fun _ => by first | assumption | omega)) ?_
      refine Ra 18 [19,20,21] rfl (q_le1 EInt rfl rfl (fun _ => rfl) rfl rfl Mm (fun _ => by first | assumption | omega) rfl) ?_
      refine Rb 19 [] [20,21,22,23,24] rfl Qp ?_
      refine Rb 20 [] [21,22,23,24] rfl (q_idx EInt 6 rfl rfl (fun _ => rfl) rfl (fun _ => rfl) rfl rfl rfl Mm rfl (fun _ => rfl) (fun _ => by first | assumption | omega)) ?_
      refine Ra 21 [] rfl (q_le1 EInt rfl rfl (fun _ => rfl) rfl rfl Mm (fun _ => by first | assumption | omega) rfl) ?_
      refine Ra 22 [] rfl Qp ?_
      refine Ra 23 [] rfl Qp ?_
      refine ra_one 24 Kr ?_
      refine rw_stP (.an rfl rfl) (.inr (by simp)) (guard_none rfl) rfl rfl rfl rfl rfl rfl rfl rfl rfl Ub rfl ?_
      refine ra_nil Kr ?_
      refine Tx ?_
      refine Fr EInt ?_
      refine Cl (orangeryref_CheckRec_spec (⟨none, 0⟩ : SlV) (⟨1, 0, 0, ([] : List Int), (⟨(gt n1 0), (gt n1 1), (gt n1 2), (gt n1 3), (gt n1 4), (gt n1 5), (gt n1 6)⟩ : Op)⟩ : Rec)) fun _ => ?_
      refine Tx ?_
      refine Cd (b := ((orangeryref_CheckRec (⟨1, 0, 0, ([] : List Int), (⟨(gt n1 0), (gt n1 1), (gt n1 2), (gt n1 3), (gt n1 4), (gt n1 5), (gt n1 6)⟩ : Op)⟩ : Rec)) != 0)) (fun hc4 => ?_) fun hc4 => ?_
      · have hc4p := bne_iff_ne.1 hc4
        refine Tx ?_
        have hr2 : (orangeryref_RecRead s1) = ((⟨0, 0, 0, ([] : List Int), (⟨0, 0, 0, 0, 0, 0, 0⟩ : Op)⟩ : Rec), (orangeryref_CheckRec (⟨1, 0, 0, ([] : List Int), (⟨(gt n1 0), (gt n1 1), (gt n1 2), (gt n1 3), (gt n1 4), (gt n1 5), (gt n1 6)⟩ : Op)⟩ : Rec))) := by rw [← hf1]; (conv => lhs; rw [← hlt0_]); simp only [orangeryref_RecRead_L0, hc1, hc3, hc4, cond_true, cond_false]
        refine cw_ret ?_; rw [hr2]; exact Re (⟨none, 0⟩ : SlV) (Va (Vt Vn))
      · have hc4p := eq_of_bne_false hc4
        refine Tx ?_
        have hr3 : (orangeryref_RecRead s1) = ((⟨1, 0, 0, ([] : List Int), (⟨(gt n1 0), (gt n1 1), (gt n1 2), (gt n1 3), (gt n1 4), (gt n1 5), (gt n1 6)⟩ : Op)⟩ : Rec), 0) := by rw [← hf1]; (conv => lhs; rw [← hlt0_]); simp only [orangeryref_RecRead_L0, hc1, hc3, hc4, cond_true, cond_false]
        refine cw_ret ?_; rw [hr3]; exact Re (⟨none, 0⟩ : SlV) (Va (Vt Vn))
    · refine Tx ?_
      refine rw_q rfl rfl rfl (q_eqS (a := (cutc 32 s1).1) (b := ([108, 105, 102, 101] : Str)) rfl rfl (fun _ => rfl) rfl (fun _ => rfl)) ?_
      refine Tx ?_
      refine Cd (b := ((((cutc 32 s1).1) == ([108, 105, 102, 101] : Str)) && ((n1.length : Int) == 2))) (fun hc5 => ?_) fun hc5 => ?_
      · have hl7 := len_of hc5
        (repeat refine cw_seq ?_); refine cw_regionA (fun j => match j with | 7 => some [g2] | 9 => some [g2] | 11 => some [g2] | _ => some []) ?_
        refine ra_q (.ab (i := 0) (js := [3, 4, 5, 6, 7]) [1, 2, 8, 9, 10, 11] rfl Kr Kr Kr Kr Kr) (.drop (SplitB.all _)) (by intro g hg; simp at hg; simp [hg]) rfl rfl rfl (q_pev rfl (fun _ => rfl)) ?_
        refine ra_q (.an (i := 1) (js := [3, 4, 5, 6, 7]) rfl Kr Kr Kr Kr) (.drop (SplitB.all _)) (by intro g hg; simp at hg; simp [hg]) rfl rfl rfl (q_idx EInt 0 rfl rfl (fun _ => rfl) rfl (fun _ => rfl) rfl rfl rfl Mm rfl (fun _ => rfl) (fun _ => by first | assumption | omega)) ?_
        refine ra_q (.an (i := 2) (js := [3, 4, 5, 6, 7]) rfl Kr Kr Kr Kr) (.drop (SplitB.all _)) (by intro g hg; simp at hg; simp [hg]) rfl rfl rfl (q_le1 EInt rfl rfl (fun _ => rfl) rfl rfl Mm (fun _ => by first | assumption | omega) rfl) ?_
        refine ra_q (.ab (i := 3) (js := [6, 7, 8, 9]) [4, 5, 10, 11] rfl Kr Kr Kr Kr Kr) (.drop (SplitB.all _)) (by intro g hg; simp at hg; simp [hg]) rfl rfl rfl (q_pev rfl (fun _ => rfl)) ?_
        refine ra_q (.an (i := 4) (js := [6, 7, 8, 9]) rfl Kr Kr Kr Kr) (.drop (SplitB.all _)) (by intro g hg; simp at hg; simp [hg]) rfl rfl rfl (q_idx EInt 1 rfl rfl (fun _ => rfl) rfl (fun _ => rfl) rfl rfl rfl Mm rfl (fun _ => rfl) (fun _ => by first | assumption | omega)) ?_
        refine ra_q (.an (i := 5) (js := [6, 7, 8, 9]) rfl Kr Kr Kr Kr) (.drop (SplitB.all _)) (by intro g hg; simp at hg; simp [hg]) rfl rfl rfl (q_le1 EInt rfl rfl (fun _ => rfl) rfl rfl Mm (fun _ => by first | assumption | omega) rfl) ?_
        refine Ra 6 [] rfl Qp ?_
        refine ra_one 7 Kr ?_
        refine rw_st1 (.an rfl rfl) (.inr (by simp)) (guard_none rfl) rfl rfl rfl rfl rfl rfl rfl rfl rfl Ub rfl ?_
        refine Ra 8 [] rfl Qp ?_
        refine ra_one 9 Kr ?_
        refine rw_st1 (.an rfl rfl) (.inr (by simp)) (guard_none rfl) rfl rfl rfl rfl rfl rfl rfl rfl rfl Ub rfl ?_
        refine Ra 10 [] rfl Qp ?_
        refine ra_one 11 Kr ?_
        refine rw_st1 (.an rfl rfl) (.inr (by simp)) (guard_none rfl) rfl rfl rfl rfl rfl rfl rfl rfl rfl Ub rfl ?_
        refine ra_nil Kr ?_
        refine Tx ?_
        refine Fr EInt ?_
        refine Cl (orangeryref_CheckRec_spec (⟨none, 0⟩ : SlV) (⟨2, (gt n1 0), (gt n1 1), ([] : List Int), (⟨0, 0, 0, 0, 0, 0, 0⟩ : Op)⟩ : Rec)) fun _ => ?_
        refine Tx ?_
        refine Cd (b := ((orangeryref_CheckRec (⟨2, (gt n1 0), (gt n1 1), ([] : List Int), (⟨0, 0, 0, 0, 0, 0, 0⟩ : Op)⟩ : Rec)) != 0)) (fun hc6 => ?_) fun hc6 => ?_
        · have hc6p := bne_iff_ne.1 hc6
          refine Tx ?_
          have hr4 : (orangeryref_RecRead s1) = ((⟨0, 0, 0, ([] : List Int), (⟨0, 0, 0, 0, 0, 0, 0⟩ : Op)⟩ : Rec), (orangeryref_CheckRec (⟨2, (gt n1 0), (gt n1 1), ([] : List Int), (⟨0, 0, 0, 0, 0, 0, 0⟩ : Op)⟩ : Rec))) := by rw [← hf1]; (conv => lhs; rw [← hlt0_]); simp only [orangeryref_RecRead_L0, hc1, hc3, hc5, hc6, cond_true, cond_false]
          refine cw_ret ?_; rw [hr4]; exact Re (⟨none, 0⟩ : SlV) (Va (Vt Vn))
        · have hc6p := eq_of_bne_false hc6
          refine Tx ?_
          have hr5 : (orangeryref_RecRead s1) = ((⟨2, (gt n1 0), (gt n1 1), ([] : List Int), (⟨0, 0, 0, 0, 0, 0, 0⟩ : Op)⟩ : Rec), 0) := by rw [← hf1]; (conv => lhs; rw [← hlt0_]); simp only [orangeryref_RecRead_L0, hc1, hc3, hc5, hc6, cond_true, cond_false]
          refine cw_ret ?_; rw [hr5]; exact Re (⟨none, 0⟩ : SlV) (Va (Vt Vn))
      · refine Tx ?_
        refine rw_q rfl rfl rfl (q_eqS (a := (cutc 32 s1).1) (b := ([114, 111, 111, 116, 115] : Str)) rfl rfl (fun _ => rfl) rfl (fun _ => rfl)) ?_
        refine Tx ?_
        refine Cd (b := ((((cutc 32 s1).1) == ([114, 111, 111, 116, 115] : Str)) && decide ((n1.length : Int) ≥ 1))) (fun hc7 => ?_) fun hc7 => ?_
        · have hl7 := len_ge hc7
          (repeat refine cw_seq ?_); refine cw_regionA (fun j => match j with | 6 => some [g2] | 8 => some [g2] | 10 => some [g2] | _ => some []) ?_
          refine ra_q (.ab (i := 0) (js := [3, 4, 5, 6]) [1, 2, 7, 8, 9, 10] rfl Kr Kr Kr Kr Kr) (.drop (SplitB.all _)) (by intro g hg; simp at hg; simp [hg]) rfl rfl rfl (q_pev rfl (fun _ => rfl)) ?_
          refine ra_q (.an (i := 1) (js := [3, 4, 5, 6]) rfl Kr Kr Kr Kr) (.drop (SplitB.all _)) (by intro g hg; simp at hg; simp [hg]) rfl rfl rfl (q_idx EInt 0 rfl rfl (fun _ => rfl) rfl (fun _ => rfl) rfl rfl rfl Mm rfl (fun _ => rfl) (fun _ => by first | assumption | omega)) ?_
          refine ra_q (.an (i := 2) (js := [3, 4, 5, 6]) rfl Kr Kr Kr Kr) (.drop (SplitB.all _)) (by intro g hg; simp at hg; simp [hg]) rfl rfl rfl (q_le1 EInt rfl rfl (fun _ => rfl) rfl rfl Mm (fun _ => by first | assumption | omega) rfl) ?_
          refine ra_q (.an (i := 3) (js := [5, 6, 7, 8]) rfl Kr Kr Kr Kr) (.drop (SplitB.all _)) (by intro g hg; simp at hg; simp [hg]) rfl rfl rfl (q_pev rfl (fun _ => rfl)) ?_
          refine ra_q (.an (i := 4) (js := [5, 6, 7, 8]) rfl Kr Kr Kr Kr) (.drop (SplitB.all _)) (by intro g hg; simp at hg; simp [hg]) rfl rfl rfl (q_drop EInt 1 rfl rfl (fun _ => rfl) rfl (fun _ => rfl) rfl rfl (fun _ => by omega) (fun _ => by omega)) ?_
          refine rw_fact (F := RdL EInt (⟨slA x1.a x1.c 1 EInt.esz, x1.c - 1⟩ : SlV) (n1.drop 1)) [RdL EInt x1 n1] Sm (fun M w h => (allF1 h).drop _ (by omega)) ?_
          refine Ra 5 [] rfl Qp ?_
          refine ra_one 6 Kr ?_
          refine rw_st1 (.an rfl rfl) (.inr (by simp)) (guard_none rfl) rfl rfl rfl rfl rfl rfl rfl rfl rfl Ub rfl ?_
          refine Ra 7 [] rfl Qp ?_
          refine ra_one 8 Kr ?_
          refine rw_st1 (.an rfl rfl) (.inr (by simp)) (guard_none rfl) rfl rfl rfl rfl rfl rfl rfl rfl rfl Ub rfl ?_
          refine Ra 9 [] rfl Qp ?_
          refine ra_one 10 Kr ?_
          refine rw_st1 (.an rfl rfl) (.inr (by simp)) (guard_none rfl) rfl rfl rfl rfl rfl rfl rfl rfl rfl Ub rfl ?_
          refine ra_nil Kr ?_
          refine Tx ?_
          refine Cl (orangeryref_CheckRec_spec (⟨slA x1.a x1.c 1 EInt.esz, x1.c - 1⟩ : SlV) (⟨3, (gt n1 0), 0, (n1.drop 1), (⟨0, 0, 0, 0, 0, 0, 0⟩ : Op)⟩ : Rec)) fun _ => ?_
          refine Tx ?_
          refine Cd (b := ((orangeryref_CheckRec (⟨3, (gt n1 0), 0, (n1.drop 1), (⟨0, 0, 0, 0, 0, 0, 0⟩ : Op)⟩ : Rec)) != 0)) (fun hc8 => ?_) fun hc8 => ?_
          · have hc8p := bne_iff_ne.1 hc8
            refine Tx ?_
            refine Fc EInt ?_
            have hr6 : (orangeryref_RecRead s1) = ((⟨0, 0, 0, ([] : List Int), (⟨0, 0, 0, 0, 0, 0, 0⟩ : Op)⟩ : Rec), (orangeryref_CheckRec (⟨3, (gt n1 0), 0, (n1.drop 1), (⟨0, 0, 0, 0, 0, 0, 0⟩ : Op)⟩ : Rec))) := by rw [← hf1]; (conv => lhs; rw [← hlt0_]); simp only [orangeryref_RecRead_L0, hc1, hc3, hc5, hc7, hc8, cond_true, cond_false]
            refine cw_ret ?_; rw [hr6]; exact Re (⟨none, 0⟩ : SlV) (Va (Vt Vn))
          · have hc8p := eq_of_bne_false hc8
            refine Tx ?_
            have hr7 : (orangeryref_RecRead s1) = ((⟨3, (gt n1 0), 0, (n1.drop 1), (⟨0, 0, 0, 0, 0, 0, 0⟩ : Op)⟩ : Rec), 0) := by rw [← hf1]; (conv => lhs; rw [← hlt0_]); simp only [orangeryref_RecRead_L0, hc1, hc3, hc5, hc7, hc8, cond_true, cond_false]
            refine cw_ret ?_; rw [hr7]; exact Re (⟨slA x1.a x1.c 1 EInt.esz, x1.c - 1⟩ : SlV) (Va (Vt Vn))
        · refine Tx ?_
          refine Fc EInt ?_
          have hr8 : (orangeryref_RecRead s1) = ((⟨0, 0, 0, ([] : List Int), (⟨0, 0, 0, 0, 0, 0, 0⟩ : Op)⟩ : Rec), 1) := by rw [← hf1]; (conv => lhs; rw [← hlt0_]); simp only [orangeryref_RecRead_L0, hc1, hc3, hc5, hc7, cond_true, cond_false]
          refine cw_ret ?_; rw [hr8]; exact Re (⟨none, 0⟩ : SlV) (Va (Vt Vn))
end Go.Proofs.YtaiefncoholnnaaDoor
