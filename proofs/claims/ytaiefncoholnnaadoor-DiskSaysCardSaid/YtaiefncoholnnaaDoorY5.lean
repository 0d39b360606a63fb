/- Part of this claim. No condition. -/
import Derived.Test.YtaiefncoholnnaaDoorY2
set_option linter.unusedVariables false
set_option linter.unusedSimpArgs false
set_option maxHeartbeats 2000000
namespace Go.Proofs.YtaiefncoholnnaaDoor
open Go Go.Proofs.YtaiefncoholnnaaDoor.Fw Go.Proofs
attribute [local irreducible] RdL RdN VarP LibP RW CW

theorem len_of {p : Bool} {n : Nat} {k : Int} (h : (p && ((n : Int) == k)) = true) : (n : Int) = k := by simp at h; exact h.2
theorem len_gt {p : Bool} {n : Nat} (h : (p && decide ((n : Int) > 0)) = true) : 0 < n := by simp at h; exact h.2
theorem len_ge {p : Bool} {n : Nat} (h : (p && decide ((n : Int) ≥ 1)) = true) : 0 < n := by simp at h; omega
theorem gt_spl_len {c : UInt8} {s : Str} {i : Nat} (h : i < ((spl c s).drop 1).length) : (gt ((spl c s).drop 1) i).length ≤ s.length := spl_mem_len (List.mem_of_mem_drop (gt_mem h))

def note_Parse_L0 (s1 : Str) : List Str → (List Int) → (Rec × Int)
  | [], n1 => (bif (((gt (spl 32 s1) 0) == ([111, 112] : Str)) && ((n1.length : Int) == 7)) then (bif ((note_Check (⟨1, 0, 0, ([] : List Int), (⟨(gt n1 0), (gt n1 1), (gt n1 2), (gt n1 3), (gt n1 4), (gt n1 5), (gt n1 6)⟩ : Op)⟩ : Rec)) != 0) then ((⟨0, 0, 0, ([] : List Int), (⟨0, 0, 0, 0, 0, 0, 0⟩ : Op)⟩ : Rec), (note_Check (⟨1, 0, 0, ([] : List Int), (⟨(gt n1 0), (gt n1 1), (gt n1 2), (gt n1 3), (gt n1 4), (gt n1 5), (gt n1 6)⟩ : Op)⟩ : Rec))) else ((⟨1, 0, 0, ([] : List Int), (⟨(gt n1 0), (gt n1 1), (gt n1 2), (gt n1 3), (gt n1 4), (gt n1 5), (gt n1 6)⟩ : Op)⟩ : Rec), 0)) else (bif (((gt (spl 32 s1) 0) == ([108, 105, 102, 101] : Str)) && ((n1.length : Int) == 2)) then (bif ((note_Check (⟨2, (gt n1 0), (gt n1 1), ([] : List Int), (⟨0, 0, 0, 0, 0, 0, 0⟩ : Op)⟩ : Rec)) != 0) then ((⟨0, 0, 0, ([] : List Int), (⟨0, 0, 0, 0, 0, 0, 0⟩ : Op)⟩ : Rec), (note_Check (⟨2, (gt n1 0), (gt n1 1), ([] : List Int), (⟨0, 0, 0, 0, 0, 0, 0⟩ : Op)⟩ : Rec))) else ((⟨2, (gt n1 0), (gt n1 1), ([] : List Int), (⟨0, 0, 0, 0, 0, 0, 0⟩ : Op)⟩ : Rec), 0)) else (bif (((gt (spl 32 s1) 0) == ([114, 111, 111, 116, 115] : Str)) && decide ((n1.length : Int) > 0)) then (bif ((note_Check (⟨3, (gt n1 0), 0, (n1.drop 1), (⟨0, 0, 0, 0, 0, 0, 0⟩ : Op)⟩ : Rec)) != 0) then ((⟨0, 0, 0, ([] : List Int), (⟨0, 0, 0, 0, 0, 0, 0⟩ : Op)⟩ : Rec), (note_Check (⟨3, (gt n1 0), 0, (n1.drop 1), (⟨0, 0, 0, 0, 0, 0, 0⟩ : Op)⟩ : Rec))) else ((⟨3, (gt n1 0), 0, (n1.drop 1), (⟨0, 0, 0, 0, 0, 0, 0⟩ : Op)⟩ : Rec), 0)) else ((⟨0, 0, 0, ([] : List Int), (⟨0, 0, 0, 0, 0, 0, 0⟩ : Op)⟩ : Rec), 1))))
  | pn2 :: rn2, n1 => (bif ((ate pn2) || ((Lib.itoa (atv pn2)) != pn2)) then ((⟨0, 0, 0, ([] : List Int), (⟨0, 0, 0, 0, 0, 0, 0⟩ : Op)⟩ : Rec), 1) else (note_Parse_L0 s1 rn2 (n1 ++ [(atv pn2)])))
def note_Parse (s1 : Str) : Rec × Int :=
  (bif decide ((s1.length : Int) > 60000) then ((⟨0, 0, 0, ([] : List Int), (⟨0, 0, 0, 0, 0, 0, 0⟩ : Op)⟩ : Rec), 2) else (note_Parse_L0 s1 ((spl 32 s1).drop 1) []))
theorem note_Parse_spec (s1 : Str) : Does Tryd.prog 10 [sV s1] [LibP Tryd.prog] (fun (X : SlV) => .tuple #[.agg ⟨[.int .i64 (((note_Parse s1).1).kind), .int .i64 (((note_Parse s1).1).who), .int .i64 (((note_Parse s1).1).life), X.val (((note_Parse s1).1).roots).length, .int .i64 ((((note_Parse s1).1).o).time), .int .i64 ((((note_Parse s1).1).o).who), .int .i64 ((((note_Parse s1).1).o).node), .int .i64 ((((note_Parse s1).1).o).parent), .int .i64 ((((note_Parse s1).1).o).name), .int .i64 ((((note_Parse s1).1).o).life), .int .i64 ((((note_Parse s1).1).o).seq)]⟩, .int .i64 ((note_Parse s1).2)]) (fun (X : SlV) => [RdL EInt X (((note_Parse s1).1).roots)]) := by
  refine does_of tab_ok Tryd.func10 rfl Tryd.ntmps10 Tryd.results10 rfl inferInstance (fun _ => inferInstance) fun C => ?_
  refine Tx ?_
  refine Al fun g1 => ?_
  refine Tx ?_
  refine rw_q rfl rfl rfl (q_lenS (a := s1) rfl rfl (fun _ => rfl) und_9) ?_
  refine Tx ?_
  refine Cd (b := decide ((s1.length : Int) > 60000)) (fun hc1 => ?_) fun hc1 => ?_
  · have hc1p := of_decide_eq_true hc1
    refine Tx ?_
    refine Fc EInt ?_
    have hr1 : (note_Parse s1) = ((⟨0, 0, 0, ([] : List Int), (⟨0, 0, 0, 0, 0, 0, 0⟩ : Op)⟩ : Rec), 2) := by simp only [note_Parse, hc1, cond_true, cond_false]
    refine cw_ret ?_; rw [hr1]; exact Re (⟨none, 0⟩ : SlV) (Va (Vt Vn))
  · have hc1p := of_decide_eq_false hc1
    refine Tx ?_
    refine Cl (lib_Split s1 ([32] : Str) rfl (by omega)) fun x1 => ?_
    refine Pr EStr x1 (spl 32 s1) 16 fun hlen1 => ?_
    have hspl := (spl_len 32 s1).1
    refine Tx ?_
    refine rw_q rfl rfl rfl (q_drop EStr 1 rfl rfl (fun _ => rfl) rfl (fun _ => rfl) rfl rfl (fun _ => by omega) (fun _ => by omega)) ?_
    refine rw_fact (F := RdL EStr (⟨slA x1.a x1.c 1 EStr.esz, x1.c - 1⟩ : SlV) ((spl 32 s1).drop 1)) [RdL EStr x1 (spl 32 s1)] Sm (fun M w h => (allF1 h).drop _ (by omega)) ?_
    refine Tx ?_
    refine Pc EStr (⟨slA x1.a x1.c 1 EStr.esz, x1.c - 1⟩ : SlV) ((spl 32 s1).drop 1) 16 fun hlen2 => ?_
    (repeat refine cw_seq ?_); refine Lp [2,3,4,19,20] [true] (fun (i_ : List Int × SlV × Option Nat × Nat) => match i_ with | ⟨n1, x2, x2b, n2⟩ => (⟨[(5, .v (x2.val n1.length)), (21, .v (.int .i64 (n2 : Int)))], [], [ownL EInt 3 x2 x2b n1], [], (n2 ≤ ((spl 32 s1).drop 1).length) ∧ (n1.length ≤ n2) ∧ (note_Parse_L0 s1 (((spl 32 s1).drop 1).drop n2) n1) = (note_Parse s1), ((spl 32 s1).drop 1).length - n2⟩ : Ls)) ⟨[], ⟨none, 0⟩, none, 0⟩ (Sc (Sc (Sc (Sc (Sc Sn))))) (.keep (.nil)) ⟨Nat.zero_le _, (by first | exact Nat.le_refl _ | exact Nat.zero_le _ | omega), (by simp only [note_Parse, hc1, cond_true, cond_false] : (note_Parse s1) = (note_Parse_L0 s1 ((spl 32 s1).drop 1) [])).symm⟩ (Le.trans (le_nilL EInt 3) Le4) ?_
    rintro ⟨n1, x2, x2b, n2⟩ ⟨hkn2, hn1, hf1⟩
    simp only [List.cons_append, List.nil_append]
    refine Tx ?_
    refine Cd (b := decide ((n2 : Int) < (((spl 32 s1).drop 1).length : Int))) (fun hc2 => ?_) fun hc2 => ?_
    · have hlt0 : n2 < ((spl 32 s1).drop 1).length := Int.ofNat_lt.1 (of_decide_eq_true hc2)
      refine Tx ?_
      refine rw_q rfl rfl rfl (q_idx EStr n2 rfl rfl (fun _ => rfl) rfl (fun _ => rfl) rfl rfl rfl Mm rfl (fun _ => rfl) (fun _ => by first | assumption | omega)) ?_
      refine rw_q rfl rfl rfl (q_le1 EStr rfl rfl (fun _ => rfl) rfl rfl Mm (fun _ => by first | assumption | omega) rfl) ?_
      refine Tx ?_
      refine Cl (lib_Atoi (gt ((spl 32 s1).drop 1) n2) (Nat.le_trans (gt_spl_len hlt0) (by omega))) fun x3 => ?_
      refine Tx ?_
      refine rw_q rfl rfl rfl (q_neNil rfl rfl (fun _ => rfl) und_64) ?_
      refine Tx ?_
      refine rw_callg (fun hG_ => lib_Itoa (atv (gt ((spl 32 s1).drop 1) n2)) (atv_bounds _)) (fun _ => rfl) .sq (guard_vf rfl rfl rfl) rfl rfl rfl Kr rfl Bt Sm ?_
      refine Tx ?_
      refine rw_qg (guard_vf rfl rfl rfl) rfl rfl (q_neS (a := (Lib.itoa (atv (gt ((spl 32 s1).drop 1) n2)))) (b := (gt ((spl 32 s1).drop 1) n2)) rfl rfl Bt rfl Bt) ?_
      refine Tx ?_
      refine Cd (b := ((ate (gt ((spl 32 s1).drop 1) n2)) || ((Lib.itoa (atv (gt ((spl 32 s1).drop 1) n2))) != (gt ((spl 32 s1).drop 1) n2)))) (fun hc3 => ?_) fun hc3 => ?_
      · refine Tx ?_
        refine Fc EInt ?_
        have hr2 : (note_Parse s1) = ((⟨0, 0, 0, ([] : List Int), (⟨0, 0, 0, 0, 0, 0, 0⟩ : Op)⟩ : Rec), 1) := by rw [← hf1, drop_gt hlt0]; simp only [note_Parse_L0, hc3, cond_true, cond_false]
        refine cw_ret ?_; rw [hr2]; exact Re (⟨none, 0⟩ : SlV) (Va (Vt Vn))
      · refine Tx ?_
        refine rw_bsliceL EInt [(atv (gt ((spl 32 s1).drop 1) n2))] .sq (guard_none rfl) rfl rfl rfl rfl rfl rfl rfl rfl rfl rfl rfl rfl rfl rfl rfl fun x4 x4b => ?_
        refine rw_appendL EInt n1 [(atv (gt ((spl 32 s1).drop 1) n2))] (b := x2b) .sq (fun _ _ => .inl ⟨_, rfl⟩) (guard_none rfl) rfl rfl rfl rfl rfl rfl rfl (fun _ _ => Uo) rfl rfl rfl rfl rfl rfl rfl (reads_ownL (e := 3) (b := x4b) Mm) (by show (n1.length + 1) * 8 ≤ 140737488355328; (try simp only [List.length_append, List.length_cons, List.length_nil]); omega) fun x5 x5b => ?_
        refine Tx ?_
        refine rw_q rfl rfl rfl (q_add rfl rfl (fun _ => rfl) rfl (fun _ => rfl) (fun _ => by omega)) ?_
        refine Tx ?_
        refine ⟨⟨(n1 ++ [(atv (gt ((spl 32 s1).drop 1) n2))]), x5, x5b, (n2 + 1)⟩, ⟨hlt0, (by simp only [List.length_append, List.length_cons, List.length_nil]; omega), (by rw [← hf1, drop_gt hlt0]; simp only [note_Parse_L0, hc3, cond_true, cond_false] : (note_Parse s1) = (note_Parse_L0 s1 (((spl 32 s1).drop 1).drop (n2 + 1)) (n1 ++ [(atv (gt ((spl 32 s1).drop 1) n2))]))).symm⟩, (by simp only []; omega), Le4⟩
    · have hge0 : ((spl 32 s1).drop 1).length ≤ n2 := by have := of_decide_eq_false hc2; omega
      refine cw_le (le_freezeL EInt 3 x2 x2b n1 Uo) ?_
      refine Tx ?_
      refine Al fun g2 => ?_
      refine Tx ?_
      refine rw_q rfl rfl rfl (q_idx EStr 0 rfl rfl (fun _ => rfl) rfl (fun _ => rfl) rfl rfl rfl Mm rfl (fun _ => rfl) (fun _ => by first | assumption | omega)) ?_
      refine rw_q rfl rfl rfl (q_le1 EStr rfl rfl (fun _ => rfl) rfl rfl Mm (fun _ => by first | assumption | omega) rfl) ?_
      refine rw_q rfl rfl rfl (q_eqS (a := (gt (spl 32 s1) 0)) (b := ([111, 112] : Str)) rfl rfl (fun _ => rfl) rfl (fun _ => rfl)) ?_
      refine Tx ?_
      refine Cd (b := (((gt (spl 32 s1) 0) == ([111, 112] : Str)) && ((n1.length : Int) == 7))) (fun hc4 => ?_) fun hc4 => ?_
      · have hl7 := len_of hc4
        (repeat refine cw_seq ?_); refine cw_regionA (fun j => match j with | 24 => some [g2] | _ => some []) ?_
        refine Rb 0 [3,4,5,7,8,9,10,11,12,13,14,15,16,17,18,19,20,21] [1,2,6,22,23,24] rfl Qp ?_
        refine Rb 1 [3,4,5,7,8,9,10,11,12,13,14,15,16,17,18,19,20,21] [2,6,22,23,24] rfl (q_idx EInt 0 rfl rfl (fun _ => rfl) rfl (fun _ => rfl) rfl rfl rfl Mm rfl (fun _ => rfl) (fun _ => by first | assumption | omega)) ?_
        refine Rb 2 [3,4,5,7,8,9,10,11,12,13,14,15,16,17,18,19,20,21] [6,22,23,24] rfl (q_le1 EInt rfl rfl (fun _ => rfl) rfl rfl Mm (fun _ => by first | assumption | omega) rfl) ?_
        refine Rb 3 [7,8,9,10,11,12,13,14,15,16,17,18,19,20,21] [4,5,6,22,23,24] rfl Qp ?_
        refine Rb 4 [7,8,9,10,11,12,13,14,15,16,17,18,19,20,21] [5,6,22,23,24] rfl (q_idx EInt 1 rfl rfl (fun _ => rfl) rfl (fun _ => rfl) rfl rfl rfl Mm rfl (fun _ => rfl) (fun _ => by first | assumption | omega)) ?_
        refine Rb 5 [7,8,9,10,11,12,13,14,15,16,17,18,19,20,21] [6,22,23,24] rfl (q_le1 EInt rfl rfl (fun _ => rfl) rfl rfl Mm (fun _ => by first | assumption | omega) rfl) ?_
        refine Rb 6 [7,8,9,10,11,12,13,14,15,16,17,18,19,20,21] [22,23,24] rfl Qp ?_
        refine Rb 7 [10,11,12,13,14,15,16,17,18,19,20,21] [8,9,22,23,24] rfl Qp ?_
        refine Rb 8 [10,11,12,13,14,15,16,17,18,19,20,21] [9,22,23,24] rfl (q_idx EInt 2 rfl rfl (fun _ => rfl) rfl (fun _ => rfl) rfl rfl rfl Mm rfl (fun _ => rfl) (fun _ => by first | assumption | omega)) ?_
        refine Rb 9 [10,11,12,13,14,15,16,17,18,19,20,21] [22,23,24] rfl (q_le1 EInt rfl rfl (fun _ => rfl) rfl rfl Mm (fun _ => by first | assumption | omega) rfl) ?_
        refine Rb 10 [13,14,15,16,17,18,19,20,21] [11,12,22,23,24] rfl Qp ?_
        refine Rb 11 [13,14,15,16,17,18,19,20,21] [12,22,23,24] rfl (q_idx EInt 3 rfl rfl (fun _ => rfl) rfl (fun _ => rfl) rfl rfl rfl Mm rfl (fun _ => rfl) (fun _ => by first | assumption | omega)) ?_
        refine Rb 12 [13,14,15,16,17,18,19,20,21] [22,23,24] rfl (q_le1 EInt rfl rfl (fun _ => rfl) rfl rfl Mm (fun _ => by first | assumption | omega) rfl) ?_
        refine Rb 13 [16,17,18,19,20,21] [14,15,22,23,24] rfl Qp ?_
        refine Rb 14 [16,17,18,19,20,21] [15,22,23,24] rfl (q_idx EInt 4 rfl rfl (fun _ => rfl) rfl (fun _ => rfl) rfl rfl rfl Mm rfl (fun _ => rfl) (fun _ => by first | assumption | omega)) ?_
        refine Rb 15 [16,17,18,19,20,21] [22,23,24] rfl (q_le1 EInt rfl rfl (fun _ => rfl) rfl rfl Mm (fun _ => by first | assumption | omega) rfl) ?_
        refine Rb 16 [19,20,21] [17,18,22,23,24] rfl Qp ?_
        refine Rb 17 [19,20,21] [18,22,23,24] rfl (q_idx EInt 5 rfl rfl (fun _ => rfl) rfl (fun _ => rfl) rfl rfl rfl Mm rfl (fun _ => rfl) (fun _ => by first | assumption | omega)) ?_
        refine Rb 18 [19,20,21] [22,23,24] rfl (q_le1 EInt rfl rfl (fun _ => rfl) rfl rfl Mm (fun _ => by first | assumption | omega) rfl) ?_
        refine Rb 19 [] [20,21,22,23,24] rfl Qp ?_
        refine Rb 20 [] [21,22,23,24] rfl (q_idx EInt 6 rfl rfl (fun _ => rfl) rfl (fun _ => rfl) rfl rfl rfl Mm rfl (fun _ => rfl) (fun _ => by first | assumption | omega)) ?_
        refine Rb 21 [] [22,23,24] rfl (q_le1 EInt rfl rfl (fun _ => rfl) rfl rfl Mm (fun _ => by first | assumption | omega) rfl) ?_
        refine Ra 22 [] rfl Qp ?_
        refine Ra 23 [] rfl Qp ?_
        refine ra_one 24 Kr ?_
        refine rw_stA (.an rfl rfl) (.inr (by simp)) (guard_none rfl) rfl rfl rfl rfl rfl rfl rfl rfl rfl Ub rfl ?_
        refine ra_nil Kr ?_
        refine Tx ?_
        refine Fr EInt ?_
        refine Cl (note_Check_spec (⟨none, 0⟩ : SlV) (⟨1, 0, 0, ([] : List Int), (⟨(gt n1 0), (gt n1 1), (gt n1 2), (gt n1 3), (gt n1 4), (gt n1 5), (gt n1 6)⟩ : Op)⟩ : Rec)) fun _ => ?_
        refine Tx ?_
        refine Cd (b := ((note_Check (⟨1, 0, 0, ([] : List Int), (⟨(gt n1 0), (gt n1 1), (gt n1 2), (gt n1 3), (gt n1 4), (gt n1 5), (gt n1 6)⟩ : Op)⟩ : Rec)) != 0)) (fun hc5 => ?_) fun hc5 => ?_
        · have hc5p := bne_iff_ne.1 hc5
          refine Tx ?_
          have hr3 : (note_Parse s1) = ((⟨0, 0, 0, ([] : List Int), (⟨0, 0, 0, 0, 0, 0, 0⟩ : Op)⟩ : Rec), (note_Check (⟨1, 0, 0, ([] : List Int), (⟨(gt n1 0), (gt n1 1), (gt n1 2), (gt n1 3), (gt n1 4), (gt n1 5), (gt n1 6)⟩ : Op)⟩ : Rec))) := by rw [← hf1, List.drop_of_length_le hge0]; simp only [note_Parse_L0, hc4, hc5, cond_true, cond_false]
          refine cw_ret ?_; rw [hr3]; exact Re (⟨none, 0⟩ : SlV) (Va (Vt Vn))
        · have hc5p := eq_of_bne_false hc5
          refine Tx ?_
          have hr4 : (note_Parse s1) = ((⟨1, 0, 0, ([] : List Int), (⟨(gt n1 0), (gt n1 1), (gt n1 2), (gt n1 3), (gt n1 4), (gt n1 5), (gt n1 6)⟩ : Op)⟩ : Rec), 0) := by rw [← hf1, List.drop_of_length_le hge0]; simp only [note_Parse_L0, hc4, hc5, cond_true, cond_false]
          refine cw_ret ?_; rw [hr4]; exact Re (⟨none, 0⟩ : SlV) (Va (Vt Vn))
      · refine Tx ?_
        refine rw_q rfl rfl rfl (q_idx EStr 0 rfl rfl (fun _ => rfl) rfl (fun _ => rfl) rfl rfl rfl Mm rfl (fun _ => rfl) (fun _ => by first | assumption | omega)) ?_
        refine rw_q rfl rfl rfl (q_le1 EStr rfl rfl (fun _ => rfl) rfl rfl Mm (fun _ => by first | assumption | omega) rfl) ?_
        refine rw_q rfl rfl rfl (q_eqS (a := (gt (spl 32 s1) 0)) (b := ([108, 105, 102, 101] : Str)) rfl rfl (fun _ => rfl) rfl (fun _ => rfl)) ?_
        refine Tx ?_
        refine Cd (b := (((gt (spl 32 s1) 0) == ([108, 105, 102, 101] : Str)) && ((n1.length : Int) == 2))) (fun hc6 => ?_) fun hc6 => ?_
        · have hl7 := len_of hc6
          (repeat refine cw_seq ?_); refine cw_regionA (fun j => match j with | 7 => some [g2] | _ => some []) ?_
          refine Rb 0 [3,4,5] [1,2,6,7] rfl Qp ?_
          refine Rb 1 [3,4,5] [2,6,7] rfl (q_idx EInt 0 rfl rfl (fun _ => rfl) rfl (fun _ => rfl) rfl rfl rfl Mm rfl (fun _ => rfl) (fun _ => by first | assumption | omega)) ?_
          refine Ra 2 [3,4,5] rfl (q_le1 EInt rfl rfl (fun _ => rfl) rfl rfl Mm (fun _ => by first | assumption | omega) rfl) ?_
          refine Rb 3 [] [4,5,6,7] rfl Qp ?_
          refine Rb 4 [] [5,6,7] rfl (q_idx EInt 1 rfl rfl (fun _ => rfl) rfl (fun _ => rfl) rfl rfl rfl Mm rfl (fun _ => rfl) (fun _ => by first | assumption | omega)) ?_
          refine Ra 5 [] rfl (q_le1 EInt rfl rfl (fun _ => rfl) rfl rfl Mm (fun _ => by first | assumption | omega) rfl) ?_
          refine Ra 6 [] rfl Qp ?_
          refine ra_one 7 Kr ?_
          refine rw_stA (.an rfl rfl) (.inr (by simp)) (guard_none rfl) rfl rfl rfl rfl rfl rfl rfl rfl rfl Ub rfl ?_
          refine ra_nil Kr ?_
          refine Tx ?_
          refine Fr EInt ?_
          refine Cl (note_Check_spec (⟨none, 0⟩ : SlV) (⟨2, (gt n1 0), (gt n1 1), ([] : List Int), (⟨0, 0, 0, 0, 0, 0, 0⟩ : Op)⟩ : Rec)) fun _ => ?_
          refine Tx ?_
          refine Cd (b := ((note_Check (⟨2, (gt n1 0), (gt n1 1), ([] : List Int), (⟨0, 0, 0, 0, 0, 0, 0⟩ : Op)⟩ : Rec)) != 0)) (fun hc7 => ?_) fun hc7 => ?_
          · have hc7p := bne_iff_ne.1 hc7
            refine Tx ?_
            have hr5 : (note_Parse s1) = ((⟨0, 0, 0, ([] : List Int), (⟨0, 0, 0, 0, 0, 0, 0⟩ : Op)⟩ : Rec), (note_Check (⟨2, (gt n1 0), (gt n1 1), ([] : List Int), (⟨0, 0, 0, 0, 0, 0, 0⟩ : Op)⟩ : Rec))) := by rw [← hf1, List.drop_of_length_le hge0]; simp only [note_Parse_L0, hc4, hc6, hc7, cond_true, cond_false]
            refine cw_ret ?_; rw [hr5]; exact Re (⟨none, 0⟩ : SlV) (Va (Vt Vn))
          · have hc7p := eq_of_bne_false hc7
            refine Tx ?_
            have hr6 : (note_Parse s1) = ((⟨2, (gt n1 0), (gt n1 1), ([] : List Int), (⟨0, 0, 0, 0, 0, 0, 0⟩ : Op)⟩ : Rec), 0) := by rw [← hf1, List.drop_of_length_le hge0]; simp only [note_Parse_L0, hc4, hc6, hc7, cond_true, cond_false]
            refine cw_ret ?_; rw [hr6]; exact Re (⟨none, 0⟩ : SlV) (Va (Vt Vn))
        · refine Tx ?_
          refine rw_q rfl rfl rfl (q_idx EStr 0 rfl rfl (fun _ => rfl) rfl (fun _ => rfl) rfl rfl rfl Mm rfl (fun _ => rfl) (fun _ => by first | assumption | omega)) ?_
          refine rw_q rfl rfl rfl (q_le1 EStr rfl rfl (fun _ => rfl) rfl rfl Mm (fun _ => by first | assumption | omega) rfl) ?_
          refine rw_q rfl rfl rfl (q_eqS (a := (gt (spl 32 s1) 0)) (b := ([114, 111, 111, 116, 115] : Str)) rfl rfl (fun _ => rfl) rfl (fun _ => rfl)) ?_
          refine Tx ?_
          refine Cd (b := (((gt (spl 32 s1) 0) == ([114, 111, 111, 116, 115] : Str)) && decide ((n1.length : Int) > 0))) (fun hc8 => ?_) fun hc8 => ?_
          · have hl7 := len_gt hc8
            (repeat refine cw_seq ?_); refine cw_regionA (fun j => match j with | 6 => some [g2] | _ => some []) ?_
            refine Rb 0 [3,4] [1,2,5,6] rfl Qp ?_
            refine Rb 1 [3,4] [2,5,6] rfl (q_idx EInt 0 rfl rfl (fun _ => rfl) rfl (fun _ => rfl) rfl rfl rfl Mm rfl (fun _ => rfl) (fun _ => by first | assumption | omega)) ?_
            refine Ra 2 [3,4] rfl (q_le1 EInt rfl rfl (fun _ => rfl) rfl rfl Mm (fun _ => by first | assumption | omega) rfl) ?_
            refine Rb 3 [] [4,5,6] rfl Qp ?_
            refine Ra 4 [] rfl (q_drop EInt 1 rfl rfl (fun _ => rfl) rfl (fun _ => rfl) rfl rfl (fun _ => by omega) (fun _ => by omega)) ?_
            refine rw_fact (F := RdL EInt (⟨slA x2.a x2.c 1 EInt.esz, x2.c - 1⟩ : SlV) (n1.drop 1)) [RdL EInt x2 n1] Sm (fun M w h => (allF1 h).drop _ (by omega)) ?_
            refine Ra 5 [] rfl Qp ?_
            refine ra_one 6 Kr ?_
            refine rw_stA (.an rfl rfl) (.inr (by simp)) (guard_none rfl) rfl rfl rfl rfl rfl rfl rfl rfl rfl Ub rfl ?_
            refine ra_nil Kr ?_
            refine Tx ?_
            refine Cl (note_Check_spec (⟨slA x2.a x2.c 1 EInt.esz, x2.c - 1⟩ : SlV) (⟨3, (gt n1 0), 0, (n1.drop 1), (⟨0, 0, 0, 0, 0, 0, 0⟩ : Op)⟩ : Rec)) fun _ => ?_
            refine Tx ?_
            refine Cd (b := ((note_Check (⟨3, (gt n1 0), 0, (n1.drop 1), (⟨0, 0, 0, 0, 0, 0, 0⟩ : Op)⟩ : Rec)) != 0)) (fun hc9 => ?_) fun hc9 => ?_
            · have hc9p := bne_iff_ne.1 hc9
              refine Tx ?_
              refine Fc EInt ?_
              have hr7 : (note_Parse s1) = ((⟨0, 0, 0, ([] : List Int), (⟨0, 0, 0, 0, 0, 0, 0⟩ : Op)⟩ : Rec), (note_Check (⟨3, (gt n1 0), 0, (n1.drop 1), (⟨0, 0, 0, 0, 0, 0, 0⟩ : Op)⟩ : Rec))) := by rw [← hf1, List.drop_of_length_le hge0]; simp only [note_Parse_L0, hc4, hc6, hc8, hc9, cond_true, cond_false]
              refine cw_ret ?_; rw [hr7]; exact Re (⟨none, 0⟩ : SlV) (Va (Vt Vn))
            · have hc9p := eq_of_bne_false hc9
              refine Tx ?_
              have hr8 : (note_Parse s1) = ((⟨3, (gt n1 0), 0, (n1.drop 1), (⟨0, 0, 0, 0, 0, 0, 0⟩ : Op)⟩ : Rec), 0) := by rw [← hf1, List.drop_of_length_le hge0]; simp only [note_Parse_L0, hc4, hc6, hc8, hc9, cond_true, cond_false]
              refine cw_ret ?_; rw [hr8]; exact Re (⟨slA x2.a x2.c 1 EInt.esz, x2.c - 1⟩ : SlV) (Va (Vt Vn))
          · refine Tx ?_
            refine Fc EInt ?_
            have hr9 : (note_Parse s1) = ((⟨0, 0, 0, ([] : List Int), (⟨0, 0, 0, 0, 0, 0, 0⟩ : Op)⟩ : Rec), 1) := by rw [← hf1, List.drop_of_length_le hge0]; simp only [note_Parse_L0, hc4, hc6, hc8, cond_true, cond_false]
            refine cw_ret ?_; rw [hr9]; exact Re (⟨none, 0⟩ : SlV) (Va (Vt Vn))
end Go.Proofs.YtaiefncoholnnaaDoor
