/- Part of this claim. No condition. -/
import Derived.Test.YtaiefncoholnnaaDoorY24
import Derived.Test.YtaiefncoholnnaaDoorTLibD
import Derived.Test.YtaiefncoholnnaaDoorY6
set_option linter.unusedVariables false
set_option linter.unusedSimpArgs false
set_option maxHeartbeats 2000000
namespace Go.Proofs.YtaiefncoholnnaaDoor
open Go Go.Proofs.YtaiefncoholnnaaDoor.Fw Go.Proofs
attribute [local irreducible] RdL RdN VarP LibP RW CW
def strings_SplitAfter (s1 : Str) (sep1 : Str) : List Str :=
  (splA 10 s1)
theorem strings_SplitAfter_spec (s1 : Str) (sep1 : Str) (hs : sep1 = [10]) (hl : s1.length < 4294967281) : Does Tryd.prog 64 [sV s1, sV sep1] [LibP Tryd.prog] (fun (X : SlV) => X.val (strings_SplitAfter s1 sep1).length) (fun (X : SlV) => [RdL EStr X (strings_SplitAfter s1 sep1)]) := by
  refine does_of tab_ok Tryd.func64 rfl Tryd.ntmps64 Tryd.results64 rfl inferInstance (fun _ => inferInstance) fun C => ?_
  refine Tx ?_
  refine rw_q rfl rfl rfl (q_lenS (a := sep1) rfl rfl (fun _ => rfl) und_9) ?_
  refine Cl (lib_genSplit s1 sep1 (sep1.length : Int) (-1) hs (by rw [hs]; rfl) rfl hl) fun x1 => ?_
  refine Pr EStr x1 (splA 10 s1) 16 fun hlen1 => ?_
  refine Tx ?_
  have hr1 : (strings_SplitAfter s1 sep1) = (splA 10 s1) := by simp only [strings_SplitAfter, cond_true, cond_false]
  refine cw_ret ?_; rw [hr1]; exact Re x1 (Vt Vn)


theorem strings_SplitAfter_len (s sep : Str) : 0 < (strings_SplitAfter s sep).length ∧ (strings_SplitAfter s sep).length ≤ s.length + 1 := splA_len 10 s
theorem gt_splA_len {s sep : Str} {i : Nat} (h : i < (strings_SplitAfter s sep).length) : (gt (strings_SplitAfter s sep) i).length ≤ s.length := splA_mem_len (gt_mem h)

def orangeryref_linesOf_L0 (most1 : Int) : List Str → (List Rec) → Nat → ((List Rec) × Int × Int)
  | [], l1, n1 => (l1, (n1 : Int), 0)
  | pn2 :: rn2, l1, n1 => (bif (pn2 == ([] : Str)) then (l1, (n1 : Int), 0) else (bif (!(Lib.hasSuffix pn2 ([10] : Str))) then (l1, (n1 : Int), 8) else (bif ((((orangeryref_RecRead (pn2.take (pn2.length - 1))).2) == 0) && decide ((l1.length : Int) ≥ most1)) then (bif ((2 : Int) != 0) then (l1, (n1 : Int), 2) else (orangeryref_linesOf_L0 most1 rn2 (l1 ++ [((orangeryref_RecRead (pn2.take (pn2.length - 1))).1)]) (n1 + pn2.length))) else (bif (((orangeryref_RecRead (pn2.take (pn2.length - 1))).2) != 0) then (l1, (n1 : Int), (orangeryref_RecRead (pn2.take (pn2.length - 1))).2) else (orangeryref_linesOf_L0 most1 rn2 (l1 ++ [((orangeryref_RecRead (pn2.take (pn2.length - 1))).1)]) (n1 + pn2.length))))))
def orangeryref_linesOf (s1 : Str) (most1 : Int) : (List Rec) × Int × Int :=
  (orangeryref_linesOf_L0 most1 (strings_SplitAfter s1 ([10] : Str)) [] 0)
theorem orangeryref_linesOf_spec (s1 : Str) (most1 : Int) (hs : s1.length ≤ 60000) : Does Tryd.prog 49 [sV s1, .int .i64 most1] [LibP Tryd.prog] (fun (X : SlV) => .tuple #[X.val ((orangeryref_linesOf s1 most1).1).length, .int .i64 ((orangeryref_linesOf s1 most1).2.1), .int .i64 ((orangeryref_linesOf s1 most1).2.2)]) (fun (X : SlV) => [RdN NRec X ((orangeryref_linesOf s1 most1).1)]) := by
  refine does_of tab_ok Tryd.func49 rfl Tryd.ntmps49 Tryd.results49 rfl inferInstance (fun _ => inferInstance) fun C => ?_
  refine Tx ?_
  refine Cl (strings_SplitAfter_spec s1 ([10] : Str) rfl (by omega)) fun x1 => ?_
  refine Pr EStr x1 (strings_SplitAfter s1 ([10] : Str)) 16 fun hlen1 => ?_
  have hsl := strings_SplitAfter_len s1 [10]
  refine Tx ?_
  (repeat refine cw_seq ?_); refine Lp [1,4,5,6,14,15] [] (fun (i_ : List Rec × SlV × Option Nat × (Nat → SlV) × Nat × Nat) => match i_ with | ⟨l1, x2, x2b, γ1, n1, n2⟩ => (⟨[(7, .v (x2.val l1.length)), (8, .v (.int .i64 (n1 : Int))), (16, .v (.int .i64 (n2 : Int)))], [], [ownL NRec.E 28 x2 x2b (zipG γ1 0 l1)], [FactsG NRec γ1 l1], (n2 ≤ (strings_SplitAfter s1 ([10] : Str)).length) ∧ (l1.length ≤ n2) ∧ (0 ≤ n1 ∧ n1 ≤ n2 * 60001) ∧ (orangeryref_linesOf_L0 most1 ((strings_SplitAfter s1 ([10] : Str)).drop n2) l1 n1) = (orangeryref_linesOf s1 most1), (strings_SplitAfter s1 ([10] : Str)).length - n2⟩ : Ls)) ⟨[], ⟨none, 0⟩, none, (fun _ => default), 0, 0⟩ (Sc (Sc (Sc (Sc (Sc (Sc Sn)))))) (.nil) ⟨Nat.zero_le _, (by first | exact Nat.le_refl _ | exact Nat.zero_le _ | omega), (by first | exact Nat.le_refl _ | exact Nat.zero_le _ | omega), (by simp only [orangeryref_linesOf, cond_true, cond_false] : (orangeryref_linesOf s1 most1) = (orangeryref_linesOf_L0 most1 (strings_SplitAfter s1 ([10] : Str)) [] 0)).symm⟩ (Le.trans (le_nilL NRec.E 28) (Le.trans (le_fact (FactsG NRec (fun _ => default) ([] : List Rec)) [] (.nil _) (fun M w _ => FactsG.nil NRec _ M w)) Le4)) ?_
  rintro ⟨l1, x2, x2b, γ1, n1, n2⟩ ⟨hkn2, hl1, hn, hf1⟩
  simp only [List.cons_append, List.nil_append]
  refine Tx ?_
  refine Cd (b := decide ((n2 : Int) < ((strings_SplitAfter s1 ([10] : Str)).length : Int))) (fun hc1 => ?_) fun hc1 => ?_
  · have hlt0 : n2 < (strings_SplitAfter s1 ([10] : Str)).length := Int.ofNat_lt.1 (of_decide_eq_true hc1)
    have hpl := gt_splA_len hlt0
    refine Tx ?_
    refine rw_q rfl rfl rfl (q_idx EStr n2 rfl rfl (fun _ => rfl) rfl (fun _ => rfl) rfl rfl rfl Mm rfl (fun _ => rfl) (fun _ => by first | assumption | omega)) ?_
    refine rw_q rfl rfl rfl (q_le1 EStr rfl rfl (fun _ => rfl) rfl rfl Mm (fun _ => by first | assumption | omega) rfl) ?_
    refine Tx ?_
    refine rw_q rfl rfl rfl (q_eqS (a := (gt (strings_SplitAfter s1 ([10] : Str)) n2)) (b := ([] : Str)) rfl rfl (fun _ => rfl) rfl (fun _ => rfl)) ?_
    refine rw_nil ?_
    (repeat refine cw_seq ?_)
    refine Cd (b := ((gt (strings_SplitAfter s1 ([10] : Str)) n2) == ([] : Str))) (fun hc2 => ?_) fun hc2 => ?_
    · have hc2p := eq_of_beq hc2
      refine Tx ?_
      refine cw_le (le_freezeL NRec.E 28 x2 x2b (zipG γ1 0 l1) Uo) ?_
      refine cw_fact (F := RdN NRec x2 l1) [RdG NRec x2 γ1 l1, FactsG NRec γ1 l1] Sm (fun M w h => RdN.ofG NRec (h _ (.head _)) (h _ (.tail _ (.head _)))) ?_
      have hr1 : (orangeryref_linesOf s1 most1) = (l1, (n1 : Int), 0) := by rw [← hf1, drop_gt hlt0]; simp only [orangeryref_linesOf_L0, hc2, cond_true, cond_false]
      refine cw_ret ?_; rw [hr1]; exact Re x2 (Vt (Vt (Vt Vn)))
    · have hc2p := ne_of_beq_false hc2
      have hpos := List.length_pos_iff.2 (ne_of_beq_false hc2)
      refine Tx ?_
      refine Cl (lib_HasSuffix (gt (strings_SplitAfter s1 ([10] : Str)) n2) ([10] : Str) (by omega)) fun _ => ?_
      refine Tx ?_
      refine Cd (b := (!(Lib.hasSuffix (gt (strings_SplitAfter s1 ([10] : Str)) n2) ([10] : Str)))) (fun hc3 => ?_) fun hc3 => ?_
      · refine Tx ?_
        refine cw_le (le_freezeL NRec.E 28 x2 x2b (zipG γ1 0 l1) Uo) ?_
        refine cw_fact (F := RdN NRec x2 l1) [RdG NRec x2 γ1 l1, FactsG NRec γ1 l1] Sm (fun M w h => RdN.ofG NRec (h _ (.head _)) (h _ (.tail _ (.head _)))) ?_
        have hr2 : (orangeryref_linesOf s1 most1) = (l1, (n1 : Int), 8) := by rw [← hf1, drop_gt hlt0]; simp only [orangeryref_linesOf_L0, hc2, hc3, cond_true, cond_false]
        refine cw_ret ?_; rw [hr2]; exact Re x2 (Vt (Vt (Vt Vn)))
      · refine Tx ?_
        refine rw_q rfl rfl rfl (q_lenS (a := (gt (strings_SplitAfter s1 ([10] : Str)) n2)) rfl rfl (fun _ => rfl) und_9) ?_
        refine rw_q rfl rfl rfl (q_sub rfl rfl (fun _ => rfl) rfl (fun _ => rfl) (fun _ => by omega)) ?_
        refine rw_q rfl rfl rfl (q_takeStr (a := (gt (strings_SplitAfter s1 ([10] : Str)) n2)) ((gt (strings_SplitAfter s1 ([10] : Str)) n2).length - 1) rfl rfl (fun _ => rfl) rfl (fun _ => rfl) und_9 (fun _ => by omega) (fun _ => by omega)) ?_
        refine Cl (orangeryref_RecRead_spec ((gt (strings_SplitAfter s1 ([10] : Str)) n2).take ((gt (strings_SplitAfter s1 ([10] : Str)) n2).length - 1)) (Nat.le_trans (List.length_take_le _ _) (by omega))) fun x3 => ?_
        refine Pr EInt x3 (((orangeryref_RecRead ((gt (strings_SplitAfter s1 ([10] : Str)) n2).take ((gt (strings_SplitAfter s1 ([10] : Str)) n2).length - 1))).1).roots) 8 fun hlen2 => ?_
        refine Tx ?_
        refine Al fun g1 => ?_
        refine Tx ?_
        refine Cd (b := ((((orangeryref_RecRead ((gt (strings_SplitAfter s1 ([10] : Str)) n2).take ((gt (strings_SplitAfter s1 ([10] : Str)) n2).length - 1))).2) == 0) && decide ((l1.length : Int) ≥ most1))) (fun hc4 => ?_) fun hc4 => ?_
        · refine Tx ?_
          refine Cd (b := ((2 : Int) != 0)) (fun hc5 => ?_) fun hc5 => ?_
          · have hc5p := bne_iff_ne.1 hc5
            refine Tx ?_
            refine cw_le (le_freezeL NRec.E 28 x2 x2b (zipG γ1 0 l1) Uo) ?_
            refine cw_fact (F := RdN NRec x2 l1) [RdG NRec x2 γ1 l1, FactsG NRec γ1 l1] Sm (fun M w h => RdN.ofG NRec (h _ (.head _)) (h _ (.tail _ (.head _)))) ?_
            have hr3 : (orangeryref_linesOf s1 most1) = (l1, (n1 : Int), 2) := by rw [← hf1, drop_gt hlt0]; simp only [orangeryref_linesOf_L0, hc2, hc3, hc4, hc5, cond_true, cond_false]
            refine cw_ret ?_; rw [hr3]; exact Re x2 (Vt (Vt (Vt Vn)))
          · have hc5p := eq_of_bne_false hc5
            refine Tx ?_
            refine rw_bsliceL NRec.E [(x3, ((orangeryref_RecRead ((gt (strings_SplitAfter s1 ([10] : Str)) n2).take ((gt (strings_SplitAfter s1 ([10] : Str)) n2).length - 1))).1))] .sq (guard_none rfl) rfl rfl rfl rfl rfl rfl rfl rfl rfl rfl rfl rfl rfl (fillL_one rfl rfl) rfl fun x4 x4b => ?_
            refine rw_le (le_freezeL NRec.E 28 x4 x4b [(x3, ((orangeryref_RecRead ((gt (strings_SplitAfter s1 ([10] : Str)) n2).take ((gt (strings_SplitAfter s1 ([10] : Str)) n2).length - 1))).1))] Uo) ?_
            refine rw_fact (F := RdN NRec x4 [((orangeryref_RecRead ((gt (strings_SplitAfter s1 ([10] : Str)) n2).take ((gt (strings_SplitAfter s1 ([10] : Str)) n2).length - 1))).1)]) [RdL NRec.E x4 [(x3, ((orangeryref_RecRead ((gt (strings_SplitAfter s1 ([10] : Str)) n2).take ((gt (strings_SplitAfter s1 ([10] : Str)) n2).length - 1))).1))], RdL EInt x3 (((orangeryref_RecRead ((gt (strings_SplitAfter s1 ([10] : Str)) n2).take ((gt (strings_SplitAfter s1 ([10] : Str)) n2).length - 1))).1).roots)] Sm (fun M w h => RdN.of NRec (hs := [(x3, ((orangeryref_RecRead ((gt (strings_SplitAfter s1 ([10] : Str)) n2).take ((gt (strings_SplitAfter s1 ([10] : Str)) n2).length - 1))).1))]) rfl (h _ (.head _)) (allP_cons (allF_sub Sm h) (fun p hp => by cases hp))) ?_
            refine rw_exN NRec (X := x4) (l := [((orangeryref_RecRead ((gt (strings_SplitAfter s1 ([10] : Str)) n2).take ((gt (strings_SplitAfter s1 ([10] : Str)) n2).length - 1))).1)]) Mm fun (γ2 : Nat → SlV) => ?_
            refine rw_appendN NRec γ1 γ2 l1 [((orangeryref_RecRead ((gt (strings_SplitAfter s1 ([10] : Str)) n2).take ((gt (strings_SplitAfter s1 ([10] : Str)) n2).length - 1))).1)] (b := x2b) .sq (fun _ _ => .inl ⟨_, rfl⟩) (guard_none rfl) rfl rfl rfl rfl rfl rfl rfl (fun _ _ => Uo) rfl rfl rfl rfl rfl rfl rfl (reads_rdN (EN := NRec) (X := x4) (γ := γ2) (l := [((orangeryref_RecRead ((gt (strings_SplitAfter s1 ([10] : Str)) n2).take ((gt (strings_SplitAfter s1 ([10] : Str)) n2).length - 1))).1)]) Mm) (by show (l1.length + [((orangeryref_RecRead ((gt (strings_SplitAfter s1 ([10] : Str)) n2).take ((gt (strings_SplitAfter s1 ([10] : Str)) n2).length - 1))).1)].length) * 104 ≤ 140737488355328; (try simp only [List.length_append, List.length_cons, List.length_nil]); omega) fun x5 x5b => ?_
            refine rw_fact (F := FactsG NRec (appG γ1 l1.length γ2) (l1 ++ [((orangeryref_RecRead ((gt (strings_SplitAfter s1 ([10] : Str)) n2).take ((gt (strings_SplitAfter s1 ([10] : Str)) n2).length - 1))).1)])) [FactsG NRec γ1 l1, FactsG NRec γ2 [((orangeryref_RecRead ((gt (strings_SplitAfter s1 ([10] : Str)) n2).take ((gt (strings_SplitAfter s1 ([10] : Str)) n2).length - 1))).1)]] Sm (fun M w h => FactsG.app NRec (h _ (.head _)) (h _ (.tail _ (.head _)))) ?_
            refine Tx ?_
            refine rw_q rfl rfl rfl (q_lenS (a := (gt (strings_SplitAfter s1 ([10] : Str)) n2)) rfl rfl (fun _ => rfl) und_9) ?_
            refine rw_q rfl rfl rfl (q_add rfl rfl (fun _ => rfl) rfl (fun _ => rfl) (fun _ => by omega)) ?_
            refine Tx ?_
            refine rw_q rfl rfl rfl (q_add rfl rfl (fun _ => rfl) rfl (fun _ => rfl) (fun _ => by omega)) ?_
            refine Tx ?_
            refine ⟨⟨(l1 ++ [((orangeryref_RecRead ((gt (strings_SplitAfter s1 ([10] : Str)) n2).take ((gt (strings_SplitAfter s1 ([10] : Str)) n2).length - 1))).1)]), x5, x5b, (appG γ1 l1.length γ2), (n1 + (gt (strings_SplitAfter s1 ([10] : Str)) n2).length), (n2 + 1)⟩, ⟨hlt0, (by simp only [List.length_append, List.length_cons, List.length_nil]; omega), (by simp only [List.length_append, List.length_cons, List.length_nil]; omega), (by rw [← hf1, drop_gt hlt0]; simp only [orangeryref_linesOf_L0, hc2, hc3, hc4, hc5, cond_true, cond_false] : (orangeryref_linesOf s1 most1) = (orangeryref_linesOf_L0 most1 ((strings_SplitAfter s1 ([10] : Str)).drop (n2 + 1)) (l1 ++ [((orangeryref_RecRead ((gt (strings_SplitAfter s1 ([10] : Str)) n2).take ((gt (strings_SplitAfter s1 ([10] : Str)) n2).length - 1))).1)]) (n1 + (gt (strings_SplitAfter s1 ([10] : Str)) n2).length))).symm⟩, (by simp only []; omega), Le4⟩
        · refine Tx ?_
          refine Cd (b := (((orangeryref_RecRead ((gt (strings_SplitAfter s1 ([10] : Str)) n2).take ((gt (strings_SplitAfter s1 ([10] : Str)) n2).length - 1))).2) != 0)) (fun hc6 => ?_) fun hc6 => ?_
          · have hc6p := bne_iff_ne.1 hc6
            refine Tx ?_
            refine cw_le (le_freezeL NRec.E 28 x2 x2b (zipG γ1 0 l1) Uo) ?_
            refine cw_fact (F := RdN NRec x2 l1) [RdG NRec x2 γ1 l1, FactsG NRec γ1 l1] Sm (fun M w h => RdN.ofG NRec (h _ (.head _)) (h _ (.tail _ (.head _)))) ?_
            have hr4 : (orangeryref_linesOf s1 most1) = (l1, (n1 : Int), (orangeryref_RecRead ((gt (strings_SplitAfter s1 ([10] : Str)) n2).take ((gt (strings_SplitAfter s1 ([10] : Str)) n2).length - 1))).2) := by rw [← hf1, drop_gt hlt0]; simp only [orangeryref_linesOf_L0, hc2, hc3, hc4, hc6, cond_true, cond_false]
            refine cw_ret ?_; rw [hr4]; exact Re x2 (Vt (Vt (Vt Vn)))
          · have hc6p := eq_of_bne_false hc6
            refine Tx ?_
            refine rw_bsliceL NRec.E [(x3, ((orangeryref_RecRead ((gt (strings_SplitAfter s1 ([10] : Str)) n2).take ((gt (strings_SplitAfter s1 ([10] : Str)) n2).length - 1))).1))] .sq (guard_none rfl) rfl rfl rfl rfl rfl rfl rfl rfl rfl rfl rfl rfl rfl (fillL_one rfl rfl) rfl fun x6 x6b => ?_
            refine rw_le (le_freezeL NRec.E 28 x6 x6b [(x3, ((orangeryref_RecRead ((gt (strings_SplitAfter s1 ([10] : Str)) n2).take ((gt (strings_SplitAfter s1 ([10] : Str)) n2).length - 1))).1))] Uo) ?_
            refine rw_fact (F := RdN NRec x6 [((orangeryref_RecRead ((gt (strings_SplitAfter s1 ([10] : Str)) n2).take ((gt (strings_SplitAfter s1 ([10] : Str)) n2).length - 1))).1)]) [RdL NRec.E x6 [(x3, ((orangeryref_RecRead ((gt (strings_SplitAfter s1 ([10] : Str)) n2).take ((gt (strings_SplitAfter s1 ([10] : Str)) n2).length - 1))).1))], RdL EInt x3 (((orangeryref_RecRead ((gt (strings_SplitAfter s1 ([10] : Str)) n2).take ((gt (strings_SplitAfter s1 ([10] : Str)) n2).length - 1))).1).roots)] Sm (fun M w h => RdN.of NRec (hs := [(x3, ((orangeryref_RecRead ((gt (strings_SplitAfter s1 ([10] : Str)) n2).take ((gt (strings_SplitAfter s1 ([10] : Str)) n2).length - 1))).1))]) rfl (h _ (.head _)) (allP_cons (allF_sub Sm h) (fun p hp => by cases hp))) ?_
            refine rw_exN NRec (X := x6) (l := [((orangeryref_RecRead ((gt (strings_SplitAfter s1 ([10] : Str)) n2).take ((gt (strings_SplitAfter s1 ([10] : Str)) n2).length - 1))).1)]) Mm fun (γ3 : Nat → SlV) => ?_
            refine rw_appendN NRec γ1 γ3 l1 [((orangeryref_RecRead ((gt (strings_SplitAfter s1 ([10] : Str)) n2).take ((gt (strings_SplitAfter s1 ([10] : Str)) n2).length - 1))).1)] (b := x2b) .sq (fun _ _ => .inl ⟨_, rfl⟩) (guard_none rfl) rfl rfl rfl rfl rfl rfl rfl (fun _ _ => Uo) rfl rfl rfl rfl rfl rfl rfl (reads_rdN (EN := NRec) (X := x6) (γ := γ3) (l := [((orangeryref_RecRead ((gt (strings_SplitAfter s1 ([10] : Str)) n2).take ((gt (strings_SplitAfter s1 ([10] : Str)) n2).length - 1))).1)]) Mm) (by show (l1.length + [((orangeryref_RecRead ((gt (strings_SplitAfter s1 ([10] : Str)) n2).take ((gt (strings_SplitAfter s1 ([10] : Str)) n2).length - 1))).1)].length) * 104 ≤ 140737488355328; (try simp only [List.length_append, List.length_cons, List.length_nil]); omega) fun x7 x7b => ?_
            refine rw_fact (F := FactsG NRec (appG γ1 l1.length γ3) (l1 ++ [((orangeryref_RecRead ((gt (strings_SplitAfter s1 ([10] : Str)) n2).take ((gt (strings_SplitAfter s1 ([10] : Str)) n2).length - 1))).1)])) [FactsG NRec γ1 l1, FactsG NRec γ3 [((orangeryref_RecRead ((gt (strings_SplitAfter s1 ([10] : Str)) n2).take ((gt (strings_SplitAfter s1 ([10] : Str)) n2).length - 1))).1)]] Sm (fun M w h => FactsG.app NRec (h _ (.head _)) (h _ (.tail _ (.head _)))) ?_
            refine Tx ?_
            refine rw_q rfl rfl rfl (q_lenS (a := (gt (strings_SplitAfter s1 ([10] : Str)) n2)) rfl rfl (fun _ => rfl) und_9) ?_
            refine rw_q rfl rfl rfl (q_add rfl rfl (fun _ => rfl) rfl (fun _ => rfl) (fun _ => by omega)) ?_
            refine Tx ?_
            refine rw_q rfl rfl rfl (q_add rfl rfl (fun _ => rfl) rfl (fun _ => rfl) (fun _ => by omega)) ?_
            refine Tx ?_
            refine ⟨⟨(l1 ++ [((orangeryref_RecRead ((gt (strings_SplitAfter s1 ([10] : Str)) n2).take ((gt (strings_SplitAfter s1 ([10] : Str)) n2).length - 1))).1)]), x7, x7b, (appG γ1 l1.length γ3), (n1 + (gt (strings_SplitAfter s1 ([10] : Str)) n2).length), (n2 + 1)⟩, ⟨hlt0, (by simp only [List.length_append, List.length_cons, List.length_nil]; omega), (by simp only [List.length_append, List.length_cons, List.length_nil]; omega), (by rw [← hf1, drop_gt hlt0]; simp only [orangeryref_linesOf_L0, hc2, hc3, hc4, hc6, cond_true, cond_false] : (orangeryref_linesOf s1 most1) = (orangeryref_linesOf_L0 most1 ((strings_SplitAfter s1 ([10] : Str)).drop (n2 + 1)) (l1 ++ [((orangeryref_RecRead ((gt (strings_SplitAfter s1 ([10] : Str)) n2).take ((gt (strings_SplitAfter s1 ([10] : Str)) n2).length - 1))).1)]) (n1 + (gt (strings_SplitAfter s1 ([10] : Str)) n2).length))).symm⟩, (by simp only []; omega), Le4⟩
  · have hge0 : (strings_SplitAfter s1 ([10] : Str)).length ≤ n2 := by have := of_decide_eq_false hc1; omega
    refine Tx ?_
    refine cw_le (le_freezeL NRec.E 28 x2 x2b (zipG γ1 0 l1) Uo) ?_
    refine cw_fact (F := RdN NRec x2 l1) [RdG NRec x2 γ1 l1, FactsG NRec γ1 l1] Sm (fun M w h => RdN.ofG NRec (h _ (.head _)) (h _ (.tail _ (.head _)))) ?_
    have hr5 : (orangeryref_linesOf s1 most1) = (l1, (n1 : Int), 0) := by rw [← hf1, List.drop_of_length_le hge0]; simp only [orangeryref_linesOf_L0, cond_true, cond_false]
    refine cw_ret ?_; rw [hr5]; exact Re x2 (Vt (Vt (Vt Vn)))
end Go.Proofs.YtaiefncoholnnaaDoor
