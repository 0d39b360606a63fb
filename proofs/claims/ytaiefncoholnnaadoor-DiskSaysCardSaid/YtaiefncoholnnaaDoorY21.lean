/- Part of this claim. No condition. -/
import Derived.Test.YtaiefncoholnnaaDoorY20
import Derived.Test.YtaiefncoholnnaaDoorY5
set_option linter.unusedVariables false
set_option linter.unusedSimpArgs false
set_option maxHeartbeats 2000000
namespace Go.Proofs.YtaiefncoholnnaaDoor
open Go Go.Proofs.YtaiefncoholnnaaDoor.Fw Go.Proofs
attribute [local irreducible] RdL RdN VarP LibP RW CW
def disk_lines_L0 (s1 : Str) (most1 : Int) : Nat → Str → (List Rec) → ((List Rec) × Int × Int)
  | 0, s2, l1 => default
  | f_k0 + 1, s2, l1 => (bif (s2 != ([] : Str)) then (bif (!((cutc 10 s2).2.2)) then (l1, ((s1.length : Int) - (s2.length : Int)), 8) else (bif (((note_Parse ((cutc 10 s2).1)).2) != 0) then (l1, ((s1.length : Int) - (s2.length : Int)), (note_Parse ((cutc 10 s2).1)).2) else (bif ((l1.length : Int) == most1) then (l1, ((s1.length : Int) - (s2.length : Int)), 2) else (disk_lines_L0 s1 most1 f_k0 ((cutc 10 s2).2.1) (l1 ++ [((note_Parse ((cutc 10 s2).1)).1)]))))) else (l1, (s1.length : Int), 0))
def disk_lines (s1 : Str) (most1 : Int) : (List Rec) × Int × Int :=
  (disk_lines_L0 s1 most1 (s1.length + 1) s1 [])
theorem disk_lines_spec (s1 : Str) (most1 : Int) (hs : s1.length ≤ 60000) : DoesG Tryd.prog 46 [sV s1, .int .i64 most1] [LibP Tryd.prog] ⟨[], []⟩ (fun (X : SlV × Option Nat × (Nat → SlV)) => .tuple #[X.1.val ((disk_lines s1 most1).1).length, .int .i64 ((disk_lines s1 most1).2.1), .int .i64 ((disk_lines s1 most1).2.2)]) (fun (X : SlV × Option Nat × (Nat → SlV)) => [FactsG NRec X.2.2 ((disk_lines s1 most1).1)]) (fun (X : SlV × Option Nat × (Nat → SlV)) => ⟨[], [ownL NRec.E 28 X.1 X.2.1 (zipG X.2.2 0 ((disk_lines s1 most1).1))]⟩) := by
  refine does_ofG tab_ok Tryd.func46 rfl Tryd.ntmps46 Tryd.results46 rfl inferInstance (fun _ => inferInstance) fun C => ?_
  refine Tx ?_
  refine rw_q rfl rfl rfl (q_lenS (a := s1) rfl rfl (fun _ => rfl) und_9) ?_
  refine Tx ?_
  (repeat refine cw_seq ?_); refine Lp [1,4,5,6,8] [] (fun (i_ : Str × List Rec × SlV × Option Nat × (Nat → SlV) × Nat) => match i_ with | ⟨s2, l1, x1, x1b, γ1, fz1⟩ => (⟨[(0, .v (sV s2)), (7, .v (x1.val l1.length))], [], [ownL NRec.E 28 x1 x1b (zipG γ1 0 l1)], [FactsG NRec γ1 l1], (s2.length + l1.length ≤ s1.length) ∧ (s2.length < fz1) ∧ (disk_lines_L0 s1 most1 (fz1) s2 l1) = (disk_lines s1 most1), fz1⟩ : Ls)) ⟨s1, [], ⟨none, 0⟩, none, (fun _ => default), s1.length + 1⟩ (Sc (Sc (Sc (Sc (Sc Sn))))) (.nil) ⟨(by simp only [List.length_nil]; omega), (by first | exact Nat.le_refl _ | exact Nat.zero_le _ | omega), (by simp only [disk_lines, cond_true, cond_false] : (disk_lines s1 most1) = (disk_lines_L0 s1 most1 (s1.length + 1) s1 [])).symm⟩ (Le.trans (le_nilL NRec.E 28) (Le.trans (le_fact (FactsG NRec (fun _ => default) ([] : List Rec)) [] (.nil _) (fun M w _ => FactsG.nil NRec _ M w)) Le4)) ?_
  rintro ⟨s2, l1, x1, x1b, γ1, fz1⟩ ⟨hinv, hzfz1, hf1⟩
  simp only [List.cons_append, List.nil_append]
  have hlt0_ : (fz1 - 1) + 1 = fz1 := by omega
  refine Tx ?_
  refine rw_q rfl rfl rfl (q_neS (a := s2) (b := ([] : Str)) rfl rfl (fun _ => rfl) rfl (fun _ => rfl)) ?_
  refine rw_nil ?_
  (repeat refine cw_seq ?_)
  refine Cd (b := (s2 != ([] : Str))) (fun hc1 => ?_) fun hc1 => ?_
  · have hc1p := bne_iff_ne.1 hc1
    refine Tx ?_
    refine Cl (lib_Cut s2 ([10] : Str) rfl (by omega)) fun _ => ?_
    have hcn := cutc_len 10 s2; have hcl := cutc_lt 10 s2
    refine Tx ?_
    refine Cd (b := (!((cutc 10 s2).2.2))) (fun hc2 => ?_) fun hc2 => ?_
    · refine Tx ?_
      refine rw_q rfl rfl rfl (q_lenS (a := s2) rfl rfl (fun _ => rfl) und_9) ?_
      refine rw_q rfl rfl rfl (q_sub rfl rfl (fun _ => rfl) rfl (fun _ => rfl) (fun _ => by omega)) ?_
      refine Tx ?_
      have hr1 : (disk_lines s1 most1) = (l1, ((s1.length : Int) - (s2.length : Int)), 8) := by rw [← hf1]; (conv => lhs; rw [← hlt0_]); simp only [disk_lines_L0, hc1, hc2, cond_true, cond_false]
      refine cw_ret ?_; rw [hr1]; exact Re ⟨x1, x1b, γ1⟩ (Vt (Vt (Vt Vn)))
    · have hcl2 := hcl (by simpa using hc2)
      refine Tx ?_
      refine Cl (note_Parse_spec ((cutc 10 s2).1)) fun x2 => ?_
      refine Pr EInt x2 (((note_Parse ((cutc 10 s2).1)).1).roots) 8 fun hlen1 => ?_
      refine Tx ?_
      refine Al fun g1 => ?_
      refine Tx ?_
      refine Cd (b := (((note_Parse ((cutc 10 s2).1)).2) != 0)) (fun hc3 => ?_) fun hc3 => ?_
      · have hc3p := bne_iff_ne.1 hc3
        refine Tx ?_
        refine rw_q rfl rfl rfl (q_lenS (a := s2) rfl rfl (fun _ => rfl) und_9) ?_
        refine rw_q rfl rfl rfl (q_sub rfl rfl (fun _ => rfl) rfl (fun _ => rfl) (fun _ => by omega)) ?_
        refine Tx ?_
        have hr2 : (disk_lines s1 most1) = (l1, ((s1.length : Int) - (s2.length : Int)), (note_Parse ((cutc 10 s2).1)).2) := by rw [← hf1]; (conv => lhs; rw [← hlt0_]); simp only [disk_lines_L0, hc1, hc2, hc3, cond_true, cond_false]
        refine cw_ret ?_; rw [hr2]; exact Re ⟨x1, x1b, γ1⟩ (Vt (Vt (Vt Vn)))
      · have hc3p := eq_of_bne_false hc3
        refine Tx ?_
        refine Cd (b := ((l1.length : Int) == most1)) (fun hc4 => ?_) fun hc4 => ?_
        · have hc4p := eq_of_beq hc4
          refine Tx ?_
          refine rw_q rfl rfl rfl (q_lenS (a := s2) rfl rfl (fun _ => rfl) und_9) ?_
          refine rw_q rfl rfl rfl (q_sub rfl rfl (fun _ => rfl) rfl (fun _ => rfl) (fun _ => by omega)) ?_
          refine Tx ?_
          have hr3 : (disk_lines s1 most1) = (l1, ((s1.length : Int) - (s2.length : Int)), 2) := by rw [← hf1]; (conv => lhs; rw [← hlt0_]); simp only [disk_lines_L0, hc1, hc2, hc3, hc4, cond_true, cond_false]
          refine cw_ret ?_; rw [hr3]; exact Re ⟨x1, x1b, γ1⟩ (Vt (Vt (Vt Vn)))
        · have hc4p := ne_of_beq_false hc4
          refine Tx ?_
          refine rw_bsliceL NRec.E [(x2, ((note_Parse ((cutc 10 s2).1)).1))] .sq (guard_none rfl) rfl rfl rfl rfl rfl rfl rfl rfl rfl rfl rfl rfl rfl (fillL_one rfl rfl) rfl fun x3 x3b => ?_
          refine rw_le (le_freezeL NRec.E 28 x3 x3b [(x2, ((note_Parse ((cutc 10 s2).1)).1))] Uo) ?_
          refine rw_fact (F := RdN NRec x3 [((note_Parse ((cutc 10 s2).1)).1)]) [RdL NRec.E x3 [(x2, ((note_Parse ((cutc 10 s2).1)).1))], RdL EInt x2 (((note_Parse ((cutc 10 s2).1)).1).roots)] Sm (fun M w h => RdN.of NRec (hs := [(x2, ((note_Parse ((cutc 10 s2).1)).1))]) rfl (h _ (.head _)) (allP_cons (allF_sub Sm h) (fun p hp => by cases hp))) ?_
          refine rw_exN NRec (X := x3) (l := [((note_Parse ((cutc 10 s2).1)).1)]) Mm fun (γ2 : Nat → SlV) => ?_
          refine rw_appendN NRec γ1 γ2 l1 [((note_Parse ((cutc 10 s2).1)).1)] (b := x1b) .sq (fun _ _ => .inl ⟨_, rfl⟩) (guard_none rfl) rfl rfl rfl rfl rfl rfl rfl (fun _ _ => Uo) rfl rfl rfl rfl rfl rfl rfl (reads_rdN (EN := NRec) (X := x3) (γ := γ2) (l := [((note_Parse ((cutc 10 s2).1)).1)]) Mm) (by show (l1.length + [((note_Parse ((cutc 10 s2).1)).1)].length) * 104 ≤ 140737488355328; (try simp only [List.length_append, List.length_cons, List.length_nil]); omega) fun x4 x4b => ?_
          refine rw_fact (F := FactsG NRec (appG γ1 l1.length γ2) (l1 ++ [((note_Parse ((cutc 10 s2).1)).1)])) [FactsG NRec γ1 l1, FactsG NRec γ2 [((note_Parse ((cutc 10 s2).1)).1)]] Sm (fun M w h => FactsG.app NRec (h _ (.head _)) (h _ (.tail _ (.head _)))) ?_
          refine Tx ?_
          refine ⟨⟨(cutc 10 s2).2.1, (l1 ++ [((note_Parse ((cutc 10 s2).1)).1)]), x4, x4b, (appG γ1 l1.length γ2), (fz1 - 1)⟩, ⟨(by simp only [List.length_append, List.length_cons, List.length_nil]; omega), (by (try simp only []); first | omega | (simp only [List.length_append, List.length_cons, List.length_nil]; omega)), (by rw [← hf1]; (conv => lhs; rw [← hlt0_]); simp only [disk_lines_L0, hc1, hc2, hc3, hc4, cond_true, cond_false] : (disk_lines s1 most1) = (disk_lines_L0 s1 most1 (fz1 - 1) ((cutc 10 s2).2.1) (l1 ++ [((note_Parse ((cutc 10 s2).1)).1)]))).symm⟩, (by simp only []; omega), Le4⟩
  · have hc1p := eq_of_bne_false hc1
    refine Tx ?_
    have hr4 : (disk_lines s1 most1) = (l1, (s1.length : Int), 0) := by rw [← hf1]; (conv => lhs; rw [← hlt0_]); simp only [disk_lines_L0, hc1, cond_true, cond_false]
    refine cw_ret ?_; rw [hr4]; exact Re ⟨x1, x1b, γ1⟩ (Vt (Vt (Vt Vn)))


theorem disk_lines_L0_ok (s0 : Str) (most : Int) : ∀ (f : Nat) (s : Str) (l : List Rec), s.length < f → s.length + l.length ≤ s0.length →
    (disk_lines_L0 s0 most f s l).1.length ≤ s0.length ∧ 0 ≤ (disk_lines_L0 s0 most f s l).2.1 ∧ (disk_lines_L0 s0 most f s l).2.1 ≤ (s0.length : Int)
  | 0, s, l, h, _ => absurd h (Nat.not_lt_zero _)
  | f + 1, s, l, h, hl => by
    rw [disk_lines_L0]
    cases h1 : (s != ([] : Str)) with
    | false => simp only [cond_false]; omega
    | true =>
      simp only [cond_true]
      cases h2 : (!(cutc 10 s).2.2) with
      | true => simp only [cond_true]; omega
      | false =>
        have h2 : (cutc 10 s).2.2 = true := by simpa using h2
        have h3 := cutc_lt 10 s h2
        simp only [cond_false]
        cases ((note_Parse (cutc 10 s).1).2 != 0) with
        | true => simp only [cond_true]; omega
        | false =>
          simp only [cond_false]
          cases ((l.length : Int) == most) with
          | true => simp only [cond_true]; omega
          | false => exact disk_lines_L0_ok s0 most f _ _ (by omega) (by simp only [List.length_append, List.length_cons, List.length_nil]; omega)
theorem disk_lines_ok (s : Str) (most : Int) : (disk_lines s most).1.length ≤ s.length ∧ 0 ≤ (disk_lines s most).2.1 ∧ (disk_lines s most).2.1 ≤ (s.length : Int) :=
  disk_lines_L0_ok s most _ s [] (by omega) (by simp)
end Go.Proofs.YtaiefncoholnnaaDoor
