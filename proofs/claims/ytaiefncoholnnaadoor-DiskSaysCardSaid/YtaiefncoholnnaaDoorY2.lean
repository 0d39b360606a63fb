/- Part of this claim. No condition. -/
import Derived.Test.YtaiefncoholnnaaDoorLNoteA
set_option linter.unusedVariables false
set_option linter.unusedSimpArgs false
set_option maxHeartbeats 2000000
namespace Go.Proofs.YtaiefncoholnnaaDoor
open Go Go.Proofs.YtaiefncoholnnaaDoor.Fw Go.Proofs
attribute [local irreducible] RdL RdN VarP LibP RW CW
def note_Print_L0  : List Int → Str → (Str × Int)
  | [], s2 => (s2, 0)
  | pn1 :: rn1, s2 => (note_Print_L0 rn1 (s2 ++ (([32] : Str) ++ (Lib.itoa pn1))))
def note_Print_V1 (r1 : Rec) : Str × (List Int) :=
  (bif (r1.kind == 2) then (([108, 105, 102, 101] : Str), [r1.who, r1.life]) else (bif (r1.kind == 3) then (([114, 111, 111, 116, 115] : Str), ([r1.who] ++ r1.roots)) else (([111, 112] : Str), [r1.o.time, r1.o.who, r1.o.node, r1.o.parent, r1.o.name, r1.o.life, r1.o.seq])))
def note_Print (r1 : Rec) : Str × Int :=
  (bif ((note_Check r1) != 0) then (([] : Str), (note_Check r1)) else (note_Print_L0 (((note_Print_V1 r1)).2) (((note_Print_V1 r1)).1)))
theorem note_Print_spec (y1 : SlV) (r1 : Rec) : Does Tryd.prog 7 [.agg ⟨[.int .i64 r1.kind, .int .i64 r1.who, .int .i64 r1.life, y1.val r1.roots.length, .int .i64 r1.o.time, .int .i64 r1.o.who, .int .i64 r1.o.node, .int .i64 r1.o.parent, .int .i64 r1.o.name, .int .i64 r1.o.life, .int .i64 r1.o.seq]⟩] [RdL EInt y1 r1.roots, LibP Tryd.prog] (fun (_ : Unit) => .tuple #[sV ((note_Print r1).1), .int .i64 ((note_Print r1).2)]) (fun (_ : Unit) => []) := by
  refine does_of tab_ok Tryd.func7 rfl Tryd.ntmps7 Tryd.results7 rfl inferInstance (fun _ => inferInstance) fun C => ?_
  refine Pc EInt y1 r1.roots 8 fun hlen1 => ?_
  refine Tx ?_
  refine Bx fun g1 => ?_
  refine Tx ?_
  refine Cl (note_Check_spec y1 r1) fun _ => ?_
  refine Tx ?_
  refine Cd (b := ((note_Check r1) != 0)) (fun hc1 => ?_) fun hc1 => ?_
  · have hc1p := bne_iff_ne.1 hc1
    refine Tx ?_
    have hr1 : (note_Print r1) = (([] : Str), (note_Check r1)) := by simp only [note_Print, hc1, cond_true, cond_false]
    refine cw_ret ?_; rw [hr1]; exact Re () (Vt (Vt Vn))
  · have hc1p := eq_of_bne_false hc1
    have hck := eq_of_bne_false hc1
    refine Tx ?_
    (repeat refine cw_seq ?_); refine cw_regionA (fun _ => some []) ?_
    refine Rb 0 [4,5,6,7,8,9,10,11,12,13,14,15,16,17,18,19,20,21,22,24] [1,2,3,23,25] rfl Qp ?_
    refine Rb 1 [4,5,6,7,8,9,10,11,12,13,14,15,16,17,18,19,20,21,22,24] [2,3,23,25] rfl Qp ?_
    refine Rb 2 [4,5,6,7,8,9,10,11,12,13,14,15,16,17,18,19,20,21,22,24] [3,23,25] rfl Qp ?_
    refine Ra 3 [4,5,6,7,8,9,10,11,12,13,14,15,16,17,18,19,20,21,22,24] rfl Q1 ?_
    refine Rb 4 [8,9,10,11,12,13,14,15,16,17,18,19,20,21,22,24] [5,6,7,23,25] rfl Qp ?_
    refine Rb 5 [8,9,10,11,12,13,14,15,16,17,18,19,20,21,22,24] [6,7,23,25] rfl Qp ?_
    refine Rb 6 [8,9,10,11,12,13,14,15,16,17,18,19,20,21,22,24] [7,23,25] rfl Qp ?_
    refine Ra 7 [8,9,10,11,12,13,14,15,16,17,18,19,20,21,22,24] rfl Q1 ?_
    refine Rb 8 [11,12,13,14,15,16,17,18,19,20,21,22,24] [9,10,23,25] rfl Qp ?_
    refine Rb 9 [11,12,13,14,15,16,17,18,19,20,21,22,24] [10,23,25] rfl Qp ?_
    refine Ra 10 [11,12,13,14,15,16,17,18,19,20,21,22,24] rfl Q1 ?_
    refine Rb 11 [14,15,16,17,18,19,20,21,22,24] [12,13,23,25] rfl Qp ?_
    refine Rb 12 [14,15,16,17,18,19,20,21,22,24] [13,23,25] rfl Qp ?_
    refine Ra 13 [14,15,16,17,18,19,20,21,22,24] rfl Q1 ?_
    refine Rb 14 [17,18,19,20,21,22,24] [15,16,23,25] rfl Qp ?_
    refine Rb 15 [17,18,19,20,21,22,24] [16,23,25] rfl Qp ?_
    refine Ra 16 [17,18,19,20,21,22,24] rfl Q1 ?_
    refine Rb 17 [20,21,22,24] [18,19,23,25] rfl Qp ?_
    refine Rb 18 [20,21,22,24] [19,23,25] rfl Qp ?_
    refine Ra 19 [20,21,22,24] rfl Q1 ?_
    refine Rb 20 [24] [21,22,23,25] rfl Qp ?_
    refine Rb 21 [24] [22,23,25] rfl Qp ?_
    refine Ra 22 [24] rfl Q1 ?_
    refine Ra 24 [23] rfl Qp ?_
    refine ra_one 23 Kr ?_
    refine rw_bsliceL EInt [r1.o.time, r1.o.who, r1.o.node, r1.o.parent, r1.o.name, r1.o.life, r1.o.seq] (.an rfl rfl) (guard_none rfl) rfl rfl rfl rfl rfl rfl rfl rfl rfl rfl rfl rfl rfl rfl rfl fun x1 x1b => ?_
    refine Ra 25 [] rfl Qp ?_
    refine ra_nil Kr ?_
    (repeat refine cw_seq ?_); refine cw_region ?_
    refine Rp rfl rfl rfl rfl ?_
    refine rw_q rfl rfl rfl (q_ld1 rfl rfl (fun _ => rfl) rfl Mm rfl) ?_
    refine rw_nil ?_
    (repeat refine cw_seq ?_); refine cw_block ?_
    refine Ty ?_
    refine cw_joinB [2, 3] [true] (fun (i_ : Str × List Int × SlV × Option Nat) => match i_ with | ⟨s1, l1, x2, x2b⟩ => [(5, .v (sV s1)), (6, .v (x2.val l1.length))]) (fun (i_ : Str × List Int × SlV × Option Nat) => match i_ with | ⟨s1, l1, x2, x2b⟩ => []) (fun (i_ : Str × List Int × SlV × Option Nat) => match i_ with | ⟨s1, l1, x2, x2b⟩ => [ownL EInt 3 x2 x2b l1]) (fun (i_ : Str × List Int × SlV × Option Nat) => match i_ with | ⟨s1, l1, x2, x2b⟩ => []) (fun (i_ : Str × List Int × SlV × Option Nat) => match i_ with | ⟨s1, l1, x2, x2b⟩ => (s1.length ≤ 5) ∧ (∀ n ∈ l1, I64 n) ∧ s1 = ((note_Print_V1 r1)).1 ∧ l1 = ((note_Print_V1 r1)).2) (.cons rfl (.cons rfl (.nil _))) (.keep (.nil)) ?_ ?_
    · (repeat refine cw_seq ?_)
      refine Cd (b := (r1.kind == 2)) (fun hc2 => ?_) fun hc2 => ?_
      · have hc2p := eq_of_beq hc2
        have hbn := nums_life hck hc2
        (repeat refine cw_seq ?_); refine cw_regionA (fun _ => some []) ?_
        refine Rb 0 [2,3,5] [1,4,6] rfl Qp ?_
        refine Ra 1 [2,3,5] rfl Q1 ?_
        refine Rb 2 [5] [3,4,6] rfl Qp ?_
        refine Ra 3 [5] rfl Q1 ?_
        refine Ra 5 [4] rfl Qp ?_
        refine ra_one 4 Kr ?_
        refine rw_bsliceL EInt [r1.who, r1.life] (.an rfl rfl) (guard_none rfl) rfl rfl rfl rfl rfl rfl rfl rfl rfl rfl rfl rfl rfl rfl rfl fun x3 x3b => ?_
        refine Ra 6 [] rfl Qp ?_
        refine ra_nil Kr ?_
        have hv1 : (note_Print_V1 r1) = (([108, 105, 102, 101] : Str), [r1.who, r1.life]) := by simp only [note_Print_V1, hc2, Bool.true_and, Bool.and_true, cond_true, cond_false]
        refine ⟨⟨([108, 105, 102, 101] : Str), [r1.who, r1.life], x3, x3b⟩, ⟨(by decide), hbn, (by rw [hv1]), (by rw [hv1])⟩, Le4⟩
      · have hc2p := ne_of_beq_false hc2
        have hk2 := hc2
        refine Tx ?_
        refine Cd (b := (r1.kind == 3)) (fun hc3 => ?_) fun hc3 => ?_
        · have hc3p := eq_of_beq hc3
          have hbn0 := nums_roots hck (not_one hc3 rfl) hk2; have hbn := hbn0.2; have hrl := hbn0.1
          refine Tx ?_
          refine rw_bsliceL EInt [r1.who] .sq (guard_none rfl) rfl rfl rfl rfl rfl rfl rfl rfl rfl rfl rfl rfl rfl rfl rfl fun x4 x4b => ?_
          refine Tx ?_
          refine rw_appendL EInt [r1.who] r1.roots (b := x4b) .sq (fun _ _ => .inl ⟨_, rfl⟩) (guard_none rfl) rfl rfl rfl rfl rfl rfl rfl (fun _ _ => Uo) rfl rfl rfl rfl rfl rfl rfl (reads_rdL Mm) (by show ([r1.who].length + r1.roots.length) * 8 ≤ 140737488355328; (try simp only [List.length_append, List.length_cons, List.length_nil]); omega) fun x5 x5b => ?_
          refine Tx ?_
          have hv2 : (note_Print_V1 r1) = (([114, 111, 111, 116, 115] : Str), ([r1.who] ++ r1.roots)) := by simp only [note_Print_V1, hc2, hc3, Bool.true_and, Bool.and_true, cond_true, cond_false]
          refine ⟨⟨([114, 111, 111, 116, 115] : Str), ([r1.who] ++ r1.roots), x5, x5b⟩, ⟨(by decide), hbn, (by rw [hv2]), (by rw [hv2])⟩, Le4⟩
        · have hc3p := ne_of_beq_false hc3
          have hbn := nums_op hck (kind_three hck hk2 hc3)
          refine Tx ?_
          have hv3 : (note_Print_V1 r1) = (([111, 112] : Str), [r1.o.time, r1.o.who, r1.o.node, r1.o.parent, r1.o.name, r1.o.life, r1.o.seq]) := by simp only [note_Print_V1, hc2, hc3, Bool.true_and, Bool.and_true, cond_true, cond_false]
          refine ⟨⟨([111, 112] : Str), [r1.o.time, r1.o.who, r1.o.node, r1.o.parent, r1.o.name, r1.o.life, r1.o.seq], x1, x1b⟩, ⟨(by decide), hbn, (by rw [hv3]), (by rw [hv3])⟩, Le4⟩
    · rintro ⟨s1, l1, x2, x2b⟩ ⟨hs5, hbn, rfl, rfl⟩
      simp only [List.cons_append, List.nil_append]
      refine Tx ?_
      refine cw_le (le_freezeL EInt 3 x2 x2b (((note_Print_V1 r1)).2) Uo) ?_
      refine Pc EInt x2 (((note_Print_V1 r1)).2) 8 fun hlen2 => ?_
      (repeat refine cw_seq ?_); refine Lp [2,3,55,56] [true] (fun (i_ : Str × Nat) => match i_ with | ⟨s2, n1⟩ => (⟨[(5, .v (sV s2)), (57, .v (.int .i64 (n1 : Int)))], [], [], [], (n1 ≤ (((note_Print_V1 r1)).2).length) ∧ (s2.length ≤ 5 + 22 * n1) ∧ (note_Print_L0 ((((note_Print_V1 r1)).2).drop n1) s2) = (note_Print r1), (((note_Print_V1 r1)).2).length - n1⟩ : Ls)) ⟨(((note_Print_V1 r1)).1), 0⟩ (Sc (Sc (Sc (Sc Sn)))) (.keep (.nil)) ⟨Nat.zero_le _, (by first | exact Nat.le_refl _ | exact Nat.zero_le _ | omega), (by simp only [note_Print, hc1, cond_true, cond_false] : (note_Print r1) = (note_Print_L0 (((note_Print_V1 r1)).2) (((note_Print_V1 r1)).1))).symm⟩ Le4 ?_
      rintro ⟨s2, n1⟩ ⟨hkn1, hsl, hf1⟩
      simp only [List.cons_append, List.nil_append]
      refine Tx ?_
      refine Cd (b := decide ((n1 : Int) < ((((note_Print_V1 r1)).2).length : Int))) (fun hc4 => ?_) fun hc4 => ?_
      · have hlt0 : n1 < (((note_Print_V1 r1)).2).length := Int.ofNat_lt.1 (of_decide_eq_true hc4)
        have hit := Lib.itoa_length_le _ (hbn _ (gt_mem hlt0)).1 (hbn _ (gt_mem hlt0)).2
        refine Tx ?_
        refine rw_q rfl rfl rfl (q_idx EInt n1 rfl rfl (fun _ => rfl) rfl (fun _ => rfl) rfl rfl rfl Mm rfl (fun _ => rfl) (fun _ => by first | assumption | omega)) ?_
        refine rw_q rfl rfl rfl (q_le1 EInt rfl rfl (fun _ => rfl) rfl rfl Mm (fun _ => by first | assumption | omega) rfl) ?_
        refine Tx ?_
        refine Cl (lib_Itoa (gt (((note_Print_V1 r1)).2) n1) (hbn _ (gt_mem hlt0))) fun _ => ?_
        refine rw_q rfl rfl rfl (q_addS (a := ([32] : Str)) (b := (Lib.itoa (gt (((note_Print_V1 r1)).2) n1))) rfl rfl (fun _ => rfl) rfl (fun _ => rfl) (fun _ => by (show ([32] : Str).length + _ ≤ _; simp only [List.length_cons, List.length_nil]; omega))) ?_
        refine rw_q rfl rfl rfl (q_addS (a := s2) (b := (([32] : Str) ++ (Lib.itoa (gt (((note_Print_V1 r1)).2) n1)))) rfl rfl (fun _ => rfl) rfl (fun _ => rfl) (fun _ => by (simp only [List.length_append, List.length_cons, List.length_nil]; omega))) ?_
        refine Tx ?_
        refine rw_q rfl rfl rfl (q_add rfl rfl (fun _ => rfl) rfl (fun _ => rfl) (fun _ => by omega)) ?_
        refine Tx ?_
        refine ⟨⟨(s2 ++ (([32] : Str) ++ (Lib.itoa (gt (((note_Print_V1 r1)).2) n1)))), (n1 + 1)⟩, ⟨hlt0, (by simp only [List.length_append, List.length_cons, List.length_nil]; omega), (by rw [← hf1, drop_gt hlt0]; simp only [note_Print_L0, cond_true, cond_false] : (note_Print r1) = (note_Print_L0 ((((note_Print_V1 r1)).2).drop (n1 + 1)) (s2 ++ (([32] : Str) ++ (Lib.itoa (gt (((note_Print_V1 r1)).2) n1)))))).symm⟩, (by simp only []; omega), Le4⟩
      · have hge0 : (((note_Print_V1 r1)).2).length ≤ n1 := by have := of_decide_eq_false hc4; omega
        refine Tx ?_
        have hr2 : (note_Print r1) = (s2, 0) := by rw [← hf1, List.drop_of_length_le hge0]; simp only [note_Print_L0, cond_true, cond_false]
        refine cw_ret ?_; rw [hr2]; exact Re () (Vt (Vt Vn))
end Go.Proofs.YtaiefncoholnnaaDoor
