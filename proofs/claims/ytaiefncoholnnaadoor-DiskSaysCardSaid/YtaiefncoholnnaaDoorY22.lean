/- Part of this claim. No condition. -/
import Derived.Test.YtaiefncoholnnaaDoorY21
import Derived.Test.YtaiefncoholnnaaDoorLNoteB
set_option linter.unusedVariables false
set_option linter.unusedSimpArgs false
set_option maxHeartbeats 2000000
namespace Go.Proofs.YtaiefncoholnnaaDoor
open Go Go.Proofs.YtaiefncoholnnaaDoor.Fw Go.Proofs
attribute [local irreducible] RdL RdN VarP LibP RW CW

theorem disk_lens {a b : Nat} (h : (decide ((a : Int) > 60000) || decide ((b : Int) > (60000 - (a : Int)))) = false) : a ≤ 60000 ∧ a + b ≤ 60000 := by
  simp only [Bool.or_eq_false_iff, decide_eq_false_iff_not] at h; omega
theorem range_of {n : Int} {b : Nat} (h : (decide (n < 0) || decide (n > (b : Int))) = false) : 0 ≤ n ∧ n ≤ (b : Int) := by
  simp only [Bool.or_eq_false_iff, decide_eq_false_iff_not] at h; omega
theorem Print_len (r : Rec) : (note_Print r).1.length ≤ 159 := by
  rw [Print_eq]
  split
  · rename_i h; exact prText_len h
  · simp

def disk_Check (d1 : Disk) : Int :=
  (bif (decide ((d1.safe.length : Int) > 60000) || decide ((d1.wait.length : Int) > (60000 - (d1.safe.length : Int)))) then 2 else (disk_lines d1.safe 60).2.2)
theorem disk_Check_spec (y1 : SlV) (y2 : SlV) (d1 : Disk) : Does Tryd.prog 26 [.agg ⟨[y1.val d1.safe.length, y2.val d1.wait.length]⟩] [RdL EByte y1 d1.safe, RdL EByte y2 d1.wait, LibP Tryd.prog] (fun (_ : Unit) => .int .i64 (disk_Check d1)) (fun (_ : Unit) => []) := by
  refine does_of tab_ok Tryd.func26 rfl Tryd.ntmps26 Tryd.results26 rfl inferInstance (fun _ => inferInstance) fun C => ?_
  refine Pc EByte y1 d1.safe 1 fun hlen1 => ?_
  refine Pc EByte y2 d1.wait 1 fun hlen2 => ?_
  refine Tx ?_
  refine Bx fun g1 => ?_
  refine Tx ?_
  refine rw_qg (guard_vf rfl rfl rfl) rfl rfl (q_sub rfl rfl Bt rfl Bt (by intro h; first | omega | (simp at h; omega))) ?_
  refine Tx ?_
  refine Cd (b := (decide ((d1.safe.length : Int) > 60000) || decide ((d1.wait.length : Int) > (60000 - (d1.safe.length : Int))))) (fun hc1 => ?_) fun hc1 => ?_
  · refine Tx ?_
    have hr1 : (disk_Check d1) = 2 := by simp only [disk_Check, hc1, cond_true, cond_false]
    refine cw_ret ?_; rw [hr1]; exact Re () (Vt Vn)
  · have hdl := disk_lens hc1
    refine Tx ?_
    refine rw_q rfl rfl rfl (q_bstr (X := y1) (l := d1.safe) und_39 und_5 und_9 rfl rfl (fun _ => rfl) Mm) ?_
    refine Cg (disk_lines_spec d1.safe 60 (by first | assumption | omega)) fun x1 => ?_
    refine Tx ?_
    have hr2 : (disk_Check d1) = (disk_lines d1.safe 60).2.2 := by simp only [disk_Check, hc1, cond_true, cond_false]
    refine cw_ret ?_; rw [hr2]; exact Re () (Vt Vn)


theorem disk_Check_lens {d : Disk} (h : disk_Check d = 0) : d.safe.length ≤ 60000 ∧ d.safe.length + d.wait.length ≤ 60000 := by
  unfold disk_Check at h
  generalize hb : (decide ((d.safe.length : Int) > 60000) || decide ((d.wait.length : Int) > (60000 - (d.safe.length : Int)))) = b at h
  cases b with
  | true => simp at h
  | false => exact disk_lens hb

def disk_Put (d1 : Disk) (r1 : Rec) : Disk × Int :=
  (bif ((disk_Check d1) != 0) then ((⟨([] : List UInt8), ([] : List UInt8)⟩ : Disk), (disk_Check d1)) else (bif (((note_Print r1).2) != 0) then ((⟨([] : List UInt8), ([] : List UInt8)⟩ : Disk), (note_Print r1).2) else (bif decide (((((note_Print r1).1).length : Int) + 1) > ((60000 - (d1.safe.length : Int)) - (d1.wait.length : Int))) then ((⟨([] : List UInt8), ([] : List UInt8)⟩ : Disk), 2) else ((⟨d1.safe, ((d1.wait ++ ((note_Print r1).1)) ++ [10])⟩ : Disk), 0))))
theorem disk_Put_spec (y1 : SlV) (y2 : SlV) (d1 : Disk) (y3 : SlV) (r1 : Rec) : Does Tryd.prog 17 [.agg ⟨[y1.val d1.safe.length, y2.val d1.wait.length]⟩, .agg ⟨[.int .i64 r1.kind, .int .i64 r1.who, .int .i64 r1.life, y3.val r1.roots.length, .int .i64 r1.o.time, .int .i64 r1.o.who, .int .i64 r1.o.node, .int .i64 r1.o.parent, .int .i64 r1.o.name, .int .i64 r1.o.life, .int .i64 r1.o.seq]⟩] [RdL EByte y1 d1.safe, RdL EByte y2 d1.wait, RdL EInt y3 r1.roots, LibP Tryd.prog] (fun (X : SlV × SlV) => .tuple #[.agg ⟨[X.1.val (((disk_Put d1 r1).1).safe).length, X.2.val (((disk_Put d1 r1).1).wait).length]⟩, .int .i64 ((disk_Put d1 r1).2)]) (fun (X : SlV × SlV) => [RdL EByte X.1 (((disk_Put d1 r1).1).safe), RdL EByte X.2 (((disk_Put d1 r1).1).wait)]) := by
  refine does_of tab_ok Tryd.func17 rfl Tryd.ntmps17 Tryd.results17 rfl inferInstance (fun _ => inferInstance) fun C => ?_
  refine Pc EByte y1 d1.safe 1 fun hlen1 => ?_
  refine Pc EByte y2 d1.wait 1 fun hlen2 => ?_
  refine Pc EInt y3 r1.roots 8 fun hlen3 => ?_
  refine Tx ?_
  refine Bx fun g1 => ?_
  refine Bx fun g2 => ?_
  refine Al fun g3 => ?_
  refine Tx ?_
  refine Cl (disk_Check_spec y1 y2 d1) fun _ => ?_
  refine Tx ?_
  refine Cd (b := ((disk_Check d1) != 0)) (fun hc1 => ?_) fun hc1 => ?_
  · have hc1p := bne_iff_ne.1 hc1
    refine Tx ?_
    refine Fc EByte ?_
    have hr1 : (disk_Put d1 r1) = ((⟨([] : List UInt8), ([] : List UInt8)⟩ : Disk), (disk_Check d1)) := by simp only [disk_Put, hc1, cond_true, cond_false]
    refine cw_ret ?_; rw [hr1]; exact Re ⟨(⟨none, 0⟩ : SlV), (⟨none, 0⟩ : SlV)⟩ (Va (Vt Vn))
  · have hc1p := eq_of_bne_false hc1
    have hdl := disk_Check_lens (eq_of_bne_false hc1)
    refine Tx ?_
    refine Cl (note_Print_spec y3 r1) fun _ => ?_
    refine Tx ?_
    refine Cd (b := (((note_Print r1).2) != 0)) (fun hc2 => ?_) fun hc2 => ?_
    · have hc2p := bne_iff_ne.1 hc2
      refine Tx ?_
      refine Fc EByte ?_
      have hr2 : (disk_Put d1 r1) = ((⟨([] : List UInt8), ([] : List UInt8)⟩ : Disk), (note_Print r1).2) := by simp only [disk_Put, hc1, hc2, cond_true, cond_false]
      refine cw_ret ?_; rw [hr2]; exact Re ⟨(⟨none, 0⟩ : SlV), (⟨none, 0⟩ : SlV)⟩ (Va (Vt Vn))
    · have hc2p := eq_of_bne_false hc2
      have hpl := Print_len r1
      refine Tx ?_
      refine rw_q rfl rfl rfl (q_lenS (a := (note_Print r1).1) rfl rfl (fun _ => rfl) und_9) ?_
      refine rw_q rfl rfl rfl (q_add rfl rfl (fun _ => rfl) rfl (fun _ => rfl) (fun _ => by omega)) ?_
      refine Tx ?_
      refine rw_q rfl rfl rfl (q_sub rfl rfl (fun _ => rfl) rfl (fun _ => rfl) (fun _ => by omega)) ?_
      refine Tx ?_
      refine rw_q rfl rfl rfl (q_sub rfl rfl (fun _ => rfl) rfl (fun _ => rfl) (fun _ => by omega)) ?_
      refine Tx ?_
      refine Cd (b := decide (((((note_Print r1).1).length : Int) + 1) > ((60000 - (d1.safe.length : Int)) - (d1.wait.length : Int)))) (fun hc3 => ?_) fun hc3 => ?_
      · have hc3p := of_decide_eq_true hc3
        refine Tx ?_
        refine Fc EByte ?_
        have hr3 : (disk_Put d1 r1) = ((⟨([] : List UInt8), ([] : List UInt8)⟩ : Disk), 2) := by simp only [disk_Put, hc1, hc2, hc3, cond_true, cond_false]
        refine cw_ret ?_; rw [hr3]; exact Re ⟨(⟨none, 0⟩ : SlV), (⟨none, 0⟩ : SlV)⟩ (Va (Vt Vn))
      · have hc3p := of_decide_eq_false hc3
        refine Tx ?_
        refine cw_join [4, 5] [false, true, true] (fun (i_ : SlV × Option Nat × SlV × Option Nat) => match i_ with | ⟨x1, b1, x2, b2⟩ => []) (fun (i_ : SlV × Option Nat × SlV × Option Nat) => match i_ with | ⟨x1, b1, x2, b2⟩ => [⟨g3, 41, [x1.val d1.safe.length, x2.val ((d1.wait ++ ((note_Print r1).1)) ++ [10]).length]⟩]) (fun (i_ : SlV × Option Nat × SlV × Option Nat) => match i_ with | ⟨x1, b1, x2, b2⟩ => [ownL EByte 5 x1 b1 d1.safe, ownL EByte 5 x2 b2 ((d1.wait ++ ((note_Print r1).1)) ++ [10])]) (fun (i_ : SlV × Option Nat × SlV × Option Nat) => match i_ with | ⟨x1, b1, x2, b2⟩ => []) (fun _ => True) (.cons rfl (.cons rfl (.nil _))) (.drop (.keep (.keep (.nil)))) ?_ ?_
        · refine cw_regionA (fun j => match j with | 7 => none | 9 => none | 11 => some [g3] | _ => some []) ?_
          refine Rb 0 [3,4,6,8] [1,2,5,7,9,10,11,12] rfl Qp ?_
          refine Rb 1 [3,4,6,8] [2,5,7,9,10,11,12] rfl Q1 ?_
          refine Rb 3 [2,6,8] [4,5,7,9,10,11,12] rfl Qp ?_
          refine Rb 4 [2,6,8] [5,7,9,10,11,12] rfl Q1 ?_
          refine Rb 6 [2,5,8] [7,9,10,11,12] rfl Qp ?_
          refine ra_two 2 8 Kr ?_ ?_
          · refine rw_callG (slices_Clone_UInt8_spec y1 d1.safe) (.an rfl rfl) (.inr (by simp [Lent.ids])) (guard_none rfl) rfl rfl rfl Kr rfl rfl Sm (.nil _) (.nil _) ?_
            intro x3
            refine ra_two 5 8 Kr ?_ ?_
            · refine rw_callG (slices_Clone_UInt8_spec y2 d1.wait) (.an rfl rfl) (.inr (by simp [Lent.ids])) (guard_none rfl) rfl rfl rfl Kr rfl rfl Sm (.nil _) (.nil _) ?_
              intro x4
              refine ra_two 7 8 Kr ?_ ?_
              · refine rw_appendS d1.wait ((note_Print r1).1) (b := x4.2) (.lo (x4.2 : Option Nat).toList rfl rfl) (fun g h => .inr (by simp [h])) (guard_none rfl) rfl rfl rfl rfl rfl rfl rfl und_9 (fun _ _ => Uo) rfl rfl rfl rfl rfl (by omega) fun x5 x5b => ?_
                refine ra_one 8 Kr ?_
                refine rw_bsliceL EByte [10] (.an rfl rfl) (guard_none rfl) rfl rfl rfl rfl rfl rfl rfl rfl rfl rfl rfl rfl rfl rfl rfl fun x6 x6b => ?_
                refine ra_one 9 Kr ?_
                refine rw_appendL EByte (d1.wait ++ ((note_Print r1).1)) [10] (b := x5b) (.lo (x5b : Option Nat).toList rfl rfl) (fun g h => .inr (by simp [h])) (guard_none rfl) rfl rfl rfl rfl rfl rfl rfl (fun _ _ => Uo) rfl rfl rfl rfl rfl rfl rfl (reads_ownL (e := 5) (b := x6b) Mm) (by show ((d1.wait ++ ((note_Print r1).1)).length + 1) * 1 ≤ 140737488355328; (try simp only [List.length_append, List.length_cons, List.length_nil]); omega) fun x7 x7b => ?_
                refine Ra 10 [] rfl Qp ?_
                refine ra_one 11 Kr ?_
                refine rw_stA (.an rfl rfl) (.inr (by simp)) (guard_none rfl) rfl rfl rfl rfl rfl rfl rfl rfl rfl Ub rfl ?_
                refine Ra 12 [] rfl Qp ?_
                refine ra_nil Kr ?_
                refine ⟨⟨x3.1, x3.2, x7, x7b⟩, trivial, Le4⟩
              · refine rw_bsliceL EByte [10] (.an rfl rfl) (guard_none rfl) rfl rfl rfl rfl rfl rfl rfl rfl rfl rfl rfl rfl rfl rfl rfl fun x8 x8b => ?_
                refine ra_one 7 Kr ?_
                refine rw_appendS d1.wait ((note_Print r1).1) (b := x4.2) (.lo (x4.2 : Option Nat).toList rfl rfl) (fun g h => .inr (by simp [h])) (guard_none rfl) rfl rfl rfl rfl rfl rfl rfl und_9 (fun _ _ => Uo) rfl rfl rfl rfl rfl (by omega) fun x9 x9b => ?_
                refine ra_one 9 Kr ?_
                refine rw_appendL EByte (d1.wait ++ ((note_Print r1).1)) [10] (b := x9b) (.lo (x9b : Option Nat).toList rfl rfl) (fun g h => .inr (by simp [h])) (guard_none rfl) rfl rfl rfl rfl rfl rfl rfl (fun _ _ => Uo) rfl rfl rfl rfl rfl rfl rfl (reads_ownL (e := 5) (b := x8b) Mm) (by show ((d1.wait ++ ((note_Print r1).1)).length + 1) * 1 ≤ 140737488355328; (try simp only [List.length_append, List.length_cons, List.length_nil]); omega) fun x10 x10b => ?_
                refine Ra 10 [] rfl Qp ?_
                refine ra_one 11 Kr ?_
                refine rw_stA (.an rfl rfl) (.inr (by simp)) (guard_none rfl) rfl rfl rfl rfl rfl rfl rfl rfl rfl Ub rfl ?_
                refine Ra 12 [] rfl Qp ?_
                refine ra_nil Kr ?_
                refine ⟨⟨x3.1, x3.2, x10, x10b⟩, trivial, Le4⟩
            · refine rw_bsliceL EByte [10] (.an rfl rfl) (guard_none rfl) rfl rfl rfl rfl rfl rfl rfl rfl rfl rfl rfl rfl rfl rfl rfl fun x11 x11b => ?_
              refine ra_one 5 Kr ?_
              refine rw_callG (slices_Clone_UInt8_spec y2 d1.wait) (.an rfl rfl) (.inr (by simp [Lent.ids])) (guard_none rfl) rfl rfl rfl Kr rfl rfl Sm (.nil _) (.nil _) ?_
              intro x12
              refine ra_one 7 Kr ?_
              refine rw_appendS d1.wait ((note_Print r1).1) (b := x12.2) (.lo (x12.2 : Option Nat).toList rfl rfl) (fun g h => .inr (by simp [h])) (guard_none rfl) rfl rfl rfl rfl rfl rfl rfl und_9 (fun _ _ => Uo) rfl rfl rfl rfl rfl (by omega) fun x13 x13b => ?_
              refine ra_one 9 Kr ?_
              refine rw_appendL EByte (d1.wait ++ ((note_Print r1).1)) [10] (b := x13b) (.lo (x13b : Option Nat).toList rfl rfl) (fun g h => .inr (by simp [h])) (guard_none rfl) rfl rfl rfl rfl rfl rfl rfl (fun _ _ => Uo) rfl rfl rfl rfl rfl rfl rfl (reads_ownL (e := 5) (b := x11b) Mm) (by show ((d1.wait ++ ((note_Print r1).1)).length + 1) * 1 ≤ 140737488355328; (try simp only [List.length_append, List.length_cons, List.length_nil]); omega) fun x14 x14b => ?_
              refine Ra 10 [] rfl Qp ?_
              refine ra_one 11 Kr ?_
              refine rw_stA (.an rfl rfl) (.inr (by simp)) (guard_none rfl) rfl rfl rfl rfl rfl rfl rfl rfl rfl Ub rfl ?_
              refine Ra 12 [] rfl Qp ?_
              refine ra_nil Kr ?_
              refine ⟨⟨x3.1, x3.2, x14, x14b⟩, trivial, Le4⟩
          · refine rw_bsliceL EByte [10] (.an rfl rfl) (guard_none rfl) rfl rfl rfl rfl rfl rfl rfl rfl rfl rfl rfl rfl rfl rfl rfl fun x15 x15b => ?_
            refine ra_one 2 Kr ?_
            refine rw_callG (slices_Clone_UInt8_spec y1 d1.safe) (.an rfl rfl) (.inr (by simp [Lent.ids])) (guard_none rfl) rfl rfl rfl Kr rfl rfl Sm (.nil _) (.nil _) ?_
            intro x16
            refine ra_one 5 Kr ?_
            refine rw_callG (slices_Clone_UInt8_spec y2 d1.wait) (.an rfl rfl) (.inr (by simp [Lent.ids])) (guard_none rfl) rfl rfl rfl Kr rfl rfl Sm (.nil _) (.nil _) ?_
            intro x17
            refine ra_one 7 Kr ?_
            refine rw_appendS d1.wait ((note_Print r1).1) (b := x17.2) (.lo (x17.2 : Option Nat).toList rfl rfl) (fun g h => .inr (by simp [h])) (guard_none rfl) rfl rfl rfl rfl rfl rfl rfl und_9 (fun _ _ => Uo) rfl rfl rfl rfl rfl (by omega) fun x18 x18b => ?_
            refine ra_one 9 Kr ?_
            refine rw_appendL EByte (d1.wait ++ ((note_Print r1).1)) [10] (b := x18b) (.lo (x18b : Option Nat).toList rfl rfl) (fun g h => .inr (by simp [h])) (guard_none rfl) rfl rfl rfl rfl rfl rfl rfl (fun _ _ => Uo) rfl rfl rfl rfl rfl rfl rfl (reads_ownL (e := 5) (b := x15b) Mm) (by show ((d1.wait ++ ((note_Print r1).1)).length + 1) * 1 ≤ 140737488355328; (try simp only [List.length_append, List.length_cons, List.length_nil]); omega) fun x19 x19b => ?_
            refine Ra 10 [] rfl Qp ?_
            refine ra_one 11 Kr ?_
            refine rw_stA (.an rfl rfl) (.inr (by simp)) (guard_none rfl) rfl rfl rfl rfl rfl rfl rfl rfl rfl Ub rfl ?_
            refine Ra 12 [] rfl Qp ?_
            refine ra_nil Kr ?_
            refine ⟨⟨x16.1, x16.2, x19, x19b⟩, trivial, Le4⟩
        · rintro ⟨x1, b1, x2, b2⟩ -
          simp only [List.cons_append, List.nil_append]
          (repeat refine cw_seq ?_)
          refine cw_le (le_freezeL EByte 5 x1 b1 d1.safe Uo) ?_
          refine cw_le (le_freezeL EByte 5 x2 b2 ((d1.wait ++ ((note_Print r1).1)) ++ [10]) Uo) ?_
          have hr4 : (disk_Put d1 r1) = ((⟨d1.safe, ((d1.wait ++ ((note_Print r1).1)) ++ [10])⟩ : Disk), 0) := by simp only [disk_Put, hc1, hc2, hc3, cond_true, cond_false]
          refine cw_ret ?_; rw [hr4]; exact Re ⟨x1, x2⟩ (Va (Vt Vn))

def disk_Sync (d1 : Disk) : Disk × Int :=
  (bif ((disk_Check d1) != 0) then ((⟨([] : List UInt8), ([] : List UInt8)⟩ : Disk), (disk_Check d1)) else (bif ((disk_Check (⟨([d1.safe, d1.wait].flatten), ([] : List UInt8)⟩ : Disk)) != 0) then ((⟨([] : List UInt8), ([] : List UInt8)⟩ : Disk), (disk_Check (⟨([d1.safe, d1.wait].flatten), ([] : List UInt8)⟩ : Disk))) else ((⟨([d1.safe, d1.wait].flatten), ([] : List UInt8)⟩ : Disk), 0)))
theorem disk_Sync_spec (y1 : SlV) (y2 : SlV) (d1 : Disk) : Does Tryd.prog 18 [.agg ⟨[y1.val d1.safe.length, y2.val d1.wait.length]⟩] [RdL EByte y1 d1.safe, RdL EByte y2 d1.wait, LibP Tryd.prog] (fun (X : SlV × SlV) => .tuple #[.agg ⟨[X.1.val (((disk_Sync d1).1).safe).length, X.2.val (((disk_Sync d1).1).wait).length]⟩, .int .i64 ((disk_Sync d1).2)]) (fun (X : SlV × SlV) => [RdL EByte X.1 (((disk_Sync d1).1).safe), RdL EByte X.2 (((disk_Sync d1).1).wait)]) := by
  refine does_of tab_ok Tryd.func18 rfl Tryd.ntmps18 Tryd.results18 rfl inferInstance (fun _ => inferInstance) fun C => ?_
  refine Pc EByte y1 d1.safe 1 fun hlen1 => ?_
  refine Pc EByte y2 d1.wait 1 fun hlen2 => ?_
  refine Tx ?_
  refine Bx fun g1 => ?_
  refine Al fun g2 => ?_
  refine Tx ?_
  refine Cl (disk_Check_spec y1 y2 d1) fun _ => ?_
  refine Tx ?_
  refine Cd (b := ((disk_Check d1) != 0)) (fun hc1 => ?_) fun hc1 => ?_
  · have hc1p := bne_iff_ne.1 hc1
    refine Tx ?_
    refine Fc EByte ?_
    have hr1 : (disk_Sync d1) = ((⟨([] : List UInt8), ([] : List UInt8)⟩ : Disk), (disk_Check d1)) := by simp only [disk_Sync, hc1, cond_true, cond_false]
    refine cw_ret ?_; rw [hr1]; exact Re ⟨(⟨none, 0⟩ : SlV), (⟨none, 0⟩ : SlV)⟩ (Va (Vt Vn))
  · have hc1p := eq_of_bne_false hc1
    have hdl := disk_Check_lens (eq_of_bne_false hc1)
    refine Tx ?_
    refine rw_bsliceL NBytes.E [(y1, d1.safe), (y2, d1.wait)] .sq (guard_none rfl) rfl rfl rfl rfl rfl rfl rfl rfl rfl rfl rfl rfl rfl rfl rfl fun x1 x1b => ?_
    refine rw_le (le_freezeL NBytes.E 39 x1 x1b [(y1, d1.safe), (y2, d1.wait)] Uo) ?_
    refine rw_fact (F := RdN NBytes x1 [d1.safe, d1.wait]) [RdL NBytes.E x1 [(y1, d1.safe), (y2, d1.wait)], RdL EByte y1 d1.safe, RdL EByte y2 d1.wait] Sm (fun M w h => RdN.of NBytes (hs := [(y1, d1.safe), (y2, d1.wait)]) rfl (h _ (.head _)) (allP_cons (allF_sub Sm h) (allP_cons (allF_sub Sm h) (fun p hp => by cases hp)))) ?_
    refine Cg (slices_Concat_UInt8_spec' x1 [d1.safe, d1.wait] (by simp only [List.flatten_cons, List.flatten_nil, List.length_append, List.length_nil, List.length_take]; omega)) fun x2 => ?_
    refine Rp rfl rfl rfl rfl ?_
    refine Al fun g3 => ?_
    refine Tx ?_
    refine Fr EByte ?_
    refine rw_callR (disk_Check_spec x2.1 (⟨none, 0⟩ : SlV) (⟨([d1.safe, d1.wait].flatten), ([] : List UInt8)⟩ : Disk)) .sq (guard_none rfl) rfl rfl rfl Kr rfl rfl (.own Mm (.fact Mm (.fact Mm (.nil _ _)))) ?_
    intro _
    refine Tx ?_
    refine Cd (b := ((disk_Check (⟨([d1.safe, d1.wait].flatten), ([] : List UInt8)⟩ : Disk)) != 0)) (fun hc2 => ?_) fun hc2 => ?_
    · have hc2p := bne_iff_ne.1 hc2
      refine Tx ?_
      have hr2 : (disk_Sync d1) = ((⟨([] : List UInt8), ([] : List UInt8)⟩ : Disk), (disk_Check (⟨([d1.safe, d1.wait].flatten), ([] : List UInt8)⟩ : Disk))) := by simp only [disk_Sync, hc1, hc2, cond_true, cond_false]
      refine cw_ret ?_; rw [hr2]; exact Re ⟨(⟨none, 0⟩ : SlV), (⟨none, 0⟩ : SlV)⟩ (Va (Vt Vn))
    · have hc2p := eq_of_bne_false hc2
      refine Tx ?_
      refine cw_le (le_freezeL EByte 5 x2.1 x2.2 ([d1.safe, d1.wait].flatten) Uo) ?_
      have hr3 : (disk_Sync d1) = ((⟨([d1.safe, d1.wait].flatten), ([] : List UInt8)⟩ : Disk), 0) := by simp only [disk_Sync, hc1, hc2, cond_true, cond_false]
      refine cw_ret ?_; rw [hr3]; exact Re ⟨x2.1, (⟨none, 0⟩ : SlV)⟩ (Va (Vt Vn))

def disk_Crash (d1 : Disk) (n1 : Int) : Disk × Int :=
  (bif ((disk_Check d1) != 0) then ((⟨([] : List UInt8), ([] : List UInt8)⟩ : Disk), (disk_Check d1)) else (bif (decide (n1 < 0) || decide (n1 > (d1.wait.length : Int))) then ((⟨([] : List UInt8), ([] : List UInt8)⟩ : Disk), 3) else ((⟨d1.safe, (d1.wait.take n1.toNat)⟩ : Disk), 0)))
theorem disk_Crash_spec (y1 : SlV) (y2 : SlV) (d1 : Disk) (n1 : Int) : Does Tryd.prog 19 [.agg ⟨[y1.val d1.safe.length, y2.val d1.wait.length]⟩, .int .i64 n1] [RdL EByte y1 d1.safe, RdL EByte y2 d1.wait, LibP Tryd.prog] (fun (X : SlV × SlV) => .tuple #[.agg ⟨[X.1.val (((disk_Crash d1 n1).1).safe).length, X.2.val (((disk_Crash d1 n1).1).wait).length]⟩, .int .i64 ((disk_Crash d1 n1).2)]) (fun (X : SlV × SlV) => [RdL EByte X.1 (((disk_Crash d1 n1).1).safe), RdL EByte X.2 (((disk_Crash d1 n1).1).wait)]) := by
  refine does_of tab_ok Tryd.func19 rfl Tryd.ntmps19 Tryd.results19 rfl inferInstance (fun _ => inferInstance) fun C => ?_
  refine Pc EByte y1 d1.safe 1 fun hlen1 => ?_
  refine Pc EByte y2 d1.wait 1 fun hlen2 => ?_
  refine Tx ?_
  refine Bx fun g1 => ?_
  refine Al fun g2 => ?_
  refine Tx ?_
  refine Cl (disk_Check_spec y1 y2 d1) fun _ => ?_
  refine Tx ?_
  refine Cd (b := ((disk_Check d1) != 0)) (fun hc1 => ?_) fun hc1 => ?_
  · have hc1p := bne_iff_ne.1 hc1
    refine Tx ?_
    refine Fc EByte ?_
    have hr1 : (disk_Crash d1 n1) = ((⟨([] : List UInt8), ([] : List UInt8)⟩ : Disk), (disk_Check d1)) := by simp only [disk_Crash, hc1, cond_true, cond_false]
    refine cw_ret ?_; rw [hr1]; exact Re ⟨(⟨none, 0⟩ : SlV), (⟨none, 0⟩ : SlV)⟩ (Va (Vt Vn))
  · have hc1p := eq_of_bne_false hc1
    have hdl := disk_Check_lens (eq_of_bne_false hc1)
    refine Tx ?_
    refine Cd (b := (decide (n1 < 0) || decide (n1 > (d1.wait.length : Int)))) (fun hc2 => ?_) fun hc2 => ?_
    · refine Tx ?_
      refine Fc EByte ?_
      have hr2 : (disk_Crash d1 n1) = ((⟨([] : List UInt8), ([] : List UInt8)⟩ : Disk), 3) := by simp only [disk_Crash, hc1, hc2, cond_true, cond_false]
      refine cw_ret ?_; rw [hr2]; exact Re ⟨(⟨none, 0⟩ : SlV), (⟨none, 0⟩ : SlV)⟩ (Va (Vt Vn))
    · have hrg := range_of hc2
      refine Tx ?_
      (repeat refine cw_seq ?_); refine cw_regionA (fun j => match j with | 9 => some [g2] | _ => some []) ?_
      refine Rb 0 [3,4,5,6] [1,2,7,8,9,10] rfl Qp ?_
      refine Rb 1 [3,4,5,6] [2,7,8,9,10] rfl Q1 ?_
      refine Rb 3 [2,5] [4,6,7,8,9,10] rfl Qp ?_
      refine Rb 4 [2,5] [6,7,8,9,10] rfl Q1 ?_
      refine Rb 5 [2] [6,7,8,9,10] rfl Qp ?_
      refine Rb 6 [2] [7,8,9,10] rfl (q_take EByte n1.toNat rfl rfl (fun _ => rfl) rfl (fun _ => rfl) rfl rfl Mm (fun _ => by omega) (fun _ => by omega)) ?_
      refine rw_fact (F := RdL EByte y2 (d1.wait.take n1.toNat)) [RdL EByte y2 d1.wait] Sm (fun M w h => (allF1 h).take _) ?_
      refine ra_one 2 Kr ?_
      refine rw_callG (slices_Clone_UInt8_spec y1 d1.safe) (.an rfl rfl) (.inr (by simp [Lent.ids])) (guard_none rfl) rfl rfl rfl Kr rfl rfl Sm (.nil _) (.nil _) ?_
      intro x1
      refine ra_one 7 Kr ?_
      refine rw_callG (slices_Clone_UInt8_spec y2 (d1.wait.take n1.toNat)) (.an rfl rfl) (.inr (by simp [Lent.ids])) (guard_none rfl) rfl rfl rfl Kr rfl rfl Sm (.nil _) (.nil _) ?_
      intro x2
      refine Ra 8 [] rfl Qp ?_
      refine ra_one 9 Kr ?_
      refine rw_stA (.an rfl rfl) (.inr (by simp)) (guard_none rfl) rfl rfl rfl rfl rfl rfl rfl rfl rfl Ub rfl ?_
      refine Ra 10 [] rfl Qp ?_
      refine ra_nil Kr ?_
      (repeat refine cw_seq ?_)
      refine cw_le (le_freezeL EByte 5 x1.1 x1.2 d1.safe Uo) ?_
      refine cw_le (le_freezeL EByte 5 x2.1 x2.2 (d1.wait.take n1.toNat) Uo) ?_
      have hr3 : (disk_Crash d1 n1) = ((⟨d1.safe, (d1.wait.take n1.toNat)⟩ : Disk), 0) := by simp only [disk_Crash, hc1, hc2, cond_true, cond_false]
      refine cw_ret ?_; rw [hr3]; exact Re ⟨x1.1, x2.1⟩ (Va (Vt Vn))

def disk_Recover (d1 : Disk) : Disk × (List Rec) × Int :=
  (bif ((disk_Check d1) != 0) then ((⟨([] : List UInt8), ([] : List UInt8)⟩ : Disk), ([] : List Rec), (disk_Check d1)) else ((⟨([d1.safe, (d1.wait.take (((disk_lines d1.wait (60 - (((disk_lines d1.safe 60).1).length : Int))).2.1).toNat))].flatten), ([] : List UInt8)⟩ : Disk), ((disk_lines d1.safe 60).1 ++ (disk_lines d1.wait (60 - (((disk_lines d1.safe 60).1).length : Int))).1), 0))
theorem disk_Recover_spec (y1 : SlV) (y2 : SlV) (d1 : Disk) : Does Tryd.prog 21 [.agg ⟨[y1.val d1.safe.length, y2.val d1.wait.length]⟩] [RdL EByte y1 d1.safe, RdL EByte y2 d1.wait, LibP Tryd.prog] (fun (X : SlV × SlV × SlV) => .tuple #[.agg ⟨[X.1.val (((disk_Recover d1).1).safe).length, X.2.1.val (((disk_Recover d1).1).wait).length]⟩, X.2.2.val ((disk_Recover d1).2.1).length, .int .i64 ((disk_Recover d1).2.2)]) (fun (X : SlV × SlV × SlV) => [RdL EByte X.1 (((disk_Recover d1).1).safe), RdL EByte X.2.1 (((disk_Recover d1).1).wait), RdN NRec X.2.2 ((disk_Recover d1).2.1)]) := by
  refine does_of tab_ok Tryd.func21 rfl Tryd.ntmps21 Tryd.results21 rfl inferInstance (fun _ => inferInstance) fun C => ?_
  refine Pc EByte y1 d1.safe 1 fun hlen1 => ?_
  refine Pc EByte y2 d1.wait 1 fun hlen2 => ?_
  refine Tx ?_
  refine Bx fun g1 => ?_
  refine Al fun g2 => ?_
  refine Tx ?_
  refine Cl (disk_Check_spec y1 y2 d1) fun _ => ?_
  refine Tx ?_
  refine Cd (b := ((disk_Check d1) != 0)) (fun hc1 => ?_) fun hc1 => ?_
  · have hc1p := bne_iff_ne.1 hc1
    refine Tx ?_
    refine Fc EByte ?_
    refine cw_fact (F := RdN NRec ⟨none, 0⟩ ([] : List Rec)) [] (.nil _) (fun M w _ => RdN.nil _ M w) ?_
    have hr1 : (disk_Recover d1) = ((⟨([] : List UInt8), ([] : List UInt8)⟩ : Disk), ([] : List Rec), (disk_Check d1)) := by simp only [disk_Recover, hc1, cond_true, cond_false]
    refine cw_ret ?_; rw [hr1]; exact Re ⟨(⟨none, 0⟩ : SlV), (⟨none, 0⟩ : SlV), (⟨none, 0⟩ : SlV)⟩ (Va (Vt (Vt Vn)))
  · have hc1p := eq_of_bne_false hc1
    have hdl := disk_Check_lens (eq_of_bne_false hc1)
    refine Tx ?_
    refine rw_q rfl rfl rfl (q_bstr (X := y1) (l := d1.safe) und_39 und_5 und_9 rfl rfl (fun _ => rfl) Mm) ?_
    refine Cg (disk_lines_spec d1.safe 60 (by first | assumption | omega)) fun x1 => ?_
    have hl1 := disk_lines_ok d1.safe 60
    refine Tx ?_
    refine rw_q rfl rfl rfl (q_bstr (X := y2) (l := d1.wait) und_39 und_5 und_9 rfl rfl (fun _ => rfl) Mm) ?_
    refine Tx ?_
    refine rw_q rfl rfl rfl (q_sub rfl rfl (fun _ => rfl) rfl (fun _ => rfl) (fun _ => by omega)) ?_
    refine Cg (disk_lines_spec d1.wait (60 - (((disk_lines d1.safe 60).1).length : Int)) (by first | assumption | omega)) fun x2 => ?_
    have hl2 := disk_lines_ok d1.wait (60 - ((disk_lines d1.safe 60).1.length : Int))
    refine Tx ?_
    (repeat refine cw_seq ?_); refine cw_regionA (fun j => match j with | 11 => some x1.2.1.toList | 12 => some [g2] | _ => some []) ?_
    refine Rb 0 [2,3,4,5,9,10] [1,6,7,8,11,12,13,14] rfl Qp ?_
    refine Rb 1 [2,3,4,5,9,10] [6,7,8,11,12,13,14] rfl Q1 ?_
    refine Rb 2 [4,9,10] [3,5,6,7,8,11,12,13,14] rfl Qp ?_
    refine Rb 3 [4,9,10] [5,6,7,8,11,12,13,14] rfl Q1 ?_
    refine Rb 4 [9,10] [5,6,7,8,11,12,13,14] rfl Qp ?_
    refine Rb 5 [9,10] [6,7,8,11,12,13,14] rfl (q_take EByte (((disk_lines d1.wait (60 - (((disk_lines d1.safe 60).1).length : Int))).2.1).toNat) rfl rfl (fun _ => rfl) rfl (fun _ => rfl) rfl rfl Mm (fun _ => by omega) (fun _ => by omega)) ?_
    refine rw_fact (F := RdL EByte y2 (d1.wait.take (((disk_lines d1.wait (60 - (((disk_lines d1.safe 60).1).length : Int))).2.1).toNat))) [RdL EByte y2 d1.wait] Sm (fun M w h => (allF1 h).take _) ?_
    refine Rb 9 [6,7,8,10] [11,12,13,14] rfl Qp ?_
    refine Rb 10 [6,7,8] [11,12,13,14] rfl Qp ?_
    refine ra_one 6 Kr ?_
    refine rw_bsliceL NBytes.E [(y1, d1.safe), (y2, (d1.wait.take (((disk_lines d1.wait (60 - (((disk_lines d1.safe 60).1).length : Int))).2.1).toNat)))] (.an rfl rfl) (guard_none rfl) rfl rfl rfl rfl rfl rfl rfl rfl rfl rfl rfl rfl rfl rfl rfl fun x3 x3b => ?_
    refine ra_one 7 Kr ?_
    refine rw_le (le_freezeL NBytes.E 39 x3 x3b [(y1, d1.safe), (y2, (d1.wait.take (((disk_lines d1.wait (60 - (((disk_lines d1.safe 60).1).length : Int))).2.1).toNat)))] Uo) ?_
    refine rw_fact (F := RdN NBytes x3 [d1.safe, (d1.wait.take (((disk_lines d1.wait (60 - (((disk_lines d1.safe 60).1).length : Int))).2.1).toNat))]) [RdL NBytes.E x3 [(y1, d1.safe), (y2, (d1.wait.take (((disk_lines d1.wait (60 - (((disk_lines d1.safe 60).1).length : Int))).2.1).toNat)))], RdL EByte y1 d1.safe, RdL EByte y2 (d1.wait.take (((disk_lines d1.wait (60 - (((disk_lines d1.safe 60).1).length : Int))).2.1).toNat))] Sm (fun M w h => RdN.of NBytes (hs := [(y1, d1.safe), (y2, (d1.wait.take (((disk_lines d1.wait (60 - (((disk_lines d1.safe 60).1).length : Int))).2.1).toNat)))]) rfl (h _ (.head _)) (allP_cons (allF_sub Sm h) (allP_cons (allF_sub Sm h) (fun p hp => by cases hp)))) ?_
    refine rw_callG (slices_Concat_UInt8_spec' x3 [d1.safe, (d1.wait.take (((disk_lines d1.wait (60 - (((disk_lines d1.safe 60).1).length : Int))).2.1).toNat))] (by simp only [List.flatten_cons, List.flatten_nil, List.length_append, List.length_nil, List.length_take]; omega)) (.an rfl rfl) (.inr (by simp [Lent.ids])) (guard_none rfl) rfl rfl rfl Kr rfl rfl Sm (.nil _) (.nil _) ?_
    intro x4
    refine ra_q (.an (i := 8) (js := [11]) rfl Kr Kr Kr Kr) (SplitB.all _) (by intro g hg; simp only [List.mem_append, List.mem_singleton, List.not_mem_nil, or_false, false_or, Option.mem_toList, Option.mem_def, List.append_nil] at hg; first | exact .inr ⟨ownL NRec.E 28 x1.1 x1.2.1 (zipG x1.2.2 0 ((disk_lines d1.safe 60).1)), Mm, hg⟩) rfl rfl rfl (q_pev rfl (fun _ => rfl)) ?_
    refine ra_one 11 Kr ?_
    refine rw_appendN NRec x1.2.2 x2.2.2 ((disk_lines d1.safe 60).1) ((disk_lines d1.wait (60 - (((disk_lines d1.safe 60).1).length : Int))).1) (b := x1.2.1) (.an rfl rfl) (fun g h => .inr (by simp [h])) (guard_none rfl) rfl rfl rfl rfl rfl rfl rfl (fun _ _ => Uo) rfl rfl rfl rfl rfl rfl rfl (reads_ownN (e := 28) (b := x2.2.1) Mm) (by show (((disk_lines d1.safe 60).1).length + ((disk_lines d1.wait (60 - (((disk_lines d1.safe 60).1).length : Int))).1).length) * 104 ≤ 140737488355328; (try simp only [List.length_append, List.length_cons, List.length_nil]); omega) fun x5 x5b => ?_
    refine rw_fact (F := FactsG NRec (appG x1.2.2 ((disk_lines d1.safe 60).1).length x2.2.2) ((disk_lines d1.safe 60).1 ++ (disk_lines d1.wait (60 - (((disk_lines d1.safe 60).1).length : Int))).1)) [FactsG NRec x1.2.2 ((disk_lines d1.safe 60).1), FactsG NRec x2.2.2 ((disk_lines d1.wait (60 - (((disk_lines d1.safe 60).1).length : Int))).1)] Sm (fun M w h => FactsG.app NRec (h _ (.head _)) (h _ (.tail _ (.head _)))) ?_
    refine ra_one 12 Kr ?_
    refine rw_stA (.an rfl rfl) (.inr (by simp)) (guard_none rfl) rfl rfl rfl rfl rfl rfl rfl rfl rfl Ub rfl ?_
    refine Ra 13 [] rfl Qp ?_
    refine Ra 14 [] rfl Qp ?_
    refine ra_nil Kr ?_
    (repeat refine cw_seq ?_)
    refine cw_le (le_freezeL EByte 5 x4.1 x4.2 ([d1.safe, (d1.wait.take (((disk_lines d1.wait (60 - (((disk_lines d1.safe 60).1).length : Int))).2.1).toNat))].flatten) Uo) ?_
    refine Fc EByte ?_
    refine cw_le (le_freezeL NRec.E 28 x5 x5b (zipG (appG x1.2.2 ((disk_lines d1.safe 60).1).length x2.2.2) 0 ((disk_lines d1.safe 60).1 ++ (disk_lines d1.wait (60 - (((disk_lines d1.safe 60).1).length : Int))).1)) Uo) ?_
    refine cw_fact (F := RdN NRec x5 ((disk_lines d1.safe 60).1 ++ (disk_lines d1.wait (60 - (((disk_lines d1.safe 60).1).length : Int))).1)) [RdG NRec x5 (appG x1.2.2 ((disk_lines d1.safe 60).1).length x2.2.2) ((disk_lines d1.safe 60).1 ++ (disk_lines d1.wait (60 - (((disk_lines d1.safe 60).1).length : Int))).1), FactsG NRec (appG x1.2.2 ((disk_lines d1.safe 60).1).length x2.2.2) ((disk_lines d1.safe 60).1 ++ (disk_lines d1.wait (60 - (((disk_lines d1.safe 60).1).length : Int))).1)] Sm (fun M w h => RdN.ofG NRec (h _ (.head _)) (h _ (.tail _ (.head _)))) ?_
    have hr2 : (disk_Recover d1) = ((⟨([d1.safe, (d1.wait.take (((disk_lines d1.wait (60 - (((disk_lines d1.safe 60).1).length : Int))).2.1).toNat))].flatten), ([] : List UInt8)⟩ : Disk), ((disk_lines d1.safe 60).1 ++ (disk_lines d1.wait (60 - (((disk_lines d1.safe 60).1).length : Int))).1), 0) := by simp only [disk_Recover, hc1, cond_true, cond_false]
    refine cw_ret ?_; rw [hr2]; exact Re ⟨x4.1, (⟨none, 0⟩ : SlV), x5⟩ (Va (Vt (Vt Vn)))

def disk_Same (a1 : Disk) (b1 : Disk) : Bool :=
  ((decide (a1.safe = b1.safe)) && (decide (a1.wait = b1.wait)))
theorem disk_Same_spec (y1 : SlV) (y2 : SlV) (a1 : Disk) (y3 : SlV) (y4 : SlV) (b1 : Disk) : Does Tryd.prog 24 [.agg ⟨[y1.val a1.safe.length, y2.val a1.wait.length]⟩, .agg ⟨[y3.val b1.safe.length, y4.val b1.wait.length]⟩] [RdL EByte y1 a1.safe, RdL EByte y2 a1.wait, RdL EByte y3 b1.safe, RdL EByte y4 b1.wait] (fun (_ : Unit) => .bool (disk_Same a1 b1)) (fun (_ : Unit) => []) := by
  refine does_of tab_ok Tryd.func24 rfl Tryd.ntmps24 Tryd.results24 rfl inferInstance (fun _ => inferInstance) fun C => ?_
  refine Pc EByte y1 a1.safe 1 fun hlen1 => ?_
  refine Pc EByte y2 a1.wait 1 fun hlen2 => ?_
  refine Pc EByte y3 b1.safe 1 fun hlen3 => ?_
  refine Pc EByte y4 b1.wait 1 fun hlen4 => ?_
  refine Tx ?_
  refine Bx fun g1 => ?_
  refine Bx fun g2 => ?_
  refine Tx ?_
  refine Cl ((fun y1 a y2 b => slices_Equal_UInt8_spec' y1 y2 a b) y1 a1.safe y3 b1.safe) fun _ => ?_
  refine Tx ?_
  refine rw_callg (fun hG_ => (fun y1 a y2 b => slices_Equal_UInt8_spec' y1 y2 a b) y2 a1.wait y4 b1.wait) (fun _ => rfl) .sq (guard_vt rfl rfl rfl) rfl rfl rfl Kr rfl Bt Sm ?_
  refine Tx ?_
  have hr1 : (disk_Same a1 b1) = ((decide (a1.safe = b1.safe)) && (decide (a1.wait = b1.wait))) := by simp only [disk_Same, cond_true, cond_false]
  refine cw_ret ?_; rw [hr1]; exact Re () (Vt Vn)

def orangeryref_SameDisk (a1 : Disk) (b1 : Disk) : Bool :=
  ((decide (a1.safe = b1.safe)) && (decide (a1.wait = b1.wait)))
theorem orangeryref_SameDisk_spec (y1 : SlV) (y2 : SlV) (a1 : Disk) (y3 : SlV) (y4 : SlV) (b1 : Disk) : Does Tryd.prog 27 [.agg ⟨[y1.val a1.safe.length, y2.val a1.wait.length]⟩, .agg ⟨[y3.val b1.safe.length, y4.val b1.wait.length]⟩] [RdL EByte y1 a1.safe, RdL EByte y2 a1.wait, RdL EByte y3 b1.safe, RdL EByte y4 b1.wait] (fun (_ : Unit) => .bool (orangeryref_SameDisk a1 b1)) (fun (_ : Unit) => []) := by
  refine does_of tab_ok Tryd.func27 rfl Tryd.ntmps27 Tryd.results27 rfl inferInstance (fun _ => inferInstance) fun C => ?_
  refine Pc EByte y1 a1.safe 1 fun hlen1 => ?_
  refine Pc EByte y2 a1.wait 1 fun hlen2 => ?_
  refine Pc EByte y3 b1.safe 1 fun hlen3 => ?_
  refine Pc EByte y4 b1.wait 1 fun hlen4 => ?_
  refine Tx ?_
  refine Bx fun g1 => ?_
  refine Bx fun g2 => ?_
  refine Tx ?_
  refine Cl ((fun y1 a y2 b => slices_Equal_UInt8_spec' y1 y2 a b) y1 a1.safe y3 b1.safe) fun _ => ?_
  refine Tx ?_
  refine rw_callg (fun hG_ => (fun y1 a y2 b => slices_Equal_UInt8_spec' y1 y2 a b) y2 a1.wait y4 b1.wait) (fun _ => rfl) .sq (guard_vt rfl rfl rfl) rfl rfl rfl Kr rfl Bt Sm ?_
  refine Tx ?_
  have hr1 : (orangeryref_SameDisk a1 b1) = ((decide (a1.safe = b1.safe)) && (decide (a1.wait = b1.wait))) := by simp only [orangeryref_SameDisk, cond_true, cond_false]
  refine cw_ret ?_; rw [hr1]; exact Re () (Vt Vn)
end Go.Proofs.YtaiefncoholnnaaDoor
