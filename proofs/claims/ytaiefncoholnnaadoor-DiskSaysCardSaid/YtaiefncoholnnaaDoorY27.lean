/- Part of this claim. No condition. -/
import Derived.Test.YtaiefncoholnnaaDoorLDiskC
import Derived.Test.YtaiefncoholnnaaDoorY4
set_option linter.unusedVariables false
set_option linter.unusedSimpArgs false
set_option maxHeartbeats 2000000
namespace Go.Proofs.YtaiefncoholnnaaDoor
open Go Go.Proofs.YtaiefncoholnnaaDoor.Fw Go.Proofs
attribute [local irreducible] RdL RdN VarP LibP RW CW
def orangeryref_CheckDisk (d1 : Disk) : Int :=
  (bif (decide ((d1.safe.length : Int) > 60000) || decide ((d1.wait.length : Int) > (60000 - (d1.safe.length : Int)))) then 2 else (orangeryref_linesOf d1.safe 60).2.2)
theorem orangeryref_CheckDisk_spec (y1 : SlV) (y2 : SlV) (d1 : Disk) : Does Tryd.prog 25 [.agg ⟨[y1.val d1.safe.length, y2.val d1.wait.length]⟩] [RdL EByte y1 d1.safe, RdL EByte y2 d1.wait, LibP Tryd.prog] (fun (_ : Unit) => .int .i64 (orangeryref_CheckDisk d1)) (fun (_ : Unit) => []) := by
  refine does_of tab_ok Tryd.func25 rfl Tryd.ntmps25 Tryd.results25 rfl inferInstance (fun _ => inferInstance) fun C => ?_
  refine Pc EByte y1 d1.safe 1 fun hlen1 => ?_
  refine Pc EByte y2 d1.wait 1 fun hlen2 => ?_
  refine Tx ?_
  refine Bx fun g1 => ?_
  refine Tx ?_
  refine rw_qg (guard_vf rfl rfl rfl) rfl rfl (q_sub rfl rfl Bt rfl Bt (by intro h; first | omega | (simp at h; omega))) ?_
  refine Tx ?_
  refine Cd (b := (decide ((d1.safe.length : Int) > 60000) || decide ((d1.wait.length : Int) > (60000 - (d1.safe.length : Int))))) (fun hc1 => ?_) fun hc1 => ?_
  · refine Tx ?_
    have hr1 : (orangeryref_CheckDisk d1) = 2 := by simp only [orangeryref_CheckDisk, hc1, cond_true, cond_false]
    refine cw_ret ?_; rw [hr1]; exact Re () (Vt Vn)
  · have hdl := disk_lens hc1
    refine Tx ?_
    refine rw_q rfl rfl rfl (q_bstr (X := y1) (l := d1.safe) und_39 und_5 und_9 rfl rfl (fun _ => rfl) Mm) ?_
    refine Cl (orangeryref_linesOf_spec d1.safe 60 (by first | assumption | omega)) fun x1 => ?_
    refine Pm NRec x1 ((orangeryref_linesOf d1.safe 60).1) 104 fun hlen3 => ?_
    refine Tx ?_
    have hr2 : (orangeryref_CheckDisk d1) = (orangeryref_linesOf d1.safe 60).2.2 := by simp only [orangeryref_CheckDisk, hc1, cond_true, cond_false]
    refine cw_ret ?_; rw [hr2]; exact Re () (Vt Vn)


theorem CheckDisk_lens {d : Disk} (h : orangeryref_CheckDisk d = 0) : d.safe.length ≤ 60000 ∧ d.safe.length + d.wait.length ≤ 60000 := by
  unfold orangeryref_CheckDisk at h
  generalize hb : (decide ((d.safe.length : Int) > 60000) || decide ((d.wait.length : Int) > (60000 - (d.safe.length : Int)))) = b at h
  cases b with
  | true => simp at h
  | false => exact disk_lens hb
theorem RecText_len (r : Rec) : (orangeryref_RecText r).1.length ≤ 159 := by rw [RecText_eq]; exact Print_len r

def orangeryref_PutOn (d1 : Disk) (r1 : Rec) : Disk × Int :=
  (bif (((orangeryref_RecText r1).2) != 0) then ((⟨([] : List UInt8), ([] : List UInt8)⟩ : Disk), (orangeryref_RecText r1).2) else (bif decide (((((d1.safe.length : Int) + (d1.wait.length : Int)) + (((orangeryref_RecText r1).1).length : Int)) + 1) > 60000) then ((⟨([] : List UInt8), ([] : List UInt8)⟩ : Disk), 2) else ((⟨d1.safe, ([d1.wait, (((orangeryref_RecText r1).1) ++ ([10] : Str))].flatten)⟩ : Disk), 0)))
theorem orangeryref_PutOn_spec (y1 : SlV) (y2 : SlV) (d1 : Disk) (y3 : SlV) (r1 : Rec) (hdl : d1.safe.length ≤ 60000 ∧ d1.safe.length + d1.wait.length ≤ 60000) : Does Tryd.prog 28 [.agg ⟨[y1.val d1.safe.length, y2.val d1.wait.length]⟩, .agg ⟨[.int .i64 r1.kind, .int .i64 r1.who, .int .i64 r1.life, y3.val r1.roots.length, .int .i64 r1.o.time, .int .i64 r1.o.who, .int .i64 r1.o.node, .int .i64 r1.o.parent, .int .i64 r1.o.name, .int .i64 r1.o.life, .int .i64 r1.o.seq]⟩] [RdL EByte y1 d1.safe, RdL EByte y2 d1.wait, RdL EInt y3 r1.roots, LibP Tryd.prog] (fun (X : SlV × SlV) => .tuple #[.agg ⟨[X.1.val (((orangeryref_PutOn d1 r1).1).safe).length, X.2.val (((orangeryref_PutOn d1 r1).1).wait).length]⟩, .int .i64 ((orangeryref_PutOn d1 r1).2)]) (fun (X : SlV × SlV) => [RdL EByte X.1 (((orangeryref_PutOn d1 r1).1).safe), RdL EByte X.2 (((orangeryref_PutOn d1 r1).1).wait)]) := by
  refine does_of tab_ok Tryd.func28 rfl Tryd.ntmps28 Tryd.results28 rfl inferInstance (fun _ => inferInstance) fun C => ?_
  refine Pc EByte y1 d1.safe 1 fun hlen1 => ?_
  refine Pc EByte y2 d1.wait 1 fun hlen2 => ?_
  refine Pc EInt y3 r1.roots 8 fun hlen3 => ?_
  refine Tx ?_
  refine Bx fun g1 => ?_
  refine Bx fun g2 => ?_
  refine Al fun g3 => ?_
  refine Tx ?_
  refine Cl (orangeryref_RecText_spec y3 r1) fun _ => ?_
  have hpl := RecText_len r1; have h10 : ([10] : Str).length = 1 := rfl
  refine Tx ?_
  refine Cd (b := (((orangeryref_RecText r1).2) != 0)) (fun hc1 => ?_) fun hc1 => ?_
  · have hc1p := bne_iff_ne.1 hc1
    refine Tx ?_
    refine Fc EByte ?_
    have hr1 : (orangeryref_PutOn d1 r1) = ((⟨([] : List UInt8), ([] : List UInt8)⟩ : Disk), (orangeryref_RecText r1).2) := by simp only [orangeryref_PutOn, hc1, cond_true, cond_false]
    refine cw_ret ?_; rw [hr1]; exact Re ⟨(⟨none, 0⟩ : SlV), (⟨none, 0⟩ : SlV)⟩ (Va (Vt Vn))
  · have hc1p := eq_of_bne_false hc1
    refine Tx ?_
    refine rw_q rfl rfl rfl (q_add rfl rfl (fun _ => rfl) rfl (fun _ => rfl) (fun _ => by omega)) ?_
    refine Rp rfl rfl rfl rfl ?_
    refine rw_q rfl rfl rfl (q_lenS (a := (orangeryref_RecText r1).1) rfl rfl (fun _ => rfl) und_9) ?_
    refine rw_q rfl rfl rfl (q_add rfl rfl (fun _ => rfl) rfl (fun _ => rfl) (fun _ => by omega)) ?_
    refine rw_q rfl rfl rfl (q_add rfl rfl (fun _ => rfl) rfl (fun _ => rfl) (fun _ => by omega)) ?_
    refine Tx ?_
    refine Cd (b := decide (((((d1.safe.length : Int) + (d1.wait.length : Int)) + (((orangeryref_RecText r1).1).length : Int)) + 1) > 60000)) (fun hc2 => ?_) fun hc2 => ?_
    · have hc2p := of_decide_eq_true hc2
      refine Tx ?_
      refine Fc EByte ?_
      have hr2 : (orangeryref_PutOn d1 r1) = ((⟨([] : List UInt8), ([] : List UInt8)⟩ : Disk), 2) := by simp only [orangeryref_PutOn, hc1, hc2, cond_true, cond_false]
      refine cw_ret ?_; rw [hr2]; exact Re ⟨(⟨none, 0⟩ : SlV), (⟨none, 0⟩ : SlV)⟩ (Va (Vt Vn))
    · have hc2p := of_decide_eq_false hc2
      refine Tx ?_
      (repeat refine cw_seq ?_); refine cw_regionA (fun j => match j with | 10 => some [g3] | _ => some []) ?_
      refine Rb 0 [2,3,4,5,6,7,8] [1,9,10,11] rfl Qp ?_
      refine Ra 1 [2,3,4,5,6,7,8] rfl Q1 ?_
      refine Rb 2 [4,5,6] [3,7,8,9,10,11] rfl Qp ?_
      refine Rb 3 [4,5,6] [7,8,9,10,11] rfl Q1 ?_
      refine Rb 4 [] [5,6,7,8,9,10,11] rfl Qp ?_
      refine Rb 5 [] [6,7,8,9,10,11] rfl (q_addS (a := (orangeryref_RecText r1).1) (b := ([10] : Str)) rfl rfl (fun _ => rfl) rfl (fun _ => rfl) (fun _ => by omega)) ?_
      refine ra_one 6 Kr ?_
      refine rw_sbytes (l := (((orangeryref_RecText r1).1) ++ ([10] : Str))) (.an rfl rfl) (guard_none rfl) rfl rfl und_9 und_39 und_5 rfl rfl rfl (by (try simp only [List.length_append, List.length_cons, List.length_nil]); omega) fun x1 => ?_
      refine ra_one 7 Kr ?_
      refine rw_bsliceL NBytes.E [(y2, d1.wait), (x1, (((orangeryref_RecText r1).1) ++ ([10] : Str)))] (.an rfl rfl) (guard_none rfl) rfl rfl rfl rfl rfl rfl rfl rfl rfl rfl rfl rfl rfl rfl rfl fun x2 x2b => ?_
      refine ra_one 8 Kr ?_
      refine rw_le (le_freezeL NBytes.E 39 x2 x2b [(y2, d1.wait), (x1, (((orangeryref_RecText r1).1) ++ ([10] : Str)))] Uo) ?_
      refine rw_fact (F := RdN NBytes x2 [d1.wait, (((orangeryref_RecText r1).1) ++ ([10] : Str))]) [RdL NBytes.E x2 [(y2, d1.wait), (x1, (((orangeryref_RecText r1).1) ++ ([10] : Str)))], RdL EByte y2 d1.wait, RdL EByte x1 (((orangeryref_RecText r1).1) ++ ([10] : Str))] Sm (fun M w h => RdN.of NBytes (hs := [(y2, d1.wait), (x1, (((orangeryref_RecText r1).1) ++ ([10] : Str)))]) rfl (h _ (.head _)) (allP_cons (allF_sub Sm h) (allP_cons (allF_sub Sm h) (fun p hp => by cases hp)))) ?_
      refine rw_callG (slices_Concat_UInt8_spec' x2 [d1.wait, (((orangeryref_RecText r1).1) ++ ([10] : Str))] (by simp only [List.flatten_cons, List.flatten_nil, List.length_append, List.length_nil, List.length_take]; omega)) (.an rfl rfl) (.inr (by simp [Lent.ids])) (guard_none rfl) rfl rfl rfl Kr rfl rfl Sm (.nil _) (.nil _) ?_
      intro x3
      refine Ra 9 [] rfl Qp ?_
      refine ra_one 10 Kr ?_
      refine rw_stA (.an rfl rfl) (.inr (by simp)) (guard_none rfl) rfl rfl rfl rfl rfl rfl rfl rfl rfl Ub rfl ?_
      refine Ra 11 [] rfl Qp ?_
      refine ra_nil Kr ?_
      (repeat refine cw_seq ?_)
      refine cw_le (le_freezeL EByte 5 x3.1 x3.2 ([d1.wait, (((orangeryref_RecText r1).1) ++ ([10] : Str))].flatten) Uo) ?_
      have hr3 : (orangeryref_PutOn d1 r1) = ((⟨d1.safe, ([d1.wait, (((orangeryref_RecText r1).1) ++ ([10] : Str))].flatten)⟩ : Disk), 0) := by simp only [orangeryref_PutOn, hc1, hc2, cond_true, cond_false]
      refine cw_ret ?_; rw [hr3]; exact Re ⟨y1, x3.1⟩ (Va (Vt Vn))

def orangeryref_Synced (d1 : Disk) : Disk × Int :=
  (bif ((orangeryref_CheckDisk (⟨([d1.safe, d1.wait].flatten), ([] : List UInt8)⟩ : Disk)) != 0) then ((⟨([] : List UInt8), ([] : List UInt8)⟩ : Disk), (orangeryref_CheckDisk (⟨([d1.safe, d1.wait].flatten), ([] : List UInt8)⟩ : Disk))) else ((⟨([d1.safe, d1.wait].flatten), ([] : List UInt8)⟩ : Disk), 0))
theorem orangeryref_Synced_spec (y1 : SlV) (y2 : SlV) (d1 : Disk) (hdl : d1.safe.length ≤ 60000 ∧ d1.safe.length + d1.wait.length ≤ 60000) : Does Tryd.prog 29 [.agg ⟨[y1.val d1.safe.length, y2.val d1.wait.length]⟩] [RdL EByte y1 d1.safe, RdL EByte y2 d1.wait, LibP Tryd.prog] (fun (X : SlV × SlV) => .tuple #[.agg ⟨[X.1.val (((orangeryref_Synced d1).1).safe).length, X.2.val (((orangeryref_Synced d1).1).wait).length]⟩, .int .i64 ((orangeryref_Synced d1).2)]) (fun (X : SlV × SlV) => [RdL EByte X.1 (((orangeryref_Synced d1).1).safe), RdL EByte X.2 (((orangeryref_Synced d1).1).wait)]) := by
  refine does_of tab_ok Tryd.func29 rfl Tryd.ntmps29 Tryd.results29 rfl inferInstance (fun _ => inferInstance) fun C => ?_
  refine Pc EByte y1 d1.safe 1 fun hlen1 => ?_
  refine Pc EByte y2 d1.wait 1 fun hlen2 => ?_
  refine Tx ?_
  refine Bx fun g1 => ?_
  refine Al fun g2 => ?_
  refine Tx ?_
  refine rw_bsliceL NBytes.E [(y1, d1.safe), (y2, d1.wait)] .sq (guard_none rfl) rfl rfl rfl rfl rfl rfl rfl rfl rfl rfl rfl rfl rfl rfl rfl fun x1 x1b => ?_
  refine rw_le (le_freezeL NBytes.E 39 x1 x1b [(y1, d1.safe), (y2, d1.wait)] Uo) ?_
  refine rw_fact (F := RdN NBytes x1 [d1.safe, d1.wait]) [RdL NBytes.E x1 [(y1, d1.safe), (y2, d1.wait)], RdL EByte y1 d1.safe, RdL EByte y2 d1.wait] Sm (fun M w h => RdN.of NBytes (hs := [(y1, d1.safe), (y2, d1.wait)]) rfl (h _ (.head _)) (allP_cons (allF_sub Sm h) (allP_cons (allF_sub Sm h) (fun p hp => by cases hp)))) ?_
  refine Cg (slices_Concat_UInt8_spec' x1 [d1.safe, d1.wait] (by simp only [List.flatten_cons, List.flatten_nil, List.length_append, List.length_nil, List.length_take]; omega)) fun x2 => ?_
  refine Tx ?_
  refine Fr EByte ?_
  refine rw_callR (orangeryref_CheckDisk_spec x2.1 (⟨none, 0⟩ : SlV) (⟨([d1.safe, d1.wait].flatten), ([] : List UInt8)⟩ : Disk)) .sq (guard_none rfl) rfl rfl rfl Kr rfl rfl (.own Mm (.fact Mm (.fact Mm (.nil _ _)))) ?_
  intro _
  refine Tx ?_
  refine Cd (b := ((orangeryref_CheckDisk (⟨([d1.safe, d1.wait].flatten), ([] : List UInt8)⟩ : Disk)) != 0)) (fun hc1 => ?_) fun hc1 => ?_
  · have hc1p := bne_iff_ne.1 hc1
    refine Tx ?_
    have hr1 : (orangeryref_Synced d1) = ((⟨([] : List UInt8), ([] : List UInt8)⟩ : Disk), (orangeryref_CheckDisk (⟨([d1.safe, d1.wait].flatten), ([] : List UInt8)⟩ : Disk))) := by simp only [orangeryref_Synced, hc1, cond_true, cond_false]
    refine cw_ret ?_; rw [hr1]; exact Re ⟨(⟨none, 0⟩ : SlV), (⟨none, 0⟩ : SlV)⟩ (Va (Vt Vn))
  · have hc1p := eq_of_bne_false hc1
    refine Tx ?_
    refine cw_le (le_freezeL EByte 5 x2.1 x2.2 ([d1.safe, d1.wait].flatten) Uo) ?_
    have hr2 : (orangeryref_Synced d1) = ((⟨([d1.safe, d1.wait].flatten), ([] : List UInt8)⟩ : Disk), 0) := by simp only [orangeryref_Synced, hc1, cond_true, cond_false]
    refine cw_ret ?_; rw [hr2]; exact Re ⟨x2.1, (⟨none, 0⟩ : SlV)⟩ (Va (Vt Vn))

def orangeryref_Recovered (d1 : Disk) : Disk × (List Rec) :=
  ((⟨([d1.safe, (d1.wait.take (((orangeryref_linesOf d1.wait (60 - (((orangeryref_linesOf d1.safe 60).1).length : Int))).2.1).toNat))].flatten), ([] : List UInt8)⟩ : Disk), ([(orangeryref_linesOf d1.safe 60).1, (orangeryref_linesOf d1.wait (60 - (((orangeryref_linesOf d1.safe 60).1).length : Int))).1].flatten))
theorem orangeryref_Recovered_spec (y1 : SlV) (y2 : SlV) (d1 : Disk) (hdl : d1.safe.length ≤ 60000 ∧ d1.safe.length + d1.wait.length ≤ 60000) : Does Tryd.prog 30 [.agg ⟨[y1.val d1.safe.length, y2.val d1.wait.length]⟩] [RdL EByte y1 d1.safe, RdL EByte y2 d1.wait, LibP Tryd.prog] (fun (X : SlV × SlV × SlV) => .tuple #[.agg ⟨[X.1.val (((orangeryref_Recovered d1).1).safe).length, X.2.1.val (((orangeryref_Recovered d1).1).wait).length]⟩, X.2.2.val ((orangeryref_Recovered d1).2).length]) (fun (X : SlV × SlV × SlV) => [RdL EByte X.1 (((orangeryref_Recovered d1).1).safe), RdL EByte X.2.1 (((orangeryref_Recovered d1).1).wait), RdN NRec X.2.2 ((orangeryref_Recovered d1).2)]) := by
  refine does_of tab_ok Tryd.func30 rfl Tryd.ntmps30 Tryd.results30 rfl inferInstance (fun _ => inferInstance) fun C => ?_
  refine Pc EByte y1 d1.safe 1 fun hlen1 => ?_
  refine Pc EByte y2 d1.wait 1 fun hlen2 => ?_
  refine Tx ?_
  refine Bx fun g1 => ?_
  refine Al fun g2 => ?_
  refine Tx ?_
  refine rw_q rfl rfl rfl (q_bstr (X := y1) (l := d1.safe) und_39 und_5 und_9 rfl rfl (fun _ => rfl) Mm) ?_
  refine Cl (orangeryref_linesOf_spec d1.safe 60 (by first | assumption | omega)) fun x1 => ?_
  refine Pm NRec x1 ((orangeryref_linesOf d1.safe 60).1) 104 fun hlen3 => ?_
  have hl1 := linesOf_ok (s := d1.safe) (most := 60) (by omega) (by decide); have hm1 := linesOf_most (s := d1.safe) (most := 60) (by omega) (by decide)
  refine Tx ?_
  refine rw_q rfl rfl rfl (q_bstr (X := y2) (l := d1.wait) und_39 und_5 und_9 rfl rfl (fun _ => rfl) Mm) ?_
  refine Tx ?_
  refine rw_q rfl rfl rfl (q_sub rfl rfl (fun _ => rfl) rfl (fun _ => rfl) (fun _ => by omega)) ?_
  refine Cl (orangeryref_linesOf_spec d1.wait (60 - (((orangeryref_linesOf d1.safe 60).1).length : Int)) (by first | assumption | omega)) fun x2 => ?_
  refine Pm NRec x2 ((orangeryref_linesOf d1.wait (60 - (((orangeryref_linesOf d1.safe 60).1).length : Int))).1) 104 fun hlen4 => ?_
  have hl2 := linesOf_ok (s := d1.wait) (most := 60 - ((orangeryref_linesOf d1.safe 60).1.length : Int)) (by omega) (by omega)
  refine Tx ?_
  refine cw_join [2] [false, true] (fun (i_ : SlV × SlV × Option Nat) => match i_ with | ⟨x3, x4, b1⟩ => [(3, .v (x3.val ([(orangeryref_linesOf d1.safe 60).1, (orangeryref_linesOf d1.wait (60 - (((orangeryref_linesOf d1.safe 60).1).length : Int))).1].flatten).length))]) (fun (i_ : SlV × SlV × Option Nat) => match i_ with | ⟨x3, x4, b1⟩ => [⟨g2, 41, [x4.val ([d1.safe, (d1.wait.take (((orangeryref_linesOf d1.wait (60 - (((orangeryref_linesOf d1.safe 60).1).length : Int))).2.1).toNat))].flatten).length, .slice none 0 0]⟩]) (fun (i_ : SlV × SlV × Option Nat) => match i_ with | ⟨x3, x4, b1⟩ => [ownL EByte 5 x4 b1 ([d1.safe, (d1.wait.take (((orangeryref_linesOf d1.wait (60 - (((orangeryref_linesOf d1.safe 60).1).length : Int))).2.1).toNat))].flatten)]) (fun (i_ : SlV × SlV × Option Nat) => match i_ with | ⟨x3, x4, b1⟩ => [RdN NRec x3 ([(orangeryref_linesOf d1.safe 60).1, (orangeryref_linesOf d1.wait (60 - (((orangeryref_linesOf d1.safe 60).1).length : Int))).1].flatten)]) (fun _ => True) (.cons rfl (.nil _)) (.drop (.keep (.nil))) ?_ ?_
  · refine cw_regionA (fun j => match j with | 13 => some [g2] | _ => some []) ?_
    refine Rb 0 [2,3,4,5,9,10,11] [1,6,7,8,12,13,14] rfl Qp ?_
    refine Rb 1 [2,3,4,5,9,10,11] [6,7,8,12,13,14] rfl Q1 ?_
    refine Rb 2 [4,9,10,11] [3,5,6,7,8,12,13,14] rfl Qp ?_
    refine Rb 3 [4,9,10,11] [5,6,7,8,12,13,14] rfl Q1 ?_
    refine Rb 4 [9,10,11] [5,6,7,8,12,13,14] rfl Qp ?_
    refine Rb 5 [9,10,11] [6,7,8,12,13,14] rfl (q_take EByte (((orangeryref_linesOf d1.wait (60 - (((orangeryref_linesOf d1.safe 60).1).length : Int))).2.1).toNat) rfl rfl (fun _ => rfl) rfl (fun _ => rfl) rfl rfl Mm (fun _ => by omega) (fun _ => by omega)) ?_
    refine rw_fact (F := RdL EByte y2 (d1.wait.take (((orangeryref_linesOf d1.wait (60 - (((orangeryref_linesOf d1.safe 60).1).length : Int))).2.1).toNat))) [RdL EByte y2 d1.wait] Sm (fun M w h => (allF1 h).take _) ?_
    refine Rb 9 [6,7,8,10] [11,12,13,14] rfl Qp ?_
    refine Rb 10 [6,7,8] [11,12,13,14] rfl Qp ?_
    refine ra_two 6 11 Kr ?_ ?_
    · refine rw_bsliceL NBytes.E [(y1, d1.safe), (y2, (d1.wait.take (((orangeryref_linesOf d1.wait (60 - (((orangeryref_linesOf d1.safe 60).1).length : Int))).2.1).toNat)))] (.an rfl rfl) (guard_none rfl) rfl rfl rfl rfl rfl rfl rfl rfl rfl rfl rfl rfl rfl rfl rfl fun x5 x5b => ?_
      refine ra_two 7 11 Kr ?_ ?_
      · refine rw_le (le_freezeL NBytes.E 39 x5 x5b [(y1, d1.safe), (y2, (d1.wait.take (((orangeryref_linesOf d1.wait (60 - (((orangeryref_linesOf d1.safe 60).1).length : Int))).2.1).toNat)))] Uo) ?_
        refine rw_fact (F := RdN NBytes x5 [d1.safe, (d1.wait.take (((orangeryref_linesOf d1.wait (60 - (((orangeryref_linesOf d1.safe 60).1).length : Int))).2.1).toNat))]) [RdL NBytes.E x5 [(y1, d1.safe), (y2, (d1.wait.take (((orangeryref_linesOf d1.wait (60 - (((orangeryref_linesOf d1.safe 60).1).length : Int))).2.1).toNat)))], RdL EByte y1 d1.safe, RdL EByte y2 (d1.wait.take (((orangeryref_linesOf d1.wait (60 - (((orangeryref_linesOf d1.safe 60).1).length : Int))).2.1).toNat))] Sm (fun M w h => RdN.of NBytes (hs := [(y1, d1.safe), (y2, (d1.wait.take (((orangeryref_linesOf d1.wait (60 - (((orangeryref_linesOf d1.safe 60).1).length : Int))).2.1).toNat)))]) rfl (h _ (.head _)) (allP_cons (allF_sub Sm h) (allP_cons (allF_sub Sm h) (fun p hp => by cases hp)))) ?_
        refine rw_callG (slices_Concat_UInt8_spec' x5 [d1.safe, (d1.wait.take (((orangeryref_linesOf d1.wait (60 - (((orangeryref_linesOf d1.safe 60).1).length : Int))).2.1).toNat))] (by simp only [List.flatten_cons, List.flatten_nil, List.length_append, List.length_nil, List.length_take]; omega)) (.an rfl rfl) (.inr (by simp [Lent.ids])) (guard_none rfl) rfl rfl rfl Kr rfl rfl Sm (.nil _) (.nil _) ?_
        intro x6
        refine Ra 8 [11,12] rfl Qp ?_
        refine ra_one 11 Kr ?_
        refine rw_bsliceL NRecs.E [(x1, (orangeryref_linesOf d1.safe 60).1), (x2, (orangeryref_linesOf d1.wait (60 - (((orangeryref_linesOf d1.safe 60).1).length : Int))).1)] (.an rfl rfl) (guard_none rfl) rfl rfl rfl rfl rfl rfl rfl rfl rfl rfl rfl rfl rfl rfl rfl fun x7 x7b => ?_
        refine ra_one 12 Kr ?_
        refine rw_le (le_freezeL NRecs.E 38 x7 x7b [(x1, (orangeryref_linesOf d1.safe 60).1), (x2, (orangeryref_linesOf d1.wait (60 - (((orangeryref_linesOf d1.safe 60).1).length : Int))).1)] Uo) ?_
        refine rw_fact (F := RdN NRecs x7 [(orangeryref_linesOf d1.safe 60).1, (orangeryref_linesOf d1.wait (60 - (((orangeryref_linesOf d1.safe 60).1).length : Int))).1]) [RdL NRecs.E x7 [(x1, (orangeryref_linesOf d1.safe 60).1), (x2, (orangeryref_linesOf d1.wait (60 - (((orangeryref_linesOf d1.safe 60).1).length : Int))).1)], RdN NRec x1 ((orangeryref_linesOf d1.safe 60).1), RdN NRec x2 ((orangeryref_linesOf d1.wait (60 - (((orangeryref_linesOf d1.safe 60).1).length : Int))).1)] Sm (fun M w h => RdN.of NRecs (hs := [(x1, (orangeryref_linesOf d1.safe 60).1), (x2, (orangeryref_linesOf d1.wait (60 - (((orangeryref_linesOf d1.safe 60).1).length : Int))).1)]) rfl (h _ (.head _)) (allP_cons (allF_sub Sm h) (allP_cons (allF_sub Sm h) (fun p hp => by cases hp)))) ?_
        refine rw_callG (slices_Concat_Rec_spec' x7 [(orangeryref_linesOf d1.safe 60).1, (orangeryref_linesOf d1.wait (60 - (((orangeryref_linesOf d1.safe 60).1).length : Int))).1] (by simp only [List.flatten_cons, List.flatten_nil, List.length_append, List.length_nil]; omega)) (.an rfl rfl) (.inr (by simp [Lent.ids])) (guard_none rfl) rfl rfl rfl Kr rfl rfl Sm (.nil _) (.nil _) ?_
        intro x8
        refine rw_le (le_freezeL NRec.E 28 x8.1 x8.2.1 (zipG x8.2.2 0 ([(orangeryref_linesOf d1.safe 60).1, (orangeryref_linesOf d1.wait (60 - (((orangeryref_linesOf d1.safe 60).1).length : Int))).1].flatten)) Uo) ?_
        refine rw_fact (F := RdN NRec x8.1 ([(orangeryref_linesOf d1.safe 60).1, (orangeryref_linesOf d1.wait (60 - (((orangeryref_linesOf d1.safe 60).1).length : Int))).1].flatten)) [RdG NRec x8.1 x8.2.2 ([(orangeryref_linesOf d1.safe 60).1, (orangeryref_linesOf d1.wait (60 - (((orangeryref_linesOf d1.safe 60).1).length : Int))).1].flatten), FactsG NRec x8.2.2 ([(orangeryref_linesOf d1.safe 60).1, (orangeryref_linesOf d1.wait (60 - (((orangeryref_linesOf d1.safe 60).1).length : Int))).1].flatten)] Sm (fun M w h => RdN.ofG NRec (h _ (.head _)) (h _ (.tail _ (.head _)))) ?_
        refine ra_one 13 Kr ?_
        refine rw_stA (.an rfl rfl) (.inr (by simp)) (guard_none rfl) rfl rfl rfl rfl rfl rfl rfl rfl rfl Ub rfl ?_
        refine Ra 14 [] rfl Qp ?_
        refine ra_nil Kr ?_
        refine ⟨⟨x8.1, x6.1, x6.2⟩, trivial, Le4⟩
      · refine rw_bsliceL NRecs.E [(x1, (orangeryref_linesOf d1.safe 60).1), (x2, (orangeryref_linesOf d1.wait (60 - (((orangeryref_linesOf d1.safe 60).1).length : Int))).1)] (.an rfl rfl) (guard_none rfl) rfl rfl rfl rfl rfl rfl rfl rfl rfl rfl rfl rfl rfl rfl rfl fun x9 x9b => ?_
        refine ra_one 7 Kr ?_
        refine rw_le (le_freezeL NBytes.E 39 x5 x5b [(y1, d1.safe), (y2, (d1.wait.take (((orangeryref_linesOf d1.wait (60 - (((orangeryref_linesOf d1.safe 60).1).length : Int))).2.1).toNat)))] Uo) ?_
        refine rw_fact (F := RdN NBytes x5 [d1.safe, (d1.wait.take (((orangeryref_linesOf d1.wait (60 - (((orangeryref_linesOf d1.safe 60).1).length : Int))).2.1).toNat))]) [RdL NBytes.E x5 [(y1, d1.safe), (y2, (d1.wait.take (((orangeryref_linesOf d1.wait (60 - (((orangeryref_linesOf d1.safe 60).1).length : Int))).2.1).toNat)))], RdL EByte y1 d1.safe, RdL EByte y2 (d1.wait.take (((orangeryref_linesOf d1.wait (60 - (((orangeryref_linesOf d1.safe 60).1).length : Int))).2.1).toNat))] Sm (fun M w h => RdN.of NBytes (hs := [(y1, d1.safe), (y2, (d1.wait.take (((orangeryref_linesOf d1.wait (60 - (((orangeryref_linesOf d1.safe 60).1).length : Int))).2.1).toNat)))]) rfl (h _ (.head _)) (allP_cons (allF_sub Sm h) (allP_cons (allF_sub Sm h) (fun p hp => by cases hp)))) ?_
        refine rw_callG (slices_Concat_UInt8_spec' x5 [d1.safe, (d1.wait.take (((orangeryref_linesOf d1.wait (60 - (((orangeryref_linesOf d1.safe 60).1).length : Int))).2.1).toNat))] (by simp only [List.flatten_cons, List.flatten_nil, List.length_append, List.length_nil, List.length_take]; omega)) (.an rfl rfl) (.inr (by simp [Lent.ids])) (guard_none rfl) rfl rfl rfl Kr rfl rfl Sm (.nil _) (.nil _) ?_
        intro x10
        refine Ra 8 [12] rfl Qp ?_
        refine ra_one 12 Kr ?_
        refine rw_le (le_freezeL NRecs.E 38 x9 x9b [(x1, (orangeryref_linesOf d1.safe 60).1), (x2, (orangeryref_linesOf d1.wait (60 - (((orangeryref_linesOf d1.safe 60).1).length : Int))).1)] Uo) ?_
        refine rw_fact (F := RdN NRecs x9 [(orangeryref_linesOf d1.safe 60).1, (orangeryref_linesOf d1.wait (60 - (((orangeryref_linesOf d1.safe 60).1).length : Int))).1]) [RdL NRecs.E x9 [(x1, (orangeryref_linesOf d1.safe 60).1), (x2, (orangeryref_linesOf d1.wait (60 - (((orangeryref_linesOf d1.safe 60).1).length : Int))).1)], RdN NRec x1 ((orangeryref_linesOf d1.safe 60).1), RdN NRec x2 ((orangeryref_linesOf d1.wait (60 - (((orangeryref_linesOf d1.safe 60).1).length : Int))).1)] Sm (fun M w h => RdN.of NRecs (hs := [(x1, (orangeryref_linesOf d1.safe 60).1), (x2, (orangeryref_linesOf d1.wait (60 - (((orangeryref_linesOf d1.safe 60).1).length : Int))).1)]) rfl (h _ (.head _)) (allP_cons (allF_sub Sm h) (allP_cons (allF_sub Sm h) (fun p hp => by cases hp)))) ?_
        refine rw_callG (slices_Concat_Rec_spec' x9 [(orangeryref_linesOf d1.safe 60).1, (orangeryref_linesOf d1.wait (60 - (((orangeryref_linesOf d1.safe 60).1).length : Int))).1] (by simp only [List.flatten_cons, List.flatten_nil, List.length_append, List.length_nil]; omega)) (.an rfl rfl) (.inr (by simp [Lent.ids])) (guard_none rfl) rfl rfl rfl Kr rfl rfl Sm (.nil _) (.nil _) ?_
        intro x11
        refine rw_le (le_freezeL NRec.E 28 x11.1 x11.2.1 (zipG x11.2.2 0 ([(orangeryref_linesOf d1.safe 60).1, (orangeryref_linesOf d1.wait (60 - (((orangeryref_linesOf d1.safe 60).1).length : Int))).1].flatten)) Uo) ?_
        refine rw_fact (F := RdN NRec x11.1 ([(orangeryref_linesOf d1.safe 60).1, (orangeryref_linesOf d1.wait (60 - (((orangeryref_linesOf d1.safe 60).1).length : Int))).1].flatten)) [RdG NRec x11.1 x11.2.2 ([(orangeryref_linesOf d1.safe 60).1, (orangeryref_linesOf d1.wait (60 - (((orangeryref_linesOf d1.safe 60).1).length : Int))).1].flatten), FactsG NRec x11.2.2 ([(orangeryref_linesOf d1.safe 60).1, (orangeryref_linesOf d1.wait (60 - (((orangeryref_linesOf d1.safe 60).1).length : Int))).1].flatten)] Sm (fun M w h => RdN.ofG NRec (h _ (.head _)) (h _ (.tail _ (.head _)))) ?_
        refine ra_one 13 Kr ?_
        refine rw_stA (.an rfl rfl) (.inr (by simp)) (guard_none rfl) rfl rfl rfl rfl rfl rfl rfl rfl rfl Ub rfl ?_
        refine Ra 14 [] rfl Qp ?_
        refine ra_nil Kr ?_
        refine ⟨⟨x11.1, x10.1, x10.2⟩, trivial, Le4⟩
    · refine rw_bsliceL NRecs.E [(x1, (orangeryref_linesOf d1.safe 60).1), (x2, (orangeryref_linesOf d1.wait (60 - (((orangeryref_linesOf d1.safe 60).1).length : Int))).1)] (.an rfl rfl) (guard_none rfl) rfl rfl rfl rfl rfl rfl rfl rfl rfl rfl rfl rfl rfl rfl rfl fun x12 x12b => ?_
      refine ra_one 6 Kr ?_
      refine rw_bsliceL NBytes.E [(y1, d1.safe), (y2, (d1.wait.take (((orangeryref_linesOf d1.wait (60 - (((orangeryref_linesOf d1.safe 60).1).length : Int))).2.1).toNat)))] (.an rfl rfl) (guard_none rfl) rfl rfl rfl rfl rfl rfl rfl rfl rfl rfl rfl rfl rfl rfl rfl fun x13 x13b => ?_
      refine ra_one 7 Kr ?_
      refine rw_le (le_freezeL NBytes.E 39 x13 x13b [(y1, d1.safe), (y2, (d1.wait.take (((orangeryref_linesOf d1.wait (60 - (((orangeryref_linesOf d1.safe 60).1).length : Int))).2.1).toNat)))] Uo) ?_
      refine rw_fact (F := RdN NBytes x13 [d1.safe, (d1.wait.take (((orangeryref_linesOf d1.wait (60 - (((orangeryref_linesOf d1.safe 60).1).length : Int))).2.1).toNat))]) [RdL NBytes.E x13 [(y1, d1.safe), (y2, (d1.wait.take (((orangeryref_linesOf d1.wait (60 - (((orangeryref_linesOf d1.safe 60).1).length : Int))).2.1).toNat)))], RdL EByte y1 d1.safe, RdL EByte y2 (d1.wait.take (((orangeryref_linesOf d1.wait (60 - (((orangeryref_linesOf d1.safe 60).1).length : Int))).2.1).toNat))] Sm (fun M w h => RdN.of NBytes (hs := [(y1, d1.safe), (y2, (d1.wait.take (((orangeryref_linesOf d1.wait (60 - (((orangeryref_linesOf d1.safe 60).1).length : Int))).2.1).toNat)))]) rfl (h _ (.head _)) (allP_cons (allF_sub Sm h) (allP_cons (allF_sub Sm h) (fun p hp => by cases hp)))) ?_
      refine rw_callG (slices_Concat_UInt8_spec' x13 [d1.safe, (d1.wait.take (((orangeryref_linesOf d1.wait (60 - (((orangeryref_linesOf d1.safe 60).1).length : Int))).2.1).toNat))] (by simp only [List.flatten_cons, List.flatten_nil, List.length_append, List.length_nil, List.length_take]; omega)) (.an rfl rfl) (.inr (by simp [Lent.ids])) (guard_none rfl) rfl rfl rfl Kr rfl rfl Sm (.nil _) (.nil _) ?_
      intro x14
      refine Ra 8 [12] rfl Qp ?_
      refine ra_one 12 Kr ?_
      refine rw_le (le_freezeL NRecs.E 38 x12 x12b [(x1, (orangeryref_linesOf d1.safe 60).1), (x2, (orangeryref_linesOf d1.wait (60 - (((orangeryref_linesOf d1.safe 60).1).length : Int))).1)] Uo) ?_
      refine rw_fact (F := RdN NRecs x12 [(orangeryref_linesOf d1.safe 60).1, (orangeryref_linesOf d1.wait (60 - (((orangeryref_linesOf d1.safe 60).1).length : Int))).1]) [RdL NRecs.E x12 [(x1, (orangeryref_linesOf d1.safe 60).1), (x2, (orangeryref_linesOf d1.wait (60 - (((orangeryref_linesOf d1.safe 60).1).length : Int))).1)], RdN NRec x1 ((orangeryref_linesOf d1.safe 60).1), RdN NRec x2 ((orangeryref_linesOf d1.wait (60 - (((orangeryref_linesOf d1.safe 60).1).length : Int))).1)] Sm (fun M w h => RdN.of NRecs (hs := [(x1, (orangeryref_linesOf d1.safe 60).1), (x2, (orangeryref_linesOf d1.wait (60 - (((orangeryref_linesOf d1.safe 60).1).length : Int))).1)]) rfl (h _ (.head _)) (allP_cons (allF_sub Sm h) (allP_cons (allF_sub Sm h) (fun p hp => by cases hp)))) ?_
      refine rw_callG (slices_Concat_Rec_spec' x12 [(orangeryref_linesOf d1.safe 60).1, (orangeryref_linesOf d1.wait (60 - (((orangeryref_linesOf d1.safe 60).1).length : Int))).1] (by simp only [List.flatten_cons, List.flatten_nil, List.length_append, List.length_nil]; omega)) (.an rfl rfl) (.inr (by simp [Lent.ids])) (guard_none rfl) rfl rfl rfl Kr rfl rfl Sm (.nil _) (.nil _) ?_
      intro x15
      refine rw_le (le_freezeL NRec.E 28 x15.1 x15.2.1 (zipG x15.2.2 0 ([(orangeryref_linesOf d1.safe 60).1, (orangeryref_linesOf d1.wait (60 - (((orangeryref_linesOf d1.safe 60).1).length : Int))).1].flatten)) Uo) ?_
      refine rw_fact (F := RdN NRec x15.1 ([(orangeryref_linesOf d1.safe 60).1, (orangeryref_linesOf d1.wait (60 - (((orangeryref_linesOf d1.safe 60).1).length : Int))).1].flatten)) [RdG NRec x15.1 x15.2.2 ([(orangeryref_linesOf d1.safe 60).1, (orangeryref_linesOf d1.wait (60 - (((orangeryref_linesOf d1.safe 60).1).length : Int))).1].flatten), FactsG NRec x15.2.2 ([(orangeryref_linesOf d1.safe 60).1, (orangeryref_linesOf d1.wait (60 - (((orangeryref_linesOf d1.safe 60).1).length : Int))).1].flatten)] Sm (fun M w h => RdN.ofG NRec (h _ (.head _)) (h _ (.tail _ (.head _)))) ?_
      refine ra_one 13 Kr ?_
      refine rw_stA (.an rfl rfl) (.inr (by simp)) (guard_none rfl) rfl rfl rfl rfl rfl rfl rfl rfl rfl Ub rfl ?_
      refine Ra 14 [] rfl Qp ?_
      refine ra_nil Kr ?_
      refine ⟨⟨x15.1, x14.1, x14.2⟩, trivial, Le4⟩
  · rintro ⟨x3, x4, b1⟩ -
    simp only [List.cons_append, List.nil_append]
    (repeat refine cw_seq ?_)
    refine cw_le (le_freezeL EByte 5 x4 b1 ([d1.safe, (d1.wait.take (((orangeryref_linesOf d1.wait (60 - (((orangeryref_linesOf d1.safe 60).1).length : Int))).2.1).toNat))].flatten) Uo) ?_
    refine Fc EByte ?_
    have hr1 : (orangeryref_Recovered d1) = ((⟨([d1.safe, (d1.wait.take (((orangeryref_linesOf d1.wait (60 - (((orangeryref_linesOf d1.safe 60).1).length : Int))).2.1).toNat))].flatten), ([] : List UInt8)⟩ : Disk), ([(orangeryref_linesOf d1.safe 60).1, (orangeryref_linesOf d1.wait (60 - (((orangeryref_linesOf d1.safe 60).1).length : Int))).1].flatten)) := by simp only [orangeryref_Recovered, cond_true, cond_false]
    refine cw_ret ?_; rw [hr1]; exact Re ⟨x4, (⟨none, 0⟩ : SlV), x3⟩ (Va (Vt Vn))
end Go.Proofs.YtaiefncoholnnaaDoor
