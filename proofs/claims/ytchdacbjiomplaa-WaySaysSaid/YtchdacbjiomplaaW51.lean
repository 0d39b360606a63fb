/- Part of this claim. No condition. -/
import Derived.Test.YtchdacbjiomplaaWW
set_option linter.unusedVariables false
set_option linter.unusedSimpArgs false
set_option maxHeartbeats 2000000
namespace Go.Proofs.Ytchdacbjiomplaa
open Go Go.Proofs.Ytchdacbjiomplaa.Fw Go.Proofs
attribute [local irreducible] RdL RdN VarP RW CW
def way_Take (l1 : List Mail) (k1 : Int) (twice1 : Bool) : (List Mail) × Mail × Int :=
  (bif ((way_Check l1) != 0) then (([] : List Mail), (⟨0, 0, 0, 0, 0, 0, 0, (⟨0, 0, 0, 0, 0, 0, 0⟩ : Op), (⟨([] : List Int), ([] : List Place), ([] : List Place)⟩ : View), (⟨([] : List Int), ([] : List Place), ([] : List Int), ([] : List Place)⟩ : Delta)⟩ : Mail), (way_Check l1)) else (bif (decide (k1 < 0) || decide (k1 ≥ (l1.length : Int))) then (([] : List Mail), (⟨0, 0, 0, 0, 0, 0, 0, (⟨0, 0, 0, 0, 0, 0, 0⟩ : Op), (⟨([] : List Int), ([] : List Place), ([] : List Place)⟩ : View), (⟨([] : List Int), ([] : List Place), ([] : List Int), ([] : List Place)⟩ : Delta)⟩ : Mail), 5) else (bif (!twice1) then ((l1.take (k1).toNat ++ l1.drop ((k1 + 1)).toNat), (gt ((l1.drop k1.toNat).take (((k1 + 1).toNat) - k1.toNat)) 0), 0) else (l1, (gt ((l1.drop k1.toNat).take (((k1 + 1).toNat) - k1.toNat)) 0), 0))))
theorem way_Take_spec (y1 : SlV) (l1 : List Mail) (k1 : Int) (twice1 : Bool) : Does Try.prog 69 [y1.val l1.length, .int .i64 k1, .bool twice1] [RdN NMail y1 l1] (fun (X : SlV × SlV × SlV × SlV × SlV × SlV × SlV × SlV) => .tuple #[X.1.val ((way_Take l1 k1 twice1).1).length, .agg ⟨[.int .i64 (((way_Take l1 k1 twice1).2.1).kind), .int .i64 (((way_Take l1 k1 twice1).2.1).who), .int .i64 (((way_Take l1 k1 twice1).2.1).life), .int .i64 (((way_Take l1 k1 twice1).2.1).seq), .int .i64 (((way_Take l1 k1 twice1).2.1).time), .int .i64 (((way_Take l1 k1 twice1).2.1).version), .int .i64 (((way_Take l1 k1 twice1).2.1).frm), .int .i64 ((((way_Take l1 k1 twice1).2.1).o).time), .int .i64 ((((way_Take l1 k1 twice1).2.1).o).who), .int .i64 ((((way_Take l1 k1 twice1).2.1).o).node), .int .i64 ((((way_Take l1 k1 twice1).2.1).o).parent), .int .i64 ((((way_Take l1 k1 twice1).2.1).o).name), .int .i64 ((((way_Take l1 k1 twice1).2.1).o).life), .int .i64 ((((way_Take l1 k1 twice1).2.1).o).seq), X.2.1.val ((((way_Take l1 k1 twice1).2.1).v).roots).length, X.2.2.1.val ((((way_Take l1 k1 twice1).2.1).v).known).length, X.2.2.2.1.val ((((way_Take l1 k1 twice1).2.1).v).way).length, X.2.2.2.2.1.val ((((way_Take l1 k1 twice1).2.1).d).gone).length, X.2.2.2.2.2.1.val ((((way_Take l1 k1 twice1).2.1).d).here).length, X.2.2.2.2.2.2.1.val ((((way_Take l1 k1 twice1).2.1).d).wayGone).length, X.2.2.2.2.2.2.2.val ((((way_Take l1 k1 twice1).2.1).d).wayHere).length]⟩, .int .i64 ((way_Take l1 k1 twice1).2.2)]) (fun (X : SlV × SlV × SlV × SlV × SlV × SlV × SlV × SlV) => [RdN NMail X.1 ((way_Take l1 k1 twice1).1), RdL EInt X.2.1 ((((way_Take l1 k1 twice1).2.1).v).roots), RdL EPlace X.2.2.1 ((((way_Take l1 k1 twice1).2.1).v).known), RdL EPlace X.2.2.2.1 ((((way_Take l1 k1 twice1).2.1).v).way), RdL EInt X.2.2.2.2.1 ((((way_Take l1 k1 twice1).2.1).d).gone), RdL EPlace X.2.2.2.2.2.1 ((((way_Take l1 k1 twice1).2.1).d).here), RdL EInt X.2.2.2.2.2.2.1 ((((way_Take l1 k1 twice1).2.1).d).wayGone), RdL EPlace X.2.2.2.2.2.2.2 ((((way_Take l1 k1 twice1).2.1).d).wayHere)]) := by
  refine does_of tab_ok Try.func69 rfl Try.ntmps69 Try.results69 rfl inferInstance (fun _ => inferInstance) fun C => ?_
  refine Pn NMail y1 l1 280 fun hlen1 => ?_
  refine Tx ?_
  refine Al fun g1 => ?_
  refine Tx ?_
  refine Cl (way_Check_spec y1 l1) fun _ => ?_
  refine Tx ?_
  refine Cd (b := ((way_Check l1) != 0)) (fun hc1 => ?_) fun hc1 => ?_
  · have hc1p := bne_iff_ne.1 hc1
    refine Tx ?_
    refine cw_fact (F := RdN NMail ⟨none, 0⟩ ([] : List Mail)) [] (.nil _) (fun M w _ => RdN.nil _ M w) ?_
    refine Fc EInt ?_
    refine Fc EPlace ?_
    have hr1 : (way_Take l1 k1 twice1) = (([] : List Mail), (⟨0, 0, 0, 0, 0, 0, 0, (⟨0, 0, 0, 0, 0, 0, 0⟩ : Op), (⟨([] : List Int), ([] : List Place), ([] : List Place)⟩ : View), (⟨([] : List Int), ([] : List Place), ([] : List Int), ([] : List Place)⟩ : Delta)⟩ : Mail), (way_Check l1)) := by simp only [way_Take, hc1, cond_true, cond_false]
    refine cw_ret ?_; rw [hr1]; exact Re ⟨(⟨none, 0⟩ : SlV), (⟨none, 0⟩ : SlV), (⟨none, 0⟩ : SlV), (⟨none, 0⟩ : SlV), (⟨none, 0⟩ : SlV), (⟨none, 0⟩ : SlV), (⟨none, 0⟩ : SlV), (⟨none, 0⟩ : SlV)⟩ (Vt (Va (Vt Vn)))
  · have hc1p := eq_of_bne_false hc1
    refine Tx ?_
    refine Cd (b := (decide (k1 < 0) || decide (k1 ≥ (l1.length : Int)))) (fun hc2 => ?_) fun hc2 => ?_
    · refine Tx ?_
      refine cw_fact (F := RdN NMail ⟨none, 0⟩ ([] : List Mail)) [] (.nil _) (fun M w _ => RdN.nil _ M w) ?_
      refine Fc EInt ?_
      refine Fc EPlace ?_
      have hr2 : (way_Take l1 k1 twice1) = (([] : List Mail), (⟨0, 0, 0, 0, 0, 0, 0, (⟨0, 0, 0, 0, 0, 0, 0⟩ : Op), (⟨([] : List Int), ([] : List Place), ([] : List Place)⟩ : View), (⟨([] : List Int), ([] : List Place), ([] : List Int), ([] : List Place)⟩ : Delta)⟩ : Mail), 5) := by simp only [way_Take, hc1, hc2, cond_true, cond_false]
      refine cw_ret ?_; rw [hr2]; exact Re ⟨(⟨none, 0⟩ : SlV), (⟨none, 0⟩ : SlV), (⟨none, 0⟩ : SlV), (⟨none, 0⟩ : SlV), (⟨none, 0⟩ : SlV), (⟨none, 0⟩ : SlV), (⟨none, 0⟩ : SlV), (⟨none, 0⟩ : SlV)⟩ (Vt (Va (Vt Vn)))
    · have hkb := hc2
      simp only [Bool.or_eq_false_iff, decide_eq_false_iff_not] at hkb
      refine Tx ?_
      refine Cg (way_Copy_spec' y1 l1) fun x1 => ?_
      refine Tx ?_
      refine rw_q rfl rfl rfl (q_add rfl rfl (fun _ => rfl) rfl (fun _ => rfl) (fun _ => by omega)) ?_
      refine rw_capO NMail.E (e := 80) (X := x1.1) (b := x1.2.1) (l := (zipG x1.2.2 0 l1)) Mm fun hcap1 => ?_
      have hcap1 : l1.length ≤ x1.1.c ∧ x1.1.c ≤ 9223372036854775807 := ⟨Nat.le_trans (Nat.le_of_eq (zipG_len x1.2.2 0 l1).symm) hcap1.1, hcap1.2⟩
      refine rw_q rfl rfl rfl (q_sllh (k0 := k1.toNat) (h := (k1 + 1).toNat) rfl rfl (fun _ => rfl) rfl (fun _ => rfl) rfl (fun _ => rfl) rfl rfl (fun _ => by omega) (fun _ => by omega) (fun _ => by omega) (fun _ => by omega)) ?_
      refine rw_callG (way_Copy_own x1.1 x1.2.1 x1.2.2 l1 k1.toNat ((k1 + 1).toNat) (by omega) (by omega)) .sq (.inl ⟨_, rfl⟩) (guard_none rfl) rfl rfl rfl Kr rfl rfl Sm (.nil _) (by first | exact .cons (.here _ _) (.nil _) | exact .cons (.there _ (.here _ _)) (.nil _) | exact .cons (.there _ (.there _ (.here _ _))) (.nil _) | exact .cons (.there _ (.there _ (.there _ (.here _ _)))) (.nil _)) ?_
      intro x2
      have hln1 : ((l1.drop k1.toNat).take (((k1 + 1).toNat) - k1.toNat)).length = ((k1 + 1).toNat) - k1.toNat := by simp only [List.length_take, List.length_drop]; omega
      refine rw_qO NMail.E (e := 80) (X := x2.1) (b := x2.2.1) (l := zipG x2.2.2 0 ((l1.drop k1.toNat).take (((k1 + 1).toNat) - k1.toNat))) Mm .sq rfl rfl rfl (q_idxN NMail x2.2.2 0 rfl rfl (fun _ => rfl) rfl (fun _ => rfl) rfl rfl rfl (.head _) rfl (fun _ => rfl) (fun _ => by first | assumption | omega | (simp only [List.length_set]; omega))) ?_
      refine rw_qO NMail.E (e := 80) (X := x2.1) (b := x2.2.1) (l := zipG x2.2.2 0 ((l1.drop k1.toNat).take (((k1 + 1).toNat) - k1.toNat))) Mm .sq rfl rfl rfl (q_is (v' := .agg ⟨[.int .i64 ((gt ((l1.drop k1.toNat).take (((k1 + 1).toNat) - k1.toNat)) 0).kind), .int .i64 ((gt ((l1.drop k1.toNat).take (((k1 + 1).toNat) - k1.toNat)) 0).who), .int .i64 ((gt ((l1.drop k1.toNat).take (((k1 + 1).toNat) - k1.toNat)) 0).life), .int .i64 ((gt ((l1.drop k1.toNat).take (((k1 + 1).toNat) - k1.toNat)) 0).seq), .int .i64 ((gt ((l1.drop k1.toNat).take (((k1 + 1).toNat) - k1.toNat)) 0).time), .int .i64 ((gt ((l1.drop k1.toNat).take (((k1 + 1).toNat) - k1.toNat)) 0).version), .int .i64 ((gt ((l1.drop k1.toNat).take (((k1 + 1).toNat) - k1.toNat)) 0).frm), .int .i64 (((gt ((l1.drop k1.toNat).take (((k1 + 1).toNat) - k1.toNat)) 0).o).time), .int .i64 (((gt ((l1.drop k1.toNat).take (((k1 + 1).toNat) - k1.toNat)) 0).o).who), .int .i64 (((gt ((l1.drop k1.toNat).take (((k1 + 1).toNat) - k1.toNat)) 0).o).node), .int .i64 (((gt ((l1.drop k1.toNat).take (((k1 + 1).toNat) - k1.toNat)) 0).o).parent), .int .i64 (((gt ((l1.drop k1.toNat).take (((k1 + 1).toNat) - k1.toNat)) 0).o).name), .int .i64 (((gt ((l1.drop k1.toNat).take (((k1 + 1).toNat) - k1.toNat)) 0).o).life), .int .i64 (((gt ((l1.drop k1.toNat).take (((k1 + 1).toNat) - k1.toNat)) 0).o).seq), ((x2.2.2 0).1).val (((gt ((l1.drop k1.toNat).take (((k1 + 1).toNat) - k1.toNat)) 0).v).roots).length, ((x2.2.2 0).2.1).val (((gt ((l1.drop k1.toNat).take (((k1 + 1).toNat) - k1.toNat)) 0).v).known).length, ((x2.2.2 0).2.2.1).val (((gt ((l1.drop k1.toNat).take (((k1 + 1).toNat) - k1.toNat)) 0).v).way).length, ((x2.2.2 0).2.2.2.1).val (((gt ((l1.drop k1.toNat).take (((k1 + 1).toNat) - k1.toNat)) 0).d).gone).length, ((x2.2.2 0).2.2.2.2.1).val (((gt ((l1.drop k1.toNat).take (((k1 + 1).toNat) - k1.toNat)) 0).d).here).length, ((x2.2.2 0).2.2.2.2.2.1).val (((gt ((l1.drop k1.toNat).take (((k1 + 1).toNat) - k1.toNat)) 0).d).wayGone).length, ((x2.2.2 0).2.2.2.2.2.2).val (((gt ((l1.drop k1.toNat).take (((k1 + 1).toNat) - k1.toNat)) 0).d).wayHere).length]⟩) (q_leAN NMail x2.2.2 rfl rfl (fun _ => rfl) rfl rfl (.head _) (fun _ => by first | assumption | omega | (simp only [List.length_set]; omega))) rfl) ?_
      refine rw_fact (F := RdL EInt ((x2.2.2 0).1) (((gt ((l1.drop k1.toNat).take (((k1 + 1).toNat) - k1.toNat)) 0).v).roots)) [FactsG NMail x2.2.2 ((l1.drop k1.toNat).take (((k1 + 1).toNat) - k1.toNat))] Sm (fun M w h => (allF1 h) 0 (by first | assumption | omega) _ (.head _)) ?_
      refine rw_fact (F := RdL EPlace ((x2.2.2 0).2.1) (((gt ((l1.drop k1.toNat).take (((k1 + 1).toNat) - k1.toNat)) 0).v).known)) [FactsG NMail x2.2.2 ((l1.drop k1.toNat).take (((k1 + 1).toNat) - k1.toNat))] Sm (fun M w h => (allF1 h) 0 (by first | assumption | omega) _ (.tail _ (.head _))) ?_
      refine rw_fact (F := RdL EPlace ((x2.2.2 0).2.2.1) (((gt ((l1.drop k1.toNat).take (((k1 + 1).toNat) - k1.toNat)) 0).v).way)) [FactsG NMail x2.2.2 ((l1.drop k1.toNat).take (((k1 + 1).toNat) - k1.toNat))] Sm (fun M w h => (allF1 h) 0 (by first | assumption | omega) _ (.tail _ (.tail _ (.head _)))) ?_
      refine rw_fact (F := RdL EInt ((x2.2.2 0).2.2.2.1) (((gt ((l1.drop k1.toNat).take (((k1 + 1).toNat) - k1.toNat)) 0).d).gone)) [FactsG NMail x2.2.2 ((l1.drop k1.toNat).take (((k1 + 1).toNat) - k1.toNat))] Sm (fun M w h => (allF1 h) 0 (by first | assumption | omega) _ (.tail _ (.tail _ (.tail _ (.head _))))) ?_
      refine rw_fact (F := RdL EPlace ((x2.2.2 0).2.2.2.2.1) (((gt ((l1.drop k1.toNat).take (((k1 + 1).toNat) - k1.toNat)) 0).d).here)) [FactsG NMail x2.2.2 ((l1.drop k1.toNat).take (((k1 + 1).toNat) - k1.toNat))] Sm (fun M w h => (allF1 h) 0 (by first | assumption | omega) _ (.tail _ (.tail _ (.tail _ (.tail _ (.head _)))))) ?_
      refine rw_fact (F := RdL EInt ((x2.2.2 0).2.2.2.2.2.1) (((gt ((l1.drop k1.toNat).take (((k1 + 1).toNat) - k1.toNat)) 0).d).wayGone)) [FactsG NMail x2.2.2 ((l1.drop k1.toNat).take (((k1 + 1).toNat) - k1.toNat))] Sm (fun M w h => (allF1 h) 0 (by first | assumption | omega) _ (.tail _ (.tail _ (.tail _ (.tail _ (.tail _ (.head _))))))) ?_
      refine rw_fact (F := RdL EPlace ((x2.2.2 0).2.2.2.2.2.2) (((gt ((l1.drop k1.toNat).take (((k1 + 1).toNat) - k1.toNat)) 0).d).wayHere)) [FactsG NMail x2.2.2 ((l1.drop k1.toNat).take (((k1 + 1).toNat) - k1.toNat))] Sm (fun M w h => (allF1 h) 0 (by first | assumption | omega) _ (.tail _ (.tail _ (.tail _ (.tail _ (.tail _ (.tail _ (.head _)))))))) ?_
      refine Al fun g2 => ?_
      refine Tx ?_
      refine Cd (b := (!twice1)) (fun hc3 => ?_) fun hc3 => ?_
      · refine Tx ?_
        refine rw_q rfl rfl rfl (q_add rfl rfl (fun _ => rfl) rfl (fun _ => rfl) (fun _ => by omega)) ?_
        refine rw_callG (slices_Delete_Mail_int x1.1 x1.2.1 x1.2.2 l1 k1 (k1 + 1) (by omega) (by omega) (by omega)) .sq (.inl ⟨_, rfl⟩) (guard_none rfl) rfl rfl rfl Kr rfl rfl Sm (.nil _) (by first | exact .cons (.here _ _) (.nil _) | exact .cons (.there _ (.here _ _)) (.nil _) | exact .cons (.there _ (.there _ (.here _ _))) (.nil _) | exact .cons (.there _ (.there _ (.there _ (.here _ _)))) (.nil _)) ?_
        intro _
        refine rw_fact (F := FactsG NMail (appG x1.2.2 (k1).toNat (dropG x1.2.2 ((k1 + 1)).toNat)) (l1.take (k1).toNat ++ l1.drop ((k1 + 1)).toNat)) [FactsG NMail x1.2.2 l1] Sm (fun M w h => FactsG.del NMail _ _ (by omega) (allF1 h)) ?_
        refine Tx ?_
        (repeat refine cw_seq ?_); refine cw_regionA (fun j => match j with | 3 => some [g1] | _ => some []) ?_
        refine Ra 0 [1] rfl Qp ?_
        refine Ra 1 [2] rfl (q_ldA rfl rfl (fun _ => rfl) rfl Mm rfl) ?_
        refine Ra 2 [] rfl Qp ?_
        refine ra_one 3 Kr ?_
        refine rw_stA (.an rfl rfl) (.inr (by simp)) (guard_none rfl) rfl rfl rfl rfl rfl rfl rfl rfl rfl Ub rfl ?_
        refine Ra 4 [] rfl Qp ?_
        refine ra_nil Kr ?_
        (repeat refine cw_seq ?_)
        refine cw_le (le_freezeL NMail.E 80 x1.1 x1.2.1 (zipG (appG x1.2.2 (k1).toNat (dropG x1.2.2 ((k1 + 1)).toNat)) 0 (l1.take (k1).toNat ++ l1.drop ((k1 + 1)).toNat)) Uo) ?_
        refine cw_fact (F := RdN NMail x1.1 (l1.take (k1).toNat ++ l1.drop ((k1 + 1)).toNat)) [RdG NMail x1.1 (appG x1.2.2 (k1).toNat (dropG x1.2.2 ((k1 + 1)).toNat)) (l1.take (k1).toNat ++ l1.drop ((k1 + 1)).toNat), FactsG NMail (appG x1.2.2 (k1).toNat (dropG x1.2.2 ((k1 + 1)).toNat)) (l1.take (k1).toNat ++ l1.drop ((k1 + 1)).toNat)] Sm (fun M w h => RdN.ofG NMail (h _ (.head _)) (h _ (.tail _ (.head _)))) ?_
        have hr3 : (way_Take l1 k1 twice1) = ((l1.take (k1).toNat ++ l1.drop ((k1 + 1)).toNat), (gt ((l1.drop k1.toNat).take (((k1 + 1).toNat) - k1.toNat)) 0), 0) := by simp only [way_Take, hc1, hc2, hc3, cond_true, cond_false]
        refine cw_ret ?_; rw [hr3]; exact Re ⟨x1.1, (x2.2.2 0).1, (x2.2.2 0).2.1, (x2.2.2 0).2.2.1, (x2.2.2 0).2.2.2.1, (x2.2.2 0).2.2.2.2.1, (x2.2.2 0).2.2.2.2.2.1, (x2.2.2 0).2.2.2.2.2.2⟩ (Vt (Va (Vt Vn)))
      · refine Tx ?_
        (repeat refine cw_seq ?_); refine cw_regionA (fun j => match j with | 3 => some [g1] | _ => some []) ?_
        refine Ra 0 [1] rfl Qp ?_
        refine Ra 1 [2] rfl (q_ldA rfl rfl (fun _ => rfl) rfl Mm rfl) ?_
        refine Ra 2 [] rfl Qp ?_
        refine ra_one 3 Kr ?_
        refine rw_stA (.an rfl rfl) (.inr (by simp)) (guard_none rfl) rfl rfl rfl rfl rfl rfl rfl rfl rfl Ub rfl ?_
        refine Ra 4 [] rfl Qp ?_
        refine ra_nil Kr ?_
        (repeat refine cw_seq ?_)
        refine cw_le (le_freezeL NMail.E 80 x1.1 x1.2.1 (zipG x1.2.2 0 l1) Uo) ?_
        refine cw_fact (F := RdN NMail x1.1 l1) [RdG NMail x1.1 x1.2.2 l1, FactsG NMail x1.2.2 l1] Sm (fun M w h => RdN.ofG NMail (h _ (.head _)) (h _ (.tail _ (.head _)))) ?_
        have hr4 : (way_Take l1 k1 twice1) = (l1, (gt ((l1.drop k1.toNat).take (((k1 + 1).toNat) - k1.toNat)) 0), 0) := by simp only [way_Take, hc1, hc2, hc3, cond_true, cond_false]
        refine cw_ret ?_; rw [hr4]; exact Re ⟨x1.1, (x2.2.2 0).1, (x2.2.2 0).2.1, (x2.2.2 0).2.2.1, (x2.2.2 0).2.2.2.1, (x2.2.2 0).2.2.2.2.1, (x2.2.2 0).2.2.2.2.2.1, (x2.2.2 0).2.2.2.2.2.2⟩ (Vt (Va (Vt Vn)))

theorem way_Take_lt {l : List Mail} {k : Int} {t : Bool} (h : (way_Take l k t).2.2 = 0) : way_Check l = 0 ∧ 0 ≤ k ∧ k < (l.length : Int) := by
  unfold way_Take at h
  cases h1 : (way_Check l != 0) with
  | true => rw [h1, cond_true] at h; simp only at h; rw [h] at h1; cases h1
  | false =>
    rw [h1, cond_false] at h
    cases h2 : (decide (k < 0) || decide (k ≥ (l.length : Int))) with
    | true => rw [h2, cond_true] at h; cases h
    | false =>
      simp only [Bool.or_eq_false_iff, decide_eq_false_iff_not] at h2
      exact ⟨eq_of_bne_false h1, by omega, by omega⟩
end Go.Proofs.Ytchdacbjiomplaa
