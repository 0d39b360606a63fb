/- Part of this claim. No condition. -/
import Derived.Test.YtchdacbjiomplaaW38
import Derived.Test.YtchdacbjiomplaaLCliD
import Derived.Test.YtchdacbjiomplaaLCliS
import Derived.Test.YtchdacbjiomplaaLDone
set_option linter.unusedVariables false
set_option linter.unusedSimpArgs false
namespace Go.Proofs.Ytchdacbjiomplaa
open Go Go.Proofs.Ytchdacbjiomplaa.Fw Go.Proofs
/-! ### Moved, shown, begun, as the document says -/
theorem SameClient_eq (a b : Client) : orangeryref_SameClient a b = client_Same a b := by
  unfold orangeryref_SameClient client_Same
  rw [SameView_eq]
  cases (a.life == b.life) <;> cases (a.time == b.time) <;> cases (a.seq == b.seq) <;> cases (decide (a.pending = b.pending)) <;> cases (a.version == b.version) <;> rfl
theorem Moved_eq (c : Client) (me node parent name : Int) : orangeryref_Moved c me node parent name = client_Move c me node parent name := by
  unfold orangeryref_Moved client_Move
  rw [CheckClient_eq, CheckOp_eq, List.nil_append]
  rfl
theorem Begun_eq (life time : Int) : orangeryref_Begun life time = client_Begin life time := by
  unfold orangeryref_Begun client_Begin
  refine bif_congr ?_ (fun _ => rfl) fun _ => rfl
  rw [Bool.eq_iff_iff]
  simp only [Bool.not_eq_true', in_iffF, Bool.or_eq_true, decide_eq_true_eq]; omega
theorem ShownBy_L0_eq : ∀ (l : List Op) (t : List Place), IsTree t → (∀ o ∈ l, chkO o = 0) → orangeryref_ShownBy_L0 l t = (does t l, 0)
  | [], t, _, _ => rfl
  | o :: l, t, ht, h => by
    have ho : orangeryref_CheckOp o = 0 := by rw [CheckOp_eq]; exact h o (.head _)
    have h1 := ShownBy_L0_eq l (orangeryref_done t o).1 (done_tree ht ho) fun q hq => h q (.tail _ hq)
    rw [orangeryref_ShownBy_L0, h1, done_move ht ho]; rfl
theorem ShownBy_eq (c : Client) (me : Int) : orangeryref_ShownBy c me = client_Shows c me := by
  unfold orangeryref_ShownBy
  rw [CheckClient_eq]
  by_cases h1 : client_Check c me = 0
  · have hc := (client_Check_iff _ _).1 h1
    rw [h1, Shows_eq hc, bne_self_eq_false, cond_false, AllOf_eq hc.view.known.rising hc.view.way.rising]
    exact ShownBy_L0_eq _ _ ((checkT_iff _).1 hc.view.all) hc.ops
  · rw [Shows_bad h1]
    have : (client_Check c me != 0) = true := by simpa using h1
    rw [this]; rfl
theorem ClientSays_true (c : Client) (me node parent name : Int) (d : Client) : orangerylaw_ClientSays c me node parent name d = true := by
  unfold orangerylaw_ClientSays
  have hs : ∀ x : Client, client_Same x x = true := fun x => (client_Same_iff x x).2 rfl
  rw [lives_true, CheckClient_eq, Moved_eq, ShownBy_eq, Begun_eq, SameClient_eq, SameClient_eq, SameClient_eq, hs, hs]
  simp
end Go.Proofs.Ytchdacbjiomplaa
