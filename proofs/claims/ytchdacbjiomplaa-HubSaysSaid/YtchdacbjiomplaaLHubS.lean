/- Part of this claim. No condition. -/
import Derived.Test.YtchdacbjiomplaaW57
import Derived.Test.YtchdacbjiomplaaLAcc
set_option linter.unusedVariables false
set_option linter.unusedSimpArgs false
namespace Go.Proofs.Ytchdacbjiomplaa
open Go Go.Proofs.Ytchdacbjiomplaa.Fw Go.Proofs
theorem eqf_Peer (eq : Peer → Peer → Bool) (he : ∀ a, eq a a = true) (s : List Peer) : ∀ (r : List Peer) (n : Nat), r = s.drop n → slices_EqualFunc_Peer_L0 s eq r n = true
  | [], n, _ => by simp [slices_EqualFunc_Peer_L0]
  | p :: r, n, h => by
    have hn : n < s.length := by
      rcases Nat.lt_or_ge n s.length with h1 | h1
      · exact h1
      · rw [List.drop_of_length_le h1] at h; cases h
    rw [drop_gt hn] at h
    obtain ⟨rfl, h'⟩ := List.cons.inj h
    rw [slices_EqualFunc_Peer_L0, he]
    exact eqf_Peer eq he s r (n + 1) h'
theorem hub_Same_refl (a : Hub) : hub_Same a a = true := by
  unfold hub_Same
  have h1 : history_Same a.h a.h = true := (hSame_iff _ _).2 rfl
  have h2 : slices_EqualFunc_Peer a.peers a.peers hub_Same_1 = true := by
    unfold slices_EqualFunc_Peer
    have e : ((a.peers.length : Int) != (a.peers.length : Int)) = false := bne_self_eq_false _
    rw [e, cond_false]
    exact eqf_Peer hub_Same_1 (fun p => by simp [hub_Same_1]) a.peers a.peers 0 rfl
  rw [h1, h2]; simp
theorem Nexted_eq (h : Hub) (r : Rec) : orangeryref_Nexted h r = hub_Next h r := by
  unfold orangeryref_Nexted hub_Next
  rw [CheckHub_eq, CheckRec_eq]
  cases h1 : (hub_Check h != 0) with
  | true => rfl
  | false =>
    rw [cond_false, cond_false]
    cases h2 : (note_Check r != 0) with
    | true =>
      unfold hub_next
      rw [h2]; rfl
    | false =>
      rw [cond_false, nexted_eq (eq_of_bne_false h1) (eq_of_bne_false h2)]
theorem HubOf_L0_eq : ∀ (l : List Rec) (a : List Step) (b : List Place) (v : Int) (p : List Peer), hub_Check ⟨⟨a, b⟩, v, p⟩ = 0 → orangeryref_HubOf_L0 l a b v p = hub_Replay_L0 l a b v p
  | [], _, _, _, _, _ => rfl
  | r :: l, a, b, v, p, hc => by
    rw [orangeryref_HubOf_L0, hub_Replay_L0, CheckRec_eq]
    cases h2 : (note_Check r != 0) with
    | true =>
      have e : hub_next ⟨⟨a, b⟩, v, p⟩ r = (hub0, note_Check r) := by unfold hub_next; rw [h2]; rfl
      rw [e]
      simp only [cond_true, h2]
    | false =>
      have hn := eq_of_bne_false h2
      rw [cond_false, nexted_eq hc hn]
      cases h3 : ((hub_next ⟨⟨a, b⟩, v, p⟩ r).2 != 0) with
      | true => rfl
      | false =>
        rw [cond_false, cond_false]
        exact HubOf_L0_eq l _ _ _ _ ((hub_Check_iff _).2 (next_ok ((hub_Check_iff _).1 hc) (eq_of_bne_false h3)).1)
theorem HubOf_eq (l : List Rec) : orangeryref_HubOf l = hub_Replay l := by
  unfold orangeryref_HubOf hub_Replay
  cases decide ((l.length : Int) > 60) with
  | true => rfl
  | false =>
    simp only [cond_false]
    exact HubOf_L0_eq l _ _ _ _ ((hub_Check_iff _).2 hub_New_ok)
end Go.Proofs.Ytchdacbjiomplaa
