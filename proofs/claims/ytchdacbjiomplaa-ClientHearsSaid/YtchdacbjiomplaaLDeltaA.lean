/- Part of this claim. No condition. -/
import Derived.Test.YtchdacbjiomplaaLDeltaT
import Derived.Test.YtchdacbjiomplaaW19
set_option linter.unusedVariables false
set_option linter.unusedSimpArgs false
namespace Go.Proofs.Ytchdacbjiomplaa
open Go Go.Proofs.Ytchdacbjiomplaa.Fw Go.Proofs
theorem Applied_L1_eq : ∀ (m tb : List Place), orangeryref_Applied_1_L1 m tb = orangeryref_places (orangeryref_table_L1 m tb)
  | [], _ => rfl
  | p :: r, tb => by rw [orangeryref_Applied_1_L1, orangeryref_table_L1, Applied_L1_eq r]
theorem Applied_L0_eq {here : List Place} (hh : ∀ p ∈ here, (1 ≤ p.node ∧ p.node < 16) ∧ 0 ≤ p.parent) : ∀ (g : List Int) {tb l : List Place}, TabOf tb l → Rising l → (∀ n ∈ g, 1 ≤ n ∧ n < 16) → orangeryref_Applied_1_L0 here g tb = here.foldl putT (g.foldl dropN l)
  | [], tb, l, ht, hl, _ => by
    rw [orangeryref_Applied_1_L0, Applied_L1_eq]
    exact (ht.puts here hh).places (Rising.puts _ hl fun p hp => (hh p hp).1)
  | n :: r, tb, l, ht, hl, hg => by
    rw [orangeryref_Applied_1_L0, List.foldl_cons]
    exact Applied_L0_eq hh r (ht.drop (p := ⟨n, -1, 0⟩) (hg n (.head _)) (by show (-1 : Int) < 0; decide) (by show (-1 : Int) < 0; decide) rfl) (hl.put (p := ⟨n, -1, 0⟩) (hg n (.head _))) fun m hm => hg m (.tail _ hm)
theorem Applied_1_eq {l : List Place} {g : List Int} {h : List Place} (hl : Rising l) (hh : Half g h) : orangeryref_Applied_1 l g h = delta_turn l g h := by
  unfold orangeryref_Applied_1
  rw [turn_eq]
  exact Applied_L0_eq (fun p hp => by have := plc_ok (hh.ok p hp); omega) g (TabOf.table hl) hl hh.rng
theorem Applied_eq (v : View) (d : Delta) : orangeryref_Applied v d = delta_Apply v d := by
  unfold orangeryref_Applied delta_Apply
  rw [CheckView_eq, CheckDelta_eq]
  cases h1 : (view_Check v != 0) with
  | true => rfl
  | false =>
    cases h2 : (delta_Check d != 0) with
    | true => rfl
    | false =>
      have hv := (view_Check_iff v).1 (eq_of_bne_false h1)
      obtain ⟨d1, d2⟩ := (delta_Check_iff d).1 (eq_of_bne_false h2)
      rw [Applied_1_eq hv.known.rising d1, Applied_1_eq hv.way.rising d2, CheckView_eq]
theorem SameDelta_eq (a b : Delta) : orangeryref_SameDelta a b = delta_Same a b := rfl
theorem dSame_refl (d : Delta) : delta_Same d d = true := by simp [delta_Same]
end Go.Proofs.Ytchdacbjiomplaa
