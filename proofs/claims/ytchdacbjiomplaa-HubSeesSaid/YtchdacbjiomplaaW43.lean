/- Part of this claim. No condition. -/
import Derived.Test.YtchdacbjiomplaaW42
import Derived.Test.YtchdacbjiomplaaFx
set_option linter.unusedVariables false
set_option linter.unusedSimpArgs false
namespace Go.Proofs.Ytchdacbjiomplaa
open Go Go.Proofs.Ytchdacbjiomplaa.Fw Go.Proofs
attribute [local irreducible] RdL RdN VarP
def hub_New  : Hub :=
  (⟨(⟨([] : List Step), ([] : List Place)⟩ : History), 0, [(⟨0, 0, ([] : List Int)⟩ : Peer), (⟨0, 0, ([] : List Int)⟩ : Peer), (⟨0, 0, ([] : List Int)⟩ : Peer)]⟩ : Hub)
theorem hub_New_spec  : Does Try.prog 117 [] [] (fun (X : SlV × SlV × SlV) => .agg ⟨[X.1.val (((hub_New).h).l).length, X.2.1.val (((hub_New).h).t).length, .int .i64 ((hub_New).version), X.2.2.val ((hub_New).peers).length]⟩) (fun (X : SlV × SlV × SlV) => [RdL EStep X.1 (((hub_New).h).l), RdL EPlace X.2.1 (((hub_New).h).t), RdN NPeer X.2.2 ((hub_New).peers)]) := by
  refine does_of tab_ok Try.func117 rfl Try.ntmps117 Try.results117 rfl inferInstance (fun _ => inferInstance) fun C => ?_
  (repeat refine cw_seq ?_); refine cw_region ?_
  refine rw_alloc .sq (guard_none rfl) rfl rfl rfl rfl fun g1 => ?_
  refine rw_nil ?_
  (repeat refine cw_seq ?_); refine cw_region ?_
  refine rw_mksliceL NPeer.E (zipG (fun _ => (⟨none, 0⟩ : SlV)) 0 [(⟨0, 0, ([] : List Int)⟩ : Peer), (⟨0, 0, ([] : List Int)⟩ : Peer), (⟨0, 0, ([] : List Int)⟩ : Peer)]) .sq (guard_none rfl) rfl rfl rfl rfl rfl rfl rfl rfl rfl rfl rfl rfl rfl rfl rfl rfl rfl fun x1 x1b => ?_
  refine rw_fact (F := RdL EInt ⟨none, 0⟩ ([] : List Int)) [] (.nil _) (fun M w _ => RdL.nil _ _ _ (by omega) M w) ?_
  refine rw_fact (F := FactsG NPeer (fun _ => (⟨none, 0⟩ : SlV)) [(⟨0, 0, ([] : List Int)⟩ : Peer), (⟨0, 0, ([] : List Int)⟩ : Peer), (⟨0, 0, ([] : List Int)⟩ : Peer)]) [RdL EInt (⟨none, 0⟩ : SlV) ([] : List Int)] Sm (fun M w h => FactsG.const NPeer (by intro a ha; simp only [List.mem_cons, List.not_mem_nil, or_false, or_self] at ha; subst ha; exact allF_sub Sm h)) ?_
  refine Rp rfl rfl rfl rfl ?_
  refine rw_stA .sq (.inl ⟨_, rfl⟩) (guard_none rfl) rfl rfl rfl rfl rfl rfl rfl rfl rfl Ub rfl ?_
  refine rw_nil ?_
  (repeat refine cw_seq ?_)
  refine cw_fact (F := RdL EStep ⟨none, 0⟩ ([] : List Step)) [] (.nil _) (fun M w _ => RdL.nil _ _ _ (by omega) M w) ?_
  refine cw_fact (F := RdL EPlace ⟨none, 0⟩ ([] : List Place)) [] (.nil _) (fun M w _ => RdL.nil _ _ _ (by omega) M w) ?_
  refine cw_le (le_freezeL NPeer.E 144 x1 x1b (zipG (fun _ => (⟨none, 0⟩ : SlV)) 0 [(⟨0, 0, ([] : List Int)⟩ : Peer), (⟨0, 0, ([] : List Int)⟩ : Peer), (⟨0, 0, ([] : List Int)⟩ : Peer)]) Uo) ?_
  refine cw_fact (F := RdN NPeer x1 [(⟨0, 0, ([] : List Int)⟩ : Peer), (⟨0, 0, ([] : List Int)⟩ : Peer), (⟨0, 0, ([] : List Int)⟩ : Peer)]) [RdG NPeer x1 (fun _ => (⟨none, 0⟩ : SlV)) [(⟨0, 0, ([] : List Int)⟩ : Peer), (⟨0, 0, ([] : List Int)⟩ : Peer), (⟨0, 0, ([] : List Int)⟩ : Peer)], FactsG NPeer (fun _ => (⟨none, 0⟩ : SlV)) [(⟨0, 0, ([] : List Int)⟩ : Peer), (⟨0, 0, ([] : List Int)⟩ : Peer), (⟨0, 0, ([] : List Int)⟩ : Peer)]] Sm (fun M w h => RdN.ofG NPeer (h _ (.head _)) (h _ (.tail _ (.head _)))) ?_
  have hr1 : (hub_New) = (⟨(⟨([] : List Step), ([] : List Place)⟩ : History), 0, [(⟨0, 0, ([] : List Int)⟩ : Peer), (⟨0, 0, ([] : List Int)⟩ : Peer), (⟨0, 0, ([] : List Int)⟩ : Peer)]⟩ : Hub) := by simp only [hub_New, cond_true, cond_false]
  refine cw_ret ?_
  rw [hr1]
  exact ⟨⟨(⟨none, 0⟩ : SlV), (⟨none, 0⟩ : SlV), x1⟩, _, (.cons (.agg rfl rfl Mm rfl) .nil), rfl, Sm, .nil _, .nil _⟩
end Go.Proofs.Ytchdacbjiomplaa
