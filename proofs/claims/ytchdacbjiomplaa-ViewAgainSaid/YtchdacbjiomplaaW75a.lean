/- Part of this claim. No condition. -/
import Derived.Test.YtchdacbjiomplaaWR
import Derived.Test.YtchdacbjiomplaaW13
import Derived.Test.YtchdacbjiomplaaWB
set_option linter.unusedVariables false
set_option linter.unusedSimpArgs false
set_option maxHeartbeats 2000000
namespace Go.Proofs.Ytchdacbjiomplaa
open Go Go.Proofs.Ytchdacbjiomplaa.Fw Go.Proofs
attribute [local irreducible] RW CW
def slices_ContainsFunc_Place (s1 : List Place) (f1 : Place → Bool) : Bool :=
  decide ((slices_IndexFunc_Place s1 f1) ≥ 0)
theorem slices_ContainsFunc_Place_spec (y1 : SlV) (s1 : List Place) (f2 : Nat) (caps1 : List Value) (pre1 : List Pred) [StabL pre1] (f1 : Place → Bool) (hfb1 : tab.fnb f2 = true) (hfn1 : ∀ (a0_ : Place), Does Try.prog f2 ([.agg ⟨[.int .i64 a0_.node, .int .i64 a0_.parent, .int .i64 a0_.name]⟩] ++ caps1) pre1 (fun (_ : Unit) => .bool (f1 a0_)) (fun (_ : Unit) => [])) : Does Try.prog 105 [y1.val s1.length, .func (.func f2) #[] ⟨caps1⟩] (RdL EPlace y1 s1 :: pre1) (fun (_ : Unit) => .bool (slices_ContainsFunc_Place s1 f1)) (fun (_ : Unit) => []) := by
  refine does_of tab_ok Try.func105 rfl Try.ntmps105 Try.results105 rfl inferInstance (fun _ => inferInstance) fun C => ?_
  refine cw_pure (φ := s1.length * 24 ≤ 140737488355328) [RdL EPlace y1 s1] Sf (fun M w h => (allF1 h).len) fun hlen1 => ?_
  refine Tx ?_
  refine rw_call (slices_IndexFunc_Place_spec y1 s1 _ _ _ f1 (by assumption) hfn1) .sq (guard_none rfl) rfl rfl rfl Kr rfl rfl Sf ?_
  intro _
  refine Tx ?_
  have hr1 : (slices_ContainsFunc_Place s1 f1) = decide ((slices_IndexFunc_Place s1 f1) ≥ 0) := by simp only [slices_ContainsFunc_Place, cond_true, cond_false]
  refine cw_ret ?_
  rw [hr1]
  exact ⟨(), _, (.cons (.tmp rfl) .nil), rfl, Sf, .nil _, .nil _⟩
theorem slices_ContainsFunc_Place_eq (s : List Place) (f : Place → Bool) : slices_ContainsFunc_Place s f = s.any f := by
  have key : ∀ (l : List Place) (k : Nat), decide (slices_IndexFunc_Place_L0 f l k ≥ 0) = l.any f := by
    intro l
    induction l with
    | nil => intro k; rfl
    | cons p r ih =>
      intro k
      rw [slices_IndexFunc_Place_L0, List.any_cons]
      cases f p with
      | true => simp only [cond_true, Bool.true_or, decide_eq_true_eq]; omega
      | false => rw [cond_false, ih, Bool.false_or]
  exact key s 0
theorem slices_ContainsFunc_Place_spec' (y1 : SlV) (s1 : List Place) (f1 : Nat) (caps1 : List Value) (pre1 : List Pred) [StabL pre1] (p1 : Place → Bool) (hfb1 : tab.fnb f1 = true) (hfn1 : ∀ (a0_ : Place), Does Try.prog f1 ([.agg ⟨[.int .i64 a0_.node, .int .i64 a0_.parent, .int .i64 a0_.name]⟩] ++ caps1) pre1 (fun (_ : Unit) => .bool (p1 a0_)) (fun (_ : Unit) => [])) :
    Does Try.prog 105 [y1.val s1.length, .func (.func f1) #[] ⟨caps1⟩] (RdL EPlace y1 s1 :: pre1) (fun (_ : Unit) => .bool (s1.any p1)) (fun (_ : Unit) => []) := by
  have := slices_ContainsFunc_Place_spec y1 s1 f1 caps1 pre1 p1 hfb1 hfn1
  rw [slices_ContainsFunc_Place_eq] at this
  exact this

def orangerylaw_ViewAgain_1 (a1 : Place) (b1 : Place) : Int :=
  (wsub a1.node b1.node)
theorem orangerylaw_ViewAgain_1_spec (a1 : Place) (b1 : Place) : Does Try.prog 104 [.agg ⟨[.int .i64 a1.node, .int .i64 a1.parent, .int .i64 a1.name]⟩, .agg ⟨[.int .i64 b1.node, .int .i64 b1.parent, .int .i64 b1.name]⟩] [] (fun (_ : Unit) => .int .i64 (orangerylaw_ViewAgain_1 a1 b1)) (fun (_ : Unit) => []) := by
  refine does_of tab_ok Try.func104 rfl Try.ntmps104 Try.results104 rfl inferInstance (fun _ => inferInstance) fun C => ?_
  refine Tx ?_
  refine Bx fun g1 => ?_
  refine Bx fun g2 => ?_
  refine Tx ?_
  refine rw_q rfl rfl rfl (q_subW rfl rfl (fun _ => rfl) rfl (fun _ => rfl)) ?_
  refine Tx ?_
  have hr1 : (orangerylaw_ViewAgain_1 a1 b1) = (wsub a1.node b1.node) := by simp only [orangerylaw_ViewAgain_1, cond_true, cond_false]
  refine cw_ret ?_; rw [hr1]; exact Re () (Vt Vn)

def orangerylaw_ViewAgain_2 (q1 : Place) (p1 : Place) : Bool :=
  (q1.node == p1.parent)
theorem orangerylaw_ViewAgain_2_spec (q1 : Place) (c1 : Nat) (p1 : Place) : Does Try.prog 106 [.agg ⟨[.int .i64 q1.node, .int .i64 q1.parent, .int .i64 q1.name]⟩, .pointer (some ⟨c1, 0, none⟩)] [VarP c1 [.int .i64 p1.node, .int .i64 p1.parent, .int .i64 p1.name]] (fun (_ : Unit) => .bool (orangerylaw_ViewAgain_2 q1 p1)) (fun (_ : Unit) => []) := by
  refine does_of tab_ok Try.func106 rfl Try.ntmps106 Try.results106 rfl inferInstance (fun _ => inferInstance) fun C => ?_
  refine Tx ?_
  refine Bx fun g1 => ?_
  refine Tx ?_
  have hr1 : (orangerylaw_ViewAgain_2 q1 p1) = (q1.node == p1.parent) := by simp only [orangerylaw_ViewAgain_2, cond_true, cond_false]
  refine cw_ret ?_; rw [hr1]; exact Re () (Vt Vn)
end Go.Proofs.Ytchdacbjiomplaa
