/- Part of this claim. No condition. -/
import Derived.Test.YtaiefncoholnnaaDoorY3
set_option linter.unusedVariables false
set_option linter.unusedSimpArgs false
set_option maxHeartbeats 2000000
namespace Go.Proofs.YtaiefncoholnnaaDoor
open Go Go.Proofs.YtaiefncoholnnaaDoor.Fw Go.Proofs
attribute [local irreducible] RdL RdN VarP LibP RW CW
def orangeryref_RecText (r1 : Rec) : Str × Int :=
  (bif ((orangeryref_CheckRec r1) != 0) then (([] : Str), (orangeryref_CheckRec r1)) else (bif (r1.kind == 1) then ((Lib.join (orangeryref_RecText_1 [r1.o.time, r1.o.who, r1.o.node, r1.o.parent, r1.o.name, r1.o.life, r1.o.seq] [([111, 112] : Str)]) ([32] : Str)), 0) else (bif (r1.kind == 2) then ((Lib.join (orangeryref_RecText_1 [r1.who, r1.life] [([108, 105, 102, 101] : Str)]) ([32] : Str)), 0) else ((Lib.join (orangeryref_RecText_1 r1.roots (orangeryref_RecText_1 [r1.who] [([114, 111, 111, 116, 115] : Str)])) ([32] : Str)), 0))))
theorem orangeryref_RecText_spec (y1 : SlV) (r1 : Rec) : Does Tryd.prog 11 [.agg ⟨[.int .i64 r1.kind, .int .i64 r1.who, .int .i64 r1.life, y1.val r1.roots.length, .int .i64 r1.o.time, .int .i64 r1.o.who, .int .i64 r1.o.node, .int .i64 r1.o.parent, .int .i64 r1.o.name, .int .i64 r1.o.life, .int .i64 r1.o.seq]⟩] [RdL EInt y1 r1.roots, LibP Tryd.prog] (fun (_ : Unit) => .tuple #[sV ((orangeryref_RecText r1).1), .int .i64 ((orangeryref_RecText r1).2)]) (fun (_ : Unit) => []) := by
  refine does_of tab_ok Tryd.func11 rfl Tryd.ntmps11 Tryd.results11 rfl inferInstance (fun _ => inferInstance) fun C => ?_
  refine Pc EInt y1 r1.roots 8 fun hlen1 => ?_
  refine Tx ?_
  refine Bx fun g1 => ?_
  refine Tx ?_
  refine Cl (orangeryref_CheckRec_spec y1 r1) fun _ => ?_
  refine Tx ?_
  refine Cd (b := ((orangeryref_CheckRec r1) != 0)) (fun hc1 => ?_) fun hc1 => ?_
  · have hc1p := bne_iff_ne.1 hc1
    refine Tx ?_
    have hr1 : (orangeryref_RecText r1) = (([] : Str), (orangeryref_CheckRec r1)) := by simp only [orangeryref_RecText, hc1, cond_true, cond_false]
    refine cw_ret ?_; rw [hr1]; exact Re () (Vt (Vt Vn))
  · have hc1p := eq_of_bne_false hc1
    have hck := rec_of (eq_of_bne_false hc1)
    refine Tx ?_
    refine Al fun g2 => ?_
    refine Tx ?_
    refine Cd (b := (r1.kind == 1)) (fun hc2 => ?_) fun hc2 => ?_
    · have hc2p := eq_of_beq hc2
      have hbn := nums_op hck hc2
      refine Tx ?_
      refine rw_bsliceL EStr [([111, 112] : Str)] .sq (guard_none rfl) rfl rfl rfl rfl rfl rfl rfl rfl rfl rfl rfl rfl rfl rfl rfl fun x1 x1b => ?_
      refine Tx ?_
      refine rw_bsliceL EInt [r1.o.time, r1.o.who, r1.o.node, r1.o.parent, r1.o.name, r1.o.life, r1.o.seq] .sq (guard_none rfl) rfl rfl rfl rfl rfl rfl rfl rfl rfl rfl rfl rfl rfl rfl rfl fun x2 x2b => ?_
      refine rw_le (le_freezeL EInt 3 x2 x2b [r1.o.time, r1.o.who, r1.o.node, r1.o.parent, r1.o.name, r1.o.life, r1.o.seq] Uo) ?_
      refine rw_callGv (orangeryref_RecText_1_spec x2 [r1.o.time, r1.o.who, r1.o.node, r1.o.parent, r1.o.name, r1.o.life, r1.o.seq] g2 x1 x1b [([111, 112] : Str)] hbn (by first | decide | (simp only [RecText_1_eq, List.length_append, List.length_map, List.length_cons, List.length_nil]; omega))) .sq (.inl ⟨_, rfl⟩) (guard_none rfl) rfl rfl rfl rfl rfl Kr rfl rfl rfl Sm (by first | exact .cons (.here _ _) (.nil _) | exact .cons (.there _ (.here _ _)) (.nil _) | exact .cons (.there _ (.there _ (.here _ _))) (.nil _) | exact .cons (.there _ (.there _ (.there _ (.here _ _)))) (.nil _)) (by first | exact .cons (.here _ _) (.nil _) | exact .cons (.there _ (.here _ _)) (.nil _) | exact .cons (.there _ (.there _ (.here _ _))) (.nil _) | exact .cons (.there _ (.there _ (.there _ (.here _ _)))) (.nil _)) ?_
      intro x3
      refine Tx ?_
      refine rw_callG (lib_Join x3.1 x3.2 (orangeryref_RecText_1 [r1.o.time, r1.o.who, r1.o.node, r1.o.parent, r1.o.name, r1.o.life, r1.o.seq] [([111, 112] : Str)]) ([32] : Str) (by first | exact rt_len2 hbn (by omega) (by decide) | exact rt_len hbn (by simp) (by simp))) .sq (.inl ⟨_, rfl⟩) (guard_none rfl) rfl rfl rfl Kr rfl rfl Sm (.nil _) (by first | exact .cons (.here _ _) (.nil _) | exact .cons (.there _ (.here _ _)) (.nil _) | exact .cons (.there _ (.there _ (.here _ _))) (.nil _) | exact .cons (.there _ (.there _ (.there _ (.here _ _)))) (.nil _)) ?_
      intro _
      refine Tx ?_
      have hr2 : (orangeryref_RecText r1) = ((Lib.join (orangeryref_RecText_1 [r1.o.time, r1.o.who, r1.o.node, r1.o.parent, r1.o.name, r1.o.life, r1.o.seq] [([111, 112] : Str)]) ([32] : Str)), 0) := by simp only [orangeryref_RecText, hc1, hc2, cond_true, cond_false]
      refine cw_ret ?_; rw [hr2]; exact Re () (Vt (Vt Vn))
    · have hc2p := ne_of_beq_false hc2
      have hk1 := hc2
      refine Tx ?_
      refine Cd (b := (r1.kind == 2)) (fun hc3 => ?_) fun hc3 => ?_
      · have hc3p := eq_of_beq hc3
        have hbn := nums_life hck hc3
        refine Tx ?_
        refine rw_bsliceL EStr [([108, 105, 102, 101] : Str)] .sq (guard_none rfl) rfl rfl rfl rfl rfl rfl rfl rfl rfl rfl rfl rfl rfl rfl rfl fun x4 x4b => ?_
        refine Tx ?_
        refine rw_bsliceL EInt [r1.who, r1.life] .sq (guard_none rfl) rfl rfl rfl rfl rfl rfl rfl rfl rfl rfl rfl rfl rfl rfl rfl fun x5 x5b => ?_
        refine rw_le (le_freezeL EInt 3 x5 x5b [r1.who, r1.life] Uo) ?_
        refine rw_callGv (orangeryref_RecText_1_spec x5 [r1.who, r1.life] g2 x4 x4b [([108, 105, 102, 101] : Str)] hbn (by first | decide | (simp only [RecText_1_eq, List.length_append, List.length_map, List.length_cons, List.length_nil]; omega))) .sq (.inl ⟨_, rfl⟩) (guard_none rfl) rfl rfl rfl rfl rfl Kr rfl rfl rfl Sm (by first | exact .cons (.here _ _) (.nil _) | exact .cons (.there _ (.here _ _)) (.nil _) | exact .cons (.there _ (.there _ (.here _ _))) (.nil _) | exact .cons (.there _ (.there _ (.there _ (.here _ _)))) (.nil _)) (by first | exact .cons (.here _ _) (.nil _) | exact .cons (.there _ (.here _ _)) (.nil _) | exact .cons (.there _ (.there _ (.here _ _))) (.nil _) | exact .cons (.there _ (.there _ (.there _ (.here _ _)))) (.nil _)) ?_
        intro x6
        refine Tx ?_
        refine rw_callG (lib_Join x6.1 x6.2 (orangeryref_RecText_1 [r1.who, r1.life] [([108, 105, 102, 101] : Str)]) ([32] : Str) (by first | exact rt_len2 hbn (by omega) (by decide) | exact rt_len hbn (by simp) (by simp))) .sq (.inl ⟨_, rfl⟩) (guard_none rfl) rfl rfl rfl Kr rfl rfl Sm (.nil _) (by first | exact .cons (.here _ _) (.nil _) | exact .cons (.there _ (.here _ _)) (.nil _) | exact .cons (.there _ (.there _ (.here _ _))) (.nil _) | exact .cons (.there _ (.there _ (.there _ (.here _ _)))) (.nil _)) ?_
        intro _
        refine Tx ?_
        have hr3 : (orangeryref_RecText r1) = ((Lib.join (orangeryref_RecText_1 [r1.who, r1.life] [([108, 105, 102, 101] : Str)]) ([32] : Str)), 0) := by simp only [orangeryref_RecText, hc1, hc2, hc3, cond_true, cond_false]
        refine cw_ret ?_; rw [hr3]; exact Re () (Vt (Vt Vn))
      · have hc3p := ne_of_beq_false hc3
        have hbn0 := nums_roots hck hk1 hc3; have hbn := hbn0.2; have hrl := hbn0.1
        refine Tx ?_
        refine rw_bsliceL EStr [([114, 111, 111, 116, 115] : Str)] .sq (guard_none rfl) rfl rfl rfl rfl rfl rfl rfl rfl rfl rfl rfl rfl rfl rfl rfl fun x7 x7b => ?_
        refine Tx ?_
        refine rw_bsliceL EInt [r1.who] .sq (guard_none rfl) rfl rfl rfl rfl rfl rfl rfl rfl rfl rfl rfl rfl rfl rfl rfl fun x8 x8b => ?_
        refine rw_le (le_freezeL EInt 3 x8 x8b [r1.who] Uo) ?_
        refine rw_callGv (orangeryref_RecText_1_spec x8 [r1.who] g2 x7 x7b [([114, 111, 111, 116, 115] : Str)] (fun n hn => hbn n (by simp only [List.mem_singleton] at hn; subst hn; exact .head _)) (by first | decide | (simp only [RecText_1_eq, List.length_append, List.length_map, List.length_cons, List.length_nil]; omega))) .sq (.inl ⟨_, rfl⟩) (guard_none rfl) rfl rfl rfl rfl rfl Kr rfl rfl rfl Sm (by first | exact .cons (.here _ _) (.nil _) | exact .cons (.there _ (.here _ _)) (.nil _) | exact .cons (.there _ (.there _ (.here _ _))) (.nil _) | exact .cons (.there _ (.there _ (.there _ (.here _ _)))) (.nil _)) (by first | exact .cons (.here _ _) (.nil _) | exact .cons (.there _ (.here _ _)) (.nil _) | exact .cons (.there _ (.there _ (.here _ _))) (.nil _) | exact .cons (.there _ (.there _ (.there _ (.here _ _)))) (.nil _)) ?_
        intro x9
        refine Tx ?_
        refine rw_callGv (orangeryref_RecText_1_spec y1 r1.roots g2 x9.1 x9.2 (orangeryref_RecText_1 [r1.who] [([114, 111, 111, 116, 115] : Str)]) (fun n hn => hbn n (.tail _ hn)) (by first | decide | (simp only [RecText_1_eq, List.length_append, List.length_map, List.length_cons, List.length_nil]; omega))) .sq (.inl ⟨_, rfl⟩) (guard_none rfl) rfl rfl rfl rfl rfl Kr rfl rfl rfl Sm (by first | exact .cons (.here _ _) (.nil _) | exact .cons (.there _ (.here _ _)) (.nil _) | exact .cons (.there _ (.there _ (.here _ _))) (.nil _) | exact .cons (.there _ (.there _ (.there _ (.here _ _)))) (.nil _)) (by first | exact .cons (.here _ _) (.nil _) | exact .cons (.there _ (.here _ _)) (.nil _) | exact .cons (.there _ (.there _ (.here _ _))) (.nil _) | exact .cons (.there _ (.there _ (.there _ (.here _ _)))) (.nil _)) ?_
        intro x10
        refine Tx ?_
        refine rw_callG (lib_Join x10.1 x10.2 (orangeryref_RecText_1 r1.roots (orangeryref_RecText_1 [r1.who] [([114, 111, 111, 116, 115] : Str)])) ([32] : Str) (by first | exact rt_len2 hbn (by omega) (by decide) | exact rt_len hbn (by simp) (by simp))) .sq (.inl ⟨_, rfl⟩) (guard_none rfl) rfl rfl rfl Kr rfl rfl Sm (.nil _) (by first | exact .cons (.here _ _) (.nil _) | exact .cons (.there _ (.here _ _)) (.nil _) | exact .cons (.there _ (.there _ (.here _ _))) (.nil _) | exact .cons (.there _ (.there _ (.there _ (.here _ _)))) (.nil _)) ?_
        intro _
        refine Tx ?_
        have hr4 : (orangeryref_RecText r1) = ((Lib.join (orangeryref_RecText_1 r1.roots (orangeryref_RecText_1 [r1.who] [([114, 111, 111, 116, 115] : Str)])) ([32] : Str)), 0) := by simp only [orangeryref_RecText, hc1, hc2, hc3, cond_true, cond_false]
        refine cw_ret ?_; rw [hr4]; exact Re () (Vt (Vt Vn))
end Go.Proofs.YtaiefncoholnnaaDoor
