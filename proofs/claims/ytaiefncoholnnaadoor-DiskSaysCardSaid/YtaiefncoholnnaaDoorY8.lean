/- Part of this claim. No condition. -/
import Derived.Test.YtaiefncoholnnaaDoorY7
set_option linter.unusedVariables false
set_option linter.unusedSimpArgs false
set_option maxHeartbeats 2000000
namespace Go.Proofs.YtaiefncoholnnaaDoor
open Go Go.Proofs.YtaiefncoholnnaaDoor.Fw Go.Proofs
attribute [local irreducible] RdL RdN VarP LibP RW CW
def orangerylaw_NoteBack (r1 : Rec) (q1 : Rec) (s1 : Str) : Bool :=
  (bif ((!orangerylaw_lined) || (((((note_Print r1).2) == 0) && (((note_Print q1).2) == 0)) && (!((((note_Print r1).1) == ((note_Print q1).1)) == (note_Same r1 q1))))) then false else (bif (((note_Print r1).2) == 0) then (bif ((((note_Parse ((note_Print r1).1)).2) != 0) || (!(note_Same ((note_Parse ((note_Print r1).1)).1) r1))) then false else (bif (((note_Parse s1).2) != 0) then true else ((((note_Print ((note_Parse s1).1)).2) == 0) && (((note_Print ((note_Parse s1).1)).1) == s1)))) else (bif (((note_Parse s1).2) != 0) then true else ((((note_Print ((note_Parse s1).1)).2) == 0) && (((note_Print ((note_Parse s1).1)).1) == s1)))))
theorem orangerylaw_NoteBack_spec (y1 : SlV) (r1 : Rec) (y2 : SlV) (q1 : Rec) (s1 : Str) : Does Tryd.prog 3 [.agg ⟨[.int .i64 r1.kind, .int .i64 r1.who, .int .i64 r1.life, y1.val r1.roots.length, .int .i64 r1.o.time, .int .i64 r1.o.who, .int .i64 r1.o.node, .int .i64 r1.o.parent, .int .i64 r1.o.name, .int .i64 r1.o.life, .int .i64 r1.o.seq]⟩, .agg ⟨[.int .i64 q1.kind, .int .i64 q1.who, .int .i64 q1.life, y2.val q1.roots.length, .int .i64 q1.o.time, .int .i64 q1.o.who, .int .i64 q1.o.node, .int .i64 q1.o.parent, .int .i64 q1.o.name, .int .i64 q1.o.life, .int .i64 q1.o.seq]⟩, sV s1] [RdL EInt y1 r1.roots, RdL EInt y2 q1.roots, LibP Tryd.prog] (fun (_ : Unit) => .bool (orangerylaw_NoteBack r1 q1 s1)) (fun (_ : Unit) => []) := by
  refine does_of tab_ok Tryd.func3 rfl Tryd.ntmps3 Tryd.results3 rfl inferInstance (fun _ => inferInstance) fun C => ?_
  refine Pc EInt y1 r1.roots 8 fun hlen1 => ?_
  refine Pc EInt y2 q1.roots 8 fun hlen2 => ?_
  refine Tx ?_
  refine Bx fun g1 => ?_
  refine Bx fun g2 => ?_
  refine Tx ?_
  refine Cl (note_Print_spec y1 r1) fun _ => ?_
  refine Tx ?_
  refine Cl (note_Print_spec y2 q1) fun _ => ?_
  refine Tx ?_
  refine Cl (orangerylaw_lined_spec ) fun _ => ?_
  refine Tx ?_
  refine rw_qg (guard_ot rfl rfl rfl) rfl rfl (q_eqS (a := (note_Print r1).1) (b := (note_Print q1).1) rfl rfl Bt rfl Bt) ?_
  refine Tx ?_
  refine rw_callg (fun hG_ => note_Same_spec y1 r1 y2 q1) (fun _ => rfl) .sq (guard_ot rfl rfl rfl) rfl rfl rfl Kr rfl Bt Sm ?_
  refine rw_qg (guard_ot rfl rfl rfl) rfl rfl (q_neb und_4 rfl rfl Bt rfl Bt) ?_
  refine Tx ?_
  refine Cd (b := ((!orangerylaw_lined) || (((((note_Print r1).2) == 0) && (((note_Print q1).2) == 0)) && (!((((note_Print r1).1) == ((note_Print q1).1)) == (note_Same r1 q1)))))) (fun hc1 => ?_) fun hc1 => ?_
  · refine Tx ?_
    have hr1 : (orangerylaw_NoteBack r1 q1 s1) = false := by rw [orangerylaw_NoteBack]; (try simp only [hc1, cond_true, cond_false])
    refine cw_ret ?_; rw [hr1]; exact Re () (Vt Vn)
  · refine Tx ?_
    refine Cd (b := (((note_Print r1).2) == 0)) (fun hc2 => ?_) fun hc2 => ?_
    · have hc2p := eq_of_beq hc2
      refine Tx ?_
      refine Cl (note_Parse_spec ((note_Print r1).1)) fun x1 => ?_
      refine Pr EInt x1 (((note_Parse ((note_Print r1).1)).1).roots) 8 fun hlen3 => ?_
      refine Tx ?_
      refine Al fun g3 => ?_
      refine Tx ?_
      refine rw_callg (fun hG_ => note_Same_spec x1 ((note_Parse ((note_Print r1).1)).1) y1 r1) (fun _ => rfl) .sq (guard_vf rfl rfl rfl) rfl rfl rfl Kr rfl Bt Sm ?_
      refine Tx ?_
      refine Cd (b := ((((note_Parse ((note_Print r1).1)).2) != 0) || (!(note_Same ((note_Parse ((note_Print r1).1)).1) r1)))) (fun hc3 => ?_) fun hc3 => ?_
      · refine Tx ?_
        have hr2 : (orangerylaw_NoteBack r1 q1 s1) = false := by rw [orangerylaw_NoteBack]; (try simp only [hc1, cond_true, cond_false]); (try simp only [hc2, cond_true, cond_false]); (try simp only [hc3, cond_true, cond_false])
        refine cw_ret ?_; rw [hr2]; exact Re () (Vt Vn)
      · refine Tx ?_
        refine Cl (note_Parse_spec s1) fun x2 => ?_
        refine Pr EInt x2 (((note_Parse s1).1).roots) 8 fun hlen4 => ?_
        refine Tx ?_
        refine Al fun g4 => ?_
        refine Tx ?_
        refine Cd (b := (((note_Parse s1).2) != 0)) (fun hc4 => ?_) fun hc4 => ?_
        · have hc4p := bne_iff_ne.1 hc4
          refine Tx ?_
          have hr3 : (orangerylaw_NoteBack r1 q1 s1) = true := by rw [orangerylaw_NoteBack]; (try simp only [hc1, cond_true, cond_false]); (try simp only [hc2, cond_true, cond_false]); (try simp only [hc3, cond_true, cond_false]); (try simp only [hc4, cond_true, cond_false])
          refine cw_ret ?_; rw [hr3]; exact Re () (Vt Vn)
        · have hc4p := eq_of_bne_false hc4
          refine Tx ?_
          refine Cl (note_Print_spec x2 ((note_Parse s1).1)) fun _ => ?_
          refine Tx ?_
          refine rw_qg (guard_vt rfl rfl rfl) rfl rfl (q_eqS (a := (note_Print ((note_Parse s1).1)).1) (b := s1) rfl rfl Bt rfl Bt) ?_
          refine Tx ?_
          have hr4 : (orangerylaw_NoteBack r1 q1 s1) = ((((note_Print ((note_Parse s1).1)).2) == 0) && (((note_Print ((note_Parse s1).1)).1) == s1)) := by rw [orangerylaw_NoteBack]; (try simp only [hc1, cond_true, cond_false]); (try simp only [hc2, cond_true, cond_false]); (try simp only [hc3, cond_true, cond_false]); (try simp only [hc4, cond_true, cond_false])
          refine cw_ret ?_; rw [hr4]; exact Re () (Vt Vn)
    · have hc2p := ne_of_beq_false hc2
      refine Tx ?_
      refine Cl (note_Parse_spec s1) fun x3 => ?_
      refine Pr EInt x3 (((note_Parse s1).1).roots) 8 fun hlen5 => ?_
      refine Tx ?_
      refine Al fun g5 => ?_
      refine Tx ?_
      refine Cd (b := (((note_Parse s1).2) != 0)) (fun hc5 => ?_) fun hc5 => ?_
      · have hc5p := bne_iff_ne.1 hc5
        refine Tx ?_
        have hr5 : (orangerylaw_NoteBack r1 q1 s1) = true := by rw [orangerylaw_NoteBack]; (try simp only [hc1, cond_true, cond_false]); (try simp only [hc2, cond_true, cond_false]); (try simp only [hc5, cond_true, cond_false])
        refine cw_ret ?_; rw [hr5]; exact Re () (Vt Vn)
      · have hc5p := eq_of_bne_false hc5
        refine Tx ?_
        refine Cl (note_Print_spec x3 ((note_Parse s1).1)) fun _ => ?_
        refine Tx ?_
        refine rw_qg (guard_vt rfl rfl rfl) rfl rfl (q_eqS (a := (note_Print ((note_Parse s1).1)).1) (b := s1) rfl rfl Bt rfl Bt) ?_
        refine Tx ?_
        have hr6 : (orangerylaw_NoteBack r1 q1 s1) = ((((note_Print ((note_Parse s1).1)).2) == 0) && (((note_Print ((note_Parse s1).1)).1) == s1)) := by rw [orangerylaw_NoteBack]; (try simp only [hc1, cond_true, cond_false]); (try simp only [hc2, cond_true, cond_false]); (try simp only [hc5, cond_true, cond_false])
        refine cw_ret ?_; rw [hr6]; exact Re () (Vt Vn)
end Go.Proofs.YtaiefncoholnnaaDoor
