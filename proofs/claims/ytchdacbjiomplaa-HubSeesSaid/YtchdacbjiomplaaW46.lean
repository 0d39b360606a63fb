/- Part of this claim. No condition. -/
import Derived.Test.YtchdacbjiomplaaW45
set_option linter.unusedVariables false
set_option linter.unusedSimpArgs false
namespace Go.Proofs.Ytchdacbjiomplaa
open Go Go.Proofs.Ytchdacbjiomplaa.Fw Go.Proofs
attribute [local irreducible] RdL RdN VarP
def hub_next (h1 : Hub) (r1 : Rec) : Hub × Int :=
  (bif ((note_Check r1) != 0) then ((⟨(⟨([] : List Step), ([] : List Place)⟩ : History), 0, ([] : List Peer)⟩ : Hub), (note_Check r1)) else (bif (h1.version == 60) then ((⟨(⟨([] : List Step), ([] : List Place)⟩ : History), 0, ([] : List Peer)⟩ : Hub), 2) else (bif (r1.kind == 1) then (bif (((hub_accept (⟨h1.h, (h1.version + 1), h1.peers⟩ : Hub) r1.o).1) != 0) then ((⟨(⟨([] : List Step), ([] : List Place)⟩ : History), 0, ([] : List Peer)⟩ : Hub), (hub_accept (⟨h1.h, (h1.version + 1), h1.peers⟩ : Hub) r1.o).1) else (((hub_accept (⟨h1.h, (h1.version + 1), h1.peers⟩ : Hub) r1.o).2), 0)) else (bif (r1.kind == 2) then (bif (r1.life != (((gt h1.peers r1.who.toNat).life) + 1)) then ((⟨(⟨([] : List Step), ([] : List Place)⟩ : History), 0, ([] : List Peer)⟩ : Hub), 7) else ((⟨h1.h, (h1.version + 1), (h1.peers.set r1.who.toNat (⟨r1.life, 0, ([] : List Int)⟩ : Peer))⟩ : Hub), 0)) else (bif (r1.kind == 3) then (bif (((gt h1.peers r1.who.toNat).life) == 0) then ((⟨(⟨([] : List Step), ([] : List Place)⟩ : History), 0, ([] : List Peer)⟩ : Hub), 5) else ((⟨h1.h, (h1.version + 1), (h1.peers.set r1.who.toNat (⟨(gt h1.peers r1.who.toNat).life, (gt h1.peers r1.who.toNat).seq, r1.roots⟩ : Peer))⟩ : Hub), 0)) else ((⟨h1.h, (h1.version + 1), h1.peers⟩ : Hub), 0))))))
theorem hub_next_spec (y1 : SlV) (y2 : SlV) (y3 : SlV) (h1 : Hub) (y4 : SlV) (r1 : Rec) (hk : hub_Check h1 = 0) : Does Try.prog 173 [.agg ⟨[y1.val h1.h.l.length, y2.val h1.h.t.length, .int .i64 h1.version, y3.val h1.peers.length]⟩, .agg ⟨[.int .i64 r1.kind, .int .i64 r1.who, .int .i64 r1.life, y4.val r1.roots.length, .int .i64 r1.o.time, .int .i64 r1.o.who, .int .i64 r1.o.node, .int .i64 r1.o.parent, .int .i64 r1.o.name, .int .i64 r1.o.life, .int .i64 r1.o.seq]⟩] [RdL EStep y1 h1.h.l, RdL EPlace y2 h1.h.t, RdN NPeer y3 h1.peers, RdL EInt y4 r1.roots] (fun (X : SlV × SlV × SlV) => .tuple #[.agg ⟨[X.1.val ((((hub_next h1 r1).1).h).l).length, X.2.1.val ((((hub_next h1 r1).1).h).t).length, .int .i64 (((hub_next h1 r1).1).version), X.2.2.val (((hub_next h1 r1).1).peers).length]⟩, .int .i64 ((hub_next h1 r1).2)]) (fun (X : SlV × SlV × SlV) => [RdL EStep X.1 ((((hub_next h1 r1).1).h).l), RdL EPlace X.2.1 ((((hub_next h1 r1).1).h).t), RdN NPeer X.2.2 (((hub_next h1 r1).1).peers)]) := by
  refine does_of tab_ok Try.func173 rfl Try.ntmps173 Try.results173 rfl inferInstance (fun _ => inferInstance) fun C => ?_
  refine cw_pure (φ := h1.h.l.length * 88 ≤ 140737488355328) [RdL EStep y1 h1.h.l] Sm (fun M w h => (allF1 h).len) fun hlen1 => ?_
  refine cw_pure (φ := h1.h.t.length * 24 ≤ 140737488355328) [RdL EPlace y2 h1.h.t] Sm (fun M w h => (allF1 h).len) fun hlen2 => ?_
  refine cw_pure (φ := h1.peers.length * 40 ≤ 140737488355328) [RdN NPeer y3 h1.peers] Sm (fun M w h => (allF1 h).len) fun hlen3 => ?_
  refine cw_pure (φ := r1.roots.length * 8 ≤ 140737488355328) [RdL EInt y4 r1.roots] Sm (fun M w h => (allF1 h).len) fun hlen4 => ?_
  (repeat refine cw_seq ?_); refine cw_region ?_
  refine rw_box_agg .sq (guard_none rfl) rfl rfl rfl rfl rfl fun g1 => ?_
  refine rw_box_agg .sq (guard_none rfl) rfl rfl rfl rfl rfl fun g2 => ?_
  refine rw_alloc .sq (guard_none rfl) rfl rfl rfl rfl fun g3 => ?_
  refine Rp rfl rfl rfl rfl ?_
  refine rw_nil ?_
  (repeat refine cw_seq ?_); refine cw_region ?_
  refine rw_q rfl rfl rfl (q_ldA rfl rfl (fun _ => rfl) rfl Mm rfl) ?_
  refine rw_call (note_Check_spec y4 r1) .sq (guard_none rfl) rfl rfl rfl Kr rfl rfl Sm ?_
  intro _
  refine Rp rfl rfl rfl rfl ?_
  refine rw_nil ?_
  (repeat refine cw_seq ?_); refine cw_region ?_
  refine Rp rfl rfl rfl rfl ?_
  refine Rp rfl rfl rfl rfl ?_
  refine rw_nil ?_
  (repeat refine cw_seq ?_); refine cw_cond (b := ((note_Check r1) != 0)) rfl rfl (fun hc1 => ?_) (fun hc1 => ?_)
  · skip
    have hc1p := bne_iff_ne.1 hc1
    (repeat refine cw_seq ?_); refine cw_region ?_
    refine Rp rfl rfl rfl rfl ?_
    refine Rp rfl rfl rfl rfl ?_
    refine rw_stA .sq (.inl ⟨_, rfl⟩) (guard_none rfl) rfl rfl rfl rfl rfl rfl rfl rfl rfl Ub rfl ?_
    refine Rp rfl rfl rfl rfl ?_
    refine rw_nil ?_
    (repeat refine cw_seq ?_)
    refine cw_fact (F := RdL EStep ⟨none, 0⟩ ([] : List Step)) [] (.nil _) (fun M w _ => RdL.nil _ _ _ (by omega) M w) ?_
    refine cw_fact (F := RdL EPlace ⟨none, 0⟩ ([] : List Place)) [] (.nil _) (fun M w _ => RdL.nil _ _ _ (by omega) M w) ?_
    refine cw_fact (F := RdN NPeer ⟨none, 0⟩ ([] : List Peer)) [] (.nil _) (fun M w _ => RdN.nil _ M w) ?_
    have hr1 : (hub_next h1 r1) = ((⟨(⟨([] : List Step), ([] : List Place)⟩ : History), 0, ([] : List Peer)⟩ : Hub), (note_Check r1)) := by simp only [hub_next, hc1, cond_true, cond_false]
    refine cw_ret ?_
    rw [hr1]
    exact ⟨⟨(⟨none, 0⟩ : SlV), (⟨none, 0⟩ : SlV), (⟨none, 0⟩ : SlV)⟩, _, (.cons (.agg rfl rfl Mm rfl) (.cons (.tmp rfl) .nil)), rfl, Sm, .nil _, .nil _⟩
  · skip
    have hc1p := eq_of_bne_false hc1
    have hnw := note_who (eq_of_bne_false hc1)
    have hcl := hub_Check_len hk
    have hcq := history_Check_len hcl.1
    have hsq := hub_seq hk
    (repeat refine cw_seq ?_); refine cw_skip ?_
    (repeat refine cw_seq ?_); refine cw_region ?_
    refine Rp rfl rfl rfl rfl ?_
    refine rw_q rfl rfl rfl (q_ld1 rfl rfl (fun _ => rfl) rfl Mm rfl) ?_
    refine Rp rfl rfl rfl rfl ?_
    refine rw_nil ?_
    (repeat refine cw_seq ?_); refine cw_cond (b := (h1.version == 60)) rfl rfl (fun hc2 => ?_) (fun hc2 => ?_)
    · skip
      have hc2p := eq_of_beq hc2
      (repeat refine cw_seq ?_); refine cw_region ?_
      refine Rp rfl rfl rfl rfl ?_
      refine rw_stA .sq (.inl ⟨_, rfl⟩) (guard_none rfl) rfl rfl rfl rfl rfl rfl rfl rfl rfl Ub rfl ?_
      refine Rp rfl rfl rfl rfl ?_
      refine rw_nil ?_
      (repeat refine cw_seq ?_)
      refine cw_fact (F := RdL EStep ⟨none, 0⟩ ([] : List Step)) [] (.nil _) (fun M w _ => RdL.nil _ _ _ (by omega) M w) ?_
      refine cw_fact (F := RdL EPlace ⟨none, 0⟩ ([] : List Place)) [] (.nil _) (fun M w _ => RdL.nil _ _ _ (by omega) M w) ?_
      refine cw_fact (F := RdN NPeer ⟨none, 0⟩ ([] : List Peer)) [] (.nil _) (fun M w _ => RdN.nil _ M w) ?_
      have hr2 : (hub_next h1 r1) = ((⟨(⟨([] : List Step), ([] : List Place)⟩ : History), 0, ([] : List Peer)⟩ : Hub), 2) := by simp only [hub_next, hc1, hc2, cond_true, cond_false]
      refine cw_ret ?_
      rw [hr2]
      exact ⟨⟨(⟨none, 0⟩ : SlV), (⟨none, 0⟩ : SlV), (⟨none, 0⟩ : SlV)⟩, _, (.cons (.agg rfl rfl Mm rfl) (.cons (.tmp rfl) .nil)), rfl, Sm, .nil _, .nil _⟩
    · skip
      have hc2p := ne_of_beq_false hc2
      (repeat refine cw_seq ?_); refine cw_skip ?_
      (repeat refine cw_seq ?_); refine cw_region ?_
      refine rw_q rfl rfl rfl (q_ldA rfl rfl (fun _ => rfl) rfl Mm rfl) ?_
      refine rw_callG (hub_Copy_spec' y1 y2 y3 h1) .sq (.inl ⟨_, rfl⟩) (guard_none rfl) rfl rfl rfl Kr rfl rfl Sm (.nil _) (.nil _) ?_
      intro x1
      refine rw_pure (φ := h1.h.l.length * 88 ≤ 140737488355328) [RdL EStep x1.1 h1.h.l] Sm (fun M w h => (allF1 h).len) fun hlen5 => ?_
      refine rw_pure (φ := h1.h.t.length * 24 ≤ 140737488355328) [RdL EPlace x1.2.1 h1.h.t] Sm (fun M w h => (allF1 h).len) fun hlen6 => ?_
      refine rw_stA .sq (.inl ⟨_, rfl⟩) (guard_none rfl) rfl rfl rfl rfl rfl rfl rfl rfl rfl Ub rfl ?_
      refine rw_nil ?_
      (repeat refine cw_seq ?_); refine cw_region ?_
      refine Rp rfl rfl rfl rfl ?_
      refine rw_q rfl rfl rfl (q_ld1 rfl rfl (fun _ => rfl) rfl Mm rfl) ?_
      refine rw_q rfl rfl rfl (q_add rfl rfl (fun _ => rfl) rfl (fun _ => rfl) (fun _ => by omega)) ?_
      refine Rp rfl rfl rfl rfl ?_
      refine rw_st1 .sq (.inl ⟨_, rfl⟩) (guard_none rfl) rfl rfl rfl rfl rfl rfl rfl rfl rfl Ub rfl ?_
      refine rw_nil ?_
      (repeat refine cw_seq ?_); refine cw_region ?_
      refine Rp rfl rfl rfl rfl ?_
      refine rw_nil ?_
      (repeat refine cw_seq ?_); refine cw_region ?_
      refine Rp rfl rfl rfl rfl ?_
      refine rw_q rfl rfl rfl (q_ld1 rfl rfl (fun _ => rfl) rfl Mm rfl) ?_
      refine rw_nil ?_
      (repeat refine cw_seq ?_); refine cw_block ?_
      (repeat refine cw_seq ?_); refine cw_region ?_
      refine Rp rfl rfl rfl rfl ?_
      refine Rp rfl rfl rfl rfl ?_
      refine rw_nil ?_
      (repeat refine cw_seq ?_); refine cw_cond (b := (r1.kind == 1)) rfl rfl (fun hc3 => ?_) (fun hc3 => ?_)
      · skip
        have hc3p := eq_of_beq hc3
        (repeat refine cw_seq ?_); refine cw_region ?_
        refine Rp rfl rfl rfl rfl ?_
        refine rw_q rfl rfl rfl (q_ldP rfl rfl (fun _ => rfl) rfl Mm rfl) ?_
        refine rw_callG (hub_accept_spec g1 x1.1 x1.2.1 x1.2.2.1 x1.2.2.2.1 x1.2.2.2.2 (⟨h1.h, (h1.version + 1), h1.peers⟩ : Hub) r1.o hcl.2.2.2 (hnw.1 (by assumption)) (Nat.le_trans hcq (by omega)) hsq) .sq (.inl ⟨_, rfl⟩) (guard_none rfl) rfl rfl rfl Kr rfl rfl Sm (by first | exact .cons (.here _ _) (.nil _) | exact .cons (.there _ (.here _ _)) (.nil _) | exact .cons (.there _ (.there _ (.here _ _))) (.nil _) | exact .cons (.there _ (.there _ (.there _ (.here _ _)))) (.nil _)) (by first | exact .cons (.here _ _) (.nil _) | exact .cons (.there _ (.here _ _)) (.nil _) | exact .cons (.there _ (.there _ (.here _ _))) (.nil _) | exact .cons (.there _ (.there _ (.there _ (.here _ _)))) (.nil _)) ?_
        intro x2
        refine Rp rfl rfl rfl rfl ?_
        refine rw_nil ?_
        (repeat refine cw_seq ?_); refine cw_region ?_
        refine Rp rfl rfl rfl rfl ?_
        refine Rp rfl rfl rfl rfl ?_
        refine rw_nil ?_
        (repeat refine cw_seq ?_); refine cw_cond (b := (((hub_accept (⟨h1.h, (h1.version + 1), h1.peers⟩ : Hub) r1.o).1) != 0)) rfl rfl (fun hc4 => ?_) (fun hc4 => ?_)
        · skip
          have hc4p := bne_iff_ne.1 hc4
          (repeat refine cw_seq ?_); refine cw_region ?_
          refine Rp rfl rfl rfl rfl ?_
          refine Rp rfl rfl rfl rfl ?_
          refine rw_stA .sq (.inl ⟨_, rfl⟩) (guard_none rfl) rfl rfl rfl rfl rfl rfl rfl rfl rfl Ub rfl ?_
          refine Rp rfl rfl rfl rfl ?_
          refine rw_nil ?_
          (repeat refine cw_seq ?_)
          refine cw_fact (F := RdL EStep ⟨none, 0⟩ ([] : List Step)) [] (.nil _) (fun M w _ => RdL.nil _ _ _ (by omega) M w) ?_
          refine cw_fact (F := RdL EPlace ⟨none, 0⟩ ([] : List Place)) [] (.nil _) (fun M w _ => RdL.nil _ _ _ (by omega) M w) ?_
          refine cw_fact (F := RdN NPeer ⟨none, 0⟩ ([] : List Peer)) [] (.nil _) (fun M w _ => RdN.nil _ M w) ?_
          have hr3 : (hub_next h1 r1) = ((⟨(⟨([] : List Step), ([] : List Place)⟩ : History), 0, ([] : List Peer)⟩ : Hub), (hub_accept (⟨h1.h, (h1.version + 1), h1.peers⟩ : Hub) r1.o).1) := by simp only [hub_next, hc1, hc2, hc3, hc4, cond_true, cond_false]
          refine cw_ret ?_
          rw [hr3]
          exact ⟨⟨(⟨none, 0⟩ : SlV), (⟨none, 0⟩ : SlV), (⟨none, 0⟩ : SlV)⟩, _, (.cons (.agg rfl rfl Mm rfl) (.cons (.tmp rfl) .nil)), rfl, Sm, .nil _, .nil _⟩
        · skip
          have hc4p := eq_of_bne_false hc4
          (repeat refine cw_seq ?_); refine cw_skip ?_
          (repeat refine cw_seq ?_); refine cw_region ?_
          refine rw_q rfl rfl rfl (q_ldA rfl rfl (fun _ => rfl) rfl Mm rfl) ?_
          refine rw_stA .sq (.inl ⟨_, rfl⟩) (guard_none rfl) rfl rfl rfl rfl rfl rfl rfl rfl rfl Ub rfl ?_
          refine Rp rfl rfl rfl rfl ?_
          refine rw_nil ?_
          (repeat refine cw_seq ?_)
          refine cw_le (le_freezeL NPeer.E 144 x2.2.2.1 x2.2.2.2.1 (zipG x2.2.2.2.2 0 (((hub_accept (⟨h1.h, (h1.version + 1), h1.peers⟩ : Hub) r1.o).2).peers)) Uo) ?_
          refine cw_fact (F := RdN NPeer x2.2.2.1 (((hub_accept (⟨h1.h, (h1.version + 1), h1.peers⟩ : Hub) r1.o).2).peers)) [RdG NPeer x2.2.2.1 x2.2.2.2.2 (((hub_accept (⟨h1.h, (h1.version + 1), h1.peers⟩ : Hub) r1.o).2).peers), FactsG NPeer x2.2.2.2.2 (((hub_accept (⟨h1.h, (h1.version + 1), h1.peers⟩ : Hub) r1.o).2).peers)] Sm (fun M w h => RdN.ofG NPeer (h _ (.head _)) (h _ (.tail _ (.head _)))) ?_
          have hr4 : (hub_next h1 r1) = (((hub_accept (⟨h1.h, (h1.version + 1), h1.peers⟩ : Hub) r1.o).2), 0) := by simp only [hub_next, hc1, hc2, hc3, hc4, cond_true, cond_false]
          refine cw_ret ?_
          rw [hr4]
          exact ⟨⟨x2.1, x2.2.1, x2.2.2.1⟩, _, (.cons (.agg rfl rfl Mm rfl) (.cons (.tmp rfl) .nil)), rfl, Sm, .nil _, .nil _⟩
      · skip
        have hc3p := ne_of_beq_false hc3
        (repeat refine cw_seq ?_); refine cw_region ?_
        refine Rp rfl rfl rfl rfl ?_
        refine Rp rfl rfl rfl rfl ?_
        refine rw_nil ?_
        (repeat refine cw_seq ?_); refine cw_cond (b := (r1.kind == 2)) rfl rfl (fun hc5 => ?_) (fun hc5 => ?_)
        · skip
          have hc5p := eq_of_beq hc5
          have hlb := (hub_peers hk (gt h1.peers r1.who.toNat) (gt_mem (by omega))).1
          (repeat refine cw_seq ?_); refine cw_regionA (fun _ => some []) ?_
          refine ra_q (.ab (i := 0) (js := [2, 3, 4, 5, 6, 7, 8, 9]) [1, 10] rfl Kr Kr Kr Kr Kr) (SplitB.all _) (by simp) rfl rfl rfl (q_pev rfl (fun _ => rfl)) ?_
          refine ra_q (.an (i := 1) (js := [2, 3, 4, 5, 6, 7, 8, 9]) rfl Kr Kr Kr Kr) (SplitB.all _) (by simp) rfl rfl rfl (q_ld1 rfl rfl (fun _ => rfl) rfl Mm rfl) ?_
          refine ra_q (.ab (i := 2) (js := [4, 5]) [3, 6, 7, 8, 9, 10] rfl Kr Kr Kr Kr Kr) (SplitB.all _) (by simp) rfl rfl rfl (q_pev rfl (fun _ => rfl)) ?_
          refine ra_q (.ab (i := 3) (js := [4, 5]) [6, 7, 8, 9, 10] rfl Kr Kr Kr Kr Kr) (SplitB.all _) (by simp) rfl rfl rfl (q_ld1 rfl rfl (fun _ => rfl) rfl Mm rfl) ?_
          refine ra_q (.ab (i := 4) (js := []) [5, 6, 7, 8, 9, 10] rfl Kr Kr Kr Kr Kr) (SplitB.all _) (by simp) rfl rfl rfl (q_pev rfl (fun _ => rfl)) ?_
          refine ra_q (.ab (i := 5) (js := []) [6, 7, 8, 9, 10] rfl Kr Kr Kr Kr Kr) (SplitB.all _) (by simp) rfl rfl rfl (q_ld1 rfl rfl (fun _ => rfl) rfl Mm rfl) ?_
          refine rw_qO NPeer.E (e := 144) (X := x1.2.2.1) (b := x1.2.2.2.1) (l := zipG x1.2.2.2.2 0 h1.peers) Mm (.ab (i := 6) (js := []) [7, 8, 9, 10] rfl Kr Kr Kr Kr Kr) rfl rfl rfl (q_idxN NPeer x1.2.2.2.2 r1.who.toNat rfl rfl (fun _ => rfl) rfl (fun _ => rfl) rfl rfl rfl (.head _) rfl (fun _ => by omega) (fun _ => by first | assumption | omega | (simp only [List.length_set]; omega))) ?_
          refine ra_q (.ab (i := 7) (js := []) [8, 9, 10] rfl Kr Kr Kr Kr Kr) (SplitB.all _) (by simp) rfl rfl rfl (q_fae rfl rfl (fun _ => rfl) rfl rfl) ?_
          refine rw_qO NPeer.E (e := 144) (X := x1.2.2.1) (b := x1.2.2.2.1) (l := zipG x1.2.2.2.2 0 h1.peers) Mm (.ab (i := 8) (js := []) [9, 10] rfl Kr Kr Kr Kr Kr) rfl rfl rfl (q_le1N NPeer x1.2.2.2.2 (v := .int .i64 ((gt h1.peers r1.who.toNat).life)) rfl rfl (fun _ => rfl) rfl rfl (.head _) (fun _ => by first | assumption | omega | (simp only [List.length_set]; omega)) rfl) ?_
          refine ra_q (.an (i := 9) (js := []) rfl Kr Kr Kr Kr) (SplitB.all _) (by simp) rfl rfl rfl (q_add rfl rfl (fun _ => rfl) rfl (fun _ => rfl) (fun _ => by omega)) ?_
          refine ra_q (.an (i := 10) (js := []) rfl Kr Kr Kr Kr) (SplitB.all _) (by simp) rfl rfl rfl (q_pev rfl (fun _ => rfl)) ?_
          refine ra_nil Kr ?_
          (repeat refine cw_seq ?_); refine cw_cond (b := (r1.life != (((gt h1.peers r1.who.toNat).life) + 1))) rfl rfl (fun hc6 => ?_) (fun hc6 => ?_)
          · skip
            have hc6p := bne_iff_ne.1 hc6
            (repeat refine cw_seq ?_); refine cw_region ?_
            refine Rp rfl rfl rfl rfl ?_
            refine rw_nil ?_
            (repeat refine cw_seq ?_); refine cw_region ?_
            refine Rp rfl rfl rfl rfl ?_
            refine rw_q rfl rfl rfl (q_ld1 rfl rfl (fun _ => rfl) rfl Mm rfl) ?_
            refine Rp rfl rfl rfl rfl ?_
            refine rw_q rfl rfl rfl (q_ld1 rfl rfl (fun _ => rfl) rfl Mm rfl) ?_
            refine Rp rfl rfl rfl rfl ?_
            refine rw_q rfl rfl rfl (q_ld1 rfl rfl (fun _ => rfl) rfl Mm rfl) ?_
            refine Rp rfl rfl rfl rfl ?_
            refine rw_qO NPeer.E (e := 144) (X := x1.2.2.1) (b := x1.2.2.2.1) (l := zipG x1.2.2.2.2 0 h1.peers) Mm .sq rfl rfl rfl (q_idxN NPeer x1.2.2.2.2 r1.who.toNat rfl rfl (fun _ => rfl) rfl (fun _ => rfl) rfl rfl rfl (.head _) rfl (fun _ => by omega) (fun _ => by first | assumption | omega | (simp only [List.length_set]; omega))) ?_
            refine rw_fact (F := RdL EInt ⟨none, 0⟩ ([] : List Int)) [] (.nil _) (fun M w _ => RdL.nil _ _ _ (by omega) M w) ?_
            refine rw_stON NPeer x1.2.2.2.2 h1.peers r1.who.toNat 0 (⟨none, 0⟩ : SlV) (⟨r1.life, 0, ([] : List Int)⟩ : Peer) (e := 144) (X := x1.2.2.1) (b := x1.2.2.2.1) .sq (.inl ⟨_, rfl⟩) (guard_none rfl) rfl rfl rfl rfl rfl rfl rfl rfl rfl rfl rfl (by first | assumption | omega | (simp only [List.length_set]; omega)) rfl Uo ?_
            refine rw_fact (F := FactsG NPeer (updG x1.2.2.2.2 r1.who.toNat (⟨none, 0⟩ : SlV)) (h1.peers.set r1.who.toNat (⟨r1.life, 0, ([] : List Int)⟩ : Peer))) [FactsG NPeer x1.2.2.2.2 h1.peers, RdL EInt (⟨none, 0⟩ : SlV) ([] : List Int)] Sm (fun M w h => FactsG.upd NPeer (h _ (.head _)) (allF_sub Sm h)) ?_
            have hv1 : x1.2.2.1.val h1.peers.length = x1.2.2.1.val (h1.peers.set r1.who.toNat (⟨r1.life, 0, ([] : List Int)⟩ : Peer)).length := congrArg (SlV.val x1.2.2.1) List.length_set.symm
            try rw [hv1]
            refine rw_nil ?_
            (repeat refine cw_seq ?_); refine cw_region ?_
            refine Rp rfl rfl rfl rfl ?_
            refine Rp rfl rfl rfl rfl ?_
            refine rw_nil ?_
            (repeat refine cw_seq ?_); refine cw_cond (b := ((7 : Int) != 0)) rfl rfl (fun hc7 => ?_) (fun hc7 => ?_)
            · skip
              (repeat refine cw_seq ?_); refine cw_region ?_
              refine Rp rfl rfl rfl rfl ?_
              refine Rp rfl rfl rfl rfl ?_
              refine rw_stA .sq (.inl ⟨_, rfl⟩) (guard_none rfl) rfl rfl rfl rfl rfl rfl rfl rfl rfl Ub rfl ?_
              refine Rp rfl rfl rfl rfl ?_
              refine rw_nil ?_
              (repeat refine cw_seq ?_)
              refine cw_fact (F := RdL EStep ⟨none, 0⟩ ([] : List Step)) [] (.nil _) (fun M w _ => RdL.nil _ _ _ (by omega) M w) ?_
              refine cw_fact (F := RdL EPlace ⟨none, 0⟩ ([] : List Place)) [] (.nil _) (fun M w _ => RdL.nil _ _ _ (by omega) M w) ?_
              refine cw_fact (F := RdN NPeer ⟨none, 0⟩ ([] : List Peer)) [] (.nil _) (fun M w _ => RdN.nil _ M w) ?_
              have hr5 : (hub_next h1 r1) = ((⟨(⟨([] : List Step), ([] : List Place)⟩ : History), 0, ([] : List Peer)⟩ : Hub), 7) := by simp only [hub_next, hc1, hc2, hc3, hc5, hc6, cond_true, cond_false]
              refine cw_ret ?_
              rw [hr5]
              exact ⟨⟨(⟨none, 0⟩ : SlV), (⟨none, 0⟩ : SlV), (⟨none, 0⟩ : SlV)⟩, _, (.cons (.agg rfl rfl Mm rfl) (.cons (.tmp rfl) .nil)), rfl, Sm, .nil _, .nil _⟩
            · skip
              exact Bool.noConfusion (hc7.symm.trans (show ((7 : Int) != 0) = true by decide))
          · skip
            have hc6p := eq_of_bne_false hc6
            (repeat refine cw_seq ?_); refine cw_skip ?_
            (repeat refine cw_seq ?_); refine cw_region ?_
            refine Rp rfl rfl rfl rfl ?_
            refine rw_q rfl rfl rfl (q_ld1 rfl rfl (fun _ => rfl) rfl Mm rfl) ?_
            refine Rp rfl rfl rfl rfl ?_
            refine rw_q rfl rfl rfl (q_ld1 rfl rfl (fun _ => rfl) rfl Mm rfl) ?_
            refine Rp rfl rfl rfl rfl ?_
            refine rw_q rfl rfl rfl (q_ld1 rfl rfl (fun _ => rfl) rfl Mm rfl) ?_
            refine Rp rfl rfl rfl rfl ?_
            refine rw_qO NPeer.E (e := 144) (X := x1.2.2.1) (b := x1.2.2.2.1) (l := zipG x1.2.2.2.2 0 h1.peers) Mm .sq rfl rfl rfl (q_idxN NPeer x1.2.2.2.2 r1.who.toNat rfl rfl (fun _ => rfl) rfl (fun _ => rfl) rfl rfl rfl (.head _) rfl (fun _ => by omega) (fun _ => by first | assumption | omega | (simp only [List.length_set]; omega))) ?_
            refine rw_fact (F := RdL EInt ⟨none, 0⟩ ([] : List Int)) [] (.nil _) (fun M w _ => RdL.nil _ _ _ (by omega) M w) ?_
            refine rw_stON NPeer x1.2.2.2.2 h1.peers r1.who.toNat 0 (⟨none, 0⟩ : SlV) (⟨r1.life, 0, ([] : List Int)⟩ : Peer) (e := 144) (X := x1.2.2.1) (b := x1.2.2.2.1) .sq (.inl ⟨_, rfl⟩) (guard_none rfl) rfl rfl rfl rfl rfl rfl rfl rfl rfl rfl rfl (by first | assumption | omega | (simp only [List.length_set]; omega)) rfl Uo ?_
            refine rw_fact (F := FactsG NPeer (updG x1.2.2.2.2 r1.who.toNat (⟨none, 0⟩ : SlV)) (h1.peers.set r1.who.toNat (⟨r1.life, 0, ([] : List Int)⟩ : Peer))) [FactsG NPeer x1.2.2.2.2 h1.peers, RdL EInt (⟨none, 0⟩ : SlV) ([] : List Int)] Sm (fun M w h => FactsG.upd NPeer (h _ (.head _)) (allF_sub Sm h)) ?_
            have hv2 : x1.2.2.1.val h1.peers.length = x1.2.2.1.val (h1.peers.set r1.who.toNat (⟨r1.life, 0, ([] : List Int)⟩ : Peer)).length := congrArg (SlV.val x1.2.2.1) List.length_set.symm
            try rw [hv2]
            refine rw_nil ?_
            (repeat refine cw_seq ?_); refine cw_region ?_
            refine Rp rfl rfl rfl rfl ?_
            refine Rp rfl rfl rfl rfl ?_
            refine rw_nil ?_
            (repeat refine cw_seq ?_); refine cw_cond (b := ((0 : Int) != 0)) rfl rfl (fun hc8 => ?_) (fun hc8 => ?_)
            · skip
              exact Bool.noConfusion (hc8.symm.trans (show ((0 : Int) != 0) = false by decide))
            · skip
              (repeat refine cw_seq ?_); refine cw_skip ?_
              (repeat refine cw_seq ?_); refine cw_region ?_
              refine rw_q rfl rfl rfl (q_ldA rfl rfl (fun _ => rfl) rfl Mm rfl) ?_
              refine rw_stA .sq (.inl ⟨_, rfl⟩) (guard_none rfl) rfl rfl rfl rfl rfl rfl rfl rfl rfl Ub rfl ?_
              refine Rp rfl rfl rfl rfl ?_
              refine rw_nil ?_
              (repeat refine cw_seq ?_)
              refine cw_le (le_freezeL NPeer.E 144 x1.2.2.1 x1.2.2.2.1 (zipG (updG x1.2.2.2.2 r1.who.toNat (⟨none, 0⟩ : SlV)) 0 (h1.peers.set r1.who.toNat (⟨r1.life, 0, ([] : List Int)⟩ : Peer))) Uo) ?_
              refine cw_fact (F := RdN NPeer x1.2.2.1 (h1.peers.set r1.who.toNat (⟨r1.life, 0, ([] : List Int)⟩ : Peer))) [RdG NPeer x1.2.2.1 (updG x1.2.2.2.2 r1.who.toNat (⟨none, 0⟩ : SlV)) (h1.peers.set r1.who.toNat (⟨r1.life, 0, ([] : List Int)⟩ : Peer)), FactsG NPeer (updG x1.2.2.2.2 r1.who.toNat (⟨none, 0⟩ : SlV)) (h1.peers.set r1.who.toNat (⟨r1.life, 0, ([] : List Int)⟩ : Peer))] Sm (fun M w h => RdN.ofG NPeer (h _ (.head _)) (h _ (.tail _ (.head _)))) ?_
              have hr6 : (hub_next h1 r1) = ((⟨h1.h, (h1.version + 1), (h1.peers.set r1.who.toNat (⟨r1.life, 0, ([] : List Int)⟩ : Peer))⟩ : Hub), 0) := by simp only [hub_next, hc1, hc2, hc3, hc5, hc6, cond_true, cond_false]
              refine cw_ret ?_
              rw [hr6]
              exact ⟨⟨x1.1, x1.2.1, x1.2.2.1⟩, _, (.cons (.agg rfl rfl Mm rfl) (.cons (.tmp rfl) .nil)), rfl, Sm, .nil _, .nil _⟩
        · skip
          have hc5p := ne_of_beq_false hc5
          (repeat refine cw_seq ?_); refine cw_region ?_
          refine Rp rfl rfl rfl rfl ?_
          refine Rp rfl rfl rfl rfl ?_
          refine rw_nil ?_
          (repeat refine cw_seq ?_); refine cw_cond (b := (r1.kind == 3)) rfl rfl (fun hc9 => ?_) (fun hc9 => ?_)
          · skip
            have hc9p := eq_of_beq hc9
            (repeat refine cw_seq ?_); refine cw_region ?_
            refine Rp rfl rfl rfl rfl ?_
            refine rw_q rfl rfl rfl (q_ld1 rfl rfl (fun _ => rfl) rfl Mm rfl) ?_
            refine Rp rfl rfl rfl rfl ?_
            refine rw_q rfl rfl rfl (q_ld1 rfl rfl (fun _ => rfl) rfl Mm rfl) ?_
            refine rw_qO NPeer.E (e := 144) (X := x1.2.2.1) (b := x1.2.2.2.1) (l := zipG x1.2.2.2.2 0 h1.peers) Mm .sq rfl rfl rfl (q_idxN NPeer x1.2.2.2.2 r1.who.toNat rfl rfl (fun _ => rfl) rfl (fun _ => rfl) rfl rfl rfl (.head _) rfl (fun _ => by omega) (fun _ => by first | assumption | omega | (simp only [List.length_set]; omega))) ?_
            refine rw_q rfl rfl rfl (q_fae rfl rfl (fun _ => rfl) rfl rfl) ?_
            refine rw_qO NPeer.E (e := 144) (X := x1.2.2.1) (b := x1.2.2.2.1) (l := zipG x1.2.2.2.2 0 h1.peers) Mm .sq rfl rfl rfl (q_le1N NPeer x1.2.2.2.2 (v := .int .i64 ((gt h1.peers r1.who.toNat).life)) rfl rfl (fun _ => rfl) rfl rfl (.head _) (fun _ => by first | assumption | omega | (simp only [List.length_set]; omega)) rfl) ?_
            refine Rp rfl rfl rfl rfl ?_
            refine rw_nil ?_
            (repeat refine cw_seq ?_); refine cw_cond (b := (((gt h1.peers r1.who.toNat).life) == 0)) rfl rfl (fun hc10 => ?_) (fun hc10 => ?_)
            · skip
              have hc10p := eq_of_beq hc10
              (repeat refine cw_seq ?_); refine cw_region ?_
              refine Rp rfl rfl rfl rfl ?_
              refine rw_nil ?_
              (repeat refine cw_seq ?_); refine cw_regionA (fun j => match j with | 9 => some x1.2.2.2.1.toList | _ => some []) ?_
              refine ra_q (.an (i := 0) (js := [2, 3, 4, 5, 6]) rfl Kr Kr Kr Kr) (SplitB.all _) (by simp) rfl rfl rfl (q_pev rfl (fun _ => rfl)) ?_
              refine ra_q (.an (i := 1) (js := [2, 3, 4, 5, 6]) rfl Kr Kr Kr Kr) (SplitB.all _) (by simp) rfl rfl rfl (q_ld1 rfl rfl (fun _ => rfl) rfl Mm rfl) ?_
              refine ra_q (.an (i := 2) (js := [4, 5, 6]) rfl Kr Kr Kr Kr) (SplitB.all _) (by simp) rfl rfl rfl (q_pev rfl (fun _ => rfl)) ?_
              refine ra_q (.an (i := 3) (js := [4, 5, 6]) rfl Kr Kr Kr Kr) (SplitB.all _) (by simp) rfl rfl rfl (q_ld1 rfl rfl (fun _ => rfl) rfl Mm rfl) ?_
              refine ra_q (.ab (i := 4) (js := []) [5, 6, 7, 8, 9] rfl Kr Kr Kr Kr Kr) (SplitB.all _) (by simp) rfl rfl rfl (q_pev rfl (fun _ => rfl)) ?_
              refine ra_q (.an (i := 5) (js := []) rfl Kr Kr Kr Kr) (SplitB.all _) (by simp) rfl rfl rfl (q_ld1 rfl rfl (fun _ => rfl) rfl Mm rfl) ?_
              refine ra_one 6 Kr ?_
              refine rw_callG (slices_Clone_Int_spec y4 r1.roots) (.an rfl rfl) (.inr (by simp [Lent.ids])) (guard_none rfl) rfl rfl rfl Kr rfl rfl Sm (.nil _) (.nil _) ?_
              intro x3
              refine rw_qO NPeer.E (e := 144) (X := x1.2.2.1) (b := x1.2.2.2.1) (l := zipG x1.2.2.2.2 0 h1.peers) Mm (.ab (i := 7) (js := []) [8, 9] rfl Kr Kr Kr Kr Kr) rfl rfl rfl (q_idxN NPeer x1.2.2.2.2 r1.who.toNat rfl rfl (fun _ => rfl) rfl (fun _ => rfl) rfl rfl rfl (.head _) rfl (fun _ => by omega) (fun _ => by first | assumption | omega | (simp only [List.length_set]; omega))) ?_
              refine ra_q (.an (i := 8) (js := []) rfl Kr Kr Kr Kr) (SplitB.all _) (by simp) rfl rfl rfl (q_fae rfl rfl (fun _ => rfl) rfl rfl) ?_
              refine ra_one 9 Kr ?_
              refine rw_le (le_freezeL EInt 3 x3.1 x3.2 r1.roots Uo) ?_
              refine rw_stON NPeer x1.2.2.2.2 h1.peers r1.who.toNat 2 x3.1 (⟨(gt h1.peers r1.who.toNat).life, (gt h1.peers r1.who.toNat).seq, r1.roots⟩ : Peer) (e := 144) (X := x1.2.2.1) (b := x1.2.2.2.1) (.an rfl rfl) (.inr (fun g h => by simp [h])) (guard_none rfl) rfl rfl rfl rfl rfl rfl rfl rfl rfl rfl rfl (by first | assumption | omega | (simp only [List.length_set]; omega)) rfl Uo ?_
              refine rw_fact (F := FactsG NPeer (updG x1.2.2.2.2 r1.who.toNat x3.1) (h1.peers.set r1.who.toNat (⟨(gt h1.peers r1.who.toNat).life, (gt h1.peers r1.who.toNat).seq, r1.roots⟩ : Peer))) [FactsG NPeer x1.2.2.2.2 h1.peers, RdL EInt x3.1 r1.roots] Sm (fun M w h => FactsG.upd NPeer (h _ (.head _)) (allF_sub Sm h)) ?_
              have hv3 : x1.2.2.1.val h1.peers.length = x1.2.2.1.val (h1.peers.set r1.who.toNat (⟨(gt h1.peers r1.who.toNat).life, (gt h1.peers r1.who.toNat).seq, r1.roots⟩ : Peer)).length := congrArg (SlV.val x1.2.2.1) List.length_set.symm
              try rw [hv3]
              refine ra_nil Kr ?_
              (repeat refine cw_seq ?_); refine cw_region ?_
              refine Rp rfl rfl rfl rfl ?_
              refine Rp rfl rfl rfl rfl ?_
              refine rw_nil ?_
              (repeat refine cw_seq ?_); refine cw_cond (b := ((5 : Int) != 0)) rfl rfl (fun hc11 => ?_) (fun hc11 => ?_)
              · skip
                (repeat refine cw_seq ?_); refine cw_region ?_
                refine Rp rfl rfl rfl rfl ?_
                refine Rp rfl rfl rfl rfl ?_
                refine rw_stA .sq (.inl ⟨_, rfl⟩) (guard_none rfl) rfl rfl rfl rfl rfl rfl rfl rfl rfl Ub rfl ?_
                refine Rp rfl rfl rfl rfl ?_
                refine rw_nil ?_
                (repeat refine cw_seq ?_)
                refine cw_fact (F := RdL EStep ⟨none, 0⟩ ([] : List Step)) [] (.nil _) (fun M w _ => RdL.nil _ _ _ (by omega) M w) ?_
                refine cw_fact (F := RdL EPlace ⟨none, 0⟩ ([] : List Place)) [] (.nil _) (fun M w _ => RdL.nil _ _ _ (by omega) M w) ?_
                refine cw_fact (F := RdN NPeer ⟨none, 0⟩ ([] : List Peer)) [] (.nil _) (fun M w _ => RdN.nil _ M w) ?_
                have hr7 : (hub_next h1 r1) = ((⟨(⟨([] : List Step), ([] : List Place)⟩ : History), 0, ([] : List Peer)⟩ : Hub), 5) := by simp only [hub_next, hc1, hc2, hc3, hc5, hc9, hc10, cond_true, cond_false]
                refine cw_ret ?_
                rw [hr7]
                exact ⟨⟨(⟨none, 0⟩ : SlV), (⟨none, 0⟩ : SlV), (⟨none, 0⟩ : SlV)⟩, _, (.cons (.agg rfl rfl Mm rfl) (.cons (.tmp rfl) .nil)), rfl, Sm, .nil _, .nil _⟩
              · skip
                exact Bool.noConfusion (hc11.symm.trans (show ((5 : Int) != 0) = true by decide))
            · skip
              have hc10p := ne_of_beq_false hc10
              (repeat refine cw_seq ?_); refine cw_skip ?_
              (repeat refine cw_seq ?_); refine cw_regionA (fun j => match j with | 9 => some x1.2.2.2.1.toList | _ => some []) ?_
              refine ra_q (.an (i := 0) (js := [2, 3, 4, 5, 6]) rfl Kr Kr Kr Kr) (SplitB.all _) (by simp) rfl rfl rfl (q_pev rfl (fun _ => rfl)) ?_
              refine ra_q (.an (i := 1) (js := [2, 3, 4, 5, 6]) rfl Kr Kr Kr Kr) (SplitB.all _) (by simp) rfl rfl rfl (q_ld1 rfl rfl (fun _ => rfl) rfl Mm rfl) ?_
              refine ra_q (.an (i := 2) (js := [4, 5, 6]) rfl Kr Kr Kr Kr) (SplitB.all _) (by simp) rfl rfl rfl (q_pev rfl (fun _ => rfl)) ?_
              refine ra_q (.an (i := 3) (js := [4, 5, 6]) rfl Kr Kr Kr Kr) (SplitB.all _) (by simp) rfl rfl rfl (q_ld1 rfl rfl (fun _ => rfl) rfl Mm rfl) ?_
              refine ra_q (.ab (i := 4) (js := []) [5, 6, 7, 8, 9] rfl Kr Kr Kr Kr Kr) (SplitB.all _) (by simp) rfl rfl rfl (q_pev rfl (fun _ => rfl)) ?_
              refine ra_q (.an (i := 5) (js := []) rfl Kr Kr Kr Kr) (SplitB.all _) (by simp) rfl rfl rfl (q_ld1 rfl rfl (fun _ => rfl) rfl Mm rfl) ?_
              refine ra_one 6 Kr ?_
              refine rw_callG (slices_Clone_Int_spec y4 r1.roots) (.an rfl rfl) (.inr (by simp [Lent.ids])) (guard_none rfl) rfl rfl rfl Kr rfl rfl Sm (.nil _) (.nil _) ?_
              intro x4
              refine rw_qO NPeer.E (e := 144) (X := x1.2.2.1) (b := x1.2.2.2.1) (l := zipG x1.2.2.2.2 0 h1.peers) Mm (.ab (i := 7) (js := []) [8, 9] rfl Kr Kr Kr Kr Kr) rfl rfl rfl (q_idxN NPeer x1.2.2.2.2 r1.who.toNat rfl rfl (fun _ => rfl) rfl (fun _ => rfl) rfl rfl rfl (.head _) rfl (fun _ => by omega) (fun _ => by first | assumption | omega | (simp only [List.length_set]; omega))) ?_
              refine ra_q (.an (i := 8) (js := []) rfl Kr Kr Kr Kr) (SplitB.all _) (by simp) rfl rfl rfl (q_fae rfl rfl (fun _ => rfl) rfl rfl) ?_
              refine ra_one 9 Kr ?_
              refine rw_le (le_freezeL EInt 3 x4.1 x4.2 r1.roots Uo) ?_
              refine rw_stON NPeer x1.2.2.2.2 h1.peers r1.who.toNat 2 x4.1 (⟨(gt h1.peers r1.who.toNat).life, (gt h1.peers r1.who.toNat).seq, r1.roots⟩ : Peer) (e := 144) (X := x1.2.2.1) (b := x1.2.2.2.1) (.an rfl rfl) (.inr (fun g h => by simp [h])) (guard_none rfl) rfl rfl rfl rfl rfl rfl rfl rfl rfl rfl rfl (by first | assumption | omega | (simp only [List.length_set]; omega)) rfl Uo ?_
              refine rw_fact (F := FactsG NPeer (updG x1.2.2.2.2 r1.who.toNat x4.1) (h1.peers.set r1.who.toNat (⟨(gt h1.peers r1.who.toNat).life, (gt h1.peers r1.who.toNat).seq, r1.roots⟩ : Peer))) [FactsG NPeer x1.2.2.2.2 h1.peers, RdL EInt x4.1 r1.roots] Sm (fun M w h => FactsG.upd NPeer (h _ (.head _)) (allF_sub Sm h)) ?_
              have hv4 : x1.2.2.1.val h1.peers.length = x1.2.2.1.val (h1.peers.set r1.who.toNat (⟨(gt h1.peers r1.who.toNat).life, (gt h1.peers r1.who.toNat).seq, r1.roots⟩ : Peer)).length := congrArg (SlV.val x1.2.2.1) List.length_set.symm
              try rw [hv4]
              refine ra_nil Kr ?_
              (repeat refine cw_seq ?_); refine cw_region ?_
              refine Rp rfl rfl rfl rfl ?_
              refine Rp rfl rfl rfl rfl ?_
              refine rw_nil ?_
              (repeat refine cw_seq ?_); refine cw_cond (b := ((0 : Int) != 0)) rfl rfl (fun hc12 => ?_) (fun hc12 => ?_)
              · skip
                exact Bool.noConfusion (hc12.symm.trans (show ((0 : Int) != 0) = false by decide))
              · skip
                (repeat refine cw_seq ?_); refine cw_skip ?_
                (repeat refine cw_seq ?_); refine cw_region ?_
                refine rw_q rfl rfl rfl (q_ldA rfl rfl (fun _ => rfl) rfl Mm rfl) ?_
                refine rw_stA .sq (.inl ⟨_, rfl⟩) (guard_none rfl) rfl rfl rfl rfl rfl rfl rfl rfl rfl Ub rfl ?_
                refine Rp rfl rfl rfl rfl ?_
                refine rw_nil ?_
                (repeat refine cw_seq ?_)
                refine cw_le (le_freezeL NPeer.E 144 x1.2.2.1 x1.2.2.2.1 (zipG (updG x1.2.2.2.2 r1.who.toNat x4.1) 0 (h1.peers.set r1.who.toNat (⟨(gt h1.peers r1.who.toNat).life, (gt h1.peers r1.who.toNat).seq, r1.roots⟩ : Peer))) Uo) ?_
                refine cw_fact (F := RdN NPeer x1.2.2.1 (h1.peers.set r1.who.toNat (⟨(gt h1.peers r1.who.toNat).life, (gt h1.peers r1.who.toNat).seq, r1.roots⟩ : Peer))) [RdG NPeer x1.2.2.1 (updG x1.2.2.2.2 r1.who.toNat x4.1) (h1.peers.set r1.who.toNat (⟨(gt h1.peers r1.who.toNat).life, (gt h1.peers r1.who.toNat).seq, r1.roots⟩ : Peer)), FactsG NPeer (updG x1.2.2.2.2 r1.who.toNat x4.1) (h1.peers.set r1.who.toNat (⟨(gt h1.peers r1.who.toNat).life, (gt h1.peers r1.who.toNat).seq, r1.roots⟩ : Peer))] Sm (fun M w h => RdN.ofG NPeer (h _ (.head _)) (h _ (.tail _ (.head _)))) ?_
                have hr8 : (hub_next h1 r1) = ((⟨h1.h, (h1.version + 1), (h1.peers.set r1.who.toNat (⟨(gt h1.peers r1.who.toNat).life, (gt h1.peers r1.who.toNat).seq, r1.roots⟩ : Peer))⟩ : Hub), 0) := by simp only [hub_next, hc1, hc2, hc3, hc5, hc9, hc10, cond_true, cond_false]
                refine cw_ret ?_
                rw [hr8]
                exact ⟨⟨x1.1, x1.2.1, x1.2.2.1⟩, _, (.cons (.agg rfl rfl Mm rfl) (.cons (.tmp rfl) .nil)), rfl, Sm, .nil _, .nil _⟩
          · skip
            have hc9p := ne_of_beq_false hc9
            (repeat refine cw_seq ?_); refine cw_skip ?_
            (repeat refine cw_seq ?_); refine cw_region ?_
            refine Rp rfl rfl rfl rfl ?_
            refine Rp rfl rfl rfl rfl ?_
            refine rw_nil ?_
            (repeat refine cw_seq ?_); refine cw_cond (b := ((0 : Int) != 0)) rfl rfl (fun hc13 => ?_) (fun hc13 => ?_)
            · skip
              exact Bool.noConfusion (hc13.symm.trans (show ((0 : Int) != 0) = false by decide))
            · skip
              (repeat refine cw_seq ?_); refine cw_skip ?_
              (repeat refine cw_seq ?_); refine cw_region ?_
              refine rw_q rfl rfl rfl (q_ldA rfl rfl (fun _ => rfl) rfl Mm rfl) ?_
              refine rw_stA .sq (.inl ⟨_, rfl⟩) (guard_none rfl) rfl rfl rfl rfl rfl rfl rfl rfl rfl Ub rfl ?_
              refine Rp rfl rfl rfl rfl ?_
              refine rw_nil ?_
              (repeat refine cw_seq ?_)
              refine cw_le (le_freezeL NPeer.E 144 x1.2.2.1 x1.2.2.2.1 (zipG x1.2.2.2.2 0 h1.peers) Uo) ?_
              refine cw_fact (F := RdN NPeer x1.2.2.1 h1.peers) [RdG NPeer x1.2.2.1 x1.2.2.2.2 h1.peers, FactsG NPeer x1.2.2.2.2 h1.peers] Sm (fun M w h => RdN.ofG NPeer (h _ (.head _)) (h _ (.tail _ (.head _)))) ?_
              have hr9 : (hub_next h1 r1) = ((⟨h1.h, (h1.version + 1), h1.peers⟩ : Hub), 0) := by simp only [hub_next, hc1, hc2, hc3, hc5, hc9, cond_true, cond_false]
              refine cw_ret ?_
              rw [hr9]
              exact ⟨⟨x1.1, x1.2.1, x1.2.2.1⟩, _, (.cons (.agg rfl rfl Mm rfl) (.cons (.tmp rfl) .nil)), rfl, Sm, .nil _, .nil _⟩

def hub_Next (h1 : Hub) (r1 : Rec) : Hub × Int :=
  (bif ((hub_Check h1) != 0) then ((⟨(⟨([] : List Step), ([] : List Place)⟩ : History), 0, ([] : List Peer)⟩ : Hub), (hub_Check h1)) else (((hub_next h1 r1).1), (hub_next h1 r1).2))
theorem hub_Next_spec (y1 : SlV) (y2 : SlV) (y3 : SlV) (h1 : Hub) (y4 : SlV) (r1 : Rec) : Does Try.prog 110 [.agg ⟨[y1.val h1.h.l.length, y2.val h1.h.t.length, .int .i64 h1.version, y3.val h1.peers.length]⟩, .agg ⟨[.int .i64 r1.kind, .int .i64 r1.who, .int .i64 r1.life, y4.val r1.roots.length, .int .i64 r1.o.time, .int .i64 r1.o.who, .int .i64 r1.o.node, .int .i64 r1.o.parent, .int .i64 r1.o.name, .int .i64 r1.o.life, .int .i64 r1.o.seq]⟩] [RdL EStep y1 h1.h.l, RdL EPlace y2 h1.h.t, RdN NPeer y3 h1.peers, RdL EInt y4 r1.roots] (fun (X : SlV × SlV × SlV) => .tuple #[.agg ⟨[X.1.val ((((hub_Next h1 r1).1).h).l).length, X.2.1.val ((((hub_Next h1 r1).1).h).t).length, .int .i64 (((hub_Next h1 r1).1).version), X.2.2.val (((hub_Next h1 r1).1).peers).length]⟩, .int .i64 ((hub_Next h1 r1).2)]) (fun (X : SlV × SlV × SlV) => [RdL EStep X.1 ((((hub_Next h1 r1).1).h).l), RdL EPlace X.2.1 ((((hub_Next h1 r1).1).h).t), RdN NPeer X.2.2 (((hub_Next h1 r1).1).peers)]) := by
  refine does_of tab_ok Try.func110 rfl Try.ntmps110 Try.results110 rfl inferInstance (fun _ => inferInstance) fun C => ?_
  refine cw_pure (φ := h1.h.l.length * 88 ≤ 140737488355328) [RdL EStep y1 h1.h.l] Sm (fun M w h => (allF1 h).len) fun hlen1 => ?_
  refine cw_pure (φ := h1.h.t.length * 24 ≤ 140737488355328) [RdL EPlace y2 h1.h.t] Sm (fun M w h => (allF1 h).len) fun hlen2 => ?_
  refine cw_pure (φ := h1.peers.length * 40 ≤ 140737488355328) [RdN NPeer y3 h1.peers] Sm (fun M w h => (allF1 h).len) fun hlen3 => ?_
  refine cw_pure (φ := r1.roots.length * 8 ≤ 140737488355328) [RdL EInt y4 r1.roots] Sm (fun M w h => (allF1 h).len) fun hlen4 => ?_
  (repeat refine cw_seq ?_); refine cw_region ?_
  refine rw_box_agg .sq (guard_none rfl) rfl rfl rfl rfl rfl fun g1 => ?_
  refine rw_box_agg .sq (guard_none rfl) rfl rfl rfl rfl rfl fun g2 => ?_
  refine rw_alloc .sq (guard_none rfl) rfl rfl rfl rfl fun g3 => ?_
  refine Rp rfl rfl rfl rfl ?_
  refine rw_nil ?_
  (repeat refine cw_seq ?_); refine cw_region ?_
  refine rw_q rfl rfl rfl (q_ldA rfl rfl (fun _ => rfl) rfl Mm rfl) ?_
  refine rw_call (hub_Check_spec y1 y2 y3 h1) .sq (guard_none rfl) rfl rfl rfl Kr rfl rfl Sm ?_
  intro _
  refine Rp rfl rfl rfl rfl ?_
  refine rw_nil ?_
  (repeat refine cw_seq ?_); refine cw_region ?_
  refine Rp rfl rfl rfl rfl ?_
  refine Rp rfl rfl rfl rfl ?_
  refine rw_nil ?_
  (repeat refine cw_seq ?_); refine cw_cond (b := ((hub_Check h1) != 0)) rfl rfl (fun hc1 => ?_) (fun hc1 => ?_)
  · skip
    have hc1p := bne_iff_ne.1 hc1
    (repeat refine cw_seq ?_); refine cw_region ?_
    refine Rp rfl rfl rfl rfl ?_
    refine Rp rfl rfl rfl rfl ?_
    refine rw_stA .sq (.inl ⟨_, rfl⟩) (guard_none rfl) rfl rfl rfl rfl rfl rfl rfl rfl rfl Ub rfl ?_
    refine Rp rfl rfl rfl rfl ?_
    refine rw_nil ?_
    (repeat refine cw_seq ?_)
    refine cw_fact (F := RdL EStep ⟨none, 0⟩ ([] : List Step)) [] (.nil _) (fun M w _ => RdL.nil _ _ _ (by omega) M w) ?_
    refine cw_fact (F := RdL EPlace ⟨none, 0⟩ ([] : List Place)) [] (.nil _) (fun M w _ => RdL.nil _ _ _ (by omega) M w) ?_
    refine cw_fact (F := RdN NPeer ⟨none, 0⟩ ([] : List Peer)) [] (.nil _) (fun M w _ => RdN.nil _ M w) ?_
    have hr1 : (hub_Next h1 r1) = ((⟨(⟨([] : List Step), ([] : List Place)⟩ : History), 0, ([] : List Peer)⟩ : Hub), (hub_Check h1)) := by simp only [hub_Next, hc1, cond_true, cond_false]
    refine cw_ret ?_
    rw [hr1]
    exact ⟨⟨(⟨none, 0⟩ : SlV), (⟨none, 0⟩ : SlV), (⟨none, 0⟩ : SlV)⟩, _, (.cons (.agg rfl rfl Mm rfl) (.cons (.tmp rfl) .nil)), rfl, Sm, .nil _, .nil _⟩
  · skip
    have hc1p := eq_of_bne_false hc1
    (repeat refine cw_seq ?_); refine cw_skip ?_
    (repeat refine cw_seq ?_); refine cw_region ?_
    refine rw_q rfl rfl rfl (q_ldA rfl rfl (fun _ => rfl) rfl Mm rfl) ?_
    refine rw_q rfl rfl rfl (q_ldA rfl rfl (fun _ => rfl) rfl Mm rfl) ?_
    refine rw_call (hub_next_spec y1 y2 y3 h1 y4 r1 (eq_of_bne_false (by assumption))) .sq (guard_none rfl) rfl rfl rfl Kr rfl rfl Sm ?_
    intro x1
    refine rw_pure (φ := ((((hub_next h1 r1).1).h).l).length * 88 ≤ 140737488355328) [RdL EStep x1.1 ((((hub_next h1 r1).1).h).l)] Sm (fun M w h => (allF1 h).len) fun hlen5 => ?_
    refine rw_pure (φ := ((((hub_next h1 r1).1).h).t).length * 24 ≤ 140737488355328) [RdL EPlace x1.2.1 ((((hub_next h1 r1).1).h).t)] Sm (fun M w h => (allF1 h).len) fun hlen6 => ?_
    refine rw_pure (φ := (((hub_next h1 r1).1).peers).length * 40 ≤ 140737488355328) [RdN NPeer x1.2.2 (((hub_next h1 r1).1).peers)] Sm (fun M w h => (allF1 h).len) fun hlen7 => ?_
    refine Rp rfl rfl rfl rfl ?_
    refine Rp rfl rfl rfl rfl ?_
    refine rw_stA .sq (.inl ⟨_, rfl⟩) (guard_none rfl) rfl rfl rfl rfl rfl rfl rfl rfl rfl Ub rfl ?_
    refine Rp rfl rfl rfl rfl ?_
    refine rw_nil ?_
    (repeat refine cw_seq ?_)
    have hr2 : (hub_Next h1 r1) = (((hub_next h1 r1).1), (hub_next h1 r1).2) := by simp only [hub_Next, hc1, cond_true, cond_false]
    refine cw_ret ?_
    rw [hr2]
    exact ⟨⟨x1.1, x1.2.1, x1.2.2⟩, _, (.cons (.agg rfl rfl Mm rfl) (.cons (.tmp rfl) .nil)), rfl, Sm, .nil _, .nil _⟩
end Go.Proofs.Ytchdacbjiomplaa
