/- Part of this claim. No condition. -/
import Derived.Test.YtchdacbjiomplaaW32
import Derived.Test.YtchdacbjiomplaaLSeen
set_option linter.unusedVariables false
set_option linter.unusedSimpArgs false
namespace Go.Proofs.Ytchdacbjiomplaa
open Go Go.Proofs.Ytchdacbjiomplaa.Fw Go.Proofs
/-! ### A client, plainly -/
theorem chk_bif {c : Bool} {a b : Int} (ha : a ≠ 0) : ((bif c then a else b) = 0 ↔ c = false ∧ b = 0) := by
  cases c <;> simp [ha]
structure PendAt (c : Client) (me : Int) (i : Nat) : Prop where
  ok : chkO (gt c.pending i) = 0
  who : (gt c.pending i).who = me
  life : (gt c.pending i).life = c.life
  seq : (gt c.pending i).seq = c.seq - (c.pending.length : Int) + 1 + (i : Int)
  time : (gt c.pending i).time ≤ c.time
  up : 0 < i → (gt c.pending (i - 1)).time < (gt c.pending i).time
theorem Check_L0_iff (c : Client) (me : Int) : ∀ (r : List Op) (k : Nat), r = c.pending.drop k → (client_Check_L0 c me r k = 0 ↔ ∀ i, k ≤ i → i < c.pending.length → PendAt c me i)
  | [], k, h => by
    have : c.pending.length ≤ k := by have := congrArg List.length h; simp at this; omega
    exact ⟨fun _ i h1 h2 => by omega, fun _ => rfl⟩
  | p :: r, k, h => by
    have hk : k < c.pending.length := by
      rcases Nat.lt_or_ge k c.pending.length with h' | h'
      · exact h'
      · rw [List.drop_of_length_le h'] at h; cases h
    rw [drop_gt hk] at h
    obtain ⟨rfl, h'⟩ := List.cons.inj h
    rw [client_Check_L0, move_Check_eq]
    have key : PendAt c me k ↔ (chkO (gt c.pending k) = 0 ∧ ((((((gt c.pending k).who != me) || ((gt c.pending k).life != c.life)) || ((gt c.pending k).seq != (((c.seq - (c.pending.length : Int)) + 1) + (k : Int)))) || decide ((gt c.pending k).time > c.time)) || (decide ((k : Int) > 0) && decide ((gt c.pending k).time ≤ (gt c.pending (k - 1)).time))) = false) := by
      simp only [Bool.or_eq_false_iff, bne_eq_false_iff_eq, decide_eq_false_iff_not, Bool.and_eq_false_iff]
      constructor
      · intro ⟨h1, h2, h3, h4, h5, h6⟩
        refine ⟨h1, ⟨⟨⟨h2, h3⟩, h4⟩, by omega⟩, ?_⟩
        rcases Nat.eq_zero_or_pos k with h7 | h7
        · left; omega
        · right; have := h6 h7; omega
      · intro ⟨h1, ⟨⟨⟨h2, h3⟩, h4⟩, h5⟩, h6⟩
        refine ⟨h1, h2, h3, h4, by omega, fun h7 => ?_⟩
        rcases h6 with h6 | h6
        · omega
        · omega
    cases h1 : (chkO (gt c.pending k) != 0) with
    | true =>
      rw [cond_true]
      refine ⟨fun h2 => (by rw [h2] at h1; cases h1), fun h2 => ?_⟩
      have := (h2 k (Nat.le_refl _) hk).ok
      rw [this] at h1; cases h1
    | false =>
      rw [cond_false, chk_bif (by decide), Check_L0_iff c me r (k + 1) h']
      constructor
      · intro ⟨h2, h3⟩ i hi hl
        by_cases hik : i = k
        · rw [hik]; exact key.2 ⟨eq_of_bne_false h1, h2⟩
        · exact h3 i (by omega) hl
      · intro h2
        exact ⟨(key.1 (h2 k (Nat.le_refl _) hk)).2, fun i hi hl => h2 i (by omega) hl⟩
structure IsCli (c : Client) (me : Int) : Prop where
  num : 0 ≤ me ∧ me < 3
  rng : 0 ≤ c.life ∧ c.life ≤ 50 ∧ 0 ≤ c.time ∧ c.time ≤ 10000 ∧ 0 ≤ c.seq ∧ c.seq ≤ 30 ∧ 0 ≤ c.version ∧ c.version ≤ 60
  few : c.pending.length ≤ 8
  view : IsView c.v
  new : c.life = 0 → c.time = 0 ∧ c.seq = 0 ∧ c.version = 0
  vers : c.version = 0 → c.v.roots = []
  pseq : (c.pending.length : Int) ≤ c.seq
  pend : ∀ i, i < c.pending.length → PendAt c me i
theorem client_Check_iff (c : Client) (me : Int) : client_Check c me = 0 ↔ IsCli c me := by
  constructor
  · intro h
    obtain ⟨h1, h2, h3, h4, ⟨h5, h6, h7⟩, h8⟩ := client_Check_ok h
    exact ⟨h1, h2, h3, (view_Check_iff _).1 h4, h5, h6, h7, fun i hi => (Check_L0_iff c me c.pending 0 rfl).1 h8 i (Nat.zero_le _) hi⟩
  · intro h
    obtain ⟨m1, m2⟩ := h.num
    obtain ⟨r1, r2, r3, r4, r5, r6, r7, r8⟩ := h.rng
    have h3 := h.few
    have h7 := h.pseq
    unfold client_Check
    rw [chk_bif (by decide)]
    refine ⟨by simp only [Bool.or_eq_false_iff, decide_eq_false_iff_not]; omega, ?_⟩
    rw [chk_bif (by decide)]
    refine ⟨by simp only [Bool.or_eq_false_iff, decide_eq_false_iff_not]; omega, ?_⟩
    rw [chk_bif (by decide)]
    refine ⟨by simp only [decide_eq_false_iff_not]; omega, ?_⟩
    rw [(view_Check_iff _).2 h.view, bne_self_eq_false, cond_false, chk_bif (by decide)]
    refine ⟨?_, (Check_L0_iff c me c.pending 0 rfl).2 fun i _ hi => h.pend i hi⟩
    simp only [Bool.or_eq_false_iff, decide_eq_false_iff_not, Bool.and_eq_false_iff, beq_eq_false_iff_ne, bne_eq_false_iff_eq]
    refine ⟨⟨?_, ?_⟩, by omega⟩
    · by_cases hl : c.life = 0
      · right; have := h.new hl; omega
      · exact .inl hl
    · by_cases hv : c.version = 0
      · right; rw [h.vers hv]; simp
      · exact .inl hv
theorem client_Same_iff (a b : Client) : client_Same a b = true ↔ a = b := by
  obtain ⟨a1, a2, a3, a4, a5, a6⟩ := a
  obtain ⟨b1, b2, b3, b4, b5, b6⟩ := b
  simp only [client_Same, Bool.and_eq_true, beq_iff_eq, decide_eq_true_eq, Same_iff, Client.mk.injEq]
  constructor
  · rintro ⟨⟨⟨⟨⟨rfl, rfl⟩, rfl⟩, rfl⟩, rfl⟩, rfl⟩; simp
  · rintro ⟨rfl, rfl, rfl, rfl, rfl, rfl⟩; simp
theorem delta_Apply_view {v : View} {d : Delta} (h : (delta_Apply v d).2 = 0) : IsView (delta_Apply v d).1 := by
  unfold delta_Apply at h ⊢
  cases h1 : (view_Check v != 0) with
  | true => rw [h1, cond_true] at h; simp only at h; rw [h] at h1; cases h1
  | false =>
  rw [h1, cond_false] at h
  rw [cond_false]
  cases h2 : (delta_Check d != 0) with
  | true => rw [h2, cond_true] at h; simp only at h; rw [h] at h2; cases h2
  | false =>
  rw [h2, cond_false] at h
  rw [cond_false]
  cases h3 : (view_Check (⟨v.roots, (delta_turn v.known d.gone d.here), (delta_turn v.way d.wayGone d.wayHere)⟩ : View) != 0) with
  | true => rw [h3, cond_true] at h; simp only at h; rw [h] at h3; cases h3
  | false => exact (view_Check_iff _).1 (eq_of_bne_false h3)
/-! ### Mail -/
def mailBad (m : Mail) : Bool := (((((((((decide (m.life < 1) || decide (m.life > 50)) || decide (m.seq < 0)) || decide (m.seq > 30)) || decide (m.time < 0)) || decide (m.time > 10000)) || decide (m.version < 1)) || decide (m.version > 60)) || decide (m.frm < 0)) || decide (m.frm ≥ m.version))
def want1 (m : Mail) : Mail := ⟨m.kind, m.who, 0, 0, 0, 0, 0, m.o, ⟨[], [], []⟩, ⟨[], [], [], []⟩⟩
def want2 (m : Mail) : Mail := ⟨m.kind, m.who, m.life, m.seq, m.time, m.version, 0, ⟨0, 0, 0, 0, 0, 0, 0⟩, m.v, ⟨[], [], [], []⟩⟩
def want3 (m : Mail) : Mail := ⟨m.kind, m.who, m.life, m.seq, m.time, m.version, m.frm, ⟨0, 0, 0, 0, 0, 0, 0⟩, ⟨[], [], []⟩, m.d⟩
theorem way_check_eq (m : Mail) : way_check m = bif (decide (m.kind < 1) || decide (m.kind > 3)) then 4 else bif (decide (m.who < 0) || decide (m.who ≥ 3)) then 5 else
    bif m.kind == 1 then (bif !(way_same m (want1 m)) then 4 else bif m.o.who != m.who then 4 else chkO m.o) else
    bif m.kind == 2 then (bif !(way_same m (want2 m)) then 4 else bif mailBad m then 3 else view_Check m.v) else
    bif !(way_same m (want3 m)) then 4 else bif mailBad m then 3 else delta_Check m.d := by
  unfold way_check
  cases h0 : (decide (m.kind < 1) || decide (m.kind > 3)) with
  | true => rfl
  | false =>
    cases h1 : (m.kind == 1) with
    | true => rfl
    | false =>
      cases h2 : (m.kind == 2) with
      | true => rfl
      | false =>
        have h3 : (m.kind == 3) = true := by
          simp only [Bool.or_eq_false_iff, decide_eq_false_iff_not, beq_eq_false_iff_ne] at h0 h1 h2
          simp only [beq_iff_eq]; omega
        rw [h3]; rfl
theorem way_Check_one (m : Mail) : way_Check [m] = way_check m := by
  show (bif (way_check m != 0) then way_check m else 0) = way_check m
  cases h : (way_check m != 0) with
  | true => rfl
  | false => exact (eq_of_bne_false h).symm
structure SentTo (m : Mail) : Prop where
  kind : m.kind = 2 ∨ m.kind = 3
  rng : 1 ≤ m.life ∧ m.life ≤ 50 ∧ 0 ≤ m.seq ∧ m.seq ≤ 30 ∧ 0 ≤ m.time ∧ m.time ≤ 10000 ∧ 1 ≤ m.version ∧ m.version ≤ 60 ∧ 0 ≤ m.frm ∧ m.frm < m.version
  view : m.kind = 2 → IsView m.v
theorem mailBad_iff (m : Mail) : mailBad m = false ↔ (1 ≤ m.life ∧ m.life ≤ 50 ∧ 0 ≤ m.seq ∧ m.seq ≤ 30 ∧ 0 ≤ m.time ∧ m.time ≤ 10000 ∧ 1 ≤ m.version ∧ m.version ≤ 60 ∧ 0 ≤ m.frm ∧ m.frm < m.version) := by
  simp only [mailBad, Bool.or_eq_false_iff, decide_eq_false_iff_not]; omega
theorem sent_of {m : Mail} (h : way_check m = 0) (h1 : m.kind ≠ 1) : SentTo m := by
  rw [way_check_eq, chk_bif (by decide), chk_bif (by decide), show (m.kind == 1) = false from beq_eq_false_iff_ne.2 h1, cond_false] at h
  obtain ⟨h2, _, h3⟩ := h
  simp only [Bool.or_eq_false_iff, decide_eq_false_iff_not] at h2
  cases h4 : (m.kind == 2) with
  | true =>
    rw [h4, cond_true, chk_bif (by decide), chk_bif (by decide)] at h3
    exact ⟨.inl (eq_of_beq h4), (mailBad_iff m).1 h3.2.1, fun _ => (view_Check_iff _).1 h3.2.2⟩
  | false =>
    rw [h4, cond_false, chk_bif (by decide), chk_bif (by decide)] at h3
    have h4 := beq_eq_false_iff_ne.1 h4
    exact ⟨.inr (by omega), (mailBad_iff m).1 h3.2.1, fun h5 => absurd h5 h4⟩
/-! ### Hear -/
def heardBy (c : Client) (m : Mail) (v : View) : Client := ⟨c.life, (if m.time > c.time then m.time else c.time), c.seq, c.pending.filter (fun o => !decide (o.seq ≤ m.seq)), m.version, v⟩
def stale (c : Client) (m : Mail) : Bool := ((m.life != c.life) || decide (m.version ≤ c.version)) || decide (m.seq > c.seq)
def cli0 : Client := ⟨0, 0, 0, [], 0, ⟨[], [], []⟩⟩
theorem Hear_eq (c : Client) (me : Int) (m : Mail) : client_Hear c me m = bif client_Check c me != 0 then (cli0, client_Check c me) else bif way_check m != 0 then (cli0, way_check m) else
    bif (m.kind == 1) || (m.who != me) then (cli0, 4) else bif stale c m then (c, 0) else
    bif m.kind == 3 then (bif m.frm != c.version then (c, 0) else bif (delta_Apply c.v m.d).2 != 0 then (cli0, (delta_Apply c.v m.d).2) else (heardBy c m (delta_Apply c.v m.d).1, 0)) else (heardBy c m m.v, 0) := by
  unfold client_Hear
  rw [way_Check_one]
  rfl
theorem Hear_inv {c : Client} {me : Int} {m : Mail} (h : (client_Hear c me m).2 = 0) : IsCli c me ∧ SentTo m ∧ way_check m = 0 ∧ (m.kind == 1 || m.who != me) = false ∧
    ((client_Hear c me m).1 = c ∨ ∃ v, IsView v ∧ stale c m = false ∧ (client_Hear c me m).1 = heardBy c m v) := by
  rw [Hear_eq] at h ⊢
  cases h1 : (client_Check c me != 0) with
  | true => rw [h1, cond_true] at h; simp only at h; rw [h] at h1; cases h1
  | false =>
  rw [h1, cond_false] at h
  rw [cond_false]
  cases h2 : (way_check m != 0) with
  | true => rw [h2, cond_true] at h; simp only at h; rw [h] at h2; cases h2
  | false =>
  rw [h2, cond_false] at h
  rw [cond_false]
  cases h3 : (m.kind == 1 || m.who != me) with
  | true => rw [h3, cond_true] at h; cases h
  | false =>
  rw [h3, cond_false] at h
  rw [cond_false]
  have hk := (Bool.or_eq_false_iff.1 h3).1
  have hs := sent_of (eq_of_bne_false h2) (beq_eq_false_iff_ne.1 hk)
  refine ⟨(client_Check_iff _ _).1 (eq_of_bne_false h1), hs, eq_of_bne_false h2, rfl, ?_⟩
  cases h4 : stale c m with
  | true => exact .inl rfl
  | false =>
  rw [h4, cond_false] at h
  rw [cond_false]
  cases h5 : (m.kind == 3) with
  | false =>
    refine .inr ⟨m.v, hs.view ?_, rfl, rfl⟩
    have := beq_eq_false_iff_ne.1 h5
    have := hs.kind; omega
  | true =>
    rw [h5, cond_true] at h
    rw [cond_true]
    cases h6 : (m.frm != c.version) with
    | true => exact .inl rfl
    | false =>
      rw [h6, cond_false] at h
      rw [cond_false]
      cases h7 : ((delta_Apply c.v m.d).2 != 0) with
      | true => rw [h7, cond_true] at h; simp only at h; rw [h] at h7; cases h7
      | false => exact .inr ⟨_, delta_Apply_view (eq_of_bne_false h7), rfl, rfl⟩
theorem filter_drop : ∀ (l : List Op) (a s : Int), (∀ i, i < l.length → (gt l i).seq = a + (i : Int)) → ∃ n, n ≤ l.length ∧ (∀ o ∈ l.take n, o.seq ≤ s) ∧ l.filter (fun o => !decide (o.seq ≤ s)) = l.drop n ∧ (n < l.length → s - a + 1 ≤ n)
  | [], a, s, _ => ⟨0, Nat.le_refl _, (by simp), rfl, by simp⟩
  | o :: l, a, s, h => by
    have h0 := h 0 (by simp)
    simp only [gt, List.getD_cons_zero] at h0
    have hl : ∀ i, i < l.length → (gt l i).seq = (a + 1) + (i : Int) := fun i hi => by
      have := h (i + 1) (by simp; omega)
      simp only [gt, List.getD_cons_succ] at this ⊢
      omega
    obtain ⟨n, hn, h1, h2, h3⟩ := filter_drop l (a + 1) s hl
    by_cases hs : o.seq ≤ s
    · refine ⟨n + 1, by simp; omega, fun p hp => ?_, ?_, fun hlt => by simp at hlt; have := h3 hlt; omega⟩
      · rw [List.take_succ_cons] at hp
        rcases List.mem_cons.1 hp with rfl | hp
        · exact hs
        · exact h1 p hp
      · rw [List.filter_cons_of_neg (by simp [hs]), h2]; rfl
    · refine ⟨0, Nat.zero_le _, by simp, ?_, fun _ => by omega⟩
      rw [List.drop_zero, List.filter_eq_self]
      intro p hp
      obtain ⟨i, hi, rfl⟩ := List.getElem_of_mem hp
      have := h i hi
      rw [gt_eq hi] at this
      simp only [Bool.not_eq_true', decide_eq_false_iff_not]; omega
theorem gt_dropO (l : List Op) (n i : Nat) : gt (l.drop n) i = gt l (n + i) := by simp [gt, List.getD_eq_getElem?_getD]
theorem heard_cli {c : Client} {me : Int} {m : Mail} {v : View} (h : IsCli c me) (hm : SentTo m) (hst : stale c m = false) (hv : IsView v) : IsCli (heardBy c m v) me ∧ ∃ n, n ≤ c.pending.length ∧ (∀ o ∈ c.pending.take n, o.seq ≤ m.seq) ∧ (heardBy c m v).pending = c.pending.drop n := by
  obtain ⟨n, hn, h1, h2, h3⟩ := filter_drop c.pending (c.seq - (c.pending.length : Int) + 1) m.seq fun i hi => (h.pend i hi).seq
  have hp : (heardBy c m v).pending = c.pending.drop n := h2
  have hlen : (heardBy c m v).pending.length = c.pending.length - n := by rw [hp]; simp
  have hr := h.rng
  have hmr := hm.rng
  have hps := h.pseq
  have hfew := h.few
  simp only [stale, Bool.or_eq_false_iff, bne_eq_false_iff_eq, decide_eq_false_iff_not] at hst
  refine ⟨⟨h.num, ?_, by omega, hv, fun hl => ?_, fun hl => ?_, ?_, fun i hi => ?_⟩, n, hn, h1, hp⟩
  · simp only [heardBy]; split <;> omega
  · simp only [heardBy] at hl; omega
  · simp only [heardBy] at hl; omega
  · rw [hlen]; simp only [heardBy]; omega
  · rw [hlen] at hi
    have hq := h.pend (n + i) (by omega)
    have hg : gt (heardBy c m v).pending i = gt c.pending (n + i) := by rw [hp, gt_dropO]
    have htm := hq.time
    refine ⟨by rw [hg]; exact hq.ok, by rw [hg]; exact hq.who, by rw [hg]; exact hq.life, ?_, ?_, fun h0 => ?_⟩
    · rw [hg, hq.seq, hlen]; simp only [heardBy]; omega
    · rw [hg]; simp only [heardBy]; split <;> omega
    · rw [hg, show gt (heardBy c m v).pending (i - 1) = gt c.pending (n + i - 1) by rw [hp, gt_dropO]; congr 1; omega]
      exact hq.up (by omega)
theorem lives_true : orangerylaw_lives = true := by decide +kernel
end Go.Proofs.Ytchdacbjiomplaa
