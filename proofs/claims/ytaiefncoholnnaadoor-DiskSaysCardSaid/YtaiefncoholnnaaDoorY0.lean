/- Part of this claim. No condition. -/
import Derived.Test.YtaiefncoholnnaaDoorTData4
import Derived.Test.YtaiefncoholnnaaDoorFx
set_option linter.unusedVariables false
set_option linter.unusedSimpArgs false
set_option maxHeartbeats 2000000
namespace Go.Proofs.YtaiefncoholnnaaDoor
open Go Go.Proofs.YtaiefncoholnnaaDoor.Fw Go.Proofs
attribute [local irreducible] RW CW
def slices_Equal_Int_L0 (s2 : List Int) : List Int → Nat → Bool
  | [], n1 => true
  | pn1 :: rn1, n1 => (bif (pn1 != (gt s2 n1)) then false else (slices_Equal_Int_L0 s2 rn1 (n1 + 1)))
def slices_Equal_Int (s1 : List Int) (s2 : List Int) : Bool :=
  (bif ((s1.length : Int) != (s2.length : Int)) then false else (slices_Equal_Int_L0 s2 s1 0))
theorem slices_Equal_Int_spec (y1 : SlV) (s1 : List Int) (y2 : SlV) (s2 : List Int) : Does Tryd.prog 33 [y1.val s1.length, y2.val s2.length] [RdL EInt y1 s1, RdL EInt y2 s2] (fun (_ : Unit) => .bool (slices_Equal_Int s1 s2)) (fun (_ : Unit) => []) := by
  refine does_of tab_ok Tryd.func33 rfl Tryd.ntmps33 Tryd.results33 rfl inferInstance (fun _ => inferInstance) fun C => ?_
  refine Pc EInt y1 s1 8 fun hlen1 => ?_
  refine Pc EInt y2 s2 8 fun hlen2 => ?_
  refine Tx ?_
  refine Cd (b := ((s1.length : Int) != (s2.length : Int))) (fun hc1 => ?_) fun hc1 => ?_
  · have hc1p := bne_iff_ne.1 hc1
    refine Tx ?_
    have hr1 : (slices_Equal_Int s1 s2) = false := by simp only [slices_Equal_Int, hc1, cond_true, cond_false]
    refine cw_ret ?_; rw [hr1]; exact Re () (Vt Vn)
  · have hc1p := eq_of_bne_false hc1
    refine Tx ?_
    (repeat refine cw_seq ?_); refine Lp [0,1,4,12] [] (fun (n1 : Nat) => (⟨[(13, .v (.int .i64 (n1 : Int)))], [], [], [], (n1 ≤ s1.length) ∧ (slices_Equal_Int_L0 s2 (s1.drop n1) n1) = (slices_Equal_Int s1 s2), s1.length - n1⟩ : Ls)) 0 (Sc (Sc (Sc (Sc Sn)))) (.nil) ⟨Nat.zero_le _, (by simp only [slices_Equal_Int, hc1, cond_true, cond_false] : (slices_Equal_Int s1 s2) = (slices_Equal_Int_L0 s2 s1 0)).symm⟩ Le4 ?_
    rintro n1 ⟨hkn1, hf1⟩
    simp only [List.cons_append, List.nil_append]
    refine Tx ?_
    refine Cd (b := decide ((n1 : Int) < (s1.length : Int))) (fun hc2 => ?_) fun hc2 => ?_
    · have hlt0 : n1 < s1.length := Int.ofNat_lt.1 (of_decide_eq_true hc2)
      refine Tx ?_
      (repeat refine cw_seq ?_); refine cw_regionA (fun _ => some []) ?_
      refine Rb 0 [1,4,5,6,7] [2,3,8] rfl Qp ?_
      refine Rb 1 [4,5,6,7] [2,3,8] rfl Qp ?_
      refine Rb 2 [4,5,6,7] [3,8] rfl (q_idx EInt n1 rfl rfl (fun _ => rfl) rfl (fun _ => rfl) rfl rfl rfl Mm rfl (fun _ => rfl) (fun _ => by first | assumption | omega)) ?_
      refine Ra 3 [4,5,6,7] rfl (q_le1 EInt rfl rfl (fun _ => rfl) rfl rfl Mm (fun _ => by first | assumption | omega) rfl) ?_
      refine Rb 4 [5] [6,7,8] rfl Qp ?_
      refine Rb 5 [] [6,7,8] rfl Qp ?_
      refine Rb 6 [] [7,8] rfl (q_idx EInt n1 rfl rfl (fun _ => rfl) rfl (fun _ => rfl) rfl rfl rfl Mm rfl (fun _ => rfl) (fun _ => by first | assumption | omega)) ?_
      refine Ra 7 [] rfl (q_le1 EInt rfl rfl (fun _ => rfl) rfl rfl Mm (fun _ => by first | assumption | omega) rfl) ?_
      refine Ra 8 [] rfl Qp ?_
      refine ra_nil Kr ?_
      (repeat refine cw_seq ?_)
      refine Cd (b := ((gt s1 n1) != (gt s2 n1))) (fun hc3 => ?_) fun hc3 => ?_
      · have hc3p := bne_iff_ne.1 hc3
        refine Tx ?_
        have hr2 : (slices_Equal_Int s1 s2) = false := by rw [← hf1, drop_gt hlt0]; simp only [slices_Equal_Int_L0, hc3, cond_true, cond_false]
        refine cw_ret ?_; rw [hr2]; exact Re () (Vt Vn)
      · have hc3p := eq_of_bne_false hc3
        refine Tx ?_
        refine rw_q rfl rfl rfl (q_add rfl rfl (fun _ => rfl) rfl (fun _ => rfl) (fun _ => by omega)) ?_
        refine Tx ?_
        refine ⟨(n1 + 1), ⟨hlt0, (by rw [← hf1, drop_gt hlt0]; simp only [slices_Equal_Int_L0, hc3, cond_true, cond_false] : (slices_Equal_Int s1 s2) = (slices_Equal_Int_L0 s2 (s1.drop (n1 + 1)) (n1 + 1))).symm⟩, (by simp only []; omega), Le4⟩
    · have hge0 : s1.length ≤ n1 := by have := of_decide_eq_false hc2; omega
      refine Tx ?_
      have hr3 : (slices_Equal_Int s1 s2) = true := by rw [← hf1, List.drop_of_length_le hge0]; simp only [slices_Equal_Int_L0, cond_true, cond_false]
      refine cw_ret ?_; rw [hr3]; exact Re () (Vt Vn)
theorem slices_Equal_Int_eq (a b : List Int) : slices_Equal_Int a b = decide (a = b) := by
  have key : ∀ (l : List Int) (k : Nat), l.length + k = b.length → slices_Equal_Int_L0 b l k = decide (l = b.drop k) := by
    intro l
    induction l with
    | nil => intro k hk; rw [slices_Equal_Int_L0, List.drop_of_length_le (by simp at hk; omega)]; simp
    | cons p r ih =>
      intro k hk
      simp only [List.length_cons] at hk
      rw [slices_Equal_Int_L0, ih (k + 1) (by omega), drop_gt (by omega : k < b.length)]
      by_cases h : p = gt b k <;> simp [h]
  rw [slices_Equal_Int]
  by_cases h : a.length = b.length
  · rw [key a 0 (by omega)]; simp [h]
  · have : a ≠ b := fun e => h (by rw [e])
    simp [this, Int.ofNat_inj, h]
theorem slices_Equal_Int_spec' (y1 y2 : SlV) (a b : List Int) : Does Tryd.prog 33 [y1.val a.length, y2.val b.length] [RdL EInt y1 a, RdL EInt y2 b] (fun (_ : Unit) => .bool (decide (a = b))) (fun (_ : Unit) => []) := by
  have := slices_Equal_Int_spec y1 a y2 b
  rw [slices_Equal_Int_eq] at this
  exact this
end Go.Proofs.YtaiefncoholnnaaDoor
