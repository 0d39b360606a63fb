/- Part of this claim. No condition. -/
import Derived.Test.YtaiefncoholnnaaDoorTLibC
set_option linter.unusedVariables false
set_option linter.unusedSimpArgs false
namespace Go.Proofs.YtaiefncoholnnaaDoor
open Go Go.Proofs.YtaiefncoholnnaaDoor.Fw Go.Proofs

theorem lib_genSplit (s sep : Str) (sv n : Int) (hs : sep = [10]) (hsv : sv = 1) (hn : n = -1) (h : s.length < 4294967281) :
    Does Tryd.prog 51 [sV s, sV sep, .int .i64 sv, .int .i64 n] [LibP Tryd.prog] (fun (X : SlV) => X.val (splA 10 s).length) (fun (X : SlV) => [RdL EStr X (splA 10 s)]) := by
  subst hs; subst hsv; subst hn
  exact does_lib (fun _ => inferInstance) fun M w hM hp => by
    obtain ⟨m, hm⟩ := lib_len (hp _ (.head _))
    have hl := splitB_splA 10 s
    have hlen : Lib.countB ⟨s.toArray⟩ ⟨#[10]⟩ + 1 = (splA 10 s).length := by
      have h3 := congrArg List.length hl
      rw [List.length_map, List.length_map] at h3
      rw [← h3, Lib.splitB_all ⟨#[10]⟩ (by decide) 1 _ _ rfl]
    have hb := (splA_len 10 s).2
    refine (Tryd.strings_genSplit ⟨s.toArray⟩ ⟨#[10]⟩ 1 (-1) (Lib.countB ⟨s.toArray⟩ ⟨#[10]⟩ + 1) m w (by rw [size_sV]; exact h) hm (by decide) (by decide) (by decide) (by decide) ?_).mono fun e w' ⟨h1, h2⟩ => ?_
    · rw [if_pos (by decide), size_sV]
      omega
    · rw [Nat.add_sub_cancel] at h1 h2
      have hl2 : (Lib.splitB ⟨#[10]⟩ 1 (Lib.countB ⟨s.toArray⟩ ⟨#[10]⟩) ⟨s.toArray⟩).length = (splA 10 s).length := by
        have h3 := congrArg List.length hl
        rwa [List.length_map, List.length_map] at h3
      rw [hl2, hlen] at h1
      rw [hlen] at h2
      subst h2
      refine ⟨⟨some ⟨w.heap.size, 0, none⟩, (splA 10 s).length⟩, h1, below_alloc _ _, fun F hF => ?_⟩
      rw [List.mem_singleton] at hF
      subst hF
      have : Lib.cellsOf (Lib.splitB ⟨#[10]⟩ 1 (Lib.countB ⟨s.toArray⟩ ⟨#[10]⟩) ⟨s.toArray⟩) (splA 10 s).length = ((splA 10 s).map sV).toArray := by
        rw [Lib.cellsOf, hl, hl2, Nat.sub_self, List.replicate_zero, List.append_nil]
      rw [this]
      exact rd_newrow hM _ _ (by omega)
end Go.Proofs.YtaiefncoholnnaaDoor
