/- Chapter 12: the law of states. -/
import Derived.Test.YtbhgehhmjpipiaaGreatG8
namespace Go.Proofs.YtbhgehhmjpipiaaGreat.C12
open Go Go.Proofs Go.Proofs.YtbhgehhmjpipiaaGreat.Ab Go.Proofs.YtbhgehhmjpipiaaGreat.C10
set_option maxRecDepth 100000
set_option linter.unusedSimpArgs false
set_option linter.unusedVariables false
attribute [local congr] ite_ctx
theorem few_small {s : St} (h : fewS s = true) : SmallSt s := by
  simp only [fewS, Bool.and_eq_true] at h
  obtain ⟨a1, a2⟩ := fewStB_fit h.1
  obtain ⟨b1, b2⟩ := fewStB_fit h.2
  exact ⟨by omega, by omega, fun x hx => by have := a2 x hx; omega, fun x hx => by have := b2 x hx; omega⟩
set_option maxHeartbeats 4000000 in
theorem PointerStates_good (c : Case) (s : St) : Ans Tryz.prog 7 [.agg (encCase c), .agg (encSt s)] (.bool true) := by
  have haw := awake_good
  have hfw := few12_good c
  have hfs := fewState_good s
  cases hf : few12 c with
  | false =>
    rw [hf] at hfw
    refine good_run [] mixed Tryz.func7 rfl Tryz.ntmps7 (rs := [.tmp 4]) rfl (by decide +kernel) (by kernel_rfl) rfl ?_
    rw [startE_eq 41 _ _ _ rfl rfl]
    simp only [go_sem, seval]
    refine call_of (haw) ?_
    simp only [go_sem, seval, Bool.not_true]
    refine call_of (hfw) ?_
    simp only [go_sem, seval, Bool.not_true, Bool.not_false]
  | true =>
  rw [hf] at hfw
  cases hg : fewS s with
  | false =>
    rw [hg] at hfs
    refine good_run [] mixed Tryz.func7 rfl Tryz.ntmps7 (rs := [.tmp 4]) rfl (by decide +kernel) (by kernel_rfl) rfl ?_
    rw [startE_eq 41 _ _ _ rfl rfl]
    simp only [go_sem, seval]
    refine call_of (haw) ?_
    simp only [go_sem, seval, Bool.not_true]
    refine call_of (hfw) ?_
    simp only [go_sem, seval, Bool.not_true, Bool.not_false]
    refine call_of (hfs) ?_
    simp only [go_sem, seval, Bool.not_true, Bool.not_false]
  | true =>
  rw [hg] at hfs
  obtain ⟨hs, hu⟩ := few12_fit hf
  have hS := few_small hg
  have hown := Own12_good c hs (by omega)
  have hos := OwnState_good s hS.jobs hS.spaces (fun x hx => (hS.job x hx).2) (fun x hx => (hS.space x hx).2)
  have hP := CheckState_good c s hs (by omega) hS
  have hR := rCheckState_good c s hs (by omega) hS
  generalize stE c s = R at hP hR
  refine good_run [] mixed Tryz.func7 rfl Tryz.ntmps7 (rs := [.tmp 4]) rfl (by decide +kernel) (by kernel_rfl) rfl ?_
  rw [startE_eq 41 _ _ _ rfl rfl]
  simp only [go_sem, seval]
  refine call_of (haw) ?_
  simp only [go_sem, seval, Bool.not_true]
  refine call_of (hfw) ?_
  simp only [go_sem, seval, Bool.not_true, Bool.not_false]
  refine call_of (hfs) ?_
  simp only [go_sem, seval, Bool.not_true, Bool.not_false]
  refine callD_of (hown) ?_
  simp only [go_sem, seval]
  refine callD_of (hos) ?_
  simp only [go_sem, seval]
  refine callD_of (hP) ?_
  simp only [go_sem, seval]
  refine ⟨by decide +kernel, ?_⟩
  refine call_of (hR) ?_
  simp only [go_sem, seval]
end Go.Proofs.YtbhgehhmjpipiaaGreat.C12
