/- Chapter 12: the law of closures. -/
import Derived.Test.YtbhgehhmjpipiaaGreatE13
namespace Go.Proofs.YtbhgehhmjpipiaaGreat.C12
open Go Go.Proofs Go.Proofs.YtbhgehhmjpipiaaGreat.Ab Go.Proofs.YtbhgehhmjpipiaaGreat.C10
set_option maxRecDepth 100000
set_option linter.unusedSimpArgs false
set_option linter.unusedVariables false
attribute [local congr] ite_ctx
set_option maxHeartbeats 4000000 in
theorem PointerClosure_good (c : Case) : Ans Tryz.prog 3 [.agg (encCase c)] (.bool true) := by
  have haw := awake_good
  have hfw := few12_good c
  cases hf : few12 c with
  | false =>
    rw [hf] at hfw
    refine good_run [] mixed Tryz.func3 rfl Tryz.ntmps3 (rs := [.tmp 2]) rfl (by decide +kernel) (by kernel_rfl) rfl ?_
    rw [startE_eq 37 _ _ _ rfl rfl]
    simp only [go_sem, seval]
    refine call_of (haw) ?_
    simp only [go_sem, seval, Bool.not_true]
    refine call_of (hfw) ?_
    simp only [go_sem, seval, Bool.not_true, Bool.not_false]
  | true =>
  rw [hf] at hfw
  obtain ⟨hs, hu⟩ := few12_fit hf
  have hown := Own12_good c hs (by omega)
  have herr := Err12_good c hs (by omega)
  refine Classical.byCases (fun he : (caseE c).2 = 0 => ?_) fun he => ?_
  case refine_2 =>
    have hC := Closure_no hs (by omega) he
    generalize (caseE c).2 = e at hC herr he
    have het := eq_false he
    refine good_run [] mixed Tryz.func3 rfl Tryz.ntmps3 (rs := [.tmp 2]) rfl (by decide +kernel) (by kernel_rfl) rfl ?_
    rw [startE_eq 37 _ _ _ rfl rfl]
    simp only [go_sem, seval]
    refine call_of (haw) ?_
    simp only [go_sem, seval, Bool.not_true]
    refine call_of (hfw) ?_
    simp only [go_sem, seval, Bool.not_true, Bool.not_false]
    refine call_of (hown) ?_
    simp only [go_sem, seval]
    refine call_of (hC) ?_
    simp only [go_sem, seval]
    refine call_of (herr) ?_
    simp only [go_sem, seval, het, not_false_eq_true, decide_true]
  have h := right_of hs he
  have hC := Closure_good h he
  have hR := rClosure_good c h
  have hS := SameCaps_self (rClosure (cc c)) (by have := h.cfit.rlen (rClosure_done h.cfit).ok; omega)
  rw [he] at herr
  generalize rClosure (cc c) = R at hC hR hS
  refine good_run [] mixed Tryz.func3 rfl Tryz.ntmps3 (rs := [.tmp 2]) rfl (by decide +kernel) (by kernel_rfl) rfl ?_
  rw [startE_eq 37 _ _ _ rfl rfl]
  simp only [go_sem, seval]
  refine call_of (haw) ?_
  simp only [go_sem, seval, Bool.not_true]
  refine call_of (hfw) ?_
  simp only [go_sem, seval, Bool.not_true, Bool.not_false]
  refine call_of (hown) ?_
  simp only [go_sem, seval]
  refine call_of (hC) ?_
  simp only [go_sem, seval]
  refine call_of (herr) ?_
  simp only [go_sem, seval]
  refine call_of (hR) ?_
  simp only [go_sem, seval]
  refine call_of (hS) ?_
  simp only [go_sem, seval]
end Go.Proofs.YtbhgehhmjpipiaaGreat.C12
