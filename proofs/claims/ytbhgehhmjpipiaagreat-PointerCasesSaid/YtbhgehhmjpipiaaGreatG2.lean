/- Chapter 12: the law of cases. -/
import Derived.Test.YtbhgehhmjpipiaaGreatG1
namespace Go.Proofs.YtbhgehhmjpipiaaGreat.C12
open Go Go.Proofs Go.Proofs.YtbhgehhmjpipiaaGreat.Ab Go.Proofs.YtbhgehhmjpipiaaGreat.C10
set_option maxRecDepth 100000
set_option linter.unusedSimpArgs false
set_option linter.unusedVariables false
attribute [local congr] ite_ctx

theorem zStg_tags (n : Nat) : (zStg n).tags.length = n := by simp [zStg]
theorem start_self {c : Case} (h : Right c) : Ans Tryz.prog 35 [.agg (encSt (startS (cc c))), .agg (encSt (startS (cc c)))] (.bool true) := by
  have hJ := h.J
  have hO := h.O
  have e1 : (startS (cc c)).jobs = List.replicate c.users.length (zStg 60) := rfl
  have e2 : (startS (cc c)).spaces = (List.range c.sec.objects.length).map fun k => zStg (quadsC (cc c) k) := rfl
  refine SameState_self _ (by rw [e1, List.length_replicate]; omega) (by rw [e2, List.length_map, List.length_range]; omega) (fun x hx => ?_) fun x hx => ?_
  · rw [e1] at hx
    rw [List.eq_of_mem_replicate hx, zStg_tags]; decide
  · rw [e2] at hx
    obtain ⟨k, hk, rfl⟩ := List.mem_map.1 hx
    rw [zStg_tags]; have := quads_le (cc c) k; omega
set_option maxHeartbeats 4000000 in
theorem PointerCases_good (c : Case) : Ans Tryz.prog 9 [.agg (encCase c)] (.bool true) := by
  have haw := awake_good
  have hfw := few12_good c
  cases hf : few12 c with
  | false =>
    rw [hf] at hfw
    refine good_run [] mixed Tryz.func9 rfl Tryz.ntmps9 (rs := [.tmp 2]) rfl (by decide +kernel) (by kernel_rfl) rfl ?_
    rw [startE_eq 56 _ _ _ rfl rfl]
    simp (maxSteps := 10000000) only [go_sem, seval]
    refine call_of (haw) ?_
    simp (maxSteps := 10000000) only [go_sem, seval,  Bool.not_true]
    refine call_of (hfw) ?_
    simp (maxSteps := 10000000) only [go_sem, seval,  Bool.not_true, Bool.not_false]
  | true =>
  rw [hf] at hfw
  obtain ⟨hs, hu⟩ := few12_fit hf
  have hown := Own12_good c hs (by omega)
  have hP := CheckCase_good c hs (by omega)
  have hR := Check12_good c hs (by omega)
  refine Classical.byCases (fun he : (caseE c).2 = 0 => ?_) fun he => ?_
  case refine_2 =>
    have hS := Start_no hs (by omega) he
    have hn := none_good
    generalize caseE c = e at hP hR hS he
    have het := eq_false he
    refine good_run [] mixed Tryz.func9 rfl Tryz.ntmps9 (rs := [.tmp 2]) rfl (by decide +kernel) (by kernel_rfl) rfl ?_
    rw [startE_eq 56 _ _ _ rfl rfl]
    simp (maxSteps := 10000000) only [go_sem, seval]
    refine call_of (haw) ?_
    simp (maxSteps := 10000000) only [go_sem, seval,  Bool.not_true]
    refine call_of (hfw) ?_
    simp (maxSteps := 10000000) only [go_sem, seval,  Bool.not_true, Bool.not_false]
    refine call_of (hown) ?_
    simp (maxSteps := 10000000) only [go_sem, seval]
    refine call_of (hP) ?_
    simp (maxSteps := 10000000) only [go_sem, seval]
    refine call_of (hR) ?_
    simp (maxSteps := 10000000) only [go_sem, seval,  not_true, not_true_eq_false, decide_false]
    refine call_of (hown) ?_
    simp (maxSteps := 10000000) only [go_sem, seval]
    refine call_of (hS) ?_
    simp (maxSteps := 10000000) only [go_sem, seval,  het, not_false_eq_true, decide_true]
    refine call_of (hn) ?_
    simp (maxSteps := 10000000) only [go_sem, seval]
  have h := right_of hs he
  have hS := Start_good h he
  have hT := rStart_good c h
  have hq := start_self h
  rw [he] at hP hR
  generalize (caseE c).1 = e at hP hR
  generalize startS (cc c) = s at hS hT hq
  refine good_run [] mixed Tryz.func9 rfl Tryz.ntmps9 (rs := [.tmp 2]) rfl (by decide +kernel) (by kernel_rfl) rfl ?_
  rw [startE_eq 56 _ _ _ rfl rfl]
  simp (maxSteps := 10000000) only [go_sem, seval]
  refine call_of (haw) ?_
  simp (maxSteps := 10000000) only [go_sem, seval,  Bool.not_true]
  refine call_of (hfw) ?_
  simp (maxSteps := 10000000) only [go_sem, seval,  Bool.not_true, Bool.not_false]
  refine call_of (hown) ?_
  simp (maxSteps := 10000000) only [go_sem, seval]
  refine call_of (hP) ?_
  simp (maxSteps := 10000000) only [go_sem, seval]
  refine call_of (hR) ?_
  simp (maxSteps := 10000000) only [go_sem, seval,  not_true, not_true_eq_false, decide_false]
  refine call_of (hown) ?_
  simp (maxSteps := 10000000) only [go_sem, seval]
  refine call_of (hS) ?_
  simp (maxSteps := 10000000) only [go_sem, seval]
  refine callD_of (hT) ?_
  simp (maxSteps := 10000000) only [go_sem, seval]
  refine callD_of (hq) ?_
  simp (maxSteps := 10000000) only [go_sem, seval]
  decide +kernel

end Go.Proofs.YtbhgehhmjpipiaaGreat.C12
