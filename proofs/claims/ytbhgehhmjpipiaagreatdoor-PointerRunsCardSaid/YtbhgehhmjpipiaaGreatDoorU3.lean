/- Chapter 12: the law of runs. -/
import Derived.Test.YtbhgehhmjpipiaaGreatDoorU1
import Derived.Test.YtbhgehhmjpipiaaGreatDoorK4
set_option linter.unusedSimpArgs false
set_option linter.unusedVariables false
namespace Go.Proofs.YtbhgehhmjpipiaaGreatDoor.C12
open Go Go.Proofs Go.Proofs.YtbhgehhmjpipiaaGreatDoor.Ab Go.Proofs.YtbhgehhmjpipiaaGreatDoor.C10
set_option maxRecDepth 100000
attribute [local congr] ite_ctx
set_option maxHeartbeats 8000000 in
theorem PointerRuns_good (c : Case) (l : List COp) : Ans Tryz.prog 7 [.agg (encCase c), .sl (l.map encCOp)] (.bool true) := by
 have haw := awake_good
 have hfw := few12_good c
 have hfo := fewO_good l
 cases hf : few12 c with
 | false =>
   rw [hf] at hfw
   refine good_run [(15, [4, 75, 76, 77, 78, 79, 80, 81, 82, 83, 84, 85, 86, 87, 88, 89], [])] mixed Tryz.func7 rfl Tryz.ntmps7 (rs := [.tmp 4]) rfl (by decide +kernel) (by kernel_rfl) rfl ?_
   rw [startE_eq 90 _ _ _ rfl rfl]
   simp only [go_sem, seval]
   refine call_of (haw) ?_
   simp only [go_sem, seval, Bool.not_true]
   refine call_of (hfw) ?_
   simp only [go_sem, seval, Bool.not_true, Bool.not_false]
 | true =>
 rw [hf] at hfw
 cases hg : fewO l with
 | false =>
   rw [hg] at hfo
   refine good_run [(15, [4, 75, 76, 77, 78, 79, 80, 81, 82, 83, 84, 85, 86, 87, 88, 89], [])] mixed Tryz.func7 rfl Tryz.ntmps7 (rs := [.tmp 4]) rfl (by decide +kernel) (by kernel_rfl) rfl ?_
   rw [startE_eq 90 _ _ _ rfl rfl]
   simp only [go_sem, seval]
   refine call_of (haw) ?_
   simp only [go_sem, seval, Bool.not_true]
   refine call_of (hfw) ?_
   simp only [go_sem, seval, Bool.not_true, Bool.not_false]
   refine call_of (hfo) ?_
   simp only [go_sem, seval, Bool.not_true, Bool.not_false]
 | true =>
 rw [hg] at hfo
 obtain ⟨hs, hu⟩ := few12_fit hf
 obtain ⟨hl, hd⟩ := fewO_fit hg
 have b1 : l.length * 72 ≤ 140737488355328 := by omega
 have b2 : l.length ≤ maxLen := by unfold maxLen; omega
 have hown := Own12_good c hs (by omega)
 have herr := Err12_good c hs (by omega)
 refine Classical.byCases (fun he : (caseE c).2 = 0 => ?_) fun he => ?_
 case refine_2 =>
  have hR := Run_no l hs (by omega) (by omega) (caseE c).2 he (by rw [if_pos he])
  have hN := none_good
  generalize (caseE c).2 = e at hR herr he
  have het := eq_false he
  refine good_run [(15, [4, 75, 76, 77, 78, 79, 80, 81, 82, 83, 84, 85, 86, 87, 88, 89], [])] mixed Tryz.func7 rfl Tryz.ntmps7 (rs := [.tmp 4]) rfl (by decide +kernel) (by kernel_rfl) rfl ?_
  rw [startE_eq 90 _ _ _ rfl rfl]
  simp only [go_sem, seval]
  refine call_of (haw) ?_
  simp only [go_sem, seval, Bool.not_true]
  refine call_of (hfw) ?_
  simp only [go_sem, seval, Bool.not_true, Bool.not_false]
  refine call_of (hfo) ?_
  simp only [go_sem, seval, Bool.not_true, Bool.not_false]
  refine call_of (hown) ?_
  simp only [go_sem, seval, b1, b2]
  refine call_of (hR) ?_
  simp only [go_sem, seval]
  refine call_of (herr) ?_
  simp only [go_sem, seval, het, not_false_eq_true, decide_true, decide_false]
  refine call_of (hN) ?_
  simp only [go_sem, seval]
 rw [he] at herr
 refine Classical.byCases (fun h140 : (l.length : Int) > 140 => ?_) fun h140 => ?_
 · have hR := Run_no l hs (by omega) (by omega) 2 (by decide) (by rw [if_neg (not_not_intro he), if_pos (by omega)])
   have hN := none_good
   have h140t := eq_true h140
   refine good_run [(15, [4, 75, 76, 77, 78, 79, 80, 81, 82, 83, 84, 85, 86, 87, 88, 89], [])] mixed Tryz.func7 rfl Tryz.ntmps7 (rs := [.tmp 4]) rfl (by decide +kernel) (by kernel_rfl) rfl ?_
   rw [startE_eq 90 _ _ _ rfl rfl]
   simp only [go_sem, seval]
   refine call_of (haw) ?_
   simp only [go_sem, seval, Bool.not_true]
   refine call_of (hfw) ?_
   simp only [go_sem, seval, Bool.not_true, Bool.not_false]
   refine call_of (hfo) ?_
   simp only [go_sem, seval, Bool.not_true, Bool.not_false]
   refine call_of (hown) ?_
   simp only [go_sem, seval, b1, b2]
   refine call_of (hR) ?_
   simp only [go_sem, seval]
   refine call_of (herr) ?_
   simp only [go_sem, seval, h140t, decide_true]
   refine call_of (hN) ?_
   simp only [go_sem, seval]
 have h140t := eq_false h140
 have h := right_of hs he
 have hP := Run_good h he hs l (by omega) hd
 have hR := rRun_good h l (by omega) hd
 have hQ := stv_same h (runGo_ok h.aut (start_ok (cc c)) (l := l))
 have hEl : (errsGo (cc c) (startS (cc c)) l).length ≤ 140 := by rw [errsGo_len]; omega
 generalize runGo (cc c) (startS (cc c)) l = S at hP hR hQ
 generalize errsGo (cc c) (startS (cc c)) l = E at hP hR hEl
 refine good_run [(15, [4, 75, 76, 77, 78, 79, 80, 81, 82, 83, 84, 85, 86, 87, 88, 89], [])] mixed Tryz.func7 rfl Tryz.ntmps7 (rs := [.tmp 4]) rfl (by decide +kernel) (by kernel_rfl) rfl ?_
 rw [startE_eq 90 _ _ _ rfl rfl]
 simp only [go_sem, seval]
 refine call_of (haw) ?_
 simp only [go_sem, seval, Bool.not_true]
 refine call_of (hfw) ?_
 simp only [go_sem, seval, Bool.not_true, Bool.not_false]
 refine call_of (hfo) ?_
 simp only [go_sem, seval, Bool.not_true, Bool.not_false]
 refine call_of (hown) ?_
 simp only [go_sem, seval, b1, b2]
 refine call_of (hP) ?_
 simp only [go_sem, seval]
 refine call_of (herr) ?_
 simp only [go_sem, seval, h140t, decide_false]
 refine call_of (hR) ?_
 simp only [go_sem, seval]
 refine call_of (hQ) ?_
 simp only [go_sem, seval, Bool.not_true, not_true_eq_false, decide_false]
 refine loop_by ([4, 75, 76, 77, 78, 79, 80, 81, 82, 83, 84, 85, 86, 87, 88, 89], []) (fun i : Nat => [(.s 11, .int .i64 (i : Int))]) (fun i => E.length - i) (fun i => i ≤ E.length) 0 rfl (Nat.zero_le _) rfl ?_
 rintro c' st' hst i hi ih
 simp only [go_sem, seval]
 refine ifI (fun hlt => ?_) fun hlt => ?_
 · have hlt' : i < E.length := by omega
   simp only [go_sem, seval, hlt, hlt', not_true_eq_false, decide_false]
   refine ⟨by decide +kernel, ?_⟩
   refine ih (i + 1) _ (by omega) (by omega) ?_
   simp only [go_sem, seval, wrap_succ (show i < 9223372036854775807 by omega)]
 · subst hst
   simp only [go_sem, seval, hlt]
end Go.Proofs.YtbhgehhmjpipiaaGreatDoor.C12
