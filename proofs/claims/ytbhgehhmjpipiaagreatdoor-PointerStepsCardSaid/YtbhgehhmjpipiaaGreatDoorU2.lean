/- Chapter 12: the law of steps. -/
import Derived.Test.YtbhgehhmjpipiaaGreatDoorU1
import Derived.Test.YtbhgehhmjpipiaaGreatDoorK3
import Derived.Test.YtbhgehhmjpipiaaGreatDoorT8
import Derived.Test.YtbhgehhmjpipiaaGreatDoorG9
set_option linter.unusedSimpArgs false
set_option linter.unusedVariables false
namespace Go.Proofs.YtbhgehhmjpipiaaGreatDoor.C12
open Go Go.Proofs Go.Proofs.YtbhgehhmjpipiaaGreatDoor.Ab Go.Proofs.YtbhgehhmjpipiaaGreatDoor.C10
set_option maxRecDepth 100000
attribute [local congr] ite_ctx
set_option maxHeartbeats 8000000 in
theorem PointerSteps_good (c : Case) (s : St) (o : COp) : Ans Tryz.prog 5 [.agg (encCase c), .agg (encSt s), .agg (encCOp o)] (.bool true) := by
 have haw := awake_good
 have hfw := few12_good c
 have hfs := fewState_good s
 cases hf : few12 c with
 | false =>
   rw [hf] at hfw
   refine good_run [] mixed Tryz.func5 rfl Tryz.ntmps5 (rs := [.tmp 6]) rfl (by decide +kernel) (by kernel_rfl) rfl ?_
   rw [startE_eq 64 _ _ _ rfl rfl]
   simp only [go_sem, seval]
   refine call_of (haw) ?_
   simp only [go_sem, seval, Bool.not_true]
   refine call_of (hfw) ?_
   simp only [go_sem, seval, Bool.not_true, Bool.not_false]
 | true =>
 rw [hf] at hfw
 cases hg : fewS s with
 | false =>
   rw [hg] at hfs
   refine good_run [] mixed Tryz.func5 rfl Tryz.ntmps5 (rs := [.tmp 6]) rfl (by decide +kernel) (by kernel_rfl) rfl ?_
   rw [startE_eq 64 _ _ _ rfl rfl]
   simp only [go_sem, seval]
   refine call_of (haw) ?_
   simp only [go_sem, seval, Bool.not_true]
   refine call_of (hfw) ?_
   simp only [go_sem, seval, Bool.not_true, Bool.not_false]
   refine call_of (hfs) ?_
   simp only [go_sem, seval, Bool.not_true, Bool.not_false]
 | true =>
 rw [hg] at hfs
 refine Classical.byCases (fun hd : (o.data.size : Int) > 1200 => ?_) fun hd => ?_
 · have hdt := eq_true hd
   refine good_run [] mixed Tryz.func5 rfl Tryz.ntmps5 (rs := [.tmp 6]) rfl (by decide +kernel) (by kernel_rfl) rfl ?_
   rw [startE_eq 64 _ _ _ rfl rfl]
   simp only [go_sem, seval]
   refine call_of (haw) ?_
   simp only [go_sem, seval, Bool.not_true]
   refine call_of (hfw) ?_
   simp only [go_sem, seval, Bool.not_true, Bool.not_false]
   refine call_of (hfs) ?_
   simp only [go_sem, seval, Bool.not_true, Bool.not_false, hdt, decide_true]
 have hdt := eq_false hd
 obtain ⟨hs, hu⟩ := few12_fit hf
 have hS := few_small hg
 have hown := Own12_good c hs (by omega)
 have hos := OwnState_good s hS.jobs hS.spaces (fun x hx => (hS.job x hx).2) (fun x hx => (hS.space x hx).2)
 have hE := rStateErr_good c s hs (by omega) hS
 refine Classical.byCases (fun he : (stE c s).2 = 0 => ?_) fun he => ?_
 case refine_2 =>
  have hP := Step_no o hs (by omega) hS he
  have hN := none_good
  generalize (stE c s).2 = e at hP hE he
  have het := eq_false he
  refine good_run [] mixed Tryz.func5 rfl Tryz.ntmps5 (rs := [.tmp 6]) rfl (by decide +kernel) (by kernel_rfl) rfl ?_
  rw [startE_eq 64 _ _ _ rfl rfl]
  simp only [go_sem, seval]
  refine call_of (haw) ?_
  simp only [go_sem, seval, Bool.not_true]
  refine call_of (hfw) ?_
  simp only [go_sem, seval, Bool.not_true, Bool.not_false]
  refine call_of (hfs) ?_
  simp only [go_sem, seval, Bool.not_true, Bool.not_false, hdt, decide_false]
  refine callD_of (hown) ?_
  simp only [go_sem, seval]
  refine callD_of (hos) ?_
  simp only [go_sem, seval]
  refine callD_of (hP) ?_
  simp only [go_sem, seval]
  refine ⟨by decide +kernel, ?_⟩
  refine call_of (hE) ?_
  simp only [go_sem, seval, het, not_false_eq_true, decide_true]
  refine call_of (hN) ?_
  simp only [go_sem, seval]
 obtain ⟨hv, hc⟩ := stv_of he
 have h := right_of hs hc
 have hP := Step_good o hs (by omega) hS he (by omega)
 have hR := rstep_good h hv o (by omega)
 rw [he] at hE
 have hok : (stepS (cc c) s o).2 = 0 → StV (cc c) (stepS (cc c) s o).1 := fun q => step_ok h.aut hv q
 generalize stepS (cc c) s o = R at hP hR hok
 refine Classical.byCases (fun hz : R.2 = 0 => ?_) fun hz => ?_
 · have e : stR R = .agg (encSt R.1) := by unfold stR; rw [if_pos hz]
   have hQ := stv_same h (hok hz)
   unfold RS at hR
   rw [e] at hP hR
   generalize R.2 = z at hP hR
   generalize R.1 = T at hP hR hQ
   refine good_run [] mixed Tryz.func5 rfl Tryz.ntmps5 (rs := [.tmp 6]) rfl (by decide +kernel) (by kernel_rfl) rfl ?_
   rw [startE_eq 64 _ _ _ rfl rfl]
   simp only [go_sem, seval]
   refine call_of (haw) ?_
   simp only [go_sem, seval, Bool.not_true]
   refine call_of (hfw) ?_
   simp only [go_sem, seval, Bool.not_true, Bool.not_false]
   refine call_of (hfs) ?_
   simp only [go_sem, seval, Bool.not_true, Bool.not_false, hdt, decide_false]
   refine callD_of (hown) ?_
   simp only [go_sem, seval]
   refine callD_of (hos) ?_
   simp only [go_sem, seval]
   refine callD_of (hP) ?_
   simp only [go_sem, seval]
   refine ⟨by decide +kernel, ?_⟩
   refine call_of (hE) ?_
   simp only [go_sem, seval]
   refine call_of (hR) ?_
   simp only [go_sem, seval]
   refine call_of (hQ) ?_
   simp only [go_sem, seval]
 · have e : stR R = .agg [.nils, .nils] := by unfold stR; rw [if_neg hz]
   have hQ := same_none
   unfold RS at hR
   rw [e] at hP hR
   generalize R.2 = z at hP hR
   refine good_run [] mixed Tryz.func5 rfl Tryz.ntmps5 (rs := [.tmp 6]) rfl (by decide +kernel) (by kernel_rfl) rfl ?_
   rw [startE_eq 64 _ _ _ rfl rfl]
   simp only [go_sem, seval]
   refine call_of (haw) ?_
   simp only [go_sem, seval, Bool.not_true]
   refine call_of (hfw) ?_
   simp only [go_sem, seval, Bool.not_true, Bool.not_false]
   refine call_of (hfs) ?_
   simp only [go_sem, seval, Bool.not_true, Bool.not_false, hdt, decide_false]
   refine callD_of (hown) ?_
   simp only [go_sem, seval]
   refine callD_of (hos) ?_
   simp only [go_sem, seval]
   refine callD_of (hP) ?_
   simp only [go_sem, seval]
   refine ⟨by decide +kernel, ?_⟩
   refine call_of (hE) ?_
   simp only [go_sem, seval]
   refine call_of (hR) ?_
   simp only [go_sem, seval]
   refine call_of (hQ) ?_
   simp only [go_sem, seval]
end Go.Proofs.YtbhgehhmjpipiaaGreatDoor.C12
