/- Chapter 12: steps by the program, with the check of the state. -/
import Derived.Test.YtbhgehhmjpipiaaGreatDoorT7
import Derived.Test.YtbhgehhmjpipiaaGreatDoorG9a
set_option linter.unusedSimpArgs false
set_option linter.unusedVariables false
namespace Go.Proofs.YtbhgehhmjpipiaaGreatDoor.C12
open Go Go.Proofs Go.Proofs.YtbhgehhmjpipiaaGreatDoor.Ab Go.Proofs.YtbhgehhmjpipiaaGreatDoor.C10
set_option maxRecDepth 100000
attribute [local congr] ite_ctx
theorem Step_no {c : Case} {s : St} (o : COp) (hs : Fit c.sec) (hu : c.users.length ≤ 1000) (hS : SmallSt s) (he : ¬ (stE c s).2 = 0) : Ans Tryz.prog 25 [.agg (encCase c), .agg (encSt s), .agg (encCOp o)] (.tup [.agg [.nils, .nils], .int .i64 (stE c s).2]) := by
 have hE := stateErr_good c s hs hu hS
 generalize (stE c s).2 = e at hE he
 have het := eq_false he
 refine good_run [] mixed Tryz.func25 rfl Tryz.ntmps25 (rs := [.cell 6 37, .tmp 7]) rfl (by decide +kernel) (by kernel_rfl) rfl ?_
 rw [startE_eq 22 _ _ _ rfl rfl]
 simp only [go_sem, seval]
 refine call_of (hE) ?_
 simp only [go_sem, seval, het, not_false_eq_true, decide_true]
theorem Step_good {c : Case} {s : St} (o : COp) (hs : Fit c.sec) (hu : c.users.length ≤ 1000) (hS : SmallSt s) (he : (stE c s).2 = 0) (hd : o.data.size ≤ 1000000) : Ans Tryz.prog 25 [.agg (encCase c), .agg (encSt s), .agg (encCOp o)] (.tup [stR (stepS (cc c) s o), .int .i64 (stepS (cc c) s o).2]) := by
 have hE := stateErr_good c s hs hu hS
 rw [he] at hE
 obtain ⟨hv, hc⟩ := stv_of he
 have hp := pstep_good (right_of hs hc) hv o hd
 generalize stepS (cc c) s o = R at hp
 refine Classical.byCases (fun hz : R.2 = 0 => ?_) fun hz => ?_
 · have e : stR R = .agg (encSt R.1) := by unfold stR; rw [if_pos hz]
   rw [e] at hp ⊢
   refine good_run [] mixed Tryz.func25 rfl Tryz.ntmps25 (rs := [.cell 6 37, .tmp 7]) rfl (by decide +kernel) (by kernel_rfl) rfl ?_
   rw [startE_eq 22 _ _ _ rfl rfl]
   simp only [go_sem, seval]
   refine call_of (hE) ?_
   simp only [go_sem, seval]
   refine call_of (hp) ?_
   simp only [go_sem, seval]
 · have e : stR R = .agg [.nils, .nils] := by unfold stR; rw [if_neg hz]
   rw [e] at hp ⊢
   refine good_run [] mixed Tryz.func25 rfl Tryz.ntmps25 (rs := [.cell 6 37, .tmp 7]) rfl (by decide +kernel) (by kernel_rfl) rfl ?_
   rw [startE_eq 22 _ _ _ rfl rfl]
   simp only [go_sem, seval]
   refine call_of (hE) ?_
   simp only [go_sem, seval]
   refine call_of (hp) ?_
   simp only [go_sem, seval]
end Go.Proofs.YtbhgehhmjpipiaaGreatDoor.C12
