/- Chapter 12: the errors of states. -/
import Derived.Test.YtbhgehhmjpipiaaGreatDoorG7
set_option linter.unusedSimpArgs false
set_option linter.unusedVariables false
namespace Go.Proofs.YtbhgehhmjpipiaaGreatDoor.C12
open Go Go.Proofs Go.Proofs.YtbhgehhmjpipiaaGreatDoor.Ab Go.Proofs.YtbhgehhmjpipiaaGreatDoor.C10
set_option maxRecDepth 100000
attribute [local congr] ite_ctx
theorem nth_map' {α β : Type} [Inhabited α] [Inhabited β] (f : α → β) {l : List α} {j : Nat} (h : j < l.length) : nth (l.map f) j = f (nth l j) := by
 show (l.map f).getD j default = f (l.getD j default)
 simp [List.getD_eq_getElem?_getD, h]
theorem stateErr_good (c : Case) (s : St) (hs : Fit c.sec) (hu : c.users.length ≤ 1000) (hS : SmallSt s) : Ans Tryz.prog 42 [.agg (encCase c), .agg (encSt s)] (.int .i64 (stE c s).2) := by
 have h := CheckState_good c s hs hu hS
 generalize stE c s = R at h
 refine good_run [] mixed Tryz.func42 rfl Tryz.ntmps42 (rs := [.tmp 4]) rfl (by decide +kernel) (by kernel_rfl) rfl ?_
 rw [startE_eq 14 _ _ _ rfl rfl]
 simp only [go_sem, seval]
 refine call_of (h) ?_
 simp only [go_sem, seval]
end Go.Proofs.YtbhgehhmjpipiaaGreatDoor.C12
