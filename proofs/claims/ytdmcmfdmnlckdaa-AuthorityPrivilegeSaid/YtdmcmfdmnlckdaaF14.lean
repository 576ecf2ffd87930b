/- Chapter 10: the examples; the first law. -/
import Derived.Test.YtdmcmfdmnlckdaaF13
namespace Go.Proofs.Ytdmcmfdmnlckdaa.C10
open Go Go.Proofs Go.Proofs.Ytdmcmfdmnlckdaa.Ab
set_option linter.unusedSimpArgs false
attribute [local congr] ite_ctx

def nANN : ByteArray := ⟨#[65, 78, 78]⟩
def nSTAFF : ByteArray := ⟨#[83, 84, 65, 70, 70]⟩
def nOWNER : ByteArray := ⟨#[79, 87, 78, 69, 82]⟩
def staff : Sec := ⟨[⟨nANN, [nSTAFF], 0⟩, ⟨nOWNER, [], 0⟩, ⟨nSTAFF, [], 0⟩], [], [⟨⟨⟨#[65, 80, 80]⟩, ⟨#[68, 65, 84, 65]⟩, 4⟩, nOWNER, [⟨nSTAFF, 32⟩], ⟨#[]⟩, 0, false⟩]⟩
def staffRaw : AV := .agg [.sl [[.str nANN, .sl [[.str nSTAFF]], .int .i64 0], [.str nOWNER, .nils, .int .i64 0], [.str nSTAFF, .nils, .int .i64 0]], .nils,
  .sl [[.str ⟨#[65, 80, 80]⟩, .str ⟨#[68, 65, 84, 65]⟩, .int .i64 4, .str nOWNER, .sl [[.str nSTAFF, .int .i64 32]], .str ⟨#[]⟩, .int .i64 0, .bool false]]]

theorem staff_raw : Ans Try.prog 57 [] staffRaw := by
  refine good_run [] mixed Try.func57 rfl Try.ntmps57 (rs := [.cell 0 26]) rfl (by decide +kernel) (by kernel_rfl) rfl ?_
  rw [startE_eq 12 _ _ _ rfl rfl]
  set_option maxRecDepth 100000 in simp (maxSteps := 10000000) only [go_sem, Nat.reduceAdd, Nat.reduceSub, Nat.reduceMul, Nat.reduceLT, Nat.reduceLeDiff, Nat.reduceEqDiff, Nat.reduceMod, Nat.reduceDiv, Int.reduceNeg, Int.reduceLE, Int.reduceLT, Int.reduceToNat, Int.reduceEq, Int.reduceNe, ↓reduceIte]
  rfl
theorem staff_le : AVle staffRaw (.agg (encSec staff)) := by
  have l0 : CellsLe [.str nANN, .sl [[.str nSTAFF]], .int .i64 0] (encProf ⟨nANN, [nSTAFF], 0⟩) := .refl _
  have l1 : CellsLe [.str nOWNER, .nils, .int .i64 0] (encProf ⟨nOWNER, [], 0⟩) := .cons (.refl _) (.cons .nils (.cons (.refl _) .nil))
  have l2 : CellsLe [.str nSTAFF, .nils, .int .i64 0] (encProf ⟨nSTAFF, [], 0⟩) := .cons (.refl _) (.cons .nils (.cons (.refl _) .nil))
  exact .agg' (.cons (.sl' (.cons l0 (.cons l1 (.cons l2 .nil)))) (.cons .nils (.cons (.refl _) .nil)))
theorem Staff_good : Ans Try.prog 57 [] (.agg (encSec staff)) := staff_raw.le staff_le rfl
theorem staff_fit : Fit staff := ⟨by decide, by decide, by decide, by simp [staff], by simp [staff], by simp [staff]⟩

deriving instance DecidableEq for Found

theorem staff_a : AuthorityOfP staff nANN 0 = (⟨32, 5, nSTAFF⟩, 0) := by decide +kernel
def staffReq : Req := ⟨nANN, [nOWNER], 0, 256⟩
theorem staff_b : AccessP staff staffReq = (⟨1023, 7, nOWNER⟩, true) := by decide +kernel
theorem staff_c : accErr staff staffReq = 0 := by decide +kernel

set_option maxHeartbeats 4000000 in
theorem awake_good : Ans Try.prog 15 [] (.bool true) := by
  have ha := AuthorityOf_good staff nANN 0 staff_fit
  rw [staff_a] at ha
  have hb := Access_good staff staffReq staff_fit (by decide)
  rw [staff_b, staff_c] at hb
  refine good_run [] mixed Try.func15 rfl Try.ntmps15 (rs := [.tmp 0]) rfl (by decide +kernel) (by kernel_rfl) rfl ?_
  rw [startE_eq 43 _ _ _ rfl rfl]
  set_option maxRecDepth 100000 in simp (maxSteps := 10000000) only [go_sem, Nat.reduceAdd, Nat.reduceSub, Nat.reduceMul, Nat.reduceLT, Nat.reduceLeDiff, Nat.reduceEqDiff, Nat.reduceMod, Nat.reduceDiv, Int.reduceNeg, Int.reduceLE, Int.reduceLT, Int.reduceToNat, Int.reduceEq, Int.reduceNe, ↓reduceIte]
  refine call_of (Staff_good) ?_
  set_option maxRecDepth 100000 in simp (maxSteps := 10000000) only [go_sem, Nat.reduceAdd, Nat.reduceSub, Nat.reduceMul, Nat.reduceLT, Nat.reduceLeDiff, Nat.reduceEqDiff, Nat.reduceMod, Nat.reduceDiv, Int.reduceNeg, Int.reduceLE, Int.reduceLT, Int.reduceToNat, Int.reduceEq, Int.reduceNe, ↓reduceIte]
  refine call_of (ha) ?_
  set_option maxRecDepth 100000 in simp (maxSteps := 10000000) only [go_sem, Nat.reduceAdd, Nat.reduceSub, Nat.reduceMul, Nat.reduceLT, Nat.reduceLeDiff, Nat.reduceEqDiff, Nat.reduceMod, Nat.reduceDiv, Int.reduceNeg, Int.reduceLE, Int.reduceLT, Int.reduceToNat, Int.reduceEq, Int.reduceNe, ↓reduceIte]
  refine call_of (Staff_good) ?_
  set_option maxRecDepth 100000 in simp (maxSteps := 10000000) only [go_sem, Nat.reduceAdd, Nat.reduceSub, Nat.reduceMul, Nat.reduceLT, Nat.reduceLeDiff, Nat.reduceEqDiff, Nat.reduceMod, Nat.reduceDiv, Int.reduceNeg, Int.reduceLE, Int.reduceLT, Int.reduceToNat, Int.reduceEq, Int.reduceNe, ↓reduceIte]
  refine call_of (hb) ?_
  set_option maxRecDepth 100000 in simp (maxSteps := 10000000) only [go_sem, Nat.reduceAdd, Nat.reduceSub, Nat.reduceMul, Nat.reduceLT, Nat.reduceLeDiff, Nat.reduceEqDiff, Nat.reduceMod, Nat.reduceDiv, Int.reduceNeg, Int.reduceLE, Int.reduceLT, Int.reduceToNat, Int.reduceEq, Int.reduceNe, ↓reduceIte,  eq_self, nSTAFF, nOWNER]


theorem Err_good (s : Sec) (hs : Fit s) : Ans Try.prog 21 [.agg (encSec s)] (.int .i64 (secE s).2) := by
  refine good_run [] mixed Try.func21 rfl Try.ntmps21 (rs := [.tmp 2]) rfl (by decide +kernel) (by kernel_rfl) rfl ?_
  rw [startE_eq 11 _ _ _ rfl rfl]
  set_option maxRecDepth 100000 in simp (maxSteps := 10000000) only [go_sem, Nat.reduceAdd, Nat.reduceSub, Nat.reduceMul, Nat.reduceLT, Nat.reduceLeDiff, Nat.reduceEqDiff, Nat.reduceMod, Nat.reduceDiv, Int.reduceNeg, Int.reduceLE, Int.reduceLT, Int.reduceToNat, Int.reduceEq, Int.reduceNe, ↓reduceIte]
  refine call_of (Check_good s hs) ?_
  set_option maxRecDepth 100000 in simp (maxSteps := 10000000) only [go_sem, Nat.reduceAdd, Nat.reduceSub, Nat.reduceMul, Nat.reduceLT, Nat.reduceLeDiff, Nat.reduceEqDiff, Nat.reduceMod, Nat.reduceDiv, Int.reduceNeg, Int.reduceLE, Int.reduceLT, Int.reduceToNat, Int.reduceEq, Int.reduceNe, ↓reduceIte]

set_option maxHeartbeats 4000000 in
theorem AuthorityChecks_good (s : Sec) : Ans Try.prog 3 [.agg (encSec s)] (.bool true) := by
  refine good_run [] mixed Try.func3 rfl Try.ntmps3 (rs := [.tmp 2]) rfl (by decide +kernel) (by kernel_rfl) rfl ?_
  rw [startE_eq 31 _ _ _ rfl rfl]
  set_option maxRecDepth 100000 in simp (maxSteps := 10000000) only [go_sem, Nat.reduceAdd, Nat.reduceSub, Nat.reduceMul, Nat.reduceLT, Nat.reduceLeDiff, Nat.reduceEqDiff, Nat.reduceMod, Nat.reduceDiv, Int.reduceNeg, Int.reduceLE, Int.reduceLT, Int.reduceToNat, Int.reduceEq, Int.reduceNe, ↓reduceIte]
  refine call_of (awake_good) ?_
  set_option maxRecDepth 100000 in simp (maxSteps := 10000000) only [go_sem, Nat.reduceAdd, Nat.reduceSub, Nat.reduceMul, Nat.reduceLT, Nat.reduceLeDiff, Nat.reduceEqDiff, Nat.reduceMod, Nat.reduceDiv, Int.reduceNeg, Int.reduceLE, Int.reduceLT, Int.reduceToNat, Int.reduceEq, Int.reduceNe, ↓reduceIte,  Bool.not_true]
  refine call_of (Few_good s) ?_
  set_option maxRecDepth 100000 in simp (maxSteps := 10000000) only [go_sem, Nat.reduceAdd, Nat.reduceSub, Nat.reduceMul, Nat.reduceLT, Nat.reduceLeDiff, Nat.reduceEqDiff, Nat.reduceMod, Nat.reduceDiv, Int.reduceNeg, Int.reduceLE, Int.reduceLT, Int.reduceToNat, Int.reduceEq, Int.reduceNe, ↓reduceIte]
  refine ifI (fun h => ?_) fun h => ?_
  · set_option maxRecDepth 100000 in simp (maxSteps := 10000000) only [go_sem, Nat.reduceAdd, Nat.reduceSub, Nat.reduceMul, Nat.reduceLT, Nat.reduceLeDiff, Nat.reduceEqDiff, Nat.reduceMod, Nat.reduceDiv, Int.reduceNeg, Int.reduceLE, Int.reduceLT, Int.reduceToNat, Int.reduceEq, Int.reduceNe, ↓reduceIte]
  have hs : Fit s := few_fit (by simpa using h)
  set_option maxRecDepth 100000 in simp (maxSteps := 10000000) only [go_sem, Nat.reduceAdd, Nat.reduceSub, Nat.reduceMul, Nat.reduceLT, Nat.reduceLeDiff, Nat.reduceEqDiff, Nat.reduceMod, Nat.reduceDiv, Int.reduceNeg, Int.reduceLE, Int.reduceLT, Int.reduceToNat, Int.reduceEq, Int.reduceNe, ↓reduceIte]
  refine call_of (Own_good s hs) ?_
  set_option maxRecDepth 100000 in simp (maxSteps := 10000000) only [go_sem, Nat.reduceAdd, Nat.reduceSub, Nat.reduceMul, Nat.reduceLT, Nat.reduceLeDiff, Nat.reduceEqDiff, Nat.reduceMod, Nat.reduceDiv, Int.reduceNeg, Int.reduceLE, Int.reduceLT, Int.reduceToNat, Int.reduceEq, Int.reduceNe, ↓reduceIte]
  refine call_of (CheckSecurity_good s hs) ?_
  set_option maxRecDepth 100000 in simp (maxSteps := 10000000) only [go_sem, Nat.reduceAdd, Nat.reduceSub, Nat.reduceMul, Nat.reduceLT, Nat.reduceLeDiff, Nat.reduceEqDiff, Nat.reduceMod, Nat.reduceDiv, Int.reduceNeg, Int.reduceLE, Int.reduceLT, Int.reduceToNat, Int.reduceEq, Int.reduceNe, ↓reduceIte]
  refine call_of (Check_good s hs) ?_
  set_option maxRecDepth 100000 in simp (maxSteps := 10000000) only [go_sem, Nat.reduceAdd, Nat.reduceSub, Nat.reduceMul, Nat.reduceLT, Nat.reduceLeDiff, Nat.reduceEqDiff, Nat.reduceMod, Nat.reduceDiv, Int.reduceNeg, Int.reduceLE, Int.reduceLT, Int.reduceToNat, Int.reduceEq, Int.reduceNe, ↓reduceIte]
end Go.Proofs.Ytdmcmfdmnlckdaa.C10
