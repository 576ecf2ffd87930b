/- Chapter 8: creation and destruction. -/
import Derived.Test.YtcmnbfpcomcejaaC11
namespace Go.Proofs.Ytcmnbfpcomcejaa.C08
open Go Go.Proofs Go.Proofs.Ytcmnbfpcomcejaa.Ab
set_option linter.unusedSimpArgs false
attribute [local congr] ite_ctx

def createE (d : Dir) (o : Obj) : Int :=
  if ¬ (dirE d).2 = 0 then (dirE d).2 else if ¬ errObj o = 0 then errObj o else if ¬ o.seg = 0 then 5 else if hasLib d.objects o.name.lib = false then 11
  else if 0 ≤ placeIx d.objects o.name then 12 else if d.objects.length = 40 ∨ 9999 < d.next then 30 else 0
def noDir : Dir := ⟨[], 0⟩
def createP (d : Dir) (o : Obj) : Dir := if createE d o = 0 then ⟨sortO (d.objects ++ [{ o with seg := d.next }]), d.next + 1⟩ else noDir

theorem dirE_ok {d : Dir} (h : (dirE d).2 = 0) : d.objects.length ≤ 40 ∧ 1 ≤ d.next ∧ d.next ≤ 10000 := by
  rw [dirE] at h
  split at h
  · cases h
  split at h
  · cases h
  omega

set_option maxHeartbeats 4000000 in
theorem Create_good (d : Dir) (o : Obj) (h : d.objects.length ≤ 1000000) : Ans Try.prog 25 [.agg (encDir d), .agg (encObj o)] (.tup [.agg (encDir (createP d o)), .int .i64 (createE d o)]) := by
  refine Classical.byCases (fun hE : createE d o = 0 => ?_) fun hE => ?_
  case refine_2 =>
    rw [createP, if_neg hE]
    refine Ans.le (r := .tup [.agg [.nils, .int .i64 0], .int .i64 (createE d o)]) ?_ (.tup' (.cons (.agg' (.cons .nils (.cons (.refl _) .nil))) (.cons (.refl _) .nil))) rfl
    refine Classical.byCases (fun h1 : (dirE d).2 = 0 => ?_) fun h1 => ?_
    case refine_2 =>
      have he : createE d o = (dirE d).2 := by rw [createE, if_pos h1]
      refine good_run [] mixed Try.func25 rfl Try.ntmps25 (rs := [.cell 4 37, .tmp 5]) rfl (by decide +kernel) (by kernel_rfl) rfl ?_
      rw [startE_eq 61 _ _ _ rfl rfl]
      set_option maxRecDepth 100000 in simp (maxSteps := 10000000) only [go_sem, Nat.reduceAdd, Nat.reduceSub, Nat.reduceMul, Nat.reduceLT, Nat.reduceLeDiff, Nat.reduceEqDiff, Nat.reduceMod, Nat.reduceDiv, Int.reduceNeg, Int.reduceLE, Int.reduceLT, Int.reduceToNat, Int.reduceEq, Int.reduceNe, ↓reduceIte]
      refine call_of (CheckDirectory_good d h) ?_
      set_option maxRecDepth 100000 in simp (maxSteps := 10000000) only [go_sem, Nat.reduceAdd, Nat.reduceSub, Nat.reduceMul, Nat.reduceLT, Nat.reduceLeDiff, Nat.reduceEqDiff, Nat.reduceMod, Nat.reduceDiv, Int.reduceNeg, Int.reduceLE, Int.reduceLT, Int.reduceToNat, Int.reduceEq, Int.reduceNe, ↓reduceIte,  h1, decide_false, decide_true, not_false_eq_true]
      rw [he]
    refine Classical.byCases (fun h2 : errObj o = 0 => ?_) fun h2 => ?_
    case refine_2 =>
      have he : createE d o = errObj o := by rw [createE, if_neg (not_not_intro h1), if_pos h2]
      refine good_run [] mixed Try.func25 rfl Try.ntmps25 (rs := [.cell 4 37, .tmp 5]) rfl (by decide +kernel) (by kernel_rfl) rfl ?_
      rw [startE_eq 61 _ _ _ rfl rfl]
      set_option maxRecDepth 100000 in simp (maxSteps := 10000000) only [go_sem, Nat.reduceAdd, Nat.reduceSub, Nat.reduceMul, Nat.reduceLT, Nat.reduceLeDiff, Nat.reduceEqDiff, Nat.reduceMod, Nat.reduceDiv, Int.reduceNeg, Int.reduceLE, Int.reduceLT, Int.reduceToNat, Int.reduceEq, Int.reduceNe, ↓reduceIte]
      refine call_of (CheckDirectory_good d h) ?_
      set_option maxRecDepth 100000 in simp (maxSteps := 10000000) only [go_sem, Nat.reduceAdd, Nat.reduceSub, Nat.reduceMul, Nat.reduceLT, Nat.reduceLeDiff, Nat.reduceEqDiff, Nat.reduceMod, Nat.reduceDiv, Int.reduceNeg, Int.reduceLE, Int.reduceLT, Int.reduceToNat, Int.reduceEq, Int.reduceNe, ↓reduceIte,  h1, decide_false, decide_true, eq_self]
      refine call_of (CheckObject_good o) ?_
      set_option maxRecDepth 100000 in simp (maxSteps := 10000000) only [go_sem, Nat.reduceAdd, Nat.reduceSub, Nat.reduceMul, Nat.reduceLT, Nat.reduceLeDiff, Nat.reduceEqDiff, Nat.reduceMod, Nat.reduceDiv, Int.reduceNeg, Int.reduceLE, Int.reduceLT, Int.reduceToNat, Int.reduceEq, Int.reduceNe, ↓reduceIte,  h2, decide_false, decide_true, not_false_eq_true]
      rw [he]
    refine Classical.byCases (fun h3 : o.seg = 0 => ?_) fun h3 => ?_
    case refine_2 =>
      have he : createE d o = 5 := by rw [createE, if_neg (not_not_intro h1), if_neg (not_not_intro h2), if_pos h3]
      refine good_run [] mixed Try.func25 rfl Try.ntmps25 (rs := [.cell 4 37, .tmp 5]) rfl (by decide +kernel) (by kernel_rfl) rfl ?_
      rw [startE_eq 61 _ _ _ rfl rfl]
      set_option maxRecDepth 100000 in simp (maxSteps := 10000000) only [go_sem, Nat.reduceAdd, Nat.reduceSub, Nat.reduceMul, Nat.reduceLT, Nat.reduceLeDiff, Nat.reduceEqDiff, Nat.reduceMod, Nat.reduceDiv, Int.reduceNeg, Int.reduceLE, Int.reduceLT, Int.reduceToNat, Int.reduceEq, Int.reduceNe, ↓reduceIte]
      refine call_of (CheckDirectory_good d h) ?_
      set_option maxRecDepth 100000 in simp (maxSteps := 10000000) only [go_sem, Nat.reduceAdd, Nat.reduceSub, Nat.reduceMul, Nat.reduceLT, Nat.reduceLeDiff, Nat.reduceEqDiff, Nat.reduceMod, Nat.reduceDiv, Int.reduceNeg, Int.reduceLE, Int.reduceLT, Int.reduceToNat, Int.reduceEq, Int.reduceNe, ↓reduceIte,  h1, decide_false, decide_true, eq_self]
      refine call_of (CheckObject_good o) ?_
      set_option maxRecDepth 100000 in simp (maxSteps := 10000000) only [go_sem, Nat.reduceAdd, Nat.reduceSub, Nat.reduceMul, Nat.reduceLT, Nat.reduceLeDiff, Nat.reduceEqDiff, Nat.reduceMod, Nat.reduceDiv, Int.reduceNeg, Int.reduceLE, Int.reduceLT, Int.reduceToNat, Int.reduceEq, Int.reduceNe, ↓reduceIte,  h2, h3, decide_false, decide_true, not_false_eq_true, eq_self, not_true_eq_false]
      rw [he]
    refine Classical.byCases (fun h4 : hasLib d.objects o.name.lib = false => ?_) fun h4 => ?_
    · have he : createE d o = 11 := by rw [createE, if_neg (not_not_intro h1), if_neg (not_not_intro h2), if_neg (not_not_intro h3), if_pos h4]
      refine good_run [] mixed Try.func25 rfl Try.ntmps25 (rs := [.cell 4 37, .tmp 5]) rfl (by decide +kernel) (by kernel_rfl) rfl ?_
      rw [startE_eq 61 _ _ _ rfl rfl]
      set_option maxRecDepth 100000 in simp (maxSteps := 10000000) only [go_sem, Nat.reduceAdd, Nat.reduceSub, Nat.reduceMul, Nat.reduceLT, Nat.reduceLeDiff, Nat.reduceEqDiff, Nat.reduceMod, Nat.reduceDiv, Int.reduceNeg, Int.reduceLE, Int.reduceLT, Int.reduceToNat, Int.reduceEq, Int.reduceNe, ↓reduceIte]
      refine call_of (CheckDirectory_good d h) ?_
      set_option maxRecDepth 100000 in simp (maxSteps := 10000000) only [go_sem, Nat.reduceAdd, Nat.reduceSub, Nat.reduceMul, Nat.reduceLT, Nat.reduceLeDiff, Nat.reduceEqDiff, Nat.reduceMod, Nat.reduceDiv, Int.reduceNeg, Int.reduceLE, Int.reduceLT, Int.reduceToNat, Int.reduceEq, Int.reduceNe, ↓reduceIte,  h1, decide_false, decide_true, eq_self]
      refine call_of (CheckObject_good o) ?_
      set_option maxRecDepth 100000 in simp (maxSteps := 10000000) only [go_sem, Nat.reduceAdd, Nat.reduceSub, Nat.reduceMul, Nat.reduceLT, Nat.reduceLeDiff, Nat.reduceEqDiff, Nat.reduceMod, Nat.reduceDiv, Int.reduceNeg, Int.reduceLE, Int.reduceLT, Int.reduceToNat, Int.reduceEq, Int.reduceNe, ↓reduceIte,  h2, h3, decide_false, decide_true, not_false_eq_true, eq_self, not_true_eq_false]
      refine call_of (exists_good d o.name.lib h) ?_
      set_option maxRecDepth 100000 in simp (maxSteps := 10000000) only [go_sem, Nat.reduceAdd, Nat.reduceSub, Nat.reduceMul, Nat.reduceLT, Nat.reduceLeDiff, Nat.reduceEqDiff, Nat.reduceMod, Nat.reduceDiv, Int.reduceNeg, Int.reduceLE, Int.reduceLT, Int.reduceToNat, Int.reduceEq, Int.reduceNe, ↓reduceIte,  h4, Bool.not_false]
      rw [he]
    have h4' : hasLib d.objects o.name.lib = true := by simpa using h4
    refine Classical.byCases (fun h5 : 0 ≤ placeIx d.objects o.name => ?_) fun h5 => ?_
    · have he : createE d o = 12 := by rw [createE, if_neg (not_not_intro h1), if_neg (not_not_intro h2), if_neg (not_not_intro h3), if_neg h4, if_pos h5]
      refine good_run [] mixed Try.func25 rfl Try.ntmps25 (rs := [.cell 4 37, .tmp 5]) rfl (by decide +kernel) (by kernel_rfl) rfl ?_
      rw [startE_eq 61 _ _ _ rfl rfl]
      set_option maxRecDepth 100000 in simp (maxSteps := 10000000) only [go_sem, Nat.reduceAdd, Nat.reduceSub, Nat.reduceMul, Nat.reduceLT, Nat.reduceLeDiff, Nat.reduceEqDiff, Nat.reduceMod, Nat.reduceDiv, Int.reduceNeg, Int.reduceLE, Int.reduceLT, Int.reduceToNat, Int.reduceEq, Int.reduceNe, ↓reduceIte]
      refine call_of (CheckDirectory_good d h) ?_
      set_option maxRecDepth 100000 in simp (maxSteps := 10000000) only [go_sem, Nat.reduceAdd, Nat.reduceSub, Nat.reduceMul, Nat.reduceLT, Nat.reduceLeDiff, Nat.reduceEqDiff, Nat.reduceMod, Nat.reduceDiv, Int.reduceNeg, Int.reduceLE, Int.reduceLT, Int.reduceToNat, Int.reduceEq, Int.reduceNe, ↓reduceIte,  h1, decide_false, decide_true, eq_self]
      refine call_of (CheckObject_good o) ?_
      set_option maxRecDepth 100000 in simp (maxSteps := 10000000) only [go_sem, Nat.reduceAdd, Nat.reduceSub, Nat.reduceMul, Nat.reduceLT, Nat.reduceLeDiff, Nat.reduceEqDiff, Nat.reduceMod, Nat.reduceDiv, Int.reduceNeg, Int.reduceLE, Int.reduceLT, Int.reduceToNat, Int.reduceEq, Int.reduceNe, ↓reduceIte,  h2, h3, decide_false, decide_true, not_false_eq_true, eq_self, not_true_eq_false]
      refine call_of (exists_good d o.name.lib h) ?_
      set_option maxRecDepth 100000 in simp (maxSteps := 10000000) only [go_sem, Nat.reduceAdd, Nat.reduceSub, Nat.reduceMul, Nat.reduceLT, Nat.reduceLeDiff, Nat.reduceEqDiff, Nat.reduceMod, Nat.reduceDiv, Int.reduceNeg, Int.reduceLE, Int.reduceLT, Int.reduceToNat, Int.reduceEq, Int.reduceNe, ↓reduceIte,  h4', Bool.not_true]
      refine call_of (at_good d o.name h) ?_
      set_option maxRecDepth 100000 in simp (maxSteps := 10000000) only [go_sem, Nat.reduceAdd, Nat.reduceSub, Nat.reduceMul, Nat.reduceLT, Nat.reduceLeDiff, Nat.reduceEqDiff, Nat.reduceMod, Nat.reduceDiv, Int.reduceNeg, Int.reduceLE, Int.reduceLT, Int.reduceToNat, Int.reduceEq, Int.reduceNe, ↓reduceIte,  h5, decide_true]
      rw [he]
    have h6 : d.objects.length = 40 ∨ 9999 < d.next := by
      rw [createE, if_neg (not_not_intro h1), if_neg (not_not_intro h2), if_neg (not_not_intro h3), if_neg h4, if_neg h5] at hE
      split at hE
      · assumption
      · exact absurd rfl hE
    have he : createE d o = 30 := by rw [createE, if_neg (not_not_intro h1), if_neg (not_not_intro h2), if_neg (not_not_intro h3), if_neg h4, if_neg h5, if_pos h6]
    refine good_run [] mixed Try.func25 rfl Try.ntmps25 (rs := [.cell 4 37, .tmp 5]) rfl (by decide +kernel) (by kernel_rfl) rfl ?_
    rw [startE_eq 61 _ _ _ rfl rfl]
    set_option maxRecDepth 100000 in simp (maxSteps := 10000000) only [go_sem, Nat.reduceAdd, Nat.reduceSub, Nat.reduceMul, Nat.reduceLT, Nat.reduceLeDiff, Nat.reduceEqDiff, Nat.reduceMod, Nat.reduceDiv, Int.reduceNeg, Int.reduceLE, Int.reduceLT, Int.reduceToNat, Int.reduceEq, Int.reduceNe, ↓reduceIte]
    refine call_of (CheckDirectory_good d h) ?_
    set_option maxRecDepth 100000 in simp (maxSteps := 10000000) only [go_sem, Nat.reduceAdd, Nat.reduceSub, Nat.reduceMul, Nat.reduceLT, Nat.reduceLeDiff, Nat.reduceEqDiff, Nat.reduceMod, Nat.reduceDiv, Int.reduceNeg, Int.reduceLE, Int.reduceLT, Int.reduceToNat, Int.reduceEq, Int.reduceNe, ↓reduceIte,  h1, decide_false, decide_true, eq_self]
    refine call_of (CheckObject_good o) ?_
    set_option maxRecDepth 100000 in simp (maxSteps := 10000000) only [go_sem, Nat.reduceAdd, Nat.reduceSub, Nat.reduceMul, Nat.reduceLT, Nat.reduceLeDiff, Nat.reduceEqDiff, Nat.reduceMod, Nat.reduceDiv, Int.reduceNeg, Int.reduceLE, Int.reduceLT, Int.reduceToNat, Int.reduceEq, Int.reduceNe, ↓reduceIte,  h2, h3, decide_false, decide_true, not_false_eq_true, eq_self, not_true_eq_false]
    refine call_of (exists_good d o.name.lib h) ?_
    set_option maxRecDepth 100000 in simp (maxSteps := 10000000) only [go_sem, Nat.reduceAdd, Nat.reduceSub, Nat.reduceMul, Nat.reduceLT, Nat.reduceLeDiff, Nat.reduceEqDiff, Nat.reduceMod, Nat.reduceDiv, Int.reduceNeg, Int.reduceLE, Int.reduceLT, Int.reduceToNat, Int.reduceEq, Int.reduceNe, ↓reduceIte,  h4', Bool.not_true]
    refine call_of (at_good d o.name h) ?_
    set_option maxRecDepth 100000 in simp (maxSteps := 10000000) only [go_sem, Nat.reduceAdd, Nat.reduceSub, Nat.reduceMul, Nat.reduceLT, Nat.reduceLeDiff, Nat.reduceEqDiff, Nat.reduceMod, Nat.reduceDiv, Int.reduceNeg, Int.reduceLE, Int.reduceLT, Int.reduceToNat, Int.reduceEq, Int.reduceNe, ↓reduceIte,  h5, decide_false]
    refine ifI (fun h7 => ?_) fun h7 => ?_
    · set_option maxRecDepth 100000 in simp (maxSteps := 10000000) only [go_sem, Nat.reduceAdd, Nat.reduceSub, Nat.reduceMul, Nat.reduceLT, Nat.reduceLeDiff, Nat.reduceEqDiff, Nat.reduceMod, Nat.reduceDiv, Int.reduceNeg, Int.reduceLE, Int.reduceLT, Int.reduceToNat, Int.reduceEq, Int.reduceNe, ↓reduceIte,  h7, decide_true]
      rw [he]
    · have h8 : (9999 : Int) < d.next := by omega
      set_option maxRecDepth 100000 in simp (maxSteps := 10000000) only [go_sem, Nat.reduceAdd, Nat.reduceSub, Nat.reduceMul, Nat.reduceLT, Nat.reduceLeDiff, Nat.reduceEqDiff, Nat.reduceMod, Nat.reduceDiv, Int.reduceNeg, Int.reduceLE, Int.reduceLT, Int.reduceToNat, Int.reduceEq, Int.reduceNe, ↓reduceIte,  h7, h8, decide_true, decide_false]
      rw [he]
  have h1 : (dirE d).2 = 0 := by
    rw [createE] at hE
    split at hE
    · rename_i q; exact absurd hE q
    · rename_i q; exact Classical.not_not.1 q
  have hE2 := hE
  rw [createE, if_neg (not_not_intro h1)] at hE2
  have h2 : errObj o = 0 := by
    split at hE2
    · rename_i q; exact absurd hE2 q
    · rename_i q; exact Classical.not_not.1 q
  rw [if_neg (not_not_intro h2)] at hE2
  have h3 : o.seg = 0 := by
    split at hE2
    · cases hE2
    · rename_i q; exact Classical.not_not.1 q
  rw [if_neg (not_not_intro h3)] at hE2
  have h4 : hasLib d.objects o.name.lib = true := by
    split at hE2
    · cases hE2
    · rename_i q; simpa using q
  rw [if_neg (by simp [h4])] at hE2
  have h5 : ¬ 0 ≤ placeIx d.objects o.name := by
    split at hE2
    · cases hE2
    · assumption
  rw [if_neg h5] at hE2
  have h6 : ¬ (d.objects.length = 40 ∨ 9999 < d.next) := by
    split at hE2
    · cases hE2
    · assumption
  have h7 : ¬ (d.objects.length : Int) = 40 := by omega
  have h8 : ¬ (9999 : Int) < d.next := fun q => h6 (.inr q)
  have hok := dirE_ok h1
  rw [createP, if_pos hE, hE]
  have hr : List.map encObj d.objects ++ [[.str o.name.lib, .str o.name.name, .int .i64 o.name.type, .str o.owner, .int .i64 d.next, .str o.text, .str o.content]] = List.map encObj (d.objects ++ [{ o with seg := d.next }]) := by
    rw [List.map_append]; rfl
  have hl : (d.objects ++ [{ o with seg := d.next }]).length ≤ 1000000 := by rw [List.length_append]; show _ + 1 ≤ _; omega
  have hp : 0 < (d.objects ++ [{ o with seg := d.next }]).length := by rw [List.length_append]; exact Nat.succ_pos _
  refine good_run [] mixed Try.func25 rfl Try.ntmps25 (rs := [.cell 4 37, .tmp 5]) rfl (by decide +kernel) (by kernel_rfl) rfl ?_
  rw [startE_eq 61 _ _ _ rfl rfl]
  set_option maxRecDepth 100000 in simp (maxSteps := 10000000) only [go_sem, Nat.reduceAdd, Nat.reduceSub, Nat.reduceMul, Nat.reduceLT, Nat.reduceLeDiff, Nat.reduceEqDiff, Nat.reduceMod, Nat.reduceDiv, Int.reduceNeg, Int.reduceLE, Int.reduceLT, Int.reduceToNat, Int.reduceEq, Int.reduceNe, ↓reduceIte]
  refine call_of (CheckDirectory_good d h) ?_
  set_option maxRecDepth 100000 in simp (maxSteps := 10000000) only [go_sem, Nat.reduceAdd, Nat.reduceSub, Nat.reduceMul, Nat.reduceLT, Nat.reduceLeDiff, Nat.reduceEqDiff, Nat.reduceMod, Nat.reduceDiv, Int.reduceNeg, Int.reduceLE, Int.reduceLT, Int.reduceToNat, Int.reduceEq, Int.reduceNe, ↓reduceIte,  h1, decide_false, decide_true, eq_self, not_true_eq_false]
  refine call_of (CheckObject_good o) ?_
  set_option maxRecDepth 100000 in simp (maxSteps := 10000000) only [go_sem, Nat.reduceAdd, Nat.reduceSub, Nat.reduceMul, Nat.reduceLT, Nat.reduceLeDiff, Nat.reduceEqDiff, Nat.reduceMod, Nat.reduceDiv, Int.reduceNeg, Int.reduceLE, Int.reduceLT, Int.reduceToNat, Int.reduceEq, Int.reduceNe, ↓reduceIte,  h2, h3, decide_false, decide_true, not_false_eq_true, eq_self, not_true_eq_false]
  refine call_of (exists_good d o.name.lib h) ?_
  set_option maxRecDepth 100000 in simp (maxSteps := 10000000) only [go_sem, Nat.reduceAdd, Nat.reduceSub, Nat.reduceMul, Nat.reduceLT, Nat.reduceLeDiff, Nat.reduceEqDiff, Nat.reduceMod, Nat.reduceDiv, Int.reduceNeg, Int.reduceLE, Int.reduceLT, Int.reduceToNat, Int.reduceEq, Int.reduceNe, ↓reduceIte,  h4, Bool.not_true]
  refine call_of (at_good d o.name h) ?_
  set_option maxRecDepth 100000 in simp (maxSteps := 10000000) only [go_sem, Nat.reduceAdd, Nat.reduceSub, Nat.reduceMul, Nat.reduceLT, Nat.reduceLeDiff, Nat.reduceEqDiff, Nat.reduceMod, Nat.reduceDiv, Int.reduceNeg, Int.reduceLE, Int.reduceLT, Int.reduceToNat, Int.reduceEq, Int.reduceNe, ↓reduceIte,  h5, decide_false, h7, h8]
  refine callMD_of [] [53] (CloneM d.objects h) ⟨rfl, rfl, rfl, by simp, by simp, by simp, by simp, rfl, rfl, rfl, onodup_of (l := [7]) rfl (by decide)⟩ ?_
  set_option maxRecDepth 100000 in simp (maxSteps := 10000000) only [go_sem, Nat.reduceAdd, Nat.reduceSub, Nat.reduceMul, Nat.reduceLT, Nat.reduceLeDiff, Nat.reduceEqDiff, Nat.reduceMod, Nat.reduceDiv, Int.reduceNeg, Int.reduceLE, Int.reduceLT, Int.reduceToNat, Int.reduceEq, Int.reduceNe, ↓reduceIte,  show (d.objects.length + 1) * 96 ≤ 140737488355328 by omega, show d.objects.length + 1 ≤ maxLen by unfold maxLen; omega, hr, wrap_small (show -1000000 ≤ d.next + 1 by omega) (show d.next + 1 ≤ 1000000 by omega)]
  refine callMD_of [56] [56] (sortedM (d.objects ++ [{ o with seg := d.next }]) (d.next + 1) hp hl) ⟨by simp [renA, ren1, invM, posOf, verOf, AV.cellP, Env.go], rfl, rfl, by simp, by simp [ment, ment1], by simp, by simp, rfl, rfl, rfl, onodup_of (l := [10]) rfl (by decide)⟩ ?_
  set_option maxRecDepth 100000 in simp (maxSteps := 10000000) only [go_sem, Nat.reduceAdd, Nat.reduceSub, Nat.reduceMul, Nat.reduceLT, Nat.reduceLeDiff, Nat.reduceEqDiff, Nat.reduceMod, Nat.reduceDiv, Int.reduceNeg, Int.reduceLE, Int.reduceLT, Int.reduceToNat, Int.reduceEq, Int.reduceNe, ↓reduceIte]
  decide +kernel

/-- Destruction. -/
def usedB (l : List Obj) (n : OName) : Bool := decide (n.type = 0) && l.any fun o => decide (o.name.lib = n.name)
def destroyE (d : Dir) (n : OName) : Int := if ¬ findE d n = 0 then findE d n else if usedB d.objects n = true then 26 else 0
def withoutL (l : List Obj) (i : Nat) : List Obj := l.take i ++ l.drop (i + 1)
def destroyP (d : Dir) (n : OName) : Dir := if destroyE d n = 0 then ⟨withoutL d.objects (placeIx d.objects n).toNat, d.next⟩ else noDir
theorem lib1_good (n : OName) (o : Obj) : Ans Try.prog 71 [.agg (encObj o), .ptr (encOName n)] (.bool (decide (o.name.lib = n.name))) := by
  refine good_run [] mixed Try.func71 rfl Try.ntmps71 (rs := [.tmp 3]) rfl (by decide +kernel) (by kernel_rfl) rfl ?_
  rw [startE_eq 10 _ _ _ rfl rfl]
  set_option maxRecDepth 100000 in simp (maxSteps := 10000000) only [go_sem, Nat.reduceAdd, Nat.reduceSub, Nat.reduceMul, Nat.reduceLT, Nat.reduceLeDiff, Nat.reduceEqDiff, Nat.reduceMod, Nat.reduceDiv, Int.reduceNeg, Int.reduceLE, Int.reduceLT, Int.reduceToNat, Int.reduceEq, Int.reduceNe, ↓reduceIte]
theorem findE_ok {d : Dir} {n : OName} (h : findE d n = 0) : (dirE d).2 = 0 ∧ errName n = 0 ∧ 0 ≤ placeIx d.objects n ∧ placeIx d.objects n < (d.objects.length : Int) := by
  rw [findE] at h
  split at h
  · rename_i q; exact absurd h q
  rename_i h1
  split at h
  · rename_i q; exact absurd h q
  rename_i h2
  split at h
  · cases h
  rename_i h3
  have := findIx_ge (fun o : Obj => decide (o.name = n)) d.objects 0
  unfold placeIx at h3 ⊢
  exact ⟨Classical.not_not.1 h1, Classical.not_not.1 h2, by omega, by omega⟩

set_option maxHeartbeats 4000000 in
theorem Destroy_good (d : Dir) (n : OName) (h : d.objects.length ≤ 1000000) : Ans Try.prog 26 [.agg (encDir d), .agg (encOName n)] (.tup [.agg (encDir (destroyP d n)), .int .i64 (destroyE d n)]) := by
  refine Classical.byCases (fun hE : destroyE d n = 0 => ?_) fun hE => ?_
  case refine_2 =>
    rw [destroyP, if_neg hE]
    refine Ans.le (r := .tup [.agg [.nils, .int .i64 0], .int .i64 (destroyE d n)]) ?_ (.tup' (.cons (.agg' (.cons .nils (.cons (.refl _) .nil))) (.cons (.refl _) .nil))) rfl
    refine Classical.byCases (fun h1 : findE d n = 0 => ?_) fun h1 => ?_
    case refine_2 =>
      have he : destroyE d n = findE d n := by rw [destroyE, if_pos h1]
      refine good_run [] mixed Try.func26 rfl Try.ntmps26 (rs := [.cell 4 37, .tmp 5]) rfl (by decide +kernel) (by kernel_rfl) rfl ?_
      rw [startE_eq 38 _ _ _ rfl rfl]
      set_option maxRecDepth 100000 in simp (maxSteps := 10000000) only [go_sem, Nat.reduceAdd, Nat.reduceSub, Nat.reduceMul, Nat.reduceLT, Nat.reduceLeDiff, Nat.reduceEqDiff, Nat.reduceMod, Nat.reduceDiv, Int.reduceNeg, Int.reduceLE, Int.reduceLT, Int.reduceToNat, Int.reduceEq, Int.reduceNe, ↓reduceIte]
      refine call_of (Find_good d n h) ?_
      set_option maxRecDepth 100000 in simp (maxSteps := 10000000) only [go_sem, Nat.reduceAdd, Nat.reduceSub, Nat.reduceMul, Nat.reduceLT, Nat.reduceLeDiff, Nat.reduceEqDiff, Nat.reduceMod, Nat.reduceDiv, Int.reduceNeg, Int.reduceLE, Int.reduceLT, Int.reduceToNat, Int.reduceEq, Int.reduceNe, ↓reduceIte,  h1, decide_true, not_false_eq_true]
      rw [he]
    have h2 : usedB d.objects n = true := by
      rw [destroyE, if_neg (not_not_intro h1)] at hE
      split at hE
      · assumption
      · exact absurd rfl hE
    have he : destroyE d n = 26 := by rw [destroyE, if_neg (not_not_intro h1), if_pos h2]
    rw [usedB, Bool.and_eq_true, decide_eq_true_eq] at h2
    refine good_run [] mixed Try.func26 rfl Try.ntmps26 (rs := [.cell 4 37, .tmp 5]) rfl (by decide +kernel) (by kernel_rfl) rfl ?_
    rw [startE_eq 38 _ _ _ rfl rfl]
    set_option maxRecDepth 100000 in simp (maxSteps := 10000000) only [go_sem, Nat.reduceAdd, Nat.reduceSub, Nat.reduceMul, Nat.reduceLT, Nat.reduceLeDiff, Nat.reduceEqDiff, Nat.reduceMod, Nat.reduceDiv, Int.reduceNeg, Int.reduceLE, Int.reduceLT, Int.reduceToNat, Int.reduceEq, Int.reduceNe, ↓reduceIte]
    refine call_of (Find_good d n h) ?_
    set_option maxRecDepth 100000 in simp (maxSteps := 10000000) only [go_sem, Nat.reduceAdd, Nat.reduceSub, Nat.reduceMul, Nat.reduceLT, Nat.reduceLeDiff, Nat.reduceEqDiff, Nat.reduceMod, Nat.reduceDiv, Int.reduceNeg, Int.reduceLE, Int.reduceLT, Int.reduceToNat, Int.reduceEq, Int.reduceNe, ↓reduceIte,  h1, h2.1, decide_true, not_true_eq_false, decide_false]
    refine call_of (ContainsO_good (lib1_good ⟨n.lib, n.name, 0⟩) d.objects h) ?_
    set_option maxRecDepth 100000 in simp (maxSteps := 10000000) only [go_sem, Nat.reduceAdd, Nat.reduceSub, Nat.reduceMul, Nat.reduceLT, Nat.reduceLeDiff, Nat.reduceEqDiff, Nat.reduceMod, Nat.reduceDiv, Int.reduceNeg, Int.reduceLE, Int.reduceLT, Int.reduceToNat, Int.reduceEq, Int.reduceNe, ↓reduceIte,  h2.2]
    rw [he]
  have h1 : findE d n = 0 := by
    rw [destroyE] at hE
    split at hE
    · rename_i q; exact absurd hE q
    · rename_i q; exact Classical.not_not.1 q
  have h2 : ¬ usedB d.objects n = true := by
    rw [destroyE, if_neg (not_not_intro h1)] at hE
    split at hE
    · cases hE
    · assumption
  have hok := findE_ok h1
  have hd := dirE_ok hok.1
  rw [destroyP, if_pos hE, hE]
  have hfp : findP d n = placeIx d.objects n := by rw [findP, if_pos h1]
  generalize hx : placeIx d.objects n = x at *
  obtain ⟨i, rfl⟩ : ∃ i : Nat, x = (i : Int) := ⟨x.toNat, by omega⟩
  have hi : i < d.objects.length := by omega
  rw [Int.toNat_natCast]
  refine good_run [] mixed Try.func26 rfl Try.ntmps26 (rs := [.cell 4 37, .tmp 5]) rfl (by decide +kernel) (by kernel_rfl) rfl ?_
  rw [startE_eq 38 _ _ _ rfl rfl]
  set_option maxRecDepth 100000 in simp (maxSteps := 10000000) only [go_sem, Nat.reduceAdd, Nat.reduceSub, Nat.reduceMul, Nat.reduceLT, Nat.reduceLeDiff, Nat.reduceEqDiff, Nat.reduceMod, Nat.reduceDiv, Int.reduceNeg, Int.reduceLE, Int.reduceLT, Int.reduceToNat, Int.reduceEq, Int.reduceNe, ↓reduceIte]
  refine call_of (Find_good d n h) ?_
  set_option maxRecDepth 100000 in simp (maxSteps := 10000000) only [go_sem, Nat.reduceAdd, Nat.reduceSub, Nat.reduceMul, Nat.reduceLT, Nat.reduceLeDiff, Nat.reduceEqDiff, Nat.reduceMod, Nat.reduceDiv, Int.reduceNeg, Int.reduceLE, Int.reduceLT, Int.reduceToNat, Int.reduceEq, Int.reduceNe, ↓reduceIte,  h1, hfp, decide_true, not_true_eq_false, decide_false]
  refine ifI (fun h3 => ?_) fun h3 => ?_
  · have h4 : (d.objects.any fun o => decide (o.name.lib = n.name)) = false := by
      rw [Bool.eq_false_iff]; intro q; apply h2; rw [usedB, h3, q]; rfl
    set_option maxRecDepth 100000 in simp (maxSteps := 10000000) only [go_sem, Nat.reduceAdd, Nat.reduceSub, Nat.reduceMul, Nat.reduceLT, Nat.reduceLeDiff, Nat.reduceEqDiff, Nat.reduceMod, Nat.reduceDiv, Int.reduceNeg, Int.reduceLE, Int.reduceLT, Int.reduceToNat, Int.reduceEq, Int.reduceNe, ↓reduceIte,  h3]
    refine call_of (ContainsO_good (lib1_good ⟨n.lib, n.name, 0⟩) d.objects h) ?_
    set_option maxRecDepth 100000 in simp (maxSteps := 10000000) only [go_sem, Nat.reduceAdd, Nat.reduceSub, Nat.reduceMul, Nat.reduceLT, Nat.reduceLeDiff, Nat.reduceEqDiff, Nat.reduceMod, Nat.reduceDiv, Int.reduceNeg, Int.reduceLE, Int.reduceLT, Int.reduceToNat, Int.reduceEq, Int.reduceNe, ↓reduceIte,  h4]
    refine callMD_of [] [30] (CloneM d.objects h) ⟨rfl, rfl, rfl, by simp, by simp, by simp, by simp, rfl, rfl, rfl, onodup_of (l := [7]) rfl (by decide)⟩ ?_
    set_option maxRecDepth 100000 in simp (maxSteps := 10000000) only [go_sem, Nat.reduceAdd, Nat.reduceSub, Nat.reduceMul, Nat.reduceLT, Nat.reduceLeDiff, Nat.reduceEqDiff, Nat.reduceMod, Nat.reduceDiv, Int.reduceNeg, Int.reduceLE, Int.reduceLT, Int.reduceToNat, Int.reduceEq, Int.reduceNe, ↓reduceIte,  wrap_succ (show i < 9223372036854775807 by omega)]
    refine callMD_of [30] [30] (DeleteO d.objects i (i + 1) (Nat.lt_succ_self i) hi) ⟨by simp [renA, ren1, invM, posOf, verOf, AV.cellP, Env.go], rfl, rfl, by simp, by simp [ment, ment1], by simp, by simp, rfl, rfl, rfl, onodup_of (l := [33]) rfl (by decide)⟩ ?_
    set_option maxRecDepth 100000 in simp (maxSteps := 10000000) only [go_sem, Nat.reduceAdd, Nat.reduceSub, Nat.reduceMul, Nat.reduceLT, Nat.reduceLeDiff, Nat.reduceEqDiff, Nat.reduceMod, Nat.reduceDiv, Int.reduceNeg, Int.reduceLE, Int.reduceLT, Int.reduceToNat, Int.reduceEq, Int.reduceNe, ↓reduceIte]
    refine ⟨by decide +kernel, ?_⟩
    simp [withoutL]
  · set_option maxRecDepth 100000 in simp (maxSteps := 10000000) only [go_sem, Nat.reduceAdd, Nat.reduceSub, Nat.reduceMul, Nat.reduceLT, Nat.reduceLeDiff, Nat.reduceEqDiff, Nat.reduceMod, Nat.reduceDiv, Int.reduceNeg, Int.reduceLE, Int.reduceLT, Int.reduceToNat, Int.reduceEq, Int.reduceNe, ↓reduceIte,  h3]
    refine callMD_of [] [30] (CloneM d.objects h) ⟨rfl, rfl, rfl, by simp, by simp, by simp, by simp, rfl, rfl, rfl, onodup_of (l := [7]) rfl (by decide)⟩ ?_
    set_option maxRecDepth 100000 in simp (maxSteps := 10000000) only [go_sem, Nat.reduceAdd, Nat.reduceSub, Nat.reduceMul, Nat.reduceLT, Nat.reduceLeDiff, Nat.reduceEqDiff, Nat.reduceMod, Nat.reduceDiv, Int.reduceNeg, Int.reduceLE, Int.reduceLT, Int.reduceToNat, Int.reduceEq, Int.reduceNe, ↓reduceIte,  wrap_succ (show i < 9223372036854775807 by omega)]
    refine callMD_of [30] [30] (DeleteO d.objects i (i + 1) (Nat.lt_succ_self i) hi) ⟨by simp [renA, ren1, invM, posOf, verOf, AV.cellP, Env.go], rfl, rfl, by simp, by simp [ment, ment1], by simp, by simp, rfl, rfl, rfl, onodup_of (l := [33]) rfl (by decide)⟩ ?_
    set_option maxRecDepth 100000 in simp (maxSteps := 10000000) only [go_sem, Nat.reduceAdd, Nat.reduceSub, Nat.reduceMul, Nat.reduceLT, Nat.reduceLeDiff, Nat.reduceEqDiff, Nat.reduceMod, Nat.reduceDiv, Int.reduceNeg, Int.reduceLE, Int.reduceLT, Int.reduceToNat, Int.reduceEq, Int.reduceNe, ↓reduceIte]
    refine ⟨by decide +kernel, ?_⟩
    simp [withoutL]
end Go.Proofs.Ytcmnbfpcomcejaa.C08
