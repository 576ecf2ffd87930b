/- Chapter 8: actions. -/
import Derived.Test.YtcmnbfpcomcejaaC21
namespace Go.Proofs.Ytcmnbfpcomcejaa.C08
open Go Go.Proofs Go.Proofs.Ytcmnbfpcomcejaa.Ab
set_option linter.unusedSimpArgs false
attribute [local congr] ite_ctx

set_option maxHeartbeats 4000000 in
theorem RefRename_good (d : Dir) (o : Obj) (s : ByteArray) (h : d.objects.length ≤ 1000000) : Ans Try.prog 27 [.agg (encDir d), .agg (encAction ⟨2, o, s⟩)] (.tup [.agg (encDir (renameP d o.name s)), .int .i64 (renameE d o.name s)]) := by
  refine Classical.byCases (fun h1 : (dirE d).2 = 0 => ?_) fun h1 => ?_
  case refine_2 =>
    have hf := foundE_dir (n := o.name) (k := 0) h1
    have he : renameE d o.name s = (dirE d).2 := by rw [renameE, hf, if_pos h1]
    rw [renameP, if_neg (by rw [he]; exact h1), he]
    refine Ans.le (r := .tup [.agg [.nils, .int .i64 0], .int .i64 (dirE d).2]) ?_ (le_noDir _) rfl
    refine good_run [] mixed Try.func27 rfl Try.ntmps27 (rs := [.cell 4 37, .tmp 5]) rfl (by decide +kernel) (by kernel_rfl) rfl ?_
    rw [startE_eq 97 _ _ _ rfl rfl]
    set_option maxRecDepth 100000 in simp (maxSteps := 10000000) only [go_sem, Nat.reduceAdd, Nat.reduceSub, Nat.reduceMul, Nat.reduceLT, Nat.reduceLeDiff, Nat.reduceEqDiff, Nat.reduceMod, Nat.reduceDiv, Int.reduceNeg, Int.reduceLE, Int.reduceLT, Int.reduceToNat, Int.reduceEq, Int.reduceNe, ↓reduceIte]
    refine call_of (Err_good d h) ?_
    set_option maxRecDepth 100000 in simp (maxSteps := 10000000) only [go_sem, Nat.reduceAdd, Nat.reduceSub, Nat.reduceMul, Nat.reduceLT, Nat.reduceLeDiff, Nat.reduceEqDiff, Nat.reduceMod, Nat.reduceDiv, Int.reduceNeg, Int.reduceLE, Int.reduceLT, Int.reduceToNat, Int.reduceEq, Int.reduceNe, ↓reduceIte,  h1, decide_false, decide_true, not_false_eq_true]
  refine Classical.byCases (fun h2 : findE d o.name = 0 => ?_) fun h2 => ?_
  case refine_2 =>
    have hf := foundE_find (k := 0) h2
    have he : renameE d o.name s = findE d o.name := by rw [renameE, hf, if_pos h2]
    rw [renameP, if_neg (by rw [he]; exact h2), he]
    refine Ans.le (r := .tup [.agg [.nils, .int .i64 0], .int .i64 (findE d o.name)]) ?_ (le_noDir _) rfl
    refine good_run [] mixed Try.func27 rfl Try.ntmps27 (rs := [.cell 4 37, .tmp 5]) rfl (by decide +kernel) (by kernel_rfl) rfl ?_
    rw [startE_eq 97 _ _ _ rfl rfl]
    set_option maxRecDepth 100000 in simp (maxSteps := 10000000) only [go_sem, Nat.reduceAdd, Nat.reduceSub, Nat.reduceMul, Nat.reduceLT, Nat.reduceLeDiff, Nat.reduceEqDiff, Nat.reduceMod, Nat.reduceDiv, Int.reduceNeg, Int.reduceLE, Int.reduceLT, Int.reduceToNat, Int.reduceEq, Int.reduceNe, ↓reduceIte]
    refine call_of (Err_good d h) ?_
    set_option maxRecDepth 100000 in simp (maxSteps := 10000000) only [go_sem, Nat.reduceAdd, Nat.reduceSub, Nat.reduceMul, Nat.reduceLT, Nat.reduceLeDiff, Nat.reduceEqDiff, Nat.reduceMod, Nat.reduceDiv, Int.reduceNeg, Int.reduceLE, Int.reduceLT, Int.reduceToNat, Int.reduceEq, Int.reduceNe, ↓reduceIte,  h1, decide_false, decide_true, not_false_eq_true, not_true_eq_false, eq_self]
    refine call_of (Within_good 2 0 4) ?_
    set_option maxRecDepth 100000 in simp (maxSteps := 10000000) only [go_sem, Nat.reduceAdd, Nat.reduceSub, Nat.reduceMul, Nat.reduceLT, Nat.reduceLeDiff, Nat.reduceEqDiff, Nat.reduceMod, Nat.reduceDiv, Int.reduceNeg, Int.reduceLE, Int.reduceLT, Int.reduceToNat, Int.reduceEq, Int.reduceNe, ↓reduceIte,  show inB 2 0 4 = true from by decide, Bool.not_true]
    refine call_of (FindErr_good d o.name h) ?_
    set_option maxRecDepth 100000 in simp (maxSteps := 10000000) only [go_sem, Nat.reduceAdd, Nat.reduceSub, Nat.reduceMul, Nat.reduceLT, Nat.reduceLeDiff, Nat.reduceEqDiff, Nat.reduceMod, Nat.reduceDiv, Int.reduceNeg, Int.reduceLE, Int.reduceLT, Int.reduceToNat, Int.reduceEq, Int.reduceNe, ↓reduceIte,  h2, decide_false, decide_true, not_false_eq_true, not_true_eq_false]
  obtain ⟨t, ht, htt⟩ := errName_type (findE_ok h2).2.1
  have r3 := RenameErr_good d o.name t ht htt s h
  have hE : renameE d o.name s = if permR t 0 = false then 39 else renameE2 d o.name s := by
    rw [renameE, foundE, if_neg (not_not_intro h2), htt, Int.toNat_natCast]
    by_cases q : permR t 0 = false
    · rw [if_pos q, if_pos (by decide), if_pos q]
    · rw [if_neg q, if_neg (by decide), if_neg q]
  rw [← hE] at r3
  refine Classical.byCases (fun h3 : renameE d o.name s = 0 => ?_) fun h3 => ?_
  case refine_2 =>
    rw [renameP, if_neg h3]
    refine Ans.le (r := .tup [.agg [.nils, .int .i64 0], .int .i64 (renameE d o.name s)]) ?_ (le_noDir _) rfl
    refine good_run [] mixed Try.func27 rfl Try.ntmps27 (rs := [.cell 4 37, .tmp 5]) rfl (by decide +kernel) (by kernel_rfl) rfl ?_
    rw [startE_eq 97 _ _ _ rfl rfl]
    set_option maxRecDepth 100000 in simp (maxSteps := 10000000) only [go_sem, Nat.reduceAdd, Nat.reduceSub, Nat.reduceMul, Nat.reduceLT, Nat.reduceLeDiff, Nat.reduceEqDiff, Nat.reduceMod, Nat.reduceDiv, Int.reduceNeg, Int.reduceLE, Int.reduceLT, Int.reduceToNat, Int.reduceEq, Int.reduceNe, ↓reduceIte]
    refine call_of (Err_good d h) ?_
    set_option maxRecDepth 100000 in simp (maxSteps := 10000000) only [go_sem, Nat.reduceAdd, Nat.reduceSub, Nat.reduceMul, Nat.reduceLT, Nat.reduceLeDiff, Nat.reduceEqDiff, Nat.reduceMod, Nat.reduceDiv, Int.reduceNeg, Int.reduceLE, Int.reduceLT, Int.reduceToNat, Int.reduceEq, Int.reduceNe, ↓reduceIte,  h1, decide_false, decide_true, not_false_eq_true, not_true_eq_false, eq_self]
    refine call_of (Within_good 2 0 4) ?_
    set_option maxRecDepth 100000 in simp (maxSteps := 10000000) only [go_sem, Nat.reduceAdd, Nat.reduceSub, Nat.reduceMul, Nat.reduceLT, Nat.reduceLeDiff, Nat.reduceEqDiff, Nat.reduceMod, Nat.reduceDiv, Int.reduceNeg, Int.reduceLE, Int.reduceLT, Int.reduceToNat, Int.reduceEq, Int.reduceNe, ↓reduceIte,  show inB 2 0 4 = true from by decide, Bool.not_true]
    refine call_of (FindErr_good d o.name h) ?_
    set_option maxRecDepth 100000 in simp (maxSteps := 10000000) only [go_sem, Nat.reduceAdd, Nat.reduceSub, Nat.reduceMul, Nat.reduceLT, Nat.reduceLeDiff, Nat.reduceEqDiff, Nat.reduceMod, Nat.reduceDiv, Int.reduceNeg, Int.reduceLE, Int.reduceLT, Int.reduceToNat, Int.reduceEq, Int.reduceNe, ↓reduceIte,  h2, decide_false, decide_true, not_false_eq_true, not_true_eq_false, eq_self]
    refine call_of (r3) ?_
    set_option maxRecDepth 100000 in simp (maxSteps := 10000000) only [go_sem, Nat.reduceAdd, Nat.reduceSub, Nat.reduceMul, Nat.reduceLT, Nat.reduceLeDiff, Nat.reduceEqDiff, Nat.reduceMod, Nat.reduceDiv, Int.reduceNeg, Int.reduceLE, Int.reduceLT, Int.reduceToNat, Int.reduceEq, Int.reduceNe, ↓reduceIte,  h3, decide_false]
  obtain ⟨i, hx, hi, hp⟩ := findP_ok h2
  have hk := renameE2_ok (renameE_ok h3).2
  rw [renameP, if_pos h3, h3, ← insAll_sort (ren_names h1 (findE_ok h2).2.1 hk.1 hk.2)]
  rw [h3] at r3
  refine good_run [] mixed Try.func27 rfl Try.ntmps27 (rs := [.cell 4 37, .tmp 5]) rfl (by decide +kernel) (by kernel_rfl) rfl ?_
  rw [startE_eq 97 _ _ _ rfl rfl]
  set_option maxRecDepth 100000 in simp (maxSteps := 10000000) only [go_sem, Nat.reduceAdd, Nat.reduceSub, Nat.reduceMul, Nat.reduceLT, Nat.reduceLeDiff, Nat.reduceEqDiff, Nat.reduceMod, Nat.reduceDiv, Int.reduceNeg, Int.reduceLE, Int.reduceLT, Int.reduceToNat, Int.reduceEq, Int.reduceNe, ↓reduceIte]
  refine call_of (Err_good d h) ?_
  set_option maxRecDepth 100000 in simp (maxSteps := 10000000) only [go_sem, Nat.reduceAdd, Nat.reduceSub, Nat.reduceMul, Nat.reduceLT, Nat.reduceLeDiff, Nat.reduceEqDiff, Nat.reduceMod, Nat.reduceDiv, Int.reduceNeg, Int.reduceLE, Int.reduceLT, Int.reduceToNat, Int.reduceEq, Int.reduceNe, ↓reduceIte,  h1, decide_false, decide_true, not_false_eq_true, not_true_eq_false, eq_self]
  refine call_of (Within_good 2 0 4) ?_
  set_option maxRecDepth 100000 in simp (maxSteps := 10000000) only [go_sem, Nat.reduceAdd, Nat.reduceSub, Nat.reduceMul, Nat.reduceLT, Nat.reduceLeDiff, Nat.reduceEqDiff, Nat.reduceMod, Nat.reduceDiv, Int.reduceNeg, Int.reduceLE, Int.reduceLT, Int.reduceToNat, Int.reduceEq, Int.reduceNe, ↓reduceIte,  show inB 2 0 4 = true from by decide, Bool.not_true]
  refine call_of (FindErr_good d o.name h) ?_
  set_option maxRecDepth 100000 in simp (maxSteps := 10000000) only [go_sem, Nat.reduceAdd, Nat.reduceSub, Nat.reduceMul, Nat.reduceLT, Nat.reduceLeDiff, Nat.reduceEqDiff, Nat.reduceMod, Nat.reduceDiv, Int.reduceNeg, Int.reduceLE, Int.reduceLT, Int.reduceToNat, Int.reduceEq, Int.reduceNe, ↓reduceIte,  h2, decide_false, decide_true, not_false_eq_true, not_true_eq_false, eq_self]
  refine call_of (r3) ?_
  set_option maxRecDepth 100000 in simp (maxSteps := 10000000) only [go_sem, Nat.reduceAdd, Nat.reduceSub, Nat.reduceMul, Nat.reduceLT, Nat.reduceLeDiff, Nat.reduceEqDiff, Nat.reduceMod, Nat.reduceDiv, Int.reduceNeg, Int.reduceLE, Int.reduceLT, Int.reduceToNat, Int.reduceEq, Int.reduceNe, ↓reduceIte]
  refine call_of (Renamed_good d o.name s h (by omega)) ?_
  set_option maxRecDepth 100000 in simp (maxSteps := 10000000) only [go_sem, Nat.reduceAdd, Nat.reduceSub, Nat.reduceMul, Nat.reduceLT, Nat.reduceLeDiff, Nat.reduceEqDiff, Nat.reduceMod, Nat.reduceDiv, Int.reduceNeg, Int.reduceLE, Int.reduceLT, Int.reduceToNat, Int.reduceEq, Int.reduceNe, ↓reduceIte]

/-- An action. -/
def actE (d : Dir) (a : Action) : Int := if ¬ (dirE d).2 = 0 then (dirE d).2 else if a.kind = 0 then createE d a.object else if a.kind = 1 then destroyE d a.object.name
  else if a.kind = 2 then renameE d a.object.name a.name else if a.kind = 3 then changeE d a.object.name a.object.content else if a.kind = 4 then foundE d a.object.name 7 else 4
def actP (d : Dir) (a : Action) : Dir := if ¬ (dirE d).2 = 0 then noDir else if a.kind = 0 then createP d a.object else if a.kind = 1 then destroyP d a.object.name
  else if a.kind = 2 then renameP d a.object.name a.name else if a.kind = 3 then changeP d a.object.name a.object.content else if a.kind = 4 then clearP d a.object.name else noDir

theorem findE_no {d : Dir} {n : OName} (h : ¬ (dirE d).2 = 0) : findE d n = (dirE d).2 := by rw [findE, if_pos h]
theorem act_no {d : Dir} {a : Action} (h : ¬ (dirE d).2 = 0) : actE d a = (dirE d).2 ∧ actP d a = noDir := by rw [actE, actP, if_pos h, if_pos h]; exact ⟨rfl, rfl⟩
theorem act0 (d : Dir) (o : Obj) (s : ByteArray) : actE d ⟨0, o, s⟩ = createE d o ∧ actP d ⟨0, o, s⟩ = createP d o := by
  by_cases h : (dirE d).2 = 0
  · rw [actE, actP, if_neg (not_not_intro h), if_neg (not_not_intro h), if_pos rfl, if_pos rfl]; exact ⟨rfl, rfl⟩
  · have e : createE d o = (dirE d).2 := by rw [createE_eq, if_pos h]
    rw [(act_no h).1, (act_no h).2, e, createP, e, if_neg h]; exact ⟨rfl, rfl⟩
theorem act1 (d : Dir) (o : Obj) (s : ByteArray) : actE d ⟨1, o, s⟩ = destroyE d o.name ∧ actP d ⟨1, o, s⟩ = destroyP d o.name := by
  by_cases h : (dirE d).2 = 0
  · rw [actE, actP, if_neg (not_not_intro h), if_neg (not_not_intro h)]; exact ⟨rfl, rfl⟩
  · have e : destroyE d o.name = (dirE d).2 := by rw [destroyE, findE_no h, if_pos h]
    rw [(act_no h).1, (act_no h).2, e, destroyP, e, if_neg h]; exact ⟨rfl, rfl⟩
theorem act2 (d : Dir) (o : Obj) (s : ByteArray) : actE d ⟨2, o, s⟩ = renameE d o.name s ∧ actP d ⟨2, o, s⟩ = renameP d o.name s := by
  by_cases h : (dirE d).2 = 0
  · rw [actE, actP, if_neg (not_not_intro h), if_neg (not_not_intro h)]; exact ⟨rfl, rfl⟩
  · have e : renameE d o.name s = (dirE d).2 := by rw [renameE, foundE_dir h, if_pos h]
    rw [(act_no h).1, (act_no h).2, e, renameP, e, if_neg h]; exact ⟨rfl, rfl⟩
theorem act3 (d : Dir) (o : Obj) (s : ByteArray) : actE d ⟨3, o, s⟩ = changeE d o.name o.content ∧ actP d ⟨3, o, s⟩ = changeP d o.name o.content := by
  by_cases h : (dirE d).2 = 0
  · rw [actE, actP, if_neg (not_not_intro h), if_neg (not_not_intro h)]; exact ⟨rfl, rfl⟩
  · have e : changeE d o.name o.content = (dirE d).2 := by rw [changeE, foundE_dir h, if_pos h]
    rw [(act_no h).1, (act_no h).2, e, changeP, e, if_neg h]; exact ⟨rfl, rfl⟩
theorem act4 (d : Dir) (o : Obj) (s : ByteArray) : actE d ⟨4, o, s⟩ = foundE d o.name 7 ∧ actP d ⟨4, o, s⟩ = clearP d o.name := by
  by_cases h : (dirE d).2 = 0
  · rw [actE, actP, if_neg (not_not_intro h), if_neg (not_not_intro h)]; exact ⟨rfl, rfl⟩
  · rw [(act_no h).1, (act_no h).2, foundE_dir h, clearP, foundE_dir h, if_neg h]; exact ⟨rfl, rfl⟩

theorem kind_cases (k : Int) : k = 0 ∨ k = 1 ∨ k = 2 ∨ k = 3 ∨ k = 4 ∨ inB k 0 4 = false := by
  by_cases h : 0 ≤ k ∧ k ≤ 4
  · omega
  · right; right; right; right; right; exact decide_eq_false h

set_option maxHeartbeats 4000000 in
theorem RefPerform_good (d : Dir) (a : Action) (h : d.objects.length ≤ 1000000) : Ans Try.prog 27 [.agg (encDir d), .agg (encAction a)] (.tup [.agg (encDir (actP d a)), .int .i64 (actE d a)]) := by
  obtain ⟨k, o, s⟩ := a
  rcases kind_cases k with rfl | rfl | rfl | rfl | rfl | hk
  · rw [(act0 d o s).1, (act0 d o s).2]; exact RefCreate_good d o s h
  · rw [(act1 d o s).1, (act1 d o s).2]; exact RefDestroy_good d o s h
  · rw [(act2 d o s).1, (act2 d o s).2]; exact RefRename_good d o s h
  · rw [(act3 d o s).1, (act3 d o s).2]; exact RefChange_good d o s h
  · rw [(act4 d o s).1, (act4 d o s).2]; exact RefClear_good d o s h
  refine Classical.byCases (fun h1 : (dirE d).2 = 0 => ?_) fun h1 => ?_
  case refine_2 =>
    rw [(act_no h1).1, (act_no h1).2]
    refine Ans.le (r := .tup [.agg [.nils, .int .i64 0], .int .i64 (dirE d).2]) ?_ (le_noDir _) rfl
    refine good_run [] mixed Try.func27 rfl Try.ntmps27 (rs := [.cell 4 37, .tmp 5]) rfl (by decide +kernel) (by kernel_rfl) rfl ?_
    rw [startE_eq 97 _ _ _ rfl rfl]
    set_option maxRecDepth 100000 in simp (maxSteps := 10000000) only [go_sem, Nat.reduceAdd, Nat.reduceSub, Nat.reduceMul, Nat.reduceLT, Nat.reduceLeDiff, Nat.reduceEqDiff, Nat.reduceMod, Nat.reduceDiv, Int.reduceNeg, Int.reduceLE, Int.reduceLT, Int.reduceToNat, Int.reduceEq, Int.reduceNe, ↓reduceIte]
    refine call_of (Err_good d h) ?_
    set_option maxRecDepth 100000 in simp (maxSteps := 10000000) only [go_sem, Nat.reduceAdd, Nat.reduceSub, Nat.reduceMul, Nat.reduceLT, Nat.reduceLeDiff, Nat.reduceEqDiff, Nat.reduceMod, Nat.reduceDiv, Int.reduceNeg, Int.reduceLE, Int.reduceLT, Int.reduceToNat, Int.reduceEq, Int.reduceNe, ↓reduceIte,  h1, decide_false, decide_true, not_false_eq_true]
  have hk' := of_decide_eq_false hk
  have e1 : actE d ⟨k, o, s⟩ = 4 := by rw [actE, if_neg (not_not_intro h1), if_neg (by simp only; omega), if_neg (by simp only; omega), if_neg (by simp only; omega), if_neg (by simp only; omega), if_neg (by simp only; omega)]
  have e2 : actP d ⟨k, o, s⟩ = noDir := by rw [actP, if_neg (not_not_intro h1), if_neg (by simp only; omega), if_neg (by simp only; omega), if_neg (by simp only; omega), if_neg (by simp only; omega), if_neg (by simp only; omega)]
  rw [e1, e2]
  refine Ans.le (r := .tup [.agg [.nils, .int .i64 0], .int .i64 4]) ?_ (le_noDir _) rfl
  refine good_run [] mixed Try.func27 rfl Try.ntmps27 (rs := [.cell 4 37, .tmp 5]) rfl (by decide +kernel) (by kernel_rfl) rfl ?_
  rw [startE_eq 97 _ _ _ rfl rfl]
  set_option maxRecDepth 100000 in simp (maxSteps := 10000000) only [go_sem, Nat.reduceAdd, Nat.reduceSub, Nat.reduceMul, Nat.reduceLT, Nat.reduceLeDiff, Nat.reduceEqDiff, Nat.reduceMod, Nat.reduceDiv, Int.reduceNeg, Int.reduceLE, Int.reduceLT, Int.reduceToNat, Int.reduceEq, Int.reduceNe, ↓reduceIte]
  refine call_of (Err_good d h) ?_
  set_option maxRecDepth 100000 in simp (maxSteps := 10000000) only [go_sem, Nat.reduceAdd, Nat.reduceSub, Nat.reduceMul, Nat.reduceLT, Nat.reduceLeDiff, Nat.reduceEqDiff, Nat.reduceMod, Nat.reduceDiv, Int.reduceNeg, Int.reduceLE, Int.reduceLT, Int.reduceToNat, Int.reduceEq, Int.reduceNe, ↓reduceIte,  h1, decide_false, decide_true, not_false_eq_true, not_true_eq_false, eq_self]
  refine call_of (Within_good k 0 4) ?_
  set_option maxRecDepth 100000 in simp (maxSteps := 10000000) only [go_sem, Nat.reduceAdd, Nat.reduceSub, Nat.reduceMul, Nat.reduceLT, Nat.reduceLeDiff, Nat.reduceEqDiff, Nat.reduceMod, Nat.reduceDiv, Int.reduceNeg, Int.reduceLE, Int.reduceLT, Int.reduceToNat, Int.reduceEq, Int.reduceNe, ↓reduceIte,  hk, Bool.not_false]

set_option maxHeartbeats 4000000 in
theorem Perform_good (d : Dir) (a : Action) (h : d.objects.length ≤ 1000000) : Ans Try.prog 48 [.agg (encDir d), .agg (encAction a)] (.tup [.agg (encDir (actP d a)), .int .i64 (actE d a)]) := by
  obtain ⟨k, o, s⟩ := a
  have r1 := CheckDirectory_good d h
  refine Classical.byCases (fun h1 : (dirE d).2 = 0 => ?_) fun h1 => ?_
  case refine_2 =>
    rw [(act_no h1).1, (act_no h1).2]
    refine Ans.le (r := .tup [.agg [.nils, .int .i64 0], .int .i64 (dirE d).2]) ?_ (le_noDir _) rfl
    refine good_run [] mixed Try.func48 rfl Try.ntmps48 (rs := [.cell 4 37, .tmp 5]) rfl (by decide +kernel) (by kernel_rfl) rfl ?_
    rw [startE_eq 69 _ _ _ rfl rfl]
    set_option maxRecDepth 100000 in simp (maxSteps := 10000000) only [go_sem, Nat.reduceAdd, Nat.reduceSub, Nat.reduceMul, Nat.reduceLT, Nat.reduceLeDiff, Nat.reduceEqDiff, Nat.reduceMod, Nat.reduceDiv, Int.reduceNeg, Int.reduceLE, Int.reduceLT, Int.reduceToNat, Int.reduceEq, Int.reduceNe, ↓reduceIte]
    refine call_of (r1) ?_
    set_option maxRecDepth 100000 in simp (maxSteps := 10000000) only [go_sem, Nat.reduceAdd, Nat.reduceSub, Nat.reduceMul, Nat.reduceLT, Nat.reduceLeDiff, Nat.reduceEqDiff, Nat.reduceMod, Nat.reduceDiv, Int.reduceNeg, Int.reduceLE, Int.reduceLT, Int.reduceToNat, Int.reduceEq, Int.reduceNe, ↓reduceIte,  h1, decide_false, decide_true, not_false_eq_true]
  rw [h1] at r1
  refine Or.elim (kind_cases k) (fun hk => ?_) fun hk => ?_
  · subst hk
    rw [(act0 d o s).1, (act0 d o s).2]
    refine good_run [] mixed Try.func48 rfl Try.ntmps48 (rs := [.cell 4 37, .tmp 5]) rfl (by decide +kernel) (by kernel_rfl) rfl ?_
    rw [startE_eq 69 _ _ _ rfl rfl]
    set_option maxRecDepth 100000 in simp (maxSteps := 10000000) only [go_sem, Nat.reduceAdd, Nat.reduceSub, Nat.reduceMul, Nat.reduceLT, Nat.reduceLeDiff, Nat.reduceEqDiff, Nat.reduceMod, Nat.reduceDiv, Int.reduceNeg, Int.reduceLE, Int.reduceLT, Int.reduceToNat, Int.reduceEq, Int.reduceNe, ↓reduceIte]
    refine call_of (r1) ?_
    set_option maxRecDepth 100000 in simp (maxSteps := 10000000) only [go_sem, Nat.reduceAdd, Nat.reduceSub, Nat.reduceMul, Nat.reduceLT, Nat.reduceLeDiff, Nat.reduceEqDiff, Nat.reduceMod, Nat.reduceDiv, Int.reduceNeg, Int.reduceLE, Int.reduceLT, Int.reduceToNat, Int.reduceEq, Int.reduceNe, ↓reduceIte]
    refine call_of (Create_good d o h) ?_
    set_option maxRecDepth 100000 in simp (maxSteps := 10000000) only [go_sem, Nat.reduceAdd, Nat.reduceSub, Nat.reduceMul, Nat.reduceLT, Nat.reduceLeDiff, Nat.reduceEqDiff, Nat.reduceMod, Nat.reduceDiv, Int.reduceNeg, Int.reduceLE, Int.reduceLT, Int.reduceToNat, Int.reduceEq, Int.reduceNe, ↓reduceIte]
  refine Or.elim hk (fun hk => ?_) fun hk => ?_
  · subst hk
    rw [(act1 d o s).1, (act1 d o s).2]
    refine good_run [] mixed Try.func48 rfl Try.ntmps48 (rs := [.cell 4 37, .tmp 5]) rfl (by decide +kernel) (by kernel_rfl) rfl ?_
    rw [startE_eq 69 _ _ _ rfl rfl]
    set_option maxRecDepth 100000 in simp (maxSteps := 10000000) only [go_sem, Nat.reduceAdd, Nat.reduceSub, Nat.reduceMul, Nat.reduceLT, Nat.reduceLeDiff, Nat.reduceEqDiff, Nat.reduceMod, Nat.reduceDiv, Int.reduceNeg, Int.reduceLE, Int.reduceLT, Int.reduceToNat, Int.reduceEq, Int.reduceNe, ↓reduceIte]
    refine call_of (r1) ?_
    set_option maxRecDepth 100000 in simp (maxSteps := 10000000) only [go_sem, Nat.reduceAdd, Nat.reduceSub, Nat.reduceMul, Nat.reduceLT, Nat.reduceLeDiff, Nat.reduceEqDiff, Nat.reduceMod, Nat.reduceDiv, Int.reduceNeg, Int.reduceLE, Int.reduceLT, Int.reduceToNat, Int.reduceEq, Int.reduceNe, ↓reduceIte]
    refine call_of (Destroy_good d o.name h) ?_
    set_option maxRecDepth 100000 in simp (maxSteps := 10000000) only [go_sem, Nat.reduceAdd, Nat.reduceSub, Nat.reduceMul, Nat.reduceLT, Nat.reduceLeDiff, Nat.reduceEqDiff, Nat.reduceMod, Nat.reduceDiv, Int.reduceNeg, Int.reduceLE, Int.reduceLT, Int.reduceToNat, Int.reduceEq, Int.reduceNe, ↓reduceIte]
  refine Or.elim hk (fun hk => ?_) fun hk => ?_
  · subst hk
    rw [(act2 d o s).1, (act2 d o s).2]
    refine good_run [] mixed Try.func48 rfl Try.ntmps48 (rs := [.cell 4 37, .tmp 5]) rfl (by decide +kernel) (by kernel_rfl) rfl ?_
    rw [startE_eq 69 _ _ _ rfl rfl]
    set_option maxRecDepth 100000 in simp (maxSteps := 10000000) only [go_sem, Nat.reduceAdd, Nat.reduceSub, Nat.reduceMul, Nat.reduceLT, Nat.reduceLeDiff, Nat.reduceEqDiff, Nat.reduceMod, Nat.reduceDiv, Int.reduceNeg, Int.reduceLE, Int.reduceLT, Int.reduceToNat, Int.reduceEq, Int.reduceNe, ↓reduceIte]
    refine call_of (r1) ?_
    set_option maxRecDepth 100000 in simp (maxSteps := 10000000) only [go_sem, Nat.reduceAdd, Nat.reduceSub, Nat.reduceMul, Nat.reduceLT, Nat.reduceLeDiff, Nat.reduceEqDiff, Nat.reduceMod, Nat.reduceDiv, Int.reduceNeg, Int.reduceLE, Int.reduceLT, Int.reduceToNat, Int.reduceEq, Int.reduceNe, ↓reduceIte]
    refine call_of (Rename_good d o.name s h) ?_
    set_option maxRecDepth 100000 in simp (maxSteps := 10000000) only [go_sem, Nat.reduceAdd, Nat.reduceSub, Nat.reduceMul, Nat.reduceLT, Nat.reduceLeDiff, Nat.reduceEqDiff, Nat.reduceMod, Nat.reduceDiv, Int.reduceNeg, Int.reduceLE, Int.reduceLT, Int.reduceToNat, Int.reduceEq, Int.reduceNe, ↓reduceIte]
  refine Or.elim hk (fun hk => ?_) fun hk => ?_
  · subst hk
    rw [(act3 d o s).1, (act3 d o s).2]
    refine good_run [] mixed Try.func48 rfl Try.ntmps48 (rs := [.cell 4 37, .tmp 5]) rfl (by decide +kernel) (by kernel_rfl) rfl ?_
    rw [startE_eq 69 _ _ _ rfl rfl]
    set_option maxRecDepth 100000 in simp (maxSteps := 10000000) only [go_sem, Nat.reduceAdd, Nat.reduceSub, Nat.reduceMul, Nat.reduceLT, Nat.reduceLeDiff, Nat.reduceEqDiff, Nat.reduceMod, Nat.reduceDiv, Int.reduceNeg, Int.reduceLE, Int.reduceLT, Int.reduceToNat, Int.reduceEq, Int.reduceNe, ↓reduceIte]
    refine call_of (r1) ?_
    set_option maxRecDepth 100000 in simp (maxSteps := 10000000) only [go_sem, Nat.reduceAdd, Nat.reduceSub, Nat.reduceMul, Nat.reduceLT, Nat.reduceLeDiff, Nat.reduceEqDiff, Nat.reduceMod, Nat.reduceDiv, Int.reduceNeg, Int.reduceLE, Int.reduceLT, Int.reduceToNat, Int.reduceEq, Int.reduceNe, ↓reduceIte]
    refine call_of (Change_good d o.name o.content h) ?_
    set_option maxRecDepth 100000 in simp (maxSteps := 10000000) only [go_sem, Nat.reduceAdd, Nat.reduceSub, Nat.reduceMul, Nat.reduceLT, Nat.reduceLeDiff, Nat.reduceEqDiff, Nat.reduceMod, Nat.reduceDiv, Int.reduceNeg, Int.reduceLE, Int.reduceLT, Int.reduceToNat, Int.reduceEq, Int.reduceNe, ↓reduceIte]
  refine Or.elim hk (fun hk => ?_) fun hk => ?_
  · subst hk
    rw [(act4 d o s).1, (act4 d o s).2]
    refine good_run [] mixed Try.func48 rfl Try.ntmps48 (rs := [.cell 4 37, .tmp 5]) rfl (by decide +kernel) (by kernel_rfl) rfl ?_
    rw [startE_eq 69 _ _ _ rfl rfl]
    set_option maxRecDepth 100000 in simp (maxSteps := 10000000) only [go_sem, Nat.reduceAdd, Nat.reduceSub, Nat.reduceMul, Nat.reduceLT, Nat.reduceLeDiff, Nat.reduceEqDiff, Nat.reduceMod, Nat.reduceDiv, Int.reduceNeg, Int.reduceLE, Int.reduceLT, Int.reduceToNat, Int.reduceEq, Int.reduceNe, ↓reduceIte]
    refine call_of (r1) ?_
    set_option maxRecDepth 100000 in simp (maxSteps := 10000000) only [go_sem, Nat.reduceAdd, Nat.reduceSub, Nat.reduceMul, Nat.reduceLT, Nat.reduceLeDiff, Nat.reduceEqDiff, Nat.reduceMod, Nat.reduceDiv, Int.reduceNeg, Int.reduceLE, Int.reduceLT, Int.reduceToNat, Int.reduceEq, Int.reduceNe, ↓reduceIte]
    refine call_of (Clear_good d o.name h) ?_
    set_option maxRecDepth 100000 in simp (maxSteps := 10000000) only [go_sem, Nat.reduceAdd, Nat.reduceSub, Nat.reduceMul, Nat.reduceLT, Nat.reduceLeDiff, Nat.reduceEqDiff, Nat.reduceMod, Nat.reduceDiv, Int.reduceNeg, Int.reduceLE, Int.reduceLT, Int.reduceToNat, Int.reduceEq, Int.reduceNe, ↓reduceIte]
  have hk' := of_decide_eq_false hk
  have e1 : actE d ⟨k, o, s⟩ = 4 := by rw [actE, if_neg (not_not_intro h1), if_neg (by simp only; omega), if_neg (by simp only; omega), if_neg (by simp only; omega), if_neg (by simp only; omega), if_neg (by simp only; omega)]
  have e2 : actP d ⟨k, o, s⟩ = noDir := by rw [actP, if_neg (not_not_intro h1), if_neg (by simp only; omega), if_neg (by simp only; omega), if_neg (by simp only; omega), if_neg (by simp only; omega), if_neg (by simp only; omega)]
  rw [e1, e2]
  refine Ans.le (r := .tup [.agg [.nils, .int .i64 0], .int .i64 4]) ?_ (le_noDir _) rfl
  refine good_run [] mixed Try.func48 rfl Try.ntmps48 (rs := [.cell 4 37, .tmp 5]) rfl (by decide +kernel) (by kernel_rfl) rfl ?_
  rw [startE_eq 69 _ _ _ rfl rfl]
  set_option maxRecDepth 100000 in simp (maxSteps := 10000000) only [go_sem, Nat.reduceAdd, Nat.reduceSub, Nat.reduceMul, Nat.reduceLT, Nat.reduceLeDiff, Nat.reduceEqDiff, Nat.reduceMod, Nat.reduceDiv, Int.reduceNeg, Int.reduceLE, Int.reduceLT, Int.reduceToNat, Int.reduceEq, Int.reduceNe, ↓reduceIte]
  refine call_of (r1) ?_
  set_option maxRecDepth 100000 in simp (maxSteps := 10000000) only [go_sem, Nat.reduceAdd, Nat.reduceSub, Nat.reduceMul, Nat.reduceLT, Nat.reduceLeDiff, Nat.reduceEqDiff, Nat.reduceMod, Nat.reduceDiv, Int.reduceNeg, Int.reduceLE, Int.reduceLT, Int.reduceToNat, Int.reduceEq, Int.reduceNe, ↓reduceIte,  show ¬ k = 0 by omega, show ¬ k = 1 by omega, show ¬ k = 2 by omega, show ¬ k = 3 by omega, show ¬ k = 4 by omega, decide_false]
end Go.Proofs.Ytcmnbfpcomcejaa.C08
