/- Chapter 8: the reference's actions of changing and clearing. -/
import Derived.Test.YtcmnbfpcomcejaaC18
namespace Go.Proofs.Ytcmnbfpcomcejaa.C08
open Go Go.Proofs Go.Proofs.Ytcmnbfpcomcejaa.Ab
set_option linter.unusedSimpArgs false
attribute [local congr] ite_ctx

theorem foundE_dir {d : Dir} {n : OName} {k : Nat} (h : ¬ (dirE d).2 = 0) : foundE d n k = (dirE d).2 := by
  have hf : findE d n = (dirE d).2 := by rw [findE, if_pos h]
  rw [foundE, hf, if_pos h]
theorem foundE_find {d : Dir} {n : OName} {k : Nat} (h : ¬ findE d n = 0) : foundE d n k = findE d n := by rw [foundE, if_pos h]

set_option maxHeartbeats 4000000 in
theorem RefChange_good (d : Dir) (o : Obj) (s : ByteArray) (h : d.objects.length ≤ 1000000) : Ans Try.prog 27 [.agg (encDir d), .agg (encAction ⟨3, o, s⟩)] (.tup [.agg (encDir (changeP d o.name o.content)), .int .i64 (changeE d o.name o.content)]) := by
  refine Classical.byCases (fun h1 : (dirE d).2 = 0 => ?_) fun h1 => ?_
  case refine_2 =>
    have hf := foundE_dir (n := o.name) (k := 5) h1
    have he : changeE d o.name o.content = (dirE d).2 := by rw [changeE, hf, if_pos h1]
    rw [changeP, if_neg (by rw [he]; exact h1), he]
    refine Ans.le (r := .tup [.agg [.nils, .int .i64 0], .int .i64 (dirE d).2]) ?_ (le_noDir _) rfl
    refine good_run [] mixed Try.func27 rfl Try.ntmps27 (rs := [.cell 4 37, .tmp 5]) rfl (by decide +kernel) (by kernel_rfl) rfl ?_
    rw [startE_eq 97 _ _ _ rfl rfl]
    set_option maxRecDepth 100000 in simp (maxSteps := 10000000) only [go_sem, Nat.reduceAdd, Nat.reduceSub, Nat.reduceMul, Nat.reduceLT, Nat.reduceLeDiff, Nat.reduceEqDiff, Nat.reduceMod, Nat.reduceDiv, Int.reduceNeg, Int.reduceLE, Int.reduceLT, Int.reduceToNat, Int.reduceEq, Int.reduceNe, ↓reduceIte]
    refine call_of (Err_good d h) ?_
    set_option maxRecDepth 100000 in simp (maxSteps := 10000000) only [go_sem, Nat.reduceAdd, Nat.reduceSub, Nat.reduceMul, Nat.reduceLT, Nat.reduceLeDiff, Nat.reduceEqDiff, Nat.reduceMod, Nat.reduceDiv, Int.reduceNeg, Int.reduceLE, Int.reduceLT, Int.reduceToNat, Int.reduceEq, Int.reduceNe, ↓reduceIte,  h1, decide_false, decide_true, not_false_eq_true]
  refine Classical.byCases (fun h2 : findE d o.name = 0 => ?_) fun h2 => ?_
  case refine_2 =>
    have hf := foundE_find (k := 5) h2
    have he : changeE d o.name o.content = findE d o.name := by rw [changeE, hf, if_pos h2]
    rw [changeP, if_neg (by rw [he]; exact h2), he]
    refine Ans.le (r := .tup [.agg [.nils, .int .i64 0], .int .i64 (findE d o.name)]) ?_ (le_noDir _) rfl
    refine good_run [] mixed Try.func27 rfl Try.ntmps27 (rs := [.cell 4 37, .tmp 5]) rfl (by decide +kernel) (by kernel_rfl) rfl ?_
    rw [startE_eq 97 _ _ _ rfl rfl]
    set_option maxRecDepth 100000 in simp (maxSteps := 10000000) only [go_sem, Nat.reduceAdd, Nat.reduceSub, Nat.reduceMul, Nat.reduceLT, Nat.reduceLeDiff, Nat.reduceEqDiff, Nat.reduceMod, Nat.reduceDiv, Int.reduceNeg, Int.reduceLE, Int.reduceLT, Int.reduceToNat, Int.reduceEq, Int.reduceNe, ↓reduceIte]
    refine call_of (Err_good d h) ?_
    set_option maxRecDepth 100000 in simp (maxSteps := 10000000) only [go_sem, Nat.reduceAdd, Nat.reduceSub, Nat.reduceMul, Nat.reduceLT, Nat.reduceLeDiff, Nat.reduceEqDiff, Nat.reduceMod, Nat.reduceDiv, Int.reduceNeg, Int.reduceLE, Int.reduceLT, Int.reduceToNat, Int.reduceEq, Int.reduceNe, ↓reduceIte,  h1, decide_false, decide_true, not_false_eq_true, not_true_eq_false, eq_self]
    refine call_of (Within_good 3 0 4) ?_
    set_option maxRecDepth 100000 in simp (maxSteps := 10000000) only [go_sem, Nat.reduceAdd, Nat.reduceSub, Nat.reduceMul, Nat.reduceLT, Nat.reduceLeDiff, Nat.reduceEqDiff, Nat.reduceMod, Nat.reduceDiv, Int.reduceNeg, Int.reduceLE, Int.reduceLT, Int.reduceToNat, Int.reduceEq, Int.reduceNe, ↓reduceIte,  show inB 3 0 4 = true from by decide, Bool.not_true]
    refine call_of (FindErr_good d o.name h) ?_
    set_option maxRecDepth 100000 in simp (maxSteps := 10000000) only [go_sem, Nat.reduceAdd, Nat.reduceSub, Nat.reduceMul, Nat.reduceLT, Nat.reduceLeDiff, Nat.reduceEqDiff, Nat.reduceMod, Nat.reduceDiv, Int.reduceNeg, Int.reduceLE, Int.reduceLT, Int.reduceToNat, Int.reduceEq, Int.reduceNe, ↓reduceIte,  h2, decide_false, decide_true, not_false_eq_true, not_true_eq_false]
  obtain ⟨t, ht, htt⟩ := errName_type (findE_ok h2).2.1
  have r3 := ChangeErr_good o.name t ht htt o.content
  have hE : changeE d o.name o.content = if permR t 5 = false then 39 else if 120 < o.content.size then 2 else 0 := by
    rw [changeE, foundE, if_neg (not_not_intro h2), htt, Int.toNat_natCast]
    by_cases q : permR t 5 = false
    · rw [if_pos q, if_pos (by decide), if_pos q]
    · rw [if_neg q, if_neg (by decide), if_neg q]
  rw [← hE] at r3
  refine Classical.byCases (fun h3 : changeE d o.name o.content = 0 => ?_) fun h3 => ?_
  case refine_2 =>
    rw [changeP, if_neg h3]
    refine Ans.le (r := .tup [.agg [.nils, .int .i64 0], .int .i64 (changeE d o.name o.content)]) ?_ (le_noDir _) rfl
    refine good_run [] mixed Try.func27 rfl Try.ntmps27 (rs := [.cell 4 37, .tmp 5]) rfl (by decide +kernel) (by kernel_rfl) rfl ?_
    rw [startE_eq 97 _ _ _ rfl rfl]
    set_option maxRecDepth 100000 in simp (maxSteps := 10000000) only [go_sem, Nat.reduceAdd, Nat.reduceSub, Nat.reduceMul, Nat.reduceLT, Nat.reduceLeDiff, Nat.reduceEqDiff, Nat.reduceMod, Nat.reduceDiv, Int.reduceNeg, Int.reduceLE, Int.reduceLT, Int.reduceToNat, Int.reduceEq, Int.reduceNe, ↓reduceIte]
    refine call_of (Err_good d h) ?_
    set_option maxRecDepth 100000 in simp (maxSteps := 10000000) only [go_sem, Nat.reduceAdd, Nat.reduceSub, Nat.reduceMul, Nat.reduceLT, Nat.reduceLeDiff, Nat.reduceEqDiff, Nat.reduceMod, Nat.reduceDiv, Int.reduceNeg, Int.reduceLE, Int.reduceLT, Int.reduceToNat, Int.reduceEq, Int.reduceNe, ↓reduceIte,  h1, decide_false, decide_true, not_false_eq_true, not_true_eq_false, eq_self]
    refine call_of (Within_good 3 0 4) ?_
    set_option maxRecDepth 100000 in simp (maxSteps := 10000000) only [go_sem, Nat.reduceAdd, Nat.reduceSub, Nat.reduceMul, Nat.reduceLT, Nat.reduceLeDiff, Nat.reduceEqDiff, Nat.reduceMod, Nat.reduceDiv, Int.reduceNeg, Int.reduceLE, Int.reduceLT, Int.reduceToNat, Int.reduceEq, Int.reduceNe, ↓reduceIte,  show inB 3 0 4 = true from by decide, Bool.not_true]
    refine call_of (FindErr_good d o.name h) ?_
    set_option maxRecDepth 100000 in simp (maxSteps := 10000000) only [go_sem, Nat.reduceAdd, Nat.reduceSub, Nat.reduceMul, Nat.reduceLT, Nat.reduceLeDiff, Nat.reduceEqDiff, Nat.reduceMod, Nat.reduceDiv, Int.reduceNeg, Int.reduceLE, Int.reduceLT, Int.reduceToNat, Int.reduceEq, Int.reduceNe, ↓reduceIte,  h2, decide_false, decide_true, not_false_eq_true, not_true_eq_false, eq_self]
    refine call_of (r3) ?_
    set_option maxRecDepth 100000 in simp (maxSteps := 10000000) only [go_sem, Nat.reduceAdd, Nat.reduceSub, Nat.reduceMul, Nat.reduceLT, Nat.reduceLeDiff, Nat.reduceEqDiff, Nat.reduceMod, Nat.reduceDiv, Int.reduceNeg, Int.reduceLE, Int.reduceLT, Int.reduceToNat, Int.reduceEq, Int.reduceNe, ↓reduceIte,  h3, decide_false]
  obtain ⟨i, hx, hi, hp⟩ := findP_ok h2
  rw [changeP, if_pos h3, h3, hx, Int.toNat_natCast]
  rw [h3] at r3
  refine good_run [] mixed Try.func27 rfl Try.ntmps27 (rs := [.cell 4 37, .tmp 5]) rfl (by decide +kernel) (by kernel_rfl) rfl ?_
  rw [startE_eq 97 _ _ _ rfl rfl]
  set_option maxRecDepth 100000 in simp (maxSteps := 10000000) only [go_sem, Nat.reduceAdd, Nat.reduceSub, Nat.reduceMul, Nat.reduceLT, Nat.reduceLeDiff, Nat.reduceEqDiff, Nat.reduceMod, Nat.reduceDiv, Int.reduceNeg, Int.reduceLE, Int.reduceLT, Int.reduceToNat, Int.reduceEq, Int.reduceNe, ↓reduceIte]
  refine call_of (Err_good d h) ?_
  set_option maxRecDepth 100000 in simp (maxSteps := 10000000) only [go_sem, Nat.reduceAdd, Nat.reduceSub, Nat.reduceMul, Nat.reduceLT, Nat.reduceLeDiff, Nat.reduceEqDiff, Nat.reduceMod, Nat.reduceDiv, Int.reduceNeg, Int.reduceLE, Int.reduceLT, Int.reduceToNat, Int.reduceEq, Int.reduceNe, ↓reduceIte,  h1, decide_false, decide_true, not_false_eq_true, not_true_eq_false, eq_self]
  refine call_of (Within_good 3 0 4) ?_
  set_option maxRecDepth 100000 in simp (maxSteps := 10000000) only [go_sem, Nat.reduceAdd, Nat.reduceSub, Nat.reduceMul, Nat.reduceLT, Nat.reduceLeDiff, Nat.reduceEqDiff, Nat.reduceMod, Nat.reduceDiv, Int.reduceNeg, Int.reduceLE, Int.reduceLT, Int.reduceToNat, Int.reduceEq, Int.reduceNe, ↓reduceIte,  show inB 3 0 4 = true from by decide, Bool.not_true]
  refine call_of (FindErr_good d o.name h) ?_
  set_option maxRecDepth 100000 in simp (maxSteps := 10000000) only [go_sem, Nat.reduceAdd, Nat.reduceSub, Nat.reduceMul, Nat.reduceLT, Nat.reduceLeDiff, Nat.reduceEqDiff, Nat.reduceMod, Nat.reduceDiv, Int.reduceNeg, Int.reduceLE, Int.reduceLT, Int.reduceToNat, Int.reduceEq, Int.reduceNe, ↓reduceIte,  h2, decide_false, decide_true, not_false_eq_true, not_true_eq_false, eq_self]
  refine call_of (r3) ?_
  set_option maxRecDepth 100000 in simp (maxSteps := 10000000) only [go_sem, Nat.reduceAdd, Nat.reduceSub, Nat.reduceMul, Nat.reduceLT, Nat.reduceLeDiff, Nat.reduceEqDiff, Nat.reduceMod, Nat.reduceDiv, Int.reduceNeg, Int.reduceLE, Int.reduceLT, Int.reduceToNat, Int.reduceEq, Int.reduceNe, ↓reduceIte]
  refine call_of (Changed_good d o.name i o.content h hi hx) ?_
  set_option maxRecDepth 100000 in simp (maxSteps := 10000000) only [go_sem, Nat.reduceAdd, Nat.reduceSub, Nat.reduceMul, Nat.reduceLT, Nat.reduceLeDiff, Nat.reduceEqDiff, Nat.reduceMod, Nat.reduceDiv, Int.reduceNeg, Int.reduceLE, Int.reduceLT, Int.reduceToNat, Int.reduceEq, Int.reduceNe, ↓reduceIte]

set_option maxHeartbeats 4000000 in
theorem RefClear_good (d : Dir) (o : Obj) (s : ByteArray) (h : d.objects.length ≤ 1000000) : Ans Try.prog 27 [.agg (encDir d), .agg (encAction ⟨4, o, s⟩)] (.tup [.agg (encDir (clearP d o.name)), .int .i64 (foundE d o.name 7)]) := by
  refine Classical.byCases (fun h1 : (dirE d).2 = 0 => ?_) fun h1 => ?_
  case refine_2 =>
    have hf := foundE_dir (n := o.name) (k := 7) h1
    rw [clearP, if_neg (by rw [hf]; exact h1), hf]
    refine Ans.le (r := .tup [.agg [.nils, .int .i64 0], .int .i64 (dirE d).2]) ?_ (le_noDir _) rfl
    refine good_run [] mixed Try.func27 rfl Try.ntmps27 (rs := [.cell 4 37, .tmp 5]) rfl (by decide +kernel) (by kernel_rfl) rfl ?_
    rw [startE_eq 97 _ _ _ rfl rfl]
    set_option maxRecDepth 100000 in simp (maxSteps := 10000000) only [go_sem, Nat.reduceAdd, Nat.reduceSub, Nat.reduceMul, Nat.reduceLT, Nat.reduceLeDiff, Nat.reduceEqDiff, Nat.reduceMod, Nat.reduceDiv, Int.reduceNeg, Int.reduceLE, Int.reduceLT, Int.reduceToNat, Int.reduceEq, Int.reduceNe, ↓reduceIte]
    refine call_of (Err_good d h) ?_
    set_option maxRecDepth 100000 in simp (maxSteps := 10000000) only [go_sem, Nat.reduceAdd, Nat.reduceSub, Nat.reduceMul, Nat.reduceLT, Nat.reduceLeDiff, Nat.reduceEqDiff, Nat.reduceMod, Nat.reduceDiv, Int.reduceNeg, Int.reduceLE, Int.reduceLT, Int.reduceToNat, Int.reduceEq, Int.reduceNe, ↓reduceIte,  h1, decide_false, decide_true, not_false_eq_true]
  refine Classical.byCases (fun h2 : findE d o.name = 0 => ?_) fun h2 => ?_
  case refine_2 =>
    have hf := foundE_find (k := 7) h2
    rw [clearP, if_neg (by rw [hf]; exact h2), hf]
    refine Ans.le (r := .tup [.agg [.nils, .int .i64 0], .int .i64 (findE d o.name)]) ?_ (le_noDir _) rfl
    refine good_run [] mixed Try.func27 rfl Try.ntmps27 (rs := [.cell 4 37, .tmp 5]) rfl (by decide +kernel) (by kernel_rfl) rfl ?_
    rw [startE_eq 97 _ _ _ rfl rfl]
    set_option maxRecDepth 100000 in simp (maxSteps := 10000000) only [go_sem, Nat.reduceAdd, Nat.reduceSub, Nat.reduceMul, Nat.reduceLT, Nat.reduceLeDiff, Nat.reduceEqDiff, Nat.reduceMod, Nat.reduceDiv, Int.reduceNeg, Int.reduceLE, Int.reduceLT, Int.reduceToNat, Int.reduceEq, Int.reduceNe, ↓reduceIte]
    refine call_of (Err_good d h) ?_
    set_option maxRecDepth 100000 in simp (maxSteps := 10000000) only [go_sem, Nat.reduceAdd, Nat.reduceSub, Nat.reduceMul, Nat.reduceLT, Nat.reduceLeDiff, Nat.reduceEqDiff, Nat.reduceMod, Nat.reduceDiv, Int.reduceNeg, Int.reduceLE, Int.reduceLT, Int.reduceToNat, Int.reduceEq, Int.reduceNe, ↓reduceIte,  h1, decide_false, decide_true, not_false_eq_true, not_true_eq_false, eq_self]
    refine call_of (Within_good 4 0 4) ?_
    set_option maxRecDepth 100000 in simp (maxSteps := 10000000) only [go_sem, Nat.reduceAdd, Nat.reduceSub, Nat.reduceMul, Nat.reduceLT, Nat.reduceLeDiff, Nat.reduceEqDiff, Nat.reduceMod, Nat.reduceDiv, Int.reduceNeg, Int.reduceLE, Int.reduceLT, Int.reduceToNat, Int.reduceEq, Int.reduceNe, ↓reduceIte,  show inB 4 0 4 = true from by decide, Bool.not_true]
    refine call_of (FindErr_good d o.name h) ?_
    set_option maxRecDepth 100000 in simp (maxSteps := 10000000) only [go_sem, Nat.reduceAdd, Nat.reduceSub, Nat.reduceMul, Nat.reduceLT, Nat.reduceLeDiff, Nat.reduceEqDiff, Nat.reduceMod, Nat.reduceDiv, Int.reduceNeg, Int.reduceLE, Int.reduceLT, Int.reduceToNat, Int.reduceEq, Int.reduceNe, ↓reduceIte,  h2, decide_false, decide_true, not_false_eq_true, not_true_eq_false]
  obtain ⟨t, ht, htt⟩ := errName_type (findE_ok h2).2.1
  have r3 := Permits_good t 7 ht (by decide)
  have hE : foundE d o.name 7 = if permR t 7 = false then 39 else 0 := by rw [foundE, if_neg (not_not_intro h2), htt, Int.toNat_natCast]
  refine Classical.byCases (fun h3 : permR t 7 = true => ?_) fun h3 => ?_
  case refine_2 =>
    have h3' := Bool.eq_false_iff.2 h3
    rw [if_pos h3'] at hE
    rw [clearP, if_neg (by rw [hE]; decide), hE]
    rw [h3'] at r3
    refine Ans.le (r := .tup [.agg [.nils, .int .i64 0], .int .i64 39]) ?_ (le_noDir _) rfl
    refine good_run [] mixed Try.func27 rfl Try.ntmps27 (rs := [.cell 4 37, .tmp 5]) rfl (by decide +kernel) (by kernel_rfl) rfl ?_
    rw [startE_eq 97 _ _ _ rfl rfl]
    set_option maxRecDepth 100000 in simp (maxSteps := 10000000) only [go_sem, Nat.reduceAdd, Nat.reduceSub, Nat.reduceMul, Nat.reduceLT, Nat.reduceLeDiff, Nat.reduceEqDiff, Nat.reduceMod, Nat.reduceDiv, Int.reduceNeg, Int.reduceLE, Int.reduceLT, Int.reduceToNat, Int.reduceEq, Int.reduceNe, ↓reduceIte]
    refine call_of (Err_good d h) ?_
    set_option maxRecDepth 100000 in simp (maxSteps := 10000000) only [go_sem, Nat.reduceAdd, Nat.reduceSub, Nat.reduceMul, Nat.reduceLT, Nat.reduceLeDiff, Nat.reduceEqDiff, Nat.reduceMod, Nat.reduceDiv, Int.reduceNeg, Int.reduceLE, Int.reduceLT, Int.reduceToNat, Int.reduceEq, Int.reduceNe, ↓reduceIte,  h1, decide_false, decide_true, not_false_eq_true, not_true_eq_false, eq_self]
    refine call_of (Within_good 4 0 4) ?_
    set_option maxRecDepth 100000 in simp (maxSteps := 10000000) only [go_sem, Nat.reduceAdd, Nat.reduceSub, Nat.reduceMul, Nat.reduceLT, Nat.reduceLeDiff, Nat.reduceEqDiff, Nat.reduceMod, Nat.reduceDiv, Int.reduceNeg, Int.reduceLE, Int.reduceLT, Int.reduceToNat, Int.reduceEq, Int.reduceNe, ↓reduceIte,  show inB 4 0 4 = true from by decide, Bool.not_true]
    refine call_of (FindErr_good d o.name h) ?_
    set_option maxRecDepth 100000 in simp (maxSteps := 10000000) only [go_sem, Nat.reduceAdd, Nat.reduceSub, Nat.reduceMul, Nat.reduceLT, Nat.reduceLeDiff, Nat.reduceEqDiff, Nat.reduceMod, Nat.reduceDiv, Int.reduceNeg, Int.reduceLE, Int.reduceLT, Int.reduceToNat, Int.reduceEq, Int.reduceNe, ↓reduceIte,  h2, htt, decide_false, decide_true, not_false_eq_true, not_true_eq_false, eq_self]
    refine call_of (r3) ?_
    set_option maxRecDepth 100000 in simp (maxSteps := 10000000) only [go_sem, Nat.reduceAdd, Nat.reduceSub, Nat.reduceMul, Nat.reduceLT, Nat.reduceLeDiff, Nat.reduceEqDiff, Nat.reduceMod, Nat.reduceDiv, Int.reduceNeg, Int.reduceLE, Int.reduceLT, Int.reduceToNat, Int.reduceEq, Int.reduceNe, ↓reduceIte]
  rw [if_neg (by rw [h3]; decide)] at hE
  obtain ⟨i, hx, hi, hp⟩ := findP_ok h2
  rw [clearP, if_pos hE, hE, hx, Int.toNat_natCast]
  rw [h3] at r3
  have r4 : Ans Try.prog 79 [.agg (encDir d), .agg [.str o.name.lib, .str o.name.name, .int .i64 (t : Int)], .str ⟨#[]⟩] (.agg (encDir ⟨setC d.objects i ⟨#[]⟩, d.next⟩)) := by
    rw [← htt]; exact Changed_good d o.name i ⟨#[]⟩ h hi hx
  refine good_run [] mixed Try.func27 rfl Try.ntmps27 (rs := [.cell 4 37, .tmp 5]) rfl (by decide +kernel) (by kernel_rfl) rfl ?_
  rw [startE_eq 97 _ _ _ rfl rfl]
  set_option maxRecDepth 100000 in simp (maxSteps := 10000000) only [go_sem, Nat.reduceAdd, Nat.reduceSub, Nat.reduceMul, Nat.reduceLT, Nat.reduceLeDiff, Nat.reduceEqDiff, Nat.reduceMod, Nat.reduceDiv, Int.reduceNeg, Int.reduceLE, Int.reduceLT, Int.reduceToNat, Int.reduceEq, Int.reduceNe, ↓reduceIte]
  refine call_of (Err_good d h) ?_
  set_option maxRecDepth 100000 in simp (maxSteps := 10000000) only [go_sem, Nat.reduceAdd, Nat.reduceSub, Nat.reduceMul, Nat.reduceLT, Nat.reduceLeDiff, Nat.reduceEqDiff, Nat.reduceMod, Nat.reduceDiv, Int.reduceNeg, Int.reduceLE, Int.reduceLT, Int.reduceToNat, Int.reduceEq, Int.reduceNe, ↓reduceIte,  h1, decide_false, decide_true, not_false_eq_true, not_true_eq_false, eq_self]
  refine call_of (Within_good 4 0 4) ?_
  set_option maxRecDepth 100000 in simp (maxSteps := 10000000) only [go_sem, Nat.reduceAdd, Nat.reduceSub, Nat.reduceMul, Nat.reduceLT, Nat.reduceLeDiff, Nat.reduceEqDiff, Nat.reduceMod, Nat.reduceDiv, Int.reduceNeg, Int.reduceLE, Int.reduceLT, Int.reduceToNat, Int.reduceEq, Int.reduceNe, ↓reduceIte,  show inB 4 0 4 = true from by decide, Bool.not_true]
  refine call_of (FindErr_good d o.name h) ?_
  set_option maxRecDepth 100000 in simp (maxSteps := 10000000) only [go_sem, Nat.reduceAdd, Nat.reduceSub, Nat.reduceMul, Nat.reduceLT, Nat.reduceLeDiff, Nat.reduceEqDiff, Nat.reduceMod, Nat.reduceDiv, Int.reduceNeg, Int.reduceLE, Int.reduceLT, Int.reduceToNat, Int.reduceEq, Int.reduceNe, ↓reduceIte,  h2, decide_false, decide_true, not_false_eq_true, not_true_eq_false, eq_self]
  set_option maxRecDepth 100000 in simp (maxSteps := 10000000) only [go_sem, Nat.reduceAdd, Nat.reduceSub, Nat.reduceMul, Nat.reduceLT, Nat.reduceLeDiff, Nat.reduceEqDiff, Nat.reduceMod, Nat.reduceDiv, Int.reduceNeg, Int.reduceLE, Int.reduceLT, Int.reduceToNat, Int.reduceEq, Int.reduceNe, ↓reduceIte,  htt]
  refine call_of (r3) ?_
  set_option maxRecDepth 100000 in simp (maxSteps := 10000000) only [go_sem, Nat.reduceAdd, Nat.reduceSub, Nat.reduceMul, Nat.reduceLT, Nat.reduceLeDiff, Nat.reduceEqDiff, Nat.reduceMod, Nat.reduceDiv, Int.reduceNeg, Int.reduceLE, Int.reduceLT, Int.reduceToNat, Int.reduceEq, Int.reduceNe, ↓reduceIte]
  refine call_of (r4) ?_
  set_option maxRecDepth 100000 in simp (maxSteps := 10000000) only [go_sem, Nat.reduceAdd, Nat.reduceSub, Nat.reduceMul, Nat.reduceLT, Nat.reduceLeDiff, Nat.reduceEqDiff, Nat.reduceMod, Nat.reduceDiv, Int.reduceNeg, Int.reduceLE, Int.reduceLT, Int.reduceToNat, Int.reduceEq, Int.reduceNe, ↓reduceIte]
end Go.Proofs.Ytcmnbfpcomcejaa.C08
