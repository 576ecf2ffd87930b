/- Chapter 8: the reference's actions of creation and destruction. -/
import Derived.Test.YtcmnbfpcomcejaaC14
namespace Go.Proofs.Ytcmnbfpcomcejaa.C08
open Go Go.Proofs Go.Proofs.Ytcmnbfpcomcejaa.Ab
set_option linter.unusedSimpArgs false
attribute [local congr] ite_ctx

theorem is_good (p q : Dir) (e f : Int) (h : p.objects.length ≤ 1000000) (he : e = f) (hp : p = if f = 0 then q else noDir) : Ans Try.prog 28 [.agg (encDir p), .int .i64 e, .agg (encDir q), .int .i64 f] (.bool true) := by
  subst he
  refine Classical.byCases (fun h1 : e = 0 => ?_) fun h1 => ?_
  · subst h1
    rw [if_pos rfl] at hp
    subst hp
    have hs := Same_good p p h
    rw [decide_eq_true rfl] at hs
    refine good_run [] mixed Try.func28 rfl Try.ntmps28 (rs := [.tmp 8]) rfl (by decide +kernel) (by kernel_rfl) rfl ?_
    rw [startE_eq 29 _ _ _ rfl rfl]
    set_option maxRecDepth 100000 in simp (maxSteps := 10000000) only [go_sem, Nat.reduceAdd, Nat.reduceSub, Nat.reduceMul, Nat.reduceLT, Nat.reduceLeDiff, Nat.reduceEqDiff, Nat.reduceMod, Nat.reduceDiv, Int.reduceNeg, Int.reduceLE, Int.reduceLT, Int.reduceToNat, Int.reduceEq, Int.reduceNe, ↓reduceIte]
    refine call_of (hs) ?_
    set_option maxRecDepth 100000 in simp (maxSteps := 10000000) only [go_sem, Nat.reduceAdd, Nat.reduceSub, Nat.reduceMul, Nat.reduceLT, Nat.reduceLeDiff, Nat.reduceEqDiff, Nat.reduceMod, Nat.reduceDiv, Int.reduceNeg, Int.reduceLE, Int.reduceLT, Int.reduceToNat, Int.reduceEq, Int.reduceNe, ↓reduceIte]
    done
  · rw [if_neg h1] at hp
    have hs := none_good p
    rw [decide_eq_true hp] at hs
    refine good_run [] mixed Try.func28 rfl Try.ntmps28 (rs := [.tmp 8]) rfl (by decide +kernel) (by kernel_rfl) rfl ?_
    rw [startE_eq 29 _ _ _ rfl rfl]
    set_option maxRecDepth 100000 in simp (maxSteps := 10000000) only [go_sem, Nat.reduceAdd, Nat.reduceSub, Nat.reduceMul, Nat.reduceLT, Nat.reduceLeDiff, Nat.reduceEqDiff, Nat.reduceMod, Nat.reduceDiv, Int.reduceNeg, Int.reduceLE, Int.reduceLT, Int.reduceToNat, Int.reduceEq, Int.reduceNe, ↓reduceIte,  h1, decide_true, decide_false, not_false_eq_true]
    refine call_of (hs) ?_
    set_option maxRecDepth 100000 in simp (maxSteps := 10000000) only [go_sem, Nat.reduceAdd, Nat.reduceSub, Nat.reduceMul, Nat.reduceLT, Nat.reduceLeDiff, Nat.reduceEqDiff, Nat.reduceMod, Nat.reduceDiv, Int.reduceNeg, Int.reduceLE, Int.reduceLT, Int.reduceToNat, Int.reduceEq, Int.reduceNe, ↓reduceIte,  h1, decide_true, decide_false, not_false_eq_true]
    done

theorem le_noDir (e : Int) : AVle (.tup [.agg [.nils, .int .i64 0], .int .i64 e]) (.tup [.agg (encDir noDir), .int .i64 e]) := .tup' (.cons (.agg' (.cons .nils (.cons (.refl _) .nil))) (.cons (.refl _) .nil))

theorem createE2_ok {d : Dir} {o : Obj} (h : createE2 d o = 0) : errObj o = 0 ∧ o.seg = 0 ∧ hasLib d.objects o.name.lib = true ∧ ¬ 0 ≤ placeIx d.objects o.name ∧ ¬ (d.objects.length = 40 ∨ 9999 < d.next) := by
  rw [createE2] at h
  by_cases a1 : errObj o = 0
  case neg => rw [if_pos a1] at h; exact absurd h a1
  rw [if_neg (not_not_intro a1)] at h
  by_cases a2 : o.seg = 0
  case neg => rw [if_pos a2] at h; cases h
  rw [if_neg (not_not_intro a2)] at h
  by_cases a3 : hasLib d.objects o.name.lib = false
  · rw [if_pos a3] at h; cases h
  rw [if_neg a3] at h
  by_cases a4 : 0 ≤ placeIx d.objects o.name
  · rw [if_pos a4] at h; cases h
  rw [if_neg a4] at h
  by_cases a5 : d.objects.length = 40 ∨ 9999 < d.next
  · rw [if_pos a5] at h; cases h
  exact ⟨a1, a2, by simpa using a3, a4, a5⟩

set_option maxHeartbeats 4000000 in
theorem RefCreate_good (d : Dir) (o : Obj) (s : ByteArray) (h : d.objects.length ≤ 1000000) : Ans Try.prog 27 [.agg (encDir d), .agg (encAction ⟨0, o, s⟩)] (.tup [.agg (encDir (createP d o)), .int .i64 (createE d o)]) := by
  refine Classical.byCases (fun h1 : (dirE d).2 = 0 => ?_) fun h1 => ?_
  case refine_2 =>
    have he : createE d o = (dirE d).2 := by rw [createE, if_pos h1]
    rw [createP, if_neg (by rw [he]; exact h1), he]
    refine Ans.le (r := .tup [.agg [.nils, .int .i64 0], .int .i64 (dirE d).2]) ?_ (le_noDir _) rfl
    refine good_run [] mixed Try.func27 rfl Try.ntmps27 (rs := [.cell 4 37, .tmp 5]) rfl (by decide +kernel) (by kernel_rfl) rfl ?_
    rw [startE_eq 97 _ _ _ rfl rfl]
    set_option maxRecDepth 100000 in simp (maxSteps := 10000000) only [go_sem, Nat.reduceAdd, Nat.reduceSub, Nat.reduceMul, Nat.reduceLT, Nat.reduceLeDiff, Nat.reduceEqDiff, Nat.reduceMod, Nat.reduceDiv, Int.reduceNeg, Int.reduceLE, Int.reduceLT, Int.reduceToNat, Int.reduceEq, Int.reduceNe, ↓reduceIte]
    refine call_of (Err_good d h) ?_
    set_option maxRecDepth 100000 in simp (maxSteps := 10000000) only [go_sem, Nat.reduceAdd, Nat.reduceSub, Nat.reduceMul, Nat.reduceLT, Nat.reduceLeDiff, Nat.reduceEqDiff, Nat.reduceMod, Nat.reduceDiv, Int.reduceNeg, Int.reduceLE, Int.reduceLT, Int.reduceToNat, Int.reduceEq, Int.reduceNe, ↓reduceIte,  h1, decide_false, decide_true, not_false_eq_true]
  refine Classical.byCases (fun h2 : createE2 d o = 0 => ?_) fun h2 => ?_
  case refine_2 =>
    have he : createE d o = createE2 d o := by rw [createE_eq, if_neg (not_not_intro h1)]
    rw [createP, if_neg (by rw [he]; exact h2), he]
    refine Ans.le (r := .tup [.agg [.nils, .int .i64 0], .int .i64 (createE2 d o)]) ?_ (le_noDir _) rfl
    refine good_run [] mixed Try.func27 rfl Try.ntmps27 (rs := [.cell 4 37, .tmp 5]) rfl (by decide +kernel) (by kernel_rfl) rfl ?_
    rw [startE_eq 97 _ _ _ rfl rfl]
    set_option maxRecDepth 100000 in simp (maxSteps := 10000000) only [go_sem, Nat.reduceAdd, Nat.reduceSub, Nat.reduceMul, Nat.reduceLT, Nat.reduceLeDiff, Nat.reduceEqDiff, Nat.reduceMod, Nat.reduceDiv, Int.reduceNeg, Int.reduceLE, Int.reduceLT, Int.reduceToNat, Int.reduceEq, Int.reduceNe, ↓reduceIte]
    refine call_of (Err_good d h) ?_
    set_option maxRecDepth 100000 in simp (maxSteps := 10000000) only [go_sem, Nat.reduceAdd, Nat.reduceSub, Nat.reduceMul, Nat.reduceLT, Nat.reduceLeDiff, Nat.reduceEqDiff, Nat.reduceMod, Nat.reduceDiv, Int.reduceNeg, Int.reduceLE, Int.reduceLT, Int.reduceToNat, Int.reduceEq, Int.reduceNe, ↓reduceIte,  h1, decide_false, decide_true, not_false_eq_true, not_true_eq_false, eq_self]
    refine call_of (Within_good 0 0 4) ?_
    set_option maxRecDepth 100000 in simp (maxSteps := 10000000) only [go_sem, Nat.reduceAdd, Nat.reduceSub, Nat.reduceMul, Nat.reduceLT, Nat.reduceLeDiff, Nat.reduceEqDiff, Nat.reduceMod, Nat.reduceDiv, Int.reduceNeg, Int.reduceLE, Int.reduceLT, Int.reduceToNat, Int.reduceEq, Int.reduceNe, ↓reduceIte,  show inB 0 0 4 = true from by decide, Bool.not_true]
    refine call_of (CreateErr_good d o h) ?_
    set_option maxRecDepth 100000 in simp (maxSteps := 10000000) only [go_sem, Nat.reduceAdd, Nat.reduceSub, Nat.reduceMul, Nat.reduceLT, Nat.reduceLeDiff, Nat.reduceEqDiff, Nat.reduceMod, Nat.reduceDiv, Int.reduceNeg, Int.reduceLE, Int.reduceLT, Int.reduceToNat, Int.reduceEq, Int.reduceNe, ↓reduceIte,  h2, decide_false, decide_true, not_false_eq_true, not_true_eq_false]
  have he : createE d o = 0 := by rw [createE_eq, if_neg (not_not_intro h1), h2]
  have hok := dirE_ok h1
  have hk := createE2_ok h2
  rw [createP, if_pos he, he, sortO_ins (o := { o with seg := d.next }) (dir_sorted h1) (place_no hk.2.2.2.1)]
  refine good_run [] mixed Try.func27 rfl Try.ntmps27 (rs := [.cell 4 37, .tmp 5]) rfl (by decide +kernel) (by kernel_rfl) rfl ?_
  rw [startE_eq 97 _ _ _ rfl rfl]
  set_option maxRecDepth 100000 in simp (maxSteps := 10000000) only [go_sem, Nat.reduceAdd, Nat.reduceSub, Nat.reduceMul, Nat.reduceLT, Nat.reduceLeDiff, Nat.reduceEqDiff, Nat.reduceMod, Nat.reduceDiv, Int.reduceNeg, Int.reduceLE, Int.reduceLT, Int.reduceToNat, Int.reduceEq, Int.reduceNe, ↓reduceIte]
  refine call_of (Err_good d h) ?_
  set_option maxRecDepth 100000 in simp (maxSteps := 10000000) only [go_sem, Nat.reduceAdd, Nat.reduceSub, Nat.reduceMul, Nat.reduceLT, Nat.reduceLeDiff, Nat.reduceEqDiff, Nat.reduceMod, Nat.reduceDiv, Int.reduceNeg, Int.reduceLE, Int.reduceLT, Int.reduceToNat, Int.reduceEq, Int.reduceNe, ↓reduceIte,  h1, decide_false, decide_true, not_false_eq_true, not_true_eq_false, eq_self]
  refine call_of (Within_good 0 0 4) ?_
  set_option maxRecDepth 100000 in simp (maxSteps := 10000000) only [go_sem, Nat.reduceAdd, Nat.reduceSub, Nat.reduceMul, Nat.reduceLT, Nat.reduceLeDiff, Nat.reduceEqDiff, Nat.reduceMod, Nat.reduceDiv, Int.reduceNeg, Int.reduceLE, Int.reduceLT, Int.reduceToNat, Int.reduceEq, Int.reduceNe, ↓reduceIte,  show inB 0 0 4 = true from by decide, Bool.not_true]
  refine call_of (CreateErr_good d o h) ?_
  set_option maxRecDepth 100000 in simp (maxSteps := 10000000) only [go_sem, Nat.reduceAdd, Nat.reduceSub, Nat.reduceMul, Nat.reduceLT, Nat.reduceLeDiff, Nat.reduceEqDiff, Nat.reduceMod, Nat.reduceDiv, Int.reduceNeg, Int.reduceLE, Int.reduceLT, Int.reduceToNat, Int.reduceEq, Int.reduceNe, ↓reduceIte,  h2, decide_false, decide_true, not_false_eq_true, not_true_eq_false, eq_self]
  refine call_of (Created_good d o h ⟨hok.2.1, by omega⟩) ?_
  set_option maxRecDepth 100000 in simp (maxSteps := 10000000) only [go_sem, Nat.reduceAdd, Nat.reduceSub, Nat.reduceMul, Nat.reduceLT, Nat.reduceLeDiff, Nat.reduceEqDiff, Nat.reduceMod, Nat.reduceDiv, Int.reduceNeg, Int.reduceLE, Int.reduceLT, Int.reduceToNat, Int.reduceEq, Int.reduceNe, ↓reduceIte]

theorem destroyE_eq (d : Dir) (n : OName) : destroyE d n = if ¬ findE d n = 0 then findE d n else if usedB d.objects n = true then 26 else 0 := rfl
theorem findE_dir {d : Dir} {n : OName} (h : findE d n = 0) : (dirE d).2 = 0 := (findE_ok h).1
set_option maxHeartbeats 4000000 in
theorem RefDestroy_good (d : Dir) (o : Obj) (s : ByteArray) (h : d.objects.length ≤ 1000000) : Ans Try.prog 27 [.agg (encDir d), .agg (encAction ⟨1, o, s⟩)] (.tup [.agg (encDir (destroyP d o.name)), .int .i64 (destroyE d o.name)]) := by
  refine Classical.byCases (fun h1 : (dirE d).2 = 0 => ?_) fun h1 => ?_
  case refine_2 =>
    have hf : findE d o.name = (dirE d).2 := by rw [findE, if_pos h1]
    have he : destroyE d o.name = (dirE d).2 := by rw [destroyE, hf, if_pos h1]
    rw [destroyP, if_neg (by rw [he]; exact h1), he]
    refine Ans.le (r := .tup [.agg [.nils, .int .i64 0], .int .i64 (dirE d).2]) ?_ (le_noDir _) rfl
    refine good_run [] mixed Try.func27 rfl Try.ntmps27 (rs := [.cell 4 37, .tmp 5]) rfl (by decide +kernel) (by kernel_rfl) rfl ?_
    rw [startE_eq 97 _ _ _ rfl rfl]
    set_option maxRecDepth 100000 in simp (maxSteps := 10000000) only [go_sem, Nat.reduceAdd, Nat.reduceSub, Nat.reduceMul, Nat.reduceLT, Nat.reduceLeDiff, Nat.reduceEqDiff, Nat.reduceMod, Nat.reduceDiv, Int.reduceNeg, Int.reduceLE, Int.reduceLT, Int.reduceToNat, Int.reduceEq, Int.reduceNe, ↓reduceIte]
    refine call_of (Err_good d h) ?_
    set_option maxRecDepth 100000 in simp (maxSteps := 10000000) only [go_sem, Nat.reduceAdd, Nat.reduceSub, Nat.reduceMul, Nat.reduceLT, Nat.reduceLeDiff, Nat.reduceEqDiff, Nat.reduceMod, Nat.reduceDiv, Int.reduceNeg, Int.reduceLE, Int.reduceLT, Int.reduceToNat, Int.reduceEq, Int.reduceNe, ↓reduceIte,  h1, decide_false, decide_true, not_false_eq_true]
  refine Classical.byCases (fun h2 : findE d o.name = 0 => ?_) fun h2 => ?_
  case refine_2 =>
    have he : destroyE d o.name = findE d o.name := by rw [destroyE, if_pos h2]
    rw [destroyP, if_neg (by rw [he]; exact h2), he]
    refine Ans.le (r := .tup [.agg [.nils, .int .i64 0], .int .i64 (findE d o.name)]) ?_ (le_noDir _) rfl
    refine good_run [] mixed Try.func27 rfl Try.ntmps27 (rs := [.cell 4 37, .tmp 5]) rfl (by decide +kernel) (by kernel_rfl) rfl ?_
    rw [startE_eq 97 _ _ _ rfl rfl]
    set_option maxRecDepth 100000 in simp (maxSteps := 10000000) only [go_sem, Nat.reduceAdd, Nat.reduceSub, Nat.reduceMul, Nat.reduceLT, Nat.reduceLeDiff, Nat.reduceEqDiff, Nat.reduceMod, Nat.reduceDiv, Int.reduceNeg, Int.reduceLE, Int.reduceLT, Int.reduceToNat, Int.reduceEq, Int.reduceNe, ↓reduceIte]
    refine call_of (Err_good d h) ?_
    set_option maxRecDepth 100000 in simp (maxSteps := 10000000) only [go_sem, Nat.reduceAdd, Nat.reduceSub, Nat.reduceMul, Nat.reduceLT, Nat.reduceLeDiff, Nat.reduceEqDiff, Nat.reduceMod, Nat.reduceDiv, Int.reduceNeg, Int.reduceLE, Int.reduceLT, Int.reduceToNat, Int.reduceEq, Int.reduceNe, ↓reduceIte,  h1, decide_false, decide_true, not_false_eq_true, not_true_eq_false, eq_self]
    refine call_of (Within_good 1 0 4) ?_
    set_option maxRecDepth 100000 in simp (maxSteps := 10000000) only [go_sem, Nat.reduceAdd, Nat.reduceSub, Nat.reduceMul, Nat.reduceLT, Nat.reduceLeDiff, Nat.reduceEqDiff, Nat.reduceMod, Nat.reduceDiv, Int.reduceNeg, Int.reduceLE, Int.reduceLT, Int.reduceToNat, Int.reduceEq, Int.reduceNe, ↓reduceIte,  show inB 1 0 4 = true from by decide, Bool.not_true]
    refine call_of (FindErr_good d o.name h) ?_
    set_option maxRecDepth 100000 in simp (maxSteps := 10000000) only [go_sem, Nat.reduceAdd, Nat.reduceSub, Nat.reduceMul, Nat.reduceLT, Nat.reduceLeDiff, Nat.reduceEqDiff, Nat.reduceMod, Nat.reduceDiv, Int.reduceNeg, Int.reduceLE, Int.reduceLT, Int.reduceToNat, Int.reduceEq, Int.reduceNe, ↓reduceIte,  h2, decide_false, decide_true, not_false_eq_true, not_true_eq_false]
  refine Classical.byCases (fun h3 : usedB d.objects o.name = true => ?_) fun h3 => ?_
  · have he : destroyE d o.name = 26 := by rw [destroyE, if_neg (not_not_intro h2), if_pos h3]
    rw [destroyP, if_neg (by rw [he]; decide), he]
    refine Ans.le (r := .tup [.agg [.nils, .int .i64 0], .int .i64 26]) ?_ (le_noDir _) rfl
    refine good_run [] mixed Try.func27 rfl Try.ntmps27 (rs := [.cell 4 37, .tmp 5]) rfl (by decide +kernel) (by kernel_rfl) rfl ?_
    rw [startE_eq 97 _ _ _ rfl rfl]
    set_option maxRecDepth 100000 in simp (maxSteps := 10000000) only [go_sem, Nat.reduceAdd, Nat.reduceSub, Nat.reduceMul, Nat.reduceLT, Nat.reduceLeDiff, Nat.reduceEqDiff, Nat.reduceMod, Nat.reduceDiv, Int.reduceNeg, Int.reduceLE, Int.reduceLT, Int.reduceToNat, Int.reduceEq, Int.reduceNe, ↓reduceIte]
    refine call_of (Err_good d h) ?_
    set_option maxRecDepth 100000 in simp (maxSteps := 10000000) only [go_sem, Nat.reduceAdd, Nat.reduceSub, Nat.reduceMul, Nat.reduceLT, Nat.reduceLeDiff, Nat.reduceEqDiff, Nat.reduceMod, Nat.reduceDiv, Int.reduceNeg, Int.reduceLE, Int.reduceLT, Int.reduceToNat, Int.reduceEq, Int.reduceNe, ↓reduceIte,  h1, decide_false, decide_true, not_false_eq_true, not_true_eq_false, eq_self]
    refine call_of (Within_good 1 0 4) ?_
    set_option maxRecDepth 100000 in simp (maxSteps := 10000000) only [go_sem, Nat.reduceAdd, Nat.reduceSub, Nat.reduceMul, Nat.reduceLT, Nat.reduceLeDiff, Nat.reduceEqDiff, Nat.reduceMod, Nat.reduceDiv, Int.reduceNeg, Int.reduceLE, Int.reduceLT, Int.reduceToNat, Int.reduceEq, Int.reduceNe, ↓reduceIte,  show inB 1 0 4 = true from by decide, Bool.not_true]
    refine call_of (FindErr_good d o.name h) ?_
    set_option maxRecDepth 100000 in simp (maxSteps := 10000000) only [go_sem, Nat.reduceAdd, Nat.reduceSub, Nat.reduceMul, Nat.reduceLT, Nat.reduceLeDiff, Nat.reduceEqDiff, Nat.reduceMod, Nat.reduceDiv, Int.reduceNeg, Int.reduceLE, Int.reduceLT, Int.reduceToNat, Int.reduceEq, Int.reduceNe, ↓reduceIte,  h2, decide_false, decide_true, not_false_eq_true, not_true_eq_false, eq_self]
    refine call_of (IsUsed_good d o.name h) ?_
    set_option maxRecDepth 100000 in simp (maxSteps := 10000000) only [go_sem, Nat.reduceAdd, Nat.reduceSub, Nat.reduceMul, Nat.reduceLT, Nat.reduceLeDiff, Nat.reduceEqDiff, Nat.reduceMod, Nat.reduceDiv, Int.reduceNeg, Int.reduceLE, Int.reduceLT, Int.reduceToNat, Int.reduceEq, Int.reduceNe, ↓reduceIte,  h3]
  have he : destroyE d o.name = 0 := by rw [destroyE, if_neg (not_not_intro h2), if_neg h3]
  have h3' : usedB d.objects o.name = false := Bool.eq_false_iff.2 h3
  have hok := findE_ok h2
  rw [destroyP, if_pos he, he]
  generalize hx : placeIx d.objects o.name = x at *
  obtain ⟨i, rfl⟩ : ∃ i : Nat, x = (i : Int) := ⟨x.toNat, by omega⟩
  have hi : i < d.objects.length := by omega
  rw [Int.toNat_natCast]
  refine good_run [] mixed Try.func27 rfl Try.ntmps27 (rs := [.cell 4 37, .tmp 5]) rfl (by decide +kernel) (by kernel_rfl) rfl ?_
  rw [startE_eq 97 _ _ _ rfl rfl]
  set_option maxRecDepth 100000 in simp (maxSteps := 10000000) only [go_sem, Nat.reduceAdd, Nat.reduceSub, Nat.reduceMul, Nat.reduceLT, Nat.reduceLeDiff, Nat.reduceEqDiff, Nat.reduceMod, Nat.reduceDiv, Int.reduceNeg, Int.reduceLE, Int.reduceLT, Int.reduceToNat, Int.reduceEq, Int.reduceNe, ↓reduceIte]
  refine call_of (Err_good d h) ?_
  set_option maxRecDepth 100000 in simp (maxSteps := 10000000) only [go_sem, Nat.reduceAdd, Nat.reduceSub, Nat.reduceMul, Nat.reduceLT, Nat.reduceLeDiff, Nat.reduceEqDiff, Nat.reduceMod, Nat.reduceDiv, Int.reduceNeg, Int.reduceLE, Int.reduceLT, Int.reduceToNat, Int.reduceEq, Int.reduceNe, ↓reduceIte,  h1, decide_false, decide_true, not_false_eq_true, not_true_eq_false, eq_self]
  refine call_of (Within_good 1 0 4) ?_
  set_option maxRecDepth 100000 in simp (maxSteps := 10000000) only [go_sem, Nat.reduceAdd, Nat.reduceSub, Nat.reduceMul, Nat.reduceLT, Nat.reduceLeDiff, Nat.reduceEqDiff, Nat.reduceMod, Nat.reduceDiv, Int.reduceNeg, Int.reduceLE, Int.reduceLT, Int.reduceToNat, Int.reduceEq, Int.reduceNe, ↓reduceIte,  show inB 1 0 4 = true from by decide, Bool.not_true]
  refine call_of (FindErr_good d o.name h) ?_
  set_option maxRecDepth 100000 in simp (maxSteps := 10000000) only [go_sem, Nat.reduceAdd, Nat.reduceSub, Nat.reduceMul, Nat.reduceLT, Nat.reduceLeDiff, Nat.reduceEqDiff, Nat.reduceMod, Nat.reduceDiv, Int.reduceNeg, Int.reduceLE, Int.reduceLT, Int.reduceToNat, Int.reduceEq, Int.reduceNe, ↓reduceIte,  h2, decide_false, decide_true, not_false_eq_true, not_true_eq_false, eq_self]
  refine call_of (IsUsed_good d o.name h) ?_
  set_option maxRecDepth 100000 in simp (maxSteps := 10000000) only [go_sem, Nat.reduceAdd, Nat.reduceSub, Nat.reduceMul, Nat.reduceLT, Nat.reduceLeDiff, Nat.reduceEqDiff, Nat.reduceMod, Nat.reduceDiv, Int.reduceNeg, Int.reduceLE, Int.reduceLT, Int.reduceToNat, Int.reduceEq, Int.reduceNe, ↓reduceIte,  h3']
  refine callD_of (Place_good d o.name h) ?_
  set_option maxRecDepth 100000 in simp (maxSteps := 10000000) only [go_sem, Nat.reduceAdd, Nat.reduceSub, Nat.reduceMul, Nat.reduceLT, Nat.reduceLeDiff, Nat.reduceEqDiff, Nat.reduceMod, Nat.reduceDiv, Int.reduceNeg, Int.reduceLE, Int.reduceLT, Int.reduceToNat, Int.reduceEq, Int.reduceNe, ↓reduceIte,  hx]
  refine callD_of (Without_good d i h hi) ?_
  set_option maxRecDepth 100000 in simp (maxSteps := 10000000) only [go_sem, Nat.reduceAdd, Nat.reduceSub, Nat.reduceMul, Nat.reduceLT, Nat.reduceLeDiff, Nat.reduceEqDiff, Nat.reduceMod, Nat.reduceDiv, Int.reduceNeg, Int.reduceLE, Int.reduceLT, Int.reduceToNat, Int.reduceEq, Int.reduceNe, ↓reduceIte]
  decide +kernel

theorem createE_ok {d : Dir} {o : Obj} (h : createE d o = 0) : (dirE d).2 = 0 ∧ createE2 d o = 0 := by
  rw [createE_eq] at h
  by_cases h1 : (dirE d).2 = 0
  · rw [if_neg (not_not_intro h1)] at h; exact ⟨h1, h⟩
  · rw [if_pos h1] at h; exact absurd h h1
theorem createP_ins {d : Dir} {o : Obj} (h : createE d o = 0) : createP d o = ⟨insO { o with seg := d.next } d.objects, d.next + 1⟩ := by
  have h1 := createE_ok h
  have hk := createE2_ok h1.2
  rw [createP, if_pos h, sortO_ins (o := { o with seg := d.next }) (dir_sorted h1.1) (place_no hk.2.2.2.1)]

def sAPP : ByteArray := ⟨#[65, 80, 80]⟩
def sRUN : ByteArray := ⟨#[82, 85, 78]⟩
def sOWN : ByteArray := ⟨#[79, 87, 78]⟩
def runO (n : Int) : Obj := ⟨⟨sAPP, sRUN, 1⟩, sOWN, n, ⟨#[]⟩, ⟨#[]⟩⟩
def appO (n : Int) : Obj := ⟨⟨qsys, sAPP, 0⟩, sOWN, n, ⟨#[]⟩, ⟨#[]⟩⟩
def appD : Dir := ⟨[runO 2, appO 1], 3⟩
theorem App_good : Ans Try.prog 52 [] (.agg (encDir appD)) := by
  refine good_run [] mixed Try.func52 rfl Try.ntmps52 (rs := [.cell 0 37]) rfl (by decide +kernel) (by kernel_rfl) rfl ?_
  rw [startE_eq 7 _ _ _ rfl rfl]
  set_option maxRecDepth 100000 in simp (maxSteps := 10000000) only [go_sem, Nat.reduceAdd, Nat.reduceSub, Nat.reduceMul, Nat.reduceLT, Nat.reduceLeDiff, Nat.reduceEqDiff, Nat.reduceMod, Nat.reduceDiv, Int.reduceNeg, Int.reduceLE, Int.reduceLT, Int.reduceToNat, Int.reduceEq, Int.reduceNe, ↓reduceIte]
  exact ⟨rfl, rfl⟩
theorem e1 : createE ⟨[], 1⟩ (appO 0) = 0 := by decide +kernel
theorem p1 : createP ⟨[], 1⟩ (appO 0) = ⟨[appO 1], 2⟩ := by rw [createP_ins e1]; rfl
theorem e2 : createE ⟨[appO 1], 2⟩ (runO 0) = 0 := by decide +kernel
theorem p2 : createP ⟨[appO 1], 2⟩ (runO 0) = appD := by rw [createP_ins e2]; decide +kernel
theorem e3 : destroyE appD ⟨qsys, sAPP, 0⟩ = 26 := by decide +kernel
theorem c1 : Ans Try.prog 25 [.agg [.nils, .int .i64 1], .agg (encObj (appO 0))] (.tup [.agg (encDir ⟨[appO 1], 2⟩), .int .i64 0]) := by
  have h := Create_good ⟨[], 1⟩ (appO 0) (by decide)
  rw [e1, p1] at h
  exact Ans.args h (.cons (.agg' (.cons .nils (.cons (.refl _) .nil))) (.cons (.refl _) .nil))
theorem c2 : Ans Try.prog 25 [.agg (encDir ⟨[appO 1], 2⟩), .agg (encObj (runO 0))] (.tup [.agg (encDir appD), .int .i64 0]) := by
  have h := Create_good ⟨[appO 1], 2⟩ (runO 0) (by decide)
  rwa [e2, p2] at h
theorem c3 : Ans Try.prog 26 [.agg (encDir appD), .agg (encOName ⟨qsys, sAPP, 0⟩)] (.tup [.agg (encDir noDir), .int .i64 26]) := by
  have h := Destroy_good appD ⟨qsys, sAPP, 0⟩ (by decide)
  rw [destroyP, e3, if_neg (by decide)] at h
  exact h
theorem c4 : Ans Try.prog 53 [.agg (encDir appD), .agg (encDir appD)] (.bool true) := by
  have h := Same_good appD appD (by decide)
  rwa [decide_eq_true rfl] at h
set_option maxHeartbeats 4000000 in
theorem awake_gen (D A : Dir) (hl : 0 < A.objects.length) (hn : nth A.objects 0 = runO 2)
    (c0 : Ans Try.prog 52 [] (.agg (encDir A)))
    (c1 : Ans Try.prog 25 [.agg [.nils, .int .i64 1], .agg (encObj (appO 0))] (.tup [.agg (encDir D), .int .i64 0]))
    (c2 : Ans Try.prog 25 [.agg (encDir D), .agg (encObj (runO 0))] (.tup [.agg (encDir A), .int .i64 0]))
    (c3 : Ans Try.prog 26 [.agg (encDir A), .agg (encOName ⟨qsys, sAPP, 0⟩)] (.tup [.agg (encDir noDir), .int .i64 26]))
    (c4 : Ans Try.prog 53 [.agg (encDir A), .agg (encDir A)] (.bool true)) : Ans Try.prog 14 [] (.bool true) := by
  have hl2 : (0 : Int) < (A.objects.length : Int) := by omega
  refine good_run [] mixed Try.func14 rfl Try.ntmps14 (rs := [.tmp 0]) rfl (by decide +kernel) (by kernel_rfl) rfl ?_
  rw [startE_eq 47 _ _ _ rfl rfl]
  set_option maxRecDepth 100000 in simp (maxSteps := 10000000) only [go_sem, Nat.reduceAdd, Nat.reduceSub, Nat.reduceMul, Nat.reduceLT, Nat.reduceLeDiff, Nat.reduceEqDiff, Nat.reduceMod, Nat.reduceDiv, Int.reduceNeg, Int.reduceLE, Int.reduceLT, Int.reduceToNat, Int.reduceEq, Int.reduceNe, ↓reduceIte]
  refine call_of (c1) ?_
  set_option maxRecDepth 100000 in simp (maxSteps := 10000000) only [go_sem, Nat.reduceAdd, Nat.reduceSub, Nat.reduceMul, Nat.reduceLT, Nat.reduceLeDiff, Nat.reduceEqDiff, Nat.reduceMod, Nat.reduceDiv, Int.reduceNeg, Int.reduceLE, Int.reduceLT, Int.reduceToNat, Int.reduceEq, Int.reduceNe, ↓reduceIte]
  refine callD_of (c0) ?_
  set_option maxRecDepth 100000 in simp (maxSteps := 10000000) only [go_sem, Nat.reduceAdd, Nat.reduceSub, Nat.reduceMul, Nat.reduceLT, Nat.reduceLeDiff, Nat.reduceEqDiff, Nat.reduceMod, Nat.reduceDiv, Int.reduceNeg, Int.reduceLE, Int.reduceLT, Int.reduceToNat, Int.reduceEq, Int.reduceNe, ↓reduceIte,  hl, hl2, hn]
  refine callD_of (c2) ?_
  set_option maxRecDepth 100000 in simp (maxSteps := 10000000) only [go_sem, Nat.reduceAdd, Nat.reduceSub, Nat.reduceMul, Nat.reduceLT, Nat.reduceLeDiff, Nat.reduceEqDiff, Nat.reduceMod, Nat.reduceDiv, Int.reduceNeg, Int.reduceLE, Int.reduceLT, Int.reduceToNat, Int.reduceEq, Int.reduceNe, ↓reduceIte]
  refine ⟨by decide +kernel, ?_⟩
  refine callD_of (c0) ?_
  set_option maxRecDepth 100000 in simp (maxSteps := 10000000) only [go_sem, Nat.reduceAdd, Nat.reduceSub, Nat.reduceMul, Nat.reduceLT, Nat.reduceLeDiff, Nat.reduceEqDiff, Nat.reduceMod, Nat.reduceDiv, Int.reduceNeg, Int.reduceLE, Int.reduceLT, Int.reduceToNat, Int.reduceEq, Int.reduceNe, ↓reduceIte]
  refine callD_of (c3) ?_
  set_option maxRecDepth 100000 in simp (maxSteps := 10000000) only [go_sem, Nat.reduceAdd, Nat.reduceSub, Nat.reduceMul, Nat.reduceLT, Nat.reduceLeDiff, Nat.reduceEqDiff, Nat.reduceMod, Nat.reduceDiv, Int.reduceNeg, Int.reduceLE, Int.reduceLT, Int.reduceToNat, Int.reduceEq, Int.reduceNe, ↓reduceIte]
  refine ⟨by decide +kernel, ?_⟩
  refine callD_of (c0) ?_
  set_option maxRecDepth 100000 in simp (maxSteps := 10000000) only [go_sem, Nat.reduceAdd, Nat.reduceSub, Nat.reduceMul, Nat.reduceLT, Nat.reduceLeDiff, Nat.reduceEqDiff, Nat.reduceMod, Nat.reduceDiv, Int.reduceNeg, Int.reduceLE, Int.reduceLT, Int.reduceToNat, Int.reduceEq, Int.reduceNe, ↓reduceIte]
  refine callD_of (c4) ?_
  set_option maxRecDepth 100000 in simp (maxSteps := 10000000) only [go_sem, Nat.reduceAdd, Nat.reduceSub, Nat.reduceMul, Nat.reduceLT, Nat.reduceLeDiff, Nat.reduceEqDiff, Nat.reduceMod, Nat.reduceDiv, Int.reduceNeg, Int.reduceLE, Int.reduceLT, Int.reduceToNat, Int.reduceEq, Int.reduceNe, ↓reduceIte]
  decide +kernel
theorem awake_good : Ans Try.prog 14 [] (.bool true) := awake_gen ⟨[appO 1], 2⟩ appD (by decide) rfl App_good c1 c2 c3 c4
end Go.Proofs.Ytcmnbfpcomcejaa.C08
