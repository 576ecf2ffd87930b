/- Chapter 9: entries of library lists leave. -/
import Derived.Test.YtppjmigiogddpaaE10
namespace Go.Proofs.Ytppjmigiogddpaa.C08
open Go Go.Proofs Go.Proofs.Ytppjmigiogddpaa.Ab
set_option linter.unusedSimpArgs false
set_option linter.unusedVariables false
attribute [local congr] ite_ctx

set_option maxHeartbeats 4000000 in
theorem DeleteS (l : List ByteArray) (i j : Nat) (hij : i < j) (hj : j ≤ l.length) :
    AnsM Try.prog 64 33 [.obj 1 9 1 false true (l.map encStr)] [.ref 33 1, .int .i64 (i : Int), .int .i64 (j : Int)] (.ref 33 2) [(33, .obj 2 9 1 false true ((l.take i ++ l.drop j).map encStr))] := by
  have q1 : (i : Int) ≤ (j : Int) := by omega
  have q2 : (j : Int) ≤ (l.length : Int) := by omega
  have q3 : (0 : Int) ≤ (i : Int) := by omega
  have q4 : ¬ (i : Int) = (j : Int) := by omega
  have q5 : (i : Int) ≤ (l.length : Int) := by omega
  have q6 : (0 : Int) ≤ (j : Int) := by omega
  have q7 : j + (l.length - j) ≤ l.length := by omega
  have q8 : i + (l.length - j) ≤ l.length := by omega
  have q9 : (0 : Int) ≤ ((i + (l.length - j) : Nat) : Int) := by omega
  have q10 : ((i + (l.length - j) : Nat) : Int) ≤ (l.length : Int) := by omega
  have q11 : i + (l.length - j) + (l.length - (i + (l.length - j))) = l.length := by omega
  have t6 : List.take (l.length - j) (List.drop j l) = List.drop j l := List.take_of_length_le (by simp)
  have t7 : (List.take i l ++ List.drop j l ++ List.drop (i + (l.length - j)) l).length = l.length := by
    simp only [List.length_append, List.length_take, List.length_drop]; omega
  have t8 : (List.take i l ++ List.drop j l).length = i + (l.length - j) := by
    simp only [List.length_append, List.length_take, List.length_drop]; omega
  have t5 : List.take (i + (l.length - j)) (List.take i l ++ List.drop j l ++ List.drop (i + (l.length - j)) l) = List.take i l ++ List.drop j l := by rw [← t8, List.take_left]
  have t3 : (i + (l.length - j)) ≤ (List.map encStr (List.take (i + (l.length - j)) (List.take i l ++ List.drop j l ++ List.drop (i + (l.length - j)) l)) ++ List.replicate (l.length - (i + (l.length - j))) [AV.str { data := #[] }] ++ List.map encStr (List.drop l.length (List.take i l ++ List.drop j l ++ List.drop (i + (l.length - j)) l))).length := by
    rw [t5]; simp only [List.length_append, List.length_map, t8]; omega
  have t4 : List.take (i + (l.length - j)) (List.map encStr (List.take (i + (l.length - j)) (List.take i l ++ List.drop j l ++ List.drop (i + (l.length - j)) l)) ++ List.replicate (l.length - (i + (l.length - j))) [AV.str { data := #[] }] ++ List.map encStr (List.drop l.length (List.take i l ++ List.drop j l ++ List.drop (i + (l.length - j)) l))) = List.map encStr (List.take i l ++ List.drop j l) := by
    rw [t5, List.append_assoc]
    exact List.take_left' (by rw [List.length_map, t8])
  refine goodM_run [(3000007, [], [100000000000000000000])] mixed Try.func64 rfl Try.ntmps64 (rs := [.tmp 6]) rfl (show wfCode 34 _ = true by decide +kernel) (by kernel_rfl) ?_
  rw [startM_eq 33 _ _ _ _ rfl rfl]
  set_option maxRecDepth 100000 in simp (maxSteps := 10000000) only [go_sem, Nat.reduceAdd, Nat.reduceSub, Nat.reduceMul, Nat.reduceLT, Nat.reduceLeDiff, Nat.reduceEqDiff, Nat.reduceMod, Nat.reduceDiv, Int.reduceNeg, Int.reduceLE, Int.reduceLT, Int.reduceToNat, Int.reduceEq, Int.reduceNe, ↓reduceIte,  List.length_map, Int.le_refl, Nat.le_refl, q1, q2, q3, q4, q5, q6, Int.toNat_natCast, Nat.sub_zero, Nat.zero_add, Nat.zero_le, t6, q7, q8, List.length_drop]
  refine ⟨by decide +kernel, ?_⟩
  set_option maxRecDepth 100000 in simp (maxSteps := 10000000) only [go_sem, Nat.reduceAdd, Nat.reduceSub, Nat.reduceMul, Nat.reduceLT, Nat.reduceLeDiff, Nat.reduceEqDiff, Nat.reduceMod, Nat.reduceDiv, Int.reduceNeg, Int.reduceLE, Int.reduceLT, Int.reduceToNat, Int.reduceEq, Int.reduceNe, ↓reduceIte,  t7, Int.le_refl, Nat.le_refl, q8, q9, q10, q11, t3, t4, Int.toNat_natCast, Nat.sub_zero, Nat.zero_add, Nat.zero_le, List.length_drop]
  simp

def zeroL : LList := ⟨[], ⟨#[]⟩, []⟩
def remE (d : Dir) (l : LList) (s : ByteArray) : Int := if ¬ (listE d l).2 = 0 then (listE d l).2 else if ixS l.user s < 0 then 40 else 0
def withoutS (l : List ByteArray) (i : Nat) : List ByteArray := l.take i ++ l.drop (i + 1)
def remP (d : Dir) (l : LList) (s : ByteArray) : LList := if remE d l s = 0 then ⟨l.system, l.current, withoutS l.user (ixS l.user s).toNat⟩ else zeroL
theorem le_zeroL : AVle (.agg [.nils, .str ⟨#[]⟩, .nils]) (.agg (encLL zeroL)) := .agg' (.cons .nils (.cons (.refl _) (.cons .nils .nil)))
theorem ixS_range (l : List ByteArray) (s : ByteArray) : ixS l s = -1 ∨ (0 ≤ ixS l s ∧ ixS l s < (l.length : Int)) := by
  have := findIx_ge (fun p : ByteArray => decide (p = s)) l 0
  unfold ixS; omega
set_option maxHeartbeats 4000000 in
theorem RemoveEntry_good (d : Dir) (l : LList) (s : ByteArray) (h : d.objects.length ≤ 1000000) (h1 : l.system.length ≤ 1000) (h2 : l.user.length ≤ 1000) :
    Ans Try.prog 29 [.agg (encDir d), .agg (encLL l), .str s] (.tup [.agg (encLL (remP d l s)), .int .i64 (remE d l s)]) := by
  have cl := CheckList_good d l h h1 h2
  have ix := IndexS_good l.user s (by omega)
  refine Classical.byCases (fun k1 : (listE d l).2 = 0 => ?_) fun k1 => ?_
  case refine_2 =>
    have he : remE d l s = (listE d l).2 := by rw [remE, if_pos k1]
    rw [remP, if_neg (by rw [he]; exact k1), he]
    refine Ans.le (r := .tup [.agg [.nils, .str ⟨#[]⟩, .nils], .int .i64 (listE d l).2]) ?_ (.tup' (.cons le_zeroL (.cons (.refl _) .nil))) rfl
    refine good_run [] mixed Try.func29 rfl Try.ntmps29 (rs := [.cell 6 41, .tmp 7]) rfl (by decide +kernel) (by kernel_rfl) rfl ?_
    rw [startE_eq 41 _ _ _ rfl rfl]
    set_option maxRecDepth 100000 in simp (maxSteps := 10000000) only [go_sem, Nat.reduceAdd, Nat.reduceSub, Nat.reduceMul, Nat.reduceLT, Nat.reduceLeDiff, Nat.reduceEqDiff, Nat.reduceMod, Nat.reduceDiv, Int.reduceNeg, Int.reduceLE, Int.reduceLT, Int.reduceToNat, Int.reduceEq, Int.reduceNe, ↓reduceIte]
    refine call_of (cl) ?_
    set_option maxRecDepth 100000 in simp (maxSteps := 10000000) only [go_sem, Nat.reduceAdd, Nat.reduceSub, Nat.reduceMul, Nat.reduceLT, Nat.reduceLeDiff, Nat.reduceEqDiff, Nat.reduceMod, Nat.reduceDiv, Int.reduceNeg, Int.reduceLE, Int.reduceLT, Int.reduceToNat, Int.reduceEq, Int.reduceNe, ↓reduceIte,  k1, not_false_eq_true, decide_true]
  refine Classical.byCases (fun k2 : ixS l.user s < 0 => ?_) fun k2 => ?_
  · have he : remE d l s = 40 := by rw [remE, if_neg (not_not_intro k1), if_pos k2]
    rw [remP, if_neg (by rw [he]; decide), he]
    refine Ans.le (r := .tup [.agg [.nils, .str ⟨#[]⟩, .nils], .int .i64 40]) ?_ (.tup' (.cons le_zeroL (.cons (.refl _) .nil))) rfl
    refine good_run [] mixed Try.func29 rfl Try.ntmps29 (rs := [.cell 6 41, .tmp 7]) rfl (by decide +kernel) (by kernel_rfl) rfl ?_
    rw [startE_eq 41 _ _ _ rfl rfl]
    set_option maxRecDepth 100000 in simp (maxSteps := 10000000) only [go_sem, Nat.reduceAdd, Nat.reduceSub, Nat.reduceMul, Nat.reduceLT, Nat.reduceLeDiff, Nat.reduceEqDiff, Nat.reduceMod, Nat.reduceDiv, Int.reduceNeg, Int.reduceLE, Int.reduceLT, Int.reduceToNat, Int.reduceEq, Int.reduceNe, ↓reduceIte]
    refine call_of (cl) ?_
    set_option maxRecDepth 100000 in simp (maxSteps := 10000000) only [go_sem, Nat.reduceAdd, Nat.reduceSub, Nat.reduceMul, Nat.reduceLT, Nat.reduceLeDiff, Nat.reduceEqDiff, Nat.reduceMod, Nat.reduceDiv, Int.reduceNeg, Int.reduceLE, Int.reduceLT, Int.reduceToNat, Int.reduceEq, Int.reduceNe, ↓reduceIte,  k1, not_true_eq_false, decide_false]
    refine call_of (ix) ?_
    set_option maxRecDepth 100000 in simp (maxSteps := 10000000) only [go_sem, Nat.reduceAdd, Nat.reduceSub, Nat.reduceMul, Nat.reduceLT, Nat.reduceLeDiff, Nat.reduceEqDiff, Nat.reduceMod, Nat.reduceDiv, Int.reduceNeg, Int.reduceLE, Int.reduceLT, Int.reduceToNat, Int.reduceEq, Int.reduceNe, ↓reduceIte,  k2, decide_true]
  have he : remE d l s = 0 := by rw [remE, if_neg (not_not_intro k1), if_neg k2]
  rw [remP, if_pos he, he]
  have hr := ixS_range l.user s
  generalize hx : ixS l.user s = x at *
  obtain ⟨i, rfl⟩ : ∃ i : Nat, x = (i : Int) := ⟨x.toNat, by omega⟩
  have hi : i < l.user.length := by omega
  rw [Int.toNat_natCast]
  refine good_run [] mixed Try.func29 rfl Try.ntmps29 (rs := [.cell 6 41, .tmp 7]) rfl (by decide +kernel) (by kernel_rfl) rfl ?_
  rw [startE_eq 41 _ _ _ rfl rfl]
  set_option maxRecDepth 100000 in simp (maxSteps := 10000000) only [go_sem, Nat.reduceAdd, Nat.reduceSub, Nat.reduceMul, Nat.reduceLT, Nat.reduceLeDiff, Nat.reduceEqDiff, Nat.reduceMod, Nat.reduceDiv, Int.reduceNeg, Int.reduceLE, Int.reduceLT, Int.reduceToNat, Int.reduceEq, Int.reduceNe, ↓reduceIte]
  refine call_of (cl) ?_
  set_option maxRecDepth 100000 in simp (maxSteps := 10000000) only [go_sem, Nat.reduceAdd, Nat.reduceSub, Nat.reduceMul, Nat.reduceLT, Nat.reduceLeDiff, Nat.reduceEqDiff, Nat.reduceMod, Nat.reduceDiv, Int.reduceNeg, Int.reduceLE, Int.reduceLT, Int.reduceToNat, Int.reduceEq, Int.reduceNe, ↓reduceIte,  k1, not_true_eq_false, decide_false]
  refine call_of (ix) ?_
  set_option maxRecDepth 100000 in simp (maxSteps := 10000000) only [go_sem, Nat.reduceAdd, Nat.reduceSub, Nat.reduceMul, Nat.reduceLT, Nat.reduceLeDiff, Nat.reduceEqDiff, Nat.reduceMod, Nat.reduceDiv, Int.reduceNeg, Int.reduceLE, Int.reduceLT, Int.reduceToNat, Int.reduceEq, Int.reduceNe, ↓reduceIte,  k2, decide_false]
  refine callMD_of [] [30] (CloneS l.system (by omega)) ⟨rfl, rfl, rfl, by simp, by simp, by simp, by simp, rfl, rfl, rfl, onodup_of (l := [7]) rfl (by decide)⟩ ?_
  set_option maxRecDepth 100000 in simp (maxSteps := 10000000) only [go_sem, Nat.reduceAdd, Nat.reduceSub, Nat.reduceMul, Nat.reduceLT, Nat.reduceLeDiff, Nat.reduceEqDiff, Nat.reduceMod, Nat.reduceDiv, Int.reduceNeg, Int.reduceLE, Int.reduceLT, Int.reduceToNat, Int.reduceEq, Int.reduceNe, ↓reduceIte]
  refine callMD_of [] [35] (CloneS l.user (by omega)) ⟨rfl, rfl, rfl, by simp, by simp, by simp, by simp, rfl, rfl, rfl, onodup_of (l := [7]) rfl (by decide)⟩ ?_
  set_option maxRecDepth 100000 in simp (maxSteps := 10000000) only [go_sem, Nat.reduceAdd, Nat.reduceSub, Nat.reduceMul, Nat.reduceLT, Nat.reduceLeDiff, Nat.reduceEqDiff, Nat.reduceMod, Nat.reduceDiv, Int.reduceNeg, Int.reduceLE, Int.reduceLT, Int.reduceToNat, Int.reduceEq, Int.reduceNe, ↓reduceIte,  wrap_succ (show i < 9223372036854775807 by omega)]
  refine callMD_of [35] [35] (DeleteS l.user i (i + 1) (Nat.lt_succ_self i) hi) ⟨by simp [renA, ren1, invM, posOf, verOf, AV.cellP, Env.go], rfl, rfl, by simp, by simp [ment, ment1], by simp, by simp, rfl, rfl, rfl, onodup_of (l := [33]) rfl (by decide)⟩ ?_
  set_option maxRecDepth 100000 in simp (maxSteps := 10000000) only [go_sem, Nat.reduceAdd, Nat.reduceSub, Nat.reduceMul, Nat.reduceLT, Nat.reduceLeDiff, Nat.reduceEqDiff, Nat.reduceMod, Nat.reduceDiv, Int.reduceNeg, Int.reduceLE, Int.reduceLT, Int.reduceToNat, Int.reduceEq, Int.reduceNe, ↓reduceIte]
  refine ⟨by decide +kernel, ?_⟩
  simp [withoutS]

def setE (d : Dir) (l : LList) (s : ByteArray) : Int := if ¬ (listE d l).2 = 0 then (listE d l).2 else curE d s
def setP (d : Dir) (l : LList) (s : ByteArray) : LList := if setE d l s = 0 then ⟨l.system, s, l.user⟩ else zeroL
set_option maxHeartbeats 4000000 in
theorem SetCurrent_good (d : Dir) (l : LList) (s : ByteArray) (h : d.objects.length ≤ 1000000) (h1 : l.system.length ≤ 1000) (h2 : l.user.length ≤ 1000) :
    Ans Try.prog 30 [.agg (encDir d), .agg (encLL l), .str s] (.tup [.agg (encLL (setP d l s)), .int .i64 (setE d l s)]) := by
  have cl := CheckList_good d l h h1 h2
  have kn := known_good d s h
  refine Classical.byCases (fun k1 : (listE d l).2 = 0 => ?_) fun k1 => ?_
  case refine_2 =>
    have he : setE d l s = (listE d l).2 := by rw [setE, if_pos k1]
    rw [setP, if_neg (by rw [he]; exact k1), he]
    refine Ans.le (r := .tup [.agg [.nils, .str ⟨#[]⟩, .nils], .int .i64 (listE d l).2]) ?_ (.tup' (.cons le_zeroL (.cons (.refl _) .nil))) rfl
    refine good_run [] mixed Try.func30 rfl Try.ntmps30 (rs := [.cell 6 41, .tmp 7]) rfl (by decide +kernel) (by kernel_rfl) rfl ?_
    rw [startE_eq 38 _ _ _ rfl rfl]
    set_option maxRecDepth 100000 in simp (maxSteps := 10000000) only [go_sem, Nat.reduceAdd, Nat.reduceSub, Nat.reduceMul, Nat.reduceLT, Nat.reduceLeDiff, Nat.reduceEqDiff, Nat.reduceMod, Nat.reduceDiv, Int.reduceNeg, Int.reduceLE, Int.reduceLT, Int.reduceToNat, Int.reduceEq, Int.reduceNe, ↓reduceIte]
    refine call_of (cl) ?_
    set_option maxRecDepth 100000 in simp (maxSteps := 10000000) only [go_sem, Nat.reduceAdd, Nat.reduceSub, Nat.reduceMul, Nat.reduceLT, Nat.reduceLeDiff, Nat.reduceEqDiff, Nat.reduceMod, Nat.reduceDiv, Int.reduceNeg, Int.reduceLE, Int.reduceLT, Int.reduceToNat, Int.reduceEq, Int.reduceNe, ↓reduceIte,  k1, not_false_eq_true, decide_true]
  have he : setE d l s = curE d s := by rw [setE, if_neg (not_not_intro k1)]
  refine Classical.byCases (fun k2 : s = ⟨#[]⟩ => ?_) fun k2 => ?_
  · have he2 : setE d l s = 0 := by rw [he, curE, if_pos k2]
    rw [setP, if_pos he2, he2]
    refine good_run [] mixed Try.func30 rfl Try.ntmps30 (rs := [.cell 6 41, .tmp 7]) rfl (by decide +kernel) (by kernel_rfl) rfl ?_
    rw [startE_eq 38 _ _ _ rfl rfl]
    set_option maxRecDepth 100000 in simp (maxSteps := 10000000) only [go_sem, Nat.reduceAdd, Nat.reduceSub, Nat.reduceMul, Nat.reduceLT, Nat.reduceLeDiff, Nat.reduceEqDiff, Nat.reduceMod, Nat.reduceDiv, Int.reduceNeg, Int.reduceLE, Int.reduceLT, Int.reduceToNat, Int.reduceEq, Int.reduceNe, ↓reduceIte]
    refine call_of (cl) ?_
    set_option maxRecDepth 100000 in simp (maxSteps := 10000000) only [go_sem, Nat.reduceAdd, Nat.reduceSub, Nat.reduceMul, Nat.reduceLT, Nat.reduceLeDiff, Nat.reduceEqDiff, Nat.reduceMod, Nat.reduceDiv, Int.reduceNeg, Int.reduceLE, Int.reduceLT, Int.reduceToNat, Int.reduceEq, Int.reduceNe, ↓reduceIte,  k1, not_true_eq_false, decide_false, k2]
    refine callMD_of [] [32] (CloneS l.system (by omega)) ⟨rfl, rfl, rfl, by simp, by simp, by simp, by simp, rfl, rfl, rfl, onodup_of (l := [7]) rfl (by decide)⟩ ?_
    set_option maxRecDepth 100000 in simp (maxSteps := 10000000) only [go_sem, Nat.reduceAdd, Nat.reduceSub, Nat.reduceMul, Nat.reduceLT, Nat.reduceLeDiff, Nat.reduceEqDiff, Nat.reduceMod, Nat.reduceDiv, Int.reduceNeg, Int.reduceLE, Int.reduceLT, Int.reduceToNat, Int.reduceEq, Int.reduceNe, ↓reduceIte]
    refine callMD_of [] [36] (CloneS l.user (by omega)) ⟨rfl, rfl, rfl, by simp, by simp, by simp, by simp, rfl, rfl, rfl, onodup_of (l := [7]) rfl (by decide)⟩ ?_
    set_option maxRecDepth 100000 in simp (maxSteps := 10000000) only [go_sem, Nat.reduceAdd, Nat.reduceSub, Nat.reduceMul, Nat.reduceLT, Nat.reduceLeDiff, Nat.reduceEqDiff, Nat.reduceMod, Nat.reduceDiv, Int.reduceNeg, Int.reduceLE, Int.reduceLT, Int.reduceToNat, Int.reduceEq, Int.reduceNe, ↓reduceIte]
    decide +kernel
  have he2 : setE d l s = libE d.objects s := by rw [he, curE, if_neg k2]
  refine Classical.byCases (fun k3 : libE d.objects s = 0 => ?_) fun k3 => ?_
  · rw [setP, if_pos (by rw [he2]; exact k3), he2, k3]
    refine good_run [] mixed Try.func30 rfl Try.ntmps30 (rs := [.cell 6 41, .tmp 7]) rfl (by decide +kernel) (by kernel_rfl) rfl ?_
    rw [startE_eq 38 _ _ _ rfl rfl]
    set_option maxRecDepth 100000 in simp (maxSteps := 10000000) only [go_sem, Nat.reduceAdd, Nat.reduceSub, Nat.reduceMul, Nat.reduceLT, Nat.reduceLeDiff, Nat.reduceEqDiff, Nat.reduceMod, Nat.reduceDiv, Int.reduceNeg, Int.reduceLE, Int.reduceLT, Int.reduceToNat, Int.reduceEq, Int.reduceNe, ↓reduceIte]
    refine call_of (cl) ?_
    set_option maxRecDepth 100000 in simp (maxSteps := 10000000) only [go_sem, Nat.reduceAdd, Nat.reduceSub, Nat.reduceMul, Nat.reduceLT, Nat.reduceLeDiff, Nat.reduceEqDiff, Nat.reduceMod, Nat.reduceDiv, Int.reduceNeg, Int.reduceLE, Int.reduceLT, Int.reduceToNat, Int.reduceEq, Int.reduceNe, ↓reduceIte,  k1, not_true_eq_false, not_false_eq_true, decide_true, decide_false, k2]
    refine call_of (kn) ?_
    set_option maxRecDepth 100000 in simp (maxSteps := 10000000) only [go_sem, Nat.reduceAdd, Nat.reduceSub, Nat.reduceMul, Nat.reduceLT, Nat.reduceLeDiff, Nat.reduceEqDiff, Nat.reduceMod, Nat.reduceDiv, Int.reduceNeg, Int.reduceLE, Int.reduceLT, Int.reduceToNat, Int.reduceEq, Int.reduceNe, ↓reduceIte,  k3, not_true_eq_false, decide_false]
    refine callMD_of [] [32] (CloneS l.system (by omega)) ⟨rfl, rfl, rfl, by simp, by simp, by simp, by simp, rfl, rfl, rfl, onodup_of (l := [7]) rfl (by decide)⟩ ?_
    set_option maxRecDepth 100000 in simp (maxSteps := 10000000) only [go_sem, Nat.reduceAdd, Nat.reduceSub, Nat.reduceMul, Nat.reduceLT, Nat.reduceLeDiff, Nat.reduceEqDiff, Nat.reduceMod, Nat.reduceDiv, Int.reduceNeg, Int.reduceLE, Int.reduceLT, Int.reduceToNat, Int.reduceEq, Int.reduceNe, ↓reduceIte]
    refine callMD_of [] [36] (CloneS l.user (by omega)) ⟨rfl, rfl, rfl, by simp, by simp, by simp, by simp, rfl, rfl, rfl, onodup_of (l := [7]) rfl (by decide)⟩ ?_
    set_option maxRecDepth 100000 in simp (maxSteps := 10000000) only [go_sem, Nat.reduceAdd, Nat.reduceSub, Nat.reduceMul, Nat.reduceLT, Nat.reduceLeDiff, Nat.reduceEqDiff, Nat.reduceMod, Nat.reduceDiv, Int.reduceNeg, Int.reduceLE, Int.reduceLT, Int.reduceToNat, Int.reduceEq, Int.reduceNe, ↓reduceIte]
    decide +kernel
  · rw [setP, if_neg (by rw [he2]; exact k3), he2]
    refine Ans.le (r := .tup [.agg [.nils, .str ⟨#[]⟩, .nils], .int .i64 (libE d.objects s)]) ?_ (.tup' (.cons le_zeroL (.cons (.refl _) .nil))) rfl
    refine good_run [] mixed Try.func30 rfl Try.ntmps30 (rs := [.cell 6 41, .tmp 7]) rfl (by decide +kernel) (by kernel_rfl) rfl ?_
    rw [startE_eq 38 _ _ _ rfl rfl]
    set_option maxRecDepth 100000 in simp (maxSteps := 10000000) only [go_sem, Nat.reduceAdd, Nat.reduceSub, Nat.reduceMul, Nat.reduceLT, Nat.reduceLeDiff, Nat.reduceEqDiff, Nat.reduceMod, Nat.reduceDiv, Int.reduceNeg, Int.reduceLE, Int.reduceLT, Int.reduceToNat, Int.reduceEq, Int.reduceNe, ↓reduceIte]
    refine call_of (cl) ?_
    set_option maxRecDepth 100000 in simp (maxSteps := 10000000) only [go_sem, Nat.reduceAdd, Nat.reduceSub, Nat.reduceMul, Nat.reduceLT, Nat.reduceLeDiff, Nat.reduceEqDiff, Nat.reduceMod, Nat.reduceDiv, Int.reduceNeg, Int.reduceLE, Int.reduceLT, Int.reduceToNat, Int.reduceEq, Int.reduceNe, ↓reduceIte,  k1, not_true_eq_false, not_false_eq_true, decide_true, decide_false, k2]
    refine call_of (kn) ?_
    set_option maxRecDepth 100000 in simp (maxSteps := 10000000) only [go_sem, Nat.reduceAdd, Nat.reduceSub, Nat.reduceMul, Nat.reduceLT, Nat.reduceLeDiff, Nat.reduceEqDiff, Nat.reduceMod, Nat.reduceDiv, Int.reduceNeg, Int.reduceLE, Int.reduceLT, Int.reduceToNat, Int.reduceEq, Int.reduceNe, ↓reduceIte,  k3, not_false_eq_true, decide_true]

theorem noList_good : Ans Try.prog 32 [.agg (encLL zeroL)] (.bool true) := by
  refine good_run [] mixed Try.func32 rfl Try.ntmps32 (rs := [.tmp 2]) rfl (by decide +kernel) (by kernel_rfl) rfl ?_
  rw [startE_eq 18 _ _ _ rfl rfl]
  set_option maxRecDepth 100000 in simp (maxSteps := 10000000) only [go_sem, Nat.reduceAdd, Nat.reduceSub, Nat.reduceMul, Nat.reduceLT, Nat.reduceLeDiff, Nat.reduceEqDiff, Nat.reduceMod, Nat.reduceDiv, Int.reduceNeg, Int.reduceLE, Int.reduceLT, Int.reduceToNat, Int.reduceEq, Int.reduceNe, ↓reduceIte,  zeroL, List.map_nil, List.length_nil, Int.natCast_zero, Int.ofNat_zero, decide_true]
theorem SameL_good (l : LList) (h1 : l.system.length ≤ 1000) (h2 : l.user.length ≤ 1000) : Ans Try.prog 34 [.agg (encLL l), .agg (encLL l)] (.bool true) := by
  have c1 := Strings_good l.system l.system (by omega)
  have c2 := Strings_good l.user l.user (by omega)
  rw [decide_eq_true rfl] at c1 c2
  refine good_run [] mixed Try.func34 rfl Try.ntmps34 (rs := [.tmp 4]) rfl (by decide +kernel) (by kernel_rfl) rfl ?_
  rw [startE_eq 24 _ _ _ rfl rfl]
  set_option maxRecDepth 100000 in simp (maxSteps := 10000000) only [go_sem, Nat.reduceAdd, Nat.reduceSub, Nat.reduceMul, Nat.reduceLT, Nat.reduceLeDiff, Nat.reduceEqDiff, Nat.reduceMod, Nat.reduceDiv, Int.reduceNeg, Int.reduceLE, Int.reduceLT, Int.reduceToNat, Int.reduceEq, Int.reduceNe, ↓reduceIte]
  refine call_of (c1) ?_
  set_option maxRecDepth 100000 in simp (maxSteps := 10000000) only [go_sem, Nat.reduceAdd, Nat.reduceSub, Nat.reduceMul, Nat.reduceLT, Nat.reduceLeDiff, Nat.reduceEqDiff, Nat.reduceMod, Nat.reduceDiv, Int.reduceNeg, Int.reduceLE, Int.reduceLT, Int.reduceToNat, Int.reduceEq, Int.reduceNe, ↓reduceIte,  decide_true]
  refine call_of (c2) ?_
  set_option maxRecDepth 100000 in simp (maxSteps := 10000000) only [go_sem, Nat.reduceAdd, Nat.reduceSub, Nat.reduceMul, Nat.reduceLT, Nat.reduceLeDiff, Nat.reduceEqDiff, Nat.reduceMod, Nat.reduceDiv, Int.reduceNeg, Int.reduceLE, Int.reduceLT, Int.reduceToNat, Int.reduceEq, Int.reduceNe, ↓reduceIte]
theorem OwnLM (l : LList) (h1 : l.system.length ≤ 1000) (h2 : l.user.length ≤ 1000) : AnsM Try.prog 20 12 [] [.agg (encLL l)] (.agg [.ref 5 1, .str l.current, .ref 10 1]) [(5, .obj 1 9 1 false true (l.system.map encStr)), (10, .obj 1 9 1 false true (l.user.map encStr))] := by
  refine goodM_run [] mixed Try.func20 rfl Try.ntmps20 (rs := [.cell 2 41]) rfl (by decide +kernel) (by kernel_rfl) ?_
  rw [startM_eq 12 _ _ _ _ rfl rfl]
  set_option maxRecDepth 100000 in simp (maxSteps := 10000000) only [go_sem, Nat.reduceAdd, Nat.reduceSub, Nat.reduceMul, Nat.reduceLT, Nat.reduceLeDiff, Nat.reduceEqDiff, Nat.reduceMod, Nat.reduceDiv, Int.reduceNeg, Int.reduceLE, Int.reduceLT, Int.reduceToNat, Int.reduceEq, Int.reduceNe, ↓reduceIte]
  refine callMD_of [] [5] (CopyM l.system (by omega)) ⟨rfl, rfl, rfl, by simp, by simp, by simp, by simp, rfl, rfl, rfl, onodup_of (l := [4]) rfl (by decide)⟩ ?_
  set_option maxRecDepth 100000 in simp (maxSteps := 10000000) only [go_sem, Nat.reduceAdd, Nat.reduceSub, Nat.reduceMul, Nat.reduceLT, Nat.reduceLeDiff, Nat.reduceEqDiff, Nat.reduceMod, Nat.reduceDiv, Int.reduceNeg, Int.reduceLE, Int.reduceLT, Int.reduceToNat, Int.reduceEq, Int.reduceNe, ↓reduceIte]
  refine callMD_of [] [10] (CopyM l.user (by omega)) ⟨rfl, rfl, rfl, by simp, by simp, by simp, by simp, rfl, rfl, rfl, onodup_of (l := [4]) rfl (by decide)⟩ ?_
  set_option maxRecDepth 100000 in simp (maxSteps := 10000000) only [go_sem, Nat.reduceAdd, Nat.reduceSub, Nat.reduceMul, Nat.reduceLT, Nat.reduceLeDiff, Nat.reduceEqDiff, Nat.reduceMod, Nat.reduceDiv, Int.reduceNeg, Int.reduceLE, Int.reduceLT, Int.reduceToNat, Int.reduceEq, Int.reduceNe, ↓reduceIte]
  refine ⟨by decide +kernel, ?_⟩
  simp
end Go.Proofs.Ytppjmigiogddpaa.C08
