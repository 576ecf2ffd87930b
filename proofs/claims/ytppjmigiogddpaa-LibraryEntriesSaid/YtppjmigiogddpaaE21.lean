/- Chapter 9: what the reference makes of an entry that comes in: its ways. -/
import Derived.Test.YtppjmigiogddpaaE20
namespace Go.Proofs.Ytppjmigiogddpaa.C08
open Go Go.Proofs Go.Proofs.Ytppjmigiogddpaa.Ab
set_option linter.unusedSimpArgs false
set_option linter.unusedVariables false
attribute [local congr] ite_ctx

set_option maxHeartbeats 4000000 in
theorem rad_e4 (d : Dir) (l : LList) (lb rf : ByteArray) (ps : Int) (rl : Ans Try.prog 57 [.agg (encDir d), .str lb] (.int .i64 0)) (h1 : l.system.length ≤ 1000) (h2 : l.user.length ≤ 1000) (hp : inB ps 0 4 = false) : Ans Try.prog 41 [.agg (encDir d), .agg (encLL l), .agg (encLE ⟨lb, ps, rf⟩)] (.tup [.agg [.nils, .str ⟨#[]⟩, .nils], .int .i64 4]) := by
  have wi := Within_good ps 0 4
  rw [hp] at wi
  refine good_run [] mixed Try.func41 rfl Try.ntmps41 (rs := [.cell 6 41, .tmp 7]) rfl (by decide +kernel) (by kernel_rfl) rfl ?_
  rw [startE_eq 124 _ _ _ rfl rfl]
  set_option maxRecDepth 100000 in simp (maxSteps := 10000000) only [go_sem, Nat.reduceAdd, Nat.reduceSub, Nat.reduceMul, Nat.reduceLT, Nat.reduceLeDiff, Nat.reduceEqDiff, Nat.reduceMod, Nat.reduceDiv, Int.reduceNeg, Int.reduceLE, Int.reduceLT, Int.reduceToNat, Int.reduceEq, Int.reduceNe, ↓reduceIte]
  refine call_of (rl) ?_
  set_option maxRecDepth 100000 in simp (maxSteps := 10000000) only [go_sem, Nat.reduceAdd, Nat.reduceSub, Nat.reduceMul, Nat.reduceLT, Nat.reduceLeDiff, Nat.reduceEqDiff, Nat.reduceMod, Nat.reduceDiv, Int.reduceNeg, Int.reduceLE, Int.reduceLT, Int.reduceToNat, Int.reduceEq, Int.reduceNe, ↓reduceIte,  show (false == true) = false from rfl, show (true == false) = false from rfl, show (false == false) = true from rfl, show (true == true) = true from rfl, decide_true, decide_false, not_true_eq_false, not_false_eq_true, Bool.not_true, Bool.not_false]
  refine call_of (wi) ?_
  set_option maxRecDepth 100000 in simp (maxSteps := 10000000) only [go_sem, Nat.reduceAdd, Nat.reduceSub, Nat.reduceMul, Nat.reduceLT, Nat.reduceLeDiff, Nat.reduceEqDiff, Nat.reduceMod, Nat.reduceDiv, Int.reduceNeg, Int.reduceLE, Int.reduceLT, Int.reduceToNat, Int.reduceEq, Int.reduceNe, ↓reduceIte,  show (false == true) = false from rfl, show (true == false) = false from rfl, show (false == false) = true from rfl, show (true == true) = true from rfl, decide_true, decide_false, not_true_eq_false, not_false_eq_true, Bool.not_true, Bool.not_false]

set_option maxHeartbeats 4000000 in
theorem rad0_e5 (d : Dir) (l : LList) (lb rf : ByteArray) (rl : Ans Try.prog 57 [.agg (encDir d), .str lb] (.int .i64 0)) (h1 : l.system.length ≤ 1000) (h2 : l.user.length ≤ 1000) (hr : ¬ rf = ⟨#[]⟩) : Ans Try.prog 41 [.agg (encDir d), .agg (encLL l), .agg (encLE ⟨lb, 0, rf⟩)] (.tup [.agg [.nils, .str ⟨#[]⟩, .nils], .int .i64 5]) := by
  have wi := Within_good 0 0 4
  rw [show inB 0 0 4 = true by decide] at wi
  refine good_run [] mixed Try.func41 rfl Try.ntmps41 (rs := [.cell 6 41, .tmp 7]) rfl (by decide +kernel) (by kernel_rfl) rfl ?_
  rw [startE_eq 124 _ _ _ rfl rfl]
  set_option maxRecDepth 100000 in simp (maxSteps := 10000000) only [go_sem, Nat.reduceAdd, Nat.reduceSub, Nat.reduceMul, Nat.reduceLT, Nat.reduceLeDiff, Nat.reduceEqDiff, Nat.reduceMod, Nat.reduceDiv, Int.reduceNeg, Int.reduceLE, Int.reduceLT, Int.reduceToNat, Int.reduceEq, Int.reduceNe, ↓reduceIte]
  refine call_of (rl) ?_
  set_option maxRecDepth 100000 in simp (maxSteps := 10000000) only [go_sem, Nat.reduceAdd, Nat.reduceSub, Nat.reduceMul, Nat.reduceLT, Nat.reduceLeDiff, Nat.reduceEqDiff, Nat.reduceMod, Nat.reduceDiv, Int.reduceNeg, Int.reduceLE, Int.reduceLT, Int.reduceToNat, Int.reduceEq, Int.reduceNe, ↓reduceIte,  show (false == true) = false from rfl, show (true == false) = false from rfl, show (false == false) = true from rfl, show (true == true) = true from rfl, decide_true, decide_false, not_true_eq_false, not_false_eq_true, Bool.not_true, Bool.not_false, eq_false hr]
  refine call_of (wi) ?_
  set_option maxRecDepth 100000 in simp (maxSteps := 10000000) only [go_sem, Nat.reduceAdd, Nat.reduceSub, Nat.reduceMul, Nat.reduceLT, Nat.reduceLeDiff, Nat.reduceEqDiff, Nat.reduceMod, Nat.reduceDiv, Int.reduceNeg, Int.reduceLE, Int.reduceLT, Int.reduceToNat, Int.reduceEq, Int.reduceNe, ↓reduceIte,  show (false == true) = false from rfl, show (true == false) = false from rfl, show (false == false) = true from rfl, show (true == true) = true from rfl, decide_true, decide_false, not_true_eq_false, not_false_eq_true, Bool.not_true, Bool.not_false, eq_false hr]

set_option maxHeartbeats 4000000 in
theorem rad0_e13a (d : Dir) (l : LList) (lb rf : ByteArray) (rl : Ans Try.prog 57 [.agg (encDir d), .str lb] (.int .i64 0)) (h1 : l.system.length ≤ 1000) (h2 : l.user.length ≤ 1000) (hr : rf = ⟨#[]⟩) (hz : ¬ ixS l.system lb = -1) : Ans Try.prog 41 [.agg (encDir d), .agg (encLL l), .agg (encLE ⟨lb, 0, rf⟩)] (.tup [.agg [.nils, .str ⟨#[]⟩, .nils], .int .i64 13]) := by
  have wi := Within_good 0 0 4
  rw [show inB 0 0 4 = true by decide] at wi
  have ci := IndexOf_good l.user rf (by omega)
  have cy := IndexOf_good l.user lb (by omega)
  have cz := IndexOf_good l.system lb (by omega)
  generalize ixS l.user rf = xx at *
  refine good_run [] mixed Try.func41 rfl Try.ntmps41 (rs := [.cell 6 41, .tmp 7]) rfl (by decide +kernel) (by kernel_rfl) rfl ?_
  rw [startE_eq 124 _ _ _ rfl rfl]
  set_option maxRecDepth 100000 in simp (maxSteps := 10000000) only [go_sem, Nat.reduceAdd, Nat.reduceSub, Nat.reduceMul, Nat.reduceLT, Nat.reduceLeDiff, Nat.reduceEqDiff, Nat.reduceMod, Nat.reduceDiv, Int.reduceNeg, Int.reduceLE, Int.reduceLT, Int.reduceToNat, Int.reduceEq, Int.reduceNe, ↓reduceIte]
  refine call_of (rl) ?_
  set_option maxRecDepth 100000 in simp (maxSteps := 10000000) only [go_sem, Nat.reduceAdd, Nat.reduceSub, Nat.reduceMul, Nat.reduceLT, Nat.reduceLeDiff, Nat.reduceEqDiff, Nat.reduceMod, Nat.reduceDiv, Int.reduceNeg, Int.reduceLE, Int.reduceLT, Int.reduceToNat, Int.reduceEq, Int.reduceNe, ↓reduceIte,  show (false == true) = false from rfl, show (true == false) = false from rfl, show (false == false) = true from rfl, show (true == true) = true from rfl, decide_true, decide_false, not_true_eq_false, not_false_eq_true, Bool.not_true, Bool.not_false, eq_true hr, eq_false hz]
  refine call_of (wi) ?_
  set_option maxRecDepth 100000 in simp (maxSteps := 10000000) only [go_sem, Nat.reduceAdd, Nat.reduceSub, Nat.reduceMul, Nat.reduceLT, Nat.reduceLeDiff, Nat.reduceEqDiff, Nat.reduceMod, Nat.reduceDiv, Int.reduceNeg, Int.reduceLE, Int.reduceLT, Int.reduceToNat, Int.reduceEq, Int.reduceNe, ↓reduceIte,  show (false == true) = false from rfl, show (true == false) = false from rfl, show (false == false) = true from rfl, show (true == true) = true from rfl, decide_true, decide_false, not_true_eq_false, not_false_eq_true, Bool.not_true, Bool.not_false, eq_true hr, eq_false hz]
  refine call_of (ci) ?_
  set_option maxRecDepth 100000 in simp (maxSteps := 10000000) only [go_sem, Nat.reduceAdd, Nat.reduceSub, Nat.reduceMul, Nat.reduceLT, Nat.reduceLeDiff, Nat.reduceEqDiff, Nat.reduceMod, Nat.reduceDiv, Int.reduceNeg, Int.reduceLE, Int.reduceLT, Int.reduceToNat, Int.reduceEq, Int.reduceNe, ↓reduceIte,  show (false == true) = false from rfl, show (true == false) = false from rfl, show (false == false) = true from rfl, show (true == true) = true from rfl, decide_true, decide_false, not_true_eq_false, not_false_eq_true, Bool.not_true, Bool.not_false, eq_true hr, eq_false hz]
  refine call_of (cy) ?_
  set_option maxRecDepth 100000 in simp (maxSteps := 10000000) only [go_sem, Nat.reduceAdd, Nat.reduceSub, Nat.reduceMul, Nat.reduceLT, Nat.reduceLeDiff, Nat.reduceEqDiff, Nat.reduceMod, Nat.reduceDiv, Int.reduceNeg, Int.reduceLE, Int.reduceLT, Int.reduceToNat, Int.reduceEq, Int.reduceNe, ↓reduceIte,  show (false == true) = false from rfl, show (true == false) = false from rfl, show (false == false) = true from rfl, show (true == true) = true from rfl, decide_true, decide_false, not_true_eq_false, not_false_eq_true, Bool.not_true, Bool.not_false, eq_true hr, eq_false hz]
  refine call_of (cz) ?_
  set_option maxRecDepth 100000 in simp (maxSteps := 10000000) only [go_sem, Nat.reduceAdd, Nat.reduceSub, Nat.reduceMul, Nat.reduceLT, Nat.reduceLeDiff, Nat.reduceEqDiff, Nat.reduceMod, Nat.reduceDiv, Int.reduceNeg, Int.reduceLE, Int.reduceLT, Int.reduceToNat, Int.reduceEq, Int.reduceNe, ↓reduceIte,  show (false == true) = false from rfl, show (true == false) = false from rfl, show (false == false) = true from rfl, show (true == true) = true from rfl, decide_true, decide_false, not_true_eq_false, not_false_eq_true, Bool.not_true, Bool.not_false, eq_true hr, eq_false hz]

set_option maxHeartbeats 4000000 in
theorem rad0_ok (d : Dir) (l : LList) (lb rf : ByteArray) (rl : Ans Try.prog 57 [.agg (encDir d), .str lb] (.int .i64 0)) (h1 : l.system.length ≤ 1000) (h2 : l.user.length ≤ 1000) (hr : rf = ⟨#[]⟩) (hz : ixS l.system lb = -1) (hy : ixS l.user lb = -1) (h8 : ¬ (l.user.length : Int) = 8) : Ans Try.prog 41 [.agg (encDir d), .agg (encLL l), .agg (encLE ⟨lb, 0, rf⟩)] (.tup [.agg [.sl (l.system.map encStr), .str l.current, .sl ((insS l.user 0 lb).map encStr)], .int .i64 0]) := by
  have wi := Within_good 0 0 4
  rw [show inB 0 0 4 = true by decide] at wi
  have ci := IndexOf_good l.user rf (by omega)
  have cy := IndexOf_good l.user lb (by omega)
  have cz := IndexOf_good l.system lb (by omega)
  rw [hz] at cz
  rw [hy] at cy
  generalize ixS l.user rf = xx at *
  have ht : (List.take 0 l.user).length = 0 := by rw [List.length_take]; omega
  have hl2 : (List.drop 0 l.user).length = l.user.length - 0 := List.length_drop
  have m1 : (0 + 1) * 16 ≤ 140737488355328 := by omega
  have m2 : 0 + 1 ≤ maxLen := by unfold maxLen; omega
  have m3 : (0 + 1 + (l.user.length - 0)) * 16 ≤ 140737488355328 := by omega
  have m4 : 0 + 1 + (l.user.length - 0) ≤ maxLen := by unfold maxLen; omega
  have hdr : List.drop 0 (List.take l.user.length l.user) = List.drop 0 l.user := by rw [List.take_of_length_le (Nat.le_refl _)]
  have k1 : (0 : Int) ≤ (0 : Int) := by omega
  have k2 : (0 : Int) ≤ (l.user.length : Int) := by omega
  have z3 : (1 + l.user.length) * 16 ≤ 140737488355328 := by omega
  have z4 : 1 + l.user.length ≤ maxLen := by unfold maxLen; omega
  refine good_run [] mixed Try.func41 rfl Try.ntmps41 (rs := [.cell 6 41, .tmp 7]) rfl (by decide +kernel) (by kernel_rfl) rfl ?_
  rw [startE_eq 124 _ _ _ rfl rfl]
  set_option maxRecDepth 100000 in simp (maxSteps := 10000000) only [go_sem, Nat.reduceAdd, Nat.reduceSub, Nat.reduceMul, Nat.reduceLT, Nat.reduceLeDiff, Nat.reduceEqDiff, Nat.reduceMod, Nat.reduceDiv, Int.reduceNeg, Int.reduceLE, Int.reduceLT, Int.reduceToNat, Int.reduceEq, Int.reduceNe, ↓reduceIte]
  refine call_of (rl) ?_
  set_option maxRecDepth 100000 in simp (maxSteps := 10000000) only [go_sem, Nat.reduceAdd, Nat.reduceSub, Nat.reduceMul, Nat.reduceLT, Nat.reduceLeDiff, Nat.reduceEqDiff, Nat.reduceMod, Nat.reduceDiv, Int.reduceNeg, Int.reduceLE, Int.reduceLT, Int.reduceToNat, Int.reduceEq, Int.reduceNe, ↓reduceIte,  show (false == true) = false from rfl, show (true == false) = false from rfl, show (false == false) = true from rfl, show (true == true) = true from rfl, decide_true, decide_false, not_true_eq_false, not_false_eq_true, Bool.not_true, Bool.not_false, eq_true hr]
  refine call_of (wi) ?_
  set_option maxRecDepth 100000 in simp (maxSteps := 10000000) only [go_sem, Nat.reduceAdd, Nat.reduceSub, Nat.reduceMul, Nat.reduceLT, Nat.reduceLeDiff, Nat.reduceEqDiff, Nat.reduceMod, Nat.reduceDiv, Int.reduceNeg, Int.reduceLE, Int.reduceLT, Int.reduceToNat, Int.reduceEq, Int.reduceNe, ↓reduceIte,  show (false == true) = false from rfl, show (true == false) = false from rfl, show (false == false) = true from rfl, show (true == true) = true from rfl, decide_true, decide_false, not_true_eq_false, not_false_eq_true, Bool.not_true, Bool.not_false, eq_true hr]
  refine call_of (ci) ?_
  set_option maxRecDepth 100000 in simp (maxSteps := 10000000) only [go_sem, Nat.reduceAdd, Nat.reduceSub, Nat.reduceMul, Nat.reduceLT, Nat.reduceLeDiff, Nat.reduceEqDiff, Nat.reduceMod, Nat.reduceDiv, Int.reduceNeg, Int.reduceLE, Int.reduceLT, Int.reduceToNat, Int.reduceEq, Int.reduceNe, ↓reduceIte,  show (false == true) = false from rfl, show (true == false) = false from rfl, show (false == false) = true from rfl, show (true == true) = true from rfl, decide_true, decide_false, not_true_eq_false, not_false_eq_true, Bool.not_true, Bool.not_false, eq_true hr]
  refine call_of (cy) ?_
  set_option maxRecDepth 100000 in simp (maxSteps := 10000000) only [go_sem, Nat.reduceAdd, Nat.reduceSub, Nat.reduceMul, Nat.reduceLT, Nat.reduceLeDiff, Nat.reduceEqDiff, Nat.reduceMod, Nat.reduceDiv, Int.reduceNeg, Int.reduceLE, Int.reduceLT, Int.reduceToNat, Int.reduceEq, Int.reduceNe, ↓reduceIte,  show (false == true) = false from rfl, show (true == false) = false from rfl, show (false == false) = true from rfl, show (true == true) = true from rfl, decide_true, decide_false, not_true_eq_false, not_false_eq_true, Bool.not_true, Bool.not_false, eq_true hr]
  refine call_of (cz) ?_
  set_option maxRecDepth 100000 in simp (maxSteps := 10000000) only [go_sem, Nat.reduceAdd, Nat.reduceSub, Nat.reduceMul, Nat.reduceLT, Nat.reduceLeDiff, Nat.reduceEqDiff, Nat.reduceMod, Nat.reduceDiv, Int.reduceNeg, Int.reduceLE, Int.reduceLT, Int.reduceToNat, Int.reduceEq, Int.reduceNe, ↓reduceIte,  show (false == true) = false from rfl, show (true == false) = false from rfl, show (false == false) = true from rfl, show (true == true) = true from rfl, decide_true, decide_false, not_true_eq_false, not_false_eq_true, Bool.not_true, Bool.not_false, eq_true hr]
  refine callM_of [] [0, 1] (OwnLM l h1 h2) ⟨rfl, rfl, rfl, by simp, by simp, by simp, by simp, rfl, rfl, rfl, onodup_of (l := [5, 10]) rfl (by decide)⟩ ?_
  set_option maxRecDepth 100000 in simp (maxSteps := 10000000) only [go_sem, Nat.reduceAdd, Nat.reduceSub, Nat.reduceMul, Nat.reduceLT, Nat.reduceLeDiff, Nat.reduceEqDiff, Nat.reduceMod, Nat.reduceDiv, Int.reduceNeg, Int.reduceLE, Int.reduceLT, Int.reduceToNat, Int.reduceEq, Int.reduceNe, ↓reduceIte,  show (false == true) = false from rfl, show (true == false) = false from rfl, show (false == false) = true from rfl, show (true == true) = true from rfl, decide_true, decide_false, not_true_eq_false, not_false_eq_true, Bool.not_true, Bool.not_false, eq_true hr, k1, k2, Int.toNat_natCast, List.length_map, ht, hl2, m1, m2, m3, m4, hdr, Int.le_refl, Nat.le_refl, eq_false h8, List.length_append, List.length_singleton, List.length_cons, List.length_nil, z3, z4]
  refine callMD_of [] [112] (CopyM (List.take 0 l.user) (by omega)) ⟨rfl, rfl, rfl, by simp, by simp, by simp, by simp, rfl, rfl, rfl, onodup_of (l := [4]) rfl (by decide)⟩ ?_
  set_option maxRecDepth 100000 in simp (maxSteps := 10000000) only [go_sem, Nat.reduceAdd, Nat.reduceSub, Nat.reduceMul, Nat.reduceLT, Nat.reduceLeDiff, Nat.reduceEqDiff, Nat.reduceMod, Nat.reduceDiv, Int.reduceNeg, Int.reduceLE, Int.reduceLT, Int.reduceToNat, Int.reduceEq, Int.reduceNe, ↓reduceIte,  show (false == true) = false from rfl, show (true == false) = false from rfl, show (false == false) = true from rfl, show (true == true) = true from rfl, decide_true, decide_false, not_true_eq_false, not_false_eq_true, Bool.not_true, Bool.not_false, eq_true hr, k1, k2, Int.toNat_natCast, List.length_map, ht, hl2, m1, m2, m3, m4, hdr, Int.le_refl, Nat.le_refl, eq_false h8, List.length_append, List.length_singleton, List.length_cons, List.length_nil, z3, z4]
  first | decide +kernel | (refine ⟨by decide +kernel, ?_⟩; simp [insS, encStr])

set_option maxHeartbeats 4000000 in
theorem rad0_e13b (d : Dir) (l : LList) (lb rf : ByteArray) (rl : Ans Try.prog 57 [.agg (encDir d), .str lb] (.int .i64 0)) (h1 : l.system.length ≤ 1000) (h2 : l.user.length ≤ 1000) (hr : rf = ⟨#[]⟩) (hz : ixS l.system lb = -1) (hy : ¬ ixS l.user lb = -1) : Ans Try.prog 41 [.agg (encDir d), .agg (encLL l), .agg (encLE ⟨lb, 0, rf⟩)] (.tup [.agg [.nils, .str ⟨#[]⟩, .nils], .int .i64 13]) := by
  have wi := Within_good 0 0 4
  rw [show inB 0 0 4 = true by decide] at wi
  have ci := IndexOf_good l.user rf (by omega)
  have cy := IndexOf_good l.user lb (by omega)
  have cz := IndexOf_good l.system lb (by omega)
  rw [hz] at cz
  generalize ixS l.user rf = xx at *
  refine good_run [] mixed Try.func41 rfl Try.ntmps41 (rs := [.cell 6 41, .tmp 7]) rfl (by decide +kernel) (by kernel_rfl) rfl ?_
  rw [startE_eq 124 _ _ _ rfl rfl]
  set_option maxRecDepth 100000 in simp (maxSteps := 10000000) only [go_sem, Nat.reduceAdd, Nat.reduceSub, Nat.reduceMul, Nat.reduceLT, Nat.reduceLeDiff, Nat.reduceEqDiff, Nat.reduceMod, Nat.reduceDiv, Int.reduceNeg, Int.reduceLE, Int.reduceLT, Int.reduceToNat, Int.reduceEq, Int.reduceNe, ↓reduceIte]
  refine call_of (rl) ?_
  set_option maxRecDepth 100000 in simp (maxSteps := 10000000) only [go_sem, Nat.reduceAdd, Nat.reduceSub, Nat.reduceMul, Nat.reduceLT, Nat.reduceLeDiff, Nat.reduceEqDiff, Nat.reduceMod, Nat.reduceDiv, Int.reduceNeg, Int.reduceLE, Int.reduceLT, Int.reduceToNat, Int.reduceEq, Int.reduceNe, ↓reduceIte,  show (false == true) = false from rfl, show (true == false) = false from rfl, show (false == false) = true from rfl, show (true == true) = true from rfl, decide_true, decide_false, not_true_eq_false, not_false_eq_true, Bool.not_true, Bool.not_false, eq_true hr, eq_false hy]
  refine call_of (wi) ?_
  set_option maxRecDepth 100000 in simp (maxSteps := 10000000) only [go_sem, Nat.reduceAdd, Nat.reduceSub, Nat.reduceMul, Nat.reduceLT, Nat.reduceLeDiff, Nat.reduceEqDiff, Nat.reduceMod, Nat.reduceDiv, Int.reduceNeg, Int.reduceLE, Int.reduceLT, Int.reduceToNat, Int.reduceEq, Int.reduceNe, ↓reduceIte,  show (false == true) = false from rfl, show (true == false) = false from rfl, show (false == false) = true from rfl, show (true == true) = true from rfl, decide_true, decide_false, not_true_eq_false, not_false_eq_true, Bool.not_true, Bool.not_false, eq_true hr, eq_false hy]
  refine call_of (ci) ?_
  set_option maxRecDepth 100000 in simp (maxSteps := 10000000) only [go_sem, Nat.reduceAdd, Nat.reduceSub, Nat.reduceMul, Nat.reduceLT, Nat.reduceLeDiff, Nat.reduceEqDiff, Nat.reduceMod, Nat.reduceDiv, Int.reduceNeg, Int.reduceLE, Int.reduceLT, Int.reduceToNat, Int.reduceEq, Int.reduceNe, ↓reduceIte,  show (false == true) = false from rfl, show (true == false) = false from rfl, show (false == false) = true from rfl, show (true == true) = true from rfl, decide_true, decide_false, not_true_eq_false, not_false_eq_true, Bool.not_true, Bool.not_false, eq_true hr, eq_false hy]
  refine call_of (cy) ?_
  set_option maxRecDepth 100000 in simp (maxSteps := 10000000) only [go_sem, Nat.reduceAdd, Nat.reduceSub, Nat.reduceMul, Nat.reduceLT, Nat.reduceLeDiff, Nat.reduceEqDiff, Nat.reduceMod, Nat.reduceDiv, Int.reduceNeg, Int.reduceLE, Int.reduceLT, Int.reduceToNat, Int.reduceEq, Int.reduceNe, ↓reduceIte,  show (false == true) = false from rfl, show (true == false) = false from rfl, show (false == false) = true from rfl, show (true == true) = true from rfl, decide_true, decide_false, not_true_eq_false, not_false_eq_true, Bool.not_true, Bool.not_false, eq_true hr, eq_false hy]
  refine call_of (cz) ?_
  set_option maxRecDepth 100000 in simp (maxSteps := 10000000) only [go_sem, Nat.reduceAdd, Nat.reduceSub, Nat.reduceMul, Nat.reduceLT, Nat.reduceLeDiff, Nat.reduceEqDiff, Nat.reduceMod, Nat.reduceDiv, Int.reduceNeg, Int.reduceLE, Int.reduceLT, Int.reduceToNat, Int.reduceEq, Int.reduceNe, ↓reduceIte,  show (false == true) = false from rfl, show (true == false) = false from rfl, show (false == false) = true from rfl, show (true == true) = true from rfl, decide_true, decide_false, not_true_eq_false, not_false_eq_true, Bool.not_true, Bool.not_false, eq_true hr, eq_false hy]

set_option maxHeartbeats 4000000 in
theorem rad0_e30 (d : Dir) (l : LList) (lb rf : ByteArray) (rl : Ans Try.prog 57 [.agg (encDir d), .str lb] (.int .i64 0)) (h1 : l.system.length ≤ 1000) (h2 : l.user.length ≤ 1000) (hr : rf = ⟨#[]⟩) (hz : ixS l.system lb = -1) (hy : ixS l.user lb = -1) (h8 : (l.user.length : Int) = 8) : Ans Try.prog 41 [.agg (encDir d), .agg (encLL l), .agg (encLE ⟨lb, 0, rf⟩)] (.tup [.agg [.nils, .str ⟨#[]⟩, .nils], .int .i64 30]) := by
  have wi := Within_good 0 0 4
  rw [show inB 0 0 4 = true by decide] at wi
  have ci := IndexOf_good l.user rf (by omega)
  have cy := IndexOf_good l.user lb (by omega)
  have cz := IndexOf_good l.system lb (by omega)
  rw [hz] at cz
  rw [hy] at cy
  generalize ixS l.user rf = xx at *
  refine good_run [] mixed Try.func41 rfl Try.ntmps41 (rs := [.cell 6 41, .tmp 7]) rfl (by decide +kernel) (by kernel_rfl) rfl ?_
  rw [startE_eq 124 _ _ _ rfl rfl]
  set_option maxRecDepth 100000 in simp (maxSteps := 10000000) only [go_sem, Nat.reduceAdd, Nat.reduceSub, Nat.reduceMul, Nat.reduceLT, Nat.reduceLeDiff, Nat.reduceEqDiff, Nat.reduceMod, Nat.reduceDiv, Int.reduceNeg, Int.reduceLE, Int.reduceLT, Int.reduceToNat, Int.reduceEq, Int.reduceNe, ↓reduceIte]
  refine call_of (rl) ?_
  set_option maxRecDepth 100000 in simp (maxSteps := 10000000) only [go_sem, Nat.reduceAdd, Nat.reduceSub, Nat.reduceMul, Nat.reduceLT, Nat.reduceLeDiff, Nat.reduceEqDiff, Nat.reduceMod, Nat.reduceDiv, Int.reduceNeg, Int.reduceLE, Int.reduceLT, Int.reduceToNat, Int.reduceEq, Int.reduceNe, ↓reduceIte,  show (false == true) = false from rfl, show (true == false) = false from rfl, show (false == false) = true from rfl, show (true == true) = true from rfl, decide_true, decide_false, not_true_eq_false, not_false_eq_true, Bool.not_true, Bool.not_false, eq_true hr, eq_true h8]
  refine call_of (wi) ?_
  set_option maxRecDepth 100000 in simp (maxSteps := 10000000) only [go_sem, Nat.reduceAdd, Nat.reduceSub, Nat.reduceMul, Nat.reduceLT, Nat.reduceLeDiff, Nat.reduceEqDiff, Nat.reduceMod, Nat.reduceDiv, Int.reduceNeg, Int.reduceLE, Int.reduceLT, Int.reduceToNat, Int.reduceEq, Int.reduceNe, ↓reduceIte,  show (false == true) = false from rfl, show (true == false) = false from rfl, show (false == false) = true from rfl, show (true == true) = true from rfl, decide_true, decide_false, not_true_eq_false, not_false_eq_true, Bool.not_true, Bool.not_false, eq_true hr, eq_true h8]
  refine call_of (ci) ?_
  set_option maxRecDepth 100000 in simp (maxSteps := 10000000) only [go_sem, Nat.reduceAdd, Nat.reduceSub, Nat.reduceMul, Nat.reduceLT, Nat.reduceLeDiff, Nat.reduceEqDiff, Nat.reduceMod, Nat.reduceDiv, Int.reduceNeg, Int.reduceLE, Int.reduceLT, Int.reduceToNat, Int.reduceEq, Int.reduceNe, ↓reduceIte,  show (false == true) = false from rfl, show (true == false) = false from rfl, show (false == false) = true from rfl, show (true == true) = true from rfl, decide_true, decide_false, not_true_eq_false, not_false_eq_true, Bool.not_true, Bool.not_false, eq_true hr, eq_true h8]
  refine call_of (cy) ?_
  set_option maxRecDepth 100000 in simp (maxSteps := 10000000) only [go_sem, Nat.reduceAdd, Nat.reduceSub, Nat.reduceMul, Nat.reduceLT, Nat.reduceLeDiff, Nat.reduceEqDiff, Nat.reduceMod, Nat.reduceDiv, Int.reduceNeg, Int.reduceLE, Int.reduceLT, Int.reduceToNat, Int.reduceEq, Int.reduceNe, ↓reduceIte,  show (false == true) = false from rfl, show (true == false) = false from rfl, show (false == false) = true from rfl, show (true == true) = true from rfl, decide_true, decide_false, not_true_eq_false, not_false_eq_true, Bool.not_true, Bool.not_false, eq_true hr, eq_true h8]
  refine call_of (cz) ?_
  set_option maxRecDepth 100000 in simp (maxSteps := 10000000) only [go_sem, Nat.reduceAdd, Nat.reduceSub, Nat.reduceMul, Nat.reduceLT, Nat.reduceLeDiff, Nat.reduceEqDiff, Nat.reduceMod, Nat.reduceDiv, Int.reduceNeg, Int.reduceLE, Int.reduceLT, Int.reduceToNat, Int.reduceEq, Int.reduceNe, ↓reduceIte,  show (false == true) = false from rfl, show (true == false) = false from rfl, show (false == false) = true from rfl, show (true == true) = true from rfl, decide_true, decide_false, not_true_eq_false, not_false_eq_true, Bool.not_true, Bool.not_false, eq_true hr, eq_true h8]
  refine callM_of [] [0, 1] (OwnLM l h1 h2) ⟨rfl, rfl, rfl, by simp, by simp, by simp, by simp, rfl, rfl, rfl, onodup_of (l := [5, 10]) rfl (by decide)⟩ ?_
  set_option maxRecDepth 100000 in simp (maxSteps := 10000000) only [go_sem, Nat.reduceAdd, Nat.reduceSub, Nat.reduceMul, Nat.reduceLT, Nat.reduceLeDiff, Nat.reduceEqDiff, Nat.reduceMod, Nat.reduceDiv, Int.reduceNeg, Int.reduceLE, Int.reduceLT, Int.reduceToNat, Int.reduceEq, Int.reduceNe, ↓reduceIte,  show (false == true) = false from rfl, show (true == false) = false from rfl, show (false == false) = true from rfl, show (true == true) = true from rfl, decide_true, decide_false, not_true_eq_false, not_false_eq_true, Bool.not_true, Bool.not_false, eq_true hr, eq_true h8]

set_option maxHeartbeats 4000000 in
theorem rad1_e5 (d : Dir) (l : LList) (lb rf : ByteArray) (rl : Ans Try.prog 57 [.agg (encDir d), .str lb] (.int .i64 0)) (h1 : l.system.length ≤ 1000) (h2 : l.user.length ≤ 1000) (hr : ¬ rf = ⟨#[]⟩) : Ans Try.prog 41 [.agg (encDir d), .agg (encLL l), .agg (encLE ⟨lb, 1, rf⟩)] (.tup [.agg [.nils, .str ⟨#[]⟩, .nils], .int .i64 5]) := by
  have wi := Within_good 1 0 4
  rw [show inB 1 0 4 = true by decide] at wi
  refine good_run [] mixed Try.func41 rfl Try.ntmps41 (rs := [.cell 6 41, .tmp 7]) rfl (by decide +kernel) (by kernel_rfl) rfl ?_
  rw [startE_eq 124 _ _ _ rfl rfl]
  set_option maxRecDepth 100000 in simp (maxSteps := 10000000) only [go_sem, Nat.reduceAdd, Nat.reduceSub, Nat.reduceMul, Nat.reduceLT, Nat.reduceLeDiff, Nat.reduceEqDiff, Nat.reduceMod, Nat.reduceDiv, Int.reduceNeg, Int.reduceLE, Int.reduceLT, Int.reduceToNat, Int.reduceEq, Int.reduceNe, ↓reduceIte]
  refine call_of (rl) ?_
  set_option maxRecDepth 100000 in simp (maxSteps := 10000000) only [go_sem, Nat.reduceAdd, Nat.reduceSub, Nat.reduceMul, Nat.reduceLT, Nat.reduceLeDiff, Nat.reduceEqDiff, Nat.reduceMod, Nat.reduceDiv, Int.reduceNeg, Int.reduceLE, Int.reduceLT, Int.reduceToNat, Int.reduceEq, Int.reduceNe, ↓reduceIte,  show (false == true) = false from rfl, show (true == false) = false from rfl, show (false == false) = true from rfl, show (true == true) = true from rfl, decide_true, decide_false, not_true_eq_false, not_false_eq_true, Bool.not_true, Bool.not_false, eq_false hr]
  refine call_of (wi) ?_
  set_option maxRecDepth 100000 in simp (maxSteps := 10000000) only [go_sem, Nat.reduceAdd, Nat.reduceSub, Nat.reduceMul, Nat.reduceLT, Nat.reduceLeDiff, Nat.reduceEqDiff, Nat.reduceMod, Nat.reduceDiv, Int.reduceNeg, Int.reduceLE, Int.reduceLT, Int.reduceToNat, Int.reduceEq, Int.reduceNe, ↓reduceIte,  show (false == true) = false from rfl, show (true == false) = false from rfl, show (false == false) = true from rfl, show (true == true) = true from rfl, decide_true, decide_false, not_true_eq_false, not_false_eq_true, Bool.not_true, Bool.not_false, eq_false hr]

set_option maxHeartbeats 4000000 in
theorem rad1_e13a (d : Dir) (l : LList) (lb rf : ByteArray) (rl : Ans Try.prog 57 [.agg (encDir d), .str lb] (.int .i64 0)) (h1 : l.system.length ≤ 1000) (h2 : l.user.length ≤ 1000) (hr : rf = ⟨#[]⟩) (hz : ¬ ixS l.system lb = -1) : Ans Try.prog 41 [.agg (encDir d), .agg (encLL l), .agg (encLE ⟨lb, 1, rf⟩)] (.tup [.agg [.nils, .str ⟨#[]⟩, .nils], .int .i64 13]) := by
  have wi := Within_good 1 0 4
  rw [show inB 1 0 4 = true by decide] at wi
  have ci := IndexOf_good l.user rf (by omega)
  have cy := IndexOf_good l.user lb (by omega)
  have cz := IndexOf_good l.system lb (by omega)
  generalize ixS l.user rf = xx at *
  refine good_run [] mixed Try.func41 rfl Try.ntmps41 (rs := [.cell 6 41, .tmp 7]) rfl (by decide +kernel) (by kernel_rfl) rfl ?_
  rw [startE_eq 124 _ _ _ rfl rfl]
  set_option maxRecDepth 100000 in simp (maxSteps := 10000000) only [go_sem, Nat.reduceAdd, Nat.reduceSub, Nat.reduceMul, Nat.reduceLT, Nat.reduceLeDiff, Nat.reduceEqDiff, Nat.reduceMod, Nat.reduceDiv, Int.reduceNeg, Int.reduceLE, Int.reduceLT, Int.reduceToNat, Int.reduceEq, Int.reduceNe, ↓reduceIte]
  refine call_of (rl) ?_
  set_option maxRecDepth 100000 in simp (maxSteps := 10000000) only [go_sem, Nat.reduceAdd, Nat.reduceSub, Nat.reduceMul, Nat.reduceLT, Nat.reduceLeDiff, Nat.reduceEqDiff, Nat.reduceMod, Nat.reduceDiv, Int.reduceNeg, Int.reduceLE, Int.reduceLT, Int.reduceToNat, Int.reduceEq, Int.reduceNe, ↓reduceIte,  show (false == true) = false from rfl, show (true == false) = false from rfl, show (false == false) = true from rfl, show (true == true) = true from rfl, decide_true, decide_false, not_true_eq_false, not_false_eq_true, Bool.not_true, Bool.not_false, eq_true hr, eq_false hz]
  refine call_of (wi) ?_
  set_option maxRecDepth 100000 in simp (maxSteps := 10000000) only [go_sem, Nat.reduceAdd, Nat.reduceSub, Nat.reduceMul, Nat.reduceLT, Nat.reduceLeDiff, Nat.reduceEqDiff, Nat.reduceMod, Nat.reduceDiv, Int.reduceNeg, Int.reduceLE, Int.reduceLT, Int.reduceToNat, Int.reduceEq, Int.reduceNe, ↓reduceIte,  show (false == true) = false from rfl, show (true == false) = false from rfl, show (false == false) = true from rfl, show (true == true) = true from rfl, decide_true, decide_false, not_true_eq_false, not_false_eq_true, Bool.not_true, Bool.not_false, eq_true hr, eq_false hz]
  refine call_of (ci) ?_
  set_option maxRecDepth 100000 in simp (maxSteps := 10000000) only [go_sem, Nat.reduceAdd, Nat.reduceSub, Nat.reduceMul, Nat.reduceLT, Nat.reduceLeDiff, Nat.reduceEqDiff, Nat.reduceMod, Nat.reduceDiv, Int.reduceNeg, Int.reduceLE, Int.reduceLT, Int.reduceToNat, Int.reduceEq, Int.reduceNe, ↓reduceIte,  show (false == true) = false from rfl, show (true == false) = false from rfl, show (false == false) = true from rfl, show (true == true) = true from rfl, decide_true, decide_false, not_true_eq_false, not_false_eq_true, Bool.not_true, Bool.not_false, eq_true hr, eq_false hz]
  refine call_of (cy) ?_
  set_option maxRecDepth 100000 in simp (maxSteps := 10000000) only [go_sem, Nat.reduceAdd, Nat.reduceSub, Nat.reduceMul, Nat.reduceLT, Nat.reduceLeDiff, Nat.reduceEqDiff, Nat.reduceMod, Nat.reduceDiv, Int.reduceNeg, Int.reduceLE, Int.reduceLT, Int.reduceToNat, Int.reduceEq, Int.reduceNe, ↓reduceIte,  show (false == true) = false from rfl, show (true == false) = false from rfl, show (false == false) = true from rfl, show (true == true) = true from rfl, decide_true, decide_false, not_true_eq_false, not_false_eq_true, Bool.not_true, Bool.not_false, eq_true hr, eq_false hz]
  refine call_of (cz) ?_
  set_option maxRecDepth 100000 in simp (maxSteps := 10000000) only [go_sem, Nat.reduceAdd, Nat.reduceSub, Nat.reduceMul, Nat.reduceLT, Nat.reduceLeDiff, Nat.reduceEqDiff, Nat.reduceMod, Nat.reduceDiv, Int.reduceNeg, Int.reduceLE, Int.reduceLT, Int.reduceToNat, Int.reduceEq, Int.reduceNe, ↓reduceIte,  show (false == true) = false from rfl, show (true == false) = false from rfl, show (false == false) = true from rfl, show (true == true) = true from rfl, decide_true, decide_false, not_true_eq_false, not_false_eq_true, Bool.not_true, Bool.not_false, eq_true hr, eq_false hz]

set_option maxHeartbeats 4000000 in
theorem rad1_ok (d : Dir) (l : LList) (lb rf : ByteArray) (rl : Ans Try.prog 57 [.agg (encDir d), .str lb] (.int .i64 0)) (h1 : l.system.length ≤ 1000) (h2 : l.user.length ≤ 1000) (hr : rf = ⟨#[]⟩) (hz : ixS l.system lb = -1) (hy : ixS l.user lb = -1) (h8 : ¬ (l.user.length : Int) = 8) : Ans Try.prog 41 [.agg (encDir d), .agg (encLL l), .agg (encLE ⟨lb, 1, rf⟩)] (.tup [.agg [.sl (l.system.map encStr), .str l.current, .sl ((insS l.user l.user.length lb).map encStr)], .int .i64 0]) := by
  have wi := Within_good 1 0 4
  rw [show inB 1 0 4 = true by decide] at wi
  have ci := IndexOf_good l.user rf (by omega)
  have cy := IndexOf_good l.user lb (by omega)
  have cz := IndexOf_good l.system lb (by omega)
  rw [hz] at cz
  rw [hy] at cy
  generalize ixS l.user rf = xx at *
  have ht : (List.take l.user.length l.user).length = l.user.length := by rw [List.length_take]; omega
  have hl2 : (List.drop l.user.length l.user).length = l.user.length - l.user.length := List.length_drop
  have m1 : (l.user.length + 1) * 16 ≤ 140737488355328 := by omega
  have m2 : l.user.length + 1 ≤ maxLen := by unfold maxLen; omega
  have m3 : (l.user.length + 1 + (l.user.length - l.user.length)) * 16 ≤ 140737488355328 := by omega
  have m4 : l.user.length + 1 + (l.user.length - l.user.length) ≤ maxLen := by unfold maxLen; omega
  have hdr : List.drop l.user.length (List.take l.user.length l.user) = List.drop l.user.length l.user := by rw [List.take_of_length_le (Nat.le_refl _)]
  have k1 : (0 : Int) ≤ (l.user.length : Int) := by omega
  have k2 : (l.user.length : Int) ≤ (l.user.length : Int) := by omega
  refine good_run [] mixed Try.func41 rfl Try.ntmps41 (rs := [.cell 6 41, .tmp 7]) rfl (by decide +kernel) (by kernel_rfl) rfl ?_
  rw [startE_eq 124 _ _ _ rfl rfl]
  set_option maxRecDepth 100000 in simp (maxSteps := 10000000) only [go_sem, Nat.reduceAdd, Nat.reduceSub, Nat.reduceMul, Nat.reduceLT, Nat.reduceLeDiff, Nat.reduceEqDiff, Nat.reduceMod, Nat.reduceDiv, Int.reduceNeg, Int.reduceLE, Int.reduceLT, Int.reduceToNat, Int.reduceEq, Int.reduceNe, ↓reduceIte]
  refine call_of (rl) ?_
  set_option maxRecDepth 100000 in simp (maxSteps := 10000000) only [go_sem, Nat.reduceAdd, Nat.reduceSub, Nat.reduceMul, Nat.reduceLT, Nat.reduceLeDiff, Nat.reduceEqDiff, Nat.reduceMod, Nat.reduceDiv, Int.reduceNeg, Int.reduceLE, Int.reduceLT, Int.reduceToNat, Int.reduceEq, Int.reduceNe, ↓reduceIte,  show (false == true) = false from rfl, show (true == false) = false from rfl, show (false == false) = true from rfl, show (true == true) = true from rfl, decide_true, decide_false, not_true_eq_false, not_false_eq_true, Bool.not_true, Bool.not_false, eq_true hr]
  refine call_of (wi) ?_
  set_option maxRecDepth 100000 in simp (maxSteps := 10000000) only [go_sem, Nat.reduceAdd, Nat.reduceSub, Nat.reduceMul, Nat.reduceLT, Nat.reduceLeDiff, Nat.reduceEqDiff, Nat.reduceMod, Nat.reduceDiv, Int.reduceNeg, Int.reduceLE, Int.reduceLT, Int.reduceToNat, Int.reduceEq, Int.reduceNe, ↓reduceIte,  show (false == true) = false from rfl, show (true == false) = false from rfl, show (false == false) = true from rfl, show (true == true) = true from rfl, decide_true, decide_false, not_true_eq_false, not_false_eq_true, Bool.not_true, Bool.not_false, eq_true hr]
  refine call_of (ci) ?_
  set_option maxRecDepth 100000 in simp (maxSteps := 10000000) only [go_sem, Nat.reduceAdd, Nat.reduceSub, Nat.reduceMul, Nat.reduceLT, Nat.reduceLeDiff, Nat.reduceEqDiff, Nat.reduceMod, Nat.reduceDiv, Int.reduceNeg, Int.reduceLE, Int.reduceLT, Int.reduceToNat, Int.reduceEq, Int.reduceNe, ↓reduceIte,  show (false == true) = false from rfl, show (true == false) = false from rfl, show (false == false) = true from rfl, show (true == true) = true from rfl, decide_true, decide_false, not_true_eq_false, not_false_eq_true, Bool.not_true, Bool.not_false, eq_true hr]
  refine call_of (cy) ?_
  set_option maxRecDepth 100000 in simp (maxSteps := 10000000) only [go_sem, Nat.reduceAdd, Nat.reduceSub, Nat.reduceMul, Nat.reduceLT, Nat.reduceLeDiff, Nat.reduceEqDiff, Nat.reduceMod, Nat.reduceDiv, Int.reduceNeg, Int.reduceLE, Int.reduceLT, Int.reduceToNat, Int.reduceEq, Int.reduceNe, ↓reduceIte,  show (false == true) = false from rfl, show (true == false) = false from rfl, show (false == false) = true from rfl, show (true == true) = true from rfl, decide_true, decide_false, not_true_eq_false, not_false_eq_true, Bool.not_true, Bool.not_false, eq_true hr]
  refine call_of (cz) ?_
  set_option maxRecDepth 100000 in simp (maxSteps := 10000000) only [go_sem, Nat.reduceAdd, Nat.reduceSub, Nat.reduceMul, Nat.reduceLT, Nat.reduceLeDiff, Nat.reduceEqDiff, Nat.reduceMod, Nat.reduceDiv, Int.reduceNeg, Int.reduceLE, Int.reduceLT, Int.reduceToNat, Int.reduceEq, Int.reduceNe, ↓reduceIte,  show (false == true) = false from rfl, show (true == false) = false from rfl, show (false == false) = true from rfl, show (true == true) = true from rfl, decide_true, decide_false, not_true_eq_false, not_false_eq_true, Bool.not_true, Bool.not_false, eq_true hr]
  refine callM_of [] [0, 1] (OwnLM l h1 h2) ⟨rfl, rfl, rfl, by simp, by simp, by simp, by simp, rfl, rfl, rfl, onodup_of (l := [5, 10]) rfl (by decide)⟩ ?_
  set_option maxRecDepth 100000 in simp (maxSteps := 10000000) only [go_sem, Nat.reduceAdd, Nat.reduceSub, Nat.reduceMul, Nat.reduceLT, Nat.reduceLeDiff, Nat.reduceEqDiff, Nat.reduceMod, Nat.reduceDiv, Int.reduceNeg, Int.reduceLE, Int.reduceLT, Int.reduceToNat, Int.reduceEq, Int.reduceNe, ↓reduceIte,  show (false == true) = false from rfl, show (true == false) = false from rfl, show (false == false) = true from rfl, show (true == true) = true from rfl, decide_true, decide_false, not_true_eq_false, not_false_eq_true, Bool.not_true, Bool.not_false, eq_true hr, k1, k2, Int.toNat_natCast, List.length_map, ht, hl2, m1, m2, m3, m4, hdr, Int.le_refl, Nat.le_refl, eq_false h8, List.length_append, List.length_singleton, List.length_cons, List.length_nil]
  refine callMD_of [] [112] (CopyM (List.take l.user.length l.user) (by omega)) ⟨rfl, rfl, rfl, by simp, by simp, by simp, by simp, rfl, rfl, rfl, onodup_of (l := [4]) rfl (by decide)⟩ ?_
  set_option maxRecDepth 100000 in simp (maxSteps := 10000000) only [go_sem, Nat.reduceAdd, Nat.reduceSub, Nat.reduceMul, Nat.reduceLT, Nat.reduceLeDiff, Nat.reduceEqDiff, Nat.reduceMod, Nat.reduceDiv, Int.reduceNeg, Int.reduceLE, Int.reduceLT, Int.reduceToNat, Int.reduceEq, Int.reduceNe, ↓reduceIte,  show (false == true) = false from rfl, show (true == false) = false from rfl, show (false == false) = true from rfl, show (true == true) = true from rfl, decide_true, decide_false, not_true_eq_false, not_false_eq_true, Bool.not_true, Bool.not_false, eq_true hr, k1, k2, Int.toNat_natCast, List.length_map, ht, hl2, m1, m2, m3, m4, hdr, Int.le_refl, Nat.le_refl, eq_false h8, List.length_append, List.length_singleton, List.length_cons, List.length_nil]
  first | decide +kernel | (refine ⟨by decide +kernel, ?_⟩; simp [insS, encStr])

set_option maxHeartbeats 4000000 in
theorem rad1_e13b (d : Dir) (l : LList) (lb rf : ByteArray) (rl : Ans Try.prog 57 [.agg (encDir d), .str lb] (.int .i64 0)) (h1 : l.system.length ≤ 1000) (h2 : l.user.length ≤ 1000) (hr : rf = ⟨#[]⟩) (hz : ixS l.system lb = -1) (hy : ¬ ixS l.user lb = -1) : Ans Try.prog 41 [.agg (encDir d), .agg (encLL l), .agg (encLE ⟨lb, 1, rf⟩)] (.tup [.agg [.nils, .str ⟨#[]⟩, .nils], .int .i64 13]) := by
  have wi := Within_good 1 0 4
  rw [show inB 1 0 4 = true by decide] at wi
  have ci := IndexOf_good l.user rf (by omega)
  have cy := IndexOf_good l.user lb (by omega)
  have cz := IndexOf_good l.system lb (by omega)
  rw [hz] at cz
  generalize ixS l.user rf = xx at *
  refine good_run [] mixed Try.func41 rfl Try.ntmps41 (rs := [.cell 6 41, .tmp 7]) rfl (by decide +kernel) (by kernel_rfl) rfl ?_
  rw [startE_eq 124 _ _ _ rfl rfl]
  set_option maxRecDepth 100000 in simp (maxSteps := 10000000) only [go_sem, Nat.reduceAdd, Nat.reduceSub, Nat.reduceMul, Nat.reduceLT, Nat.reduceLeDiff, Nat.reduceEqDiff, Nat.reduceMod, Nat.reduceDiv, Int.reduceNeg, Int.reduceLE, Int.reduceLT, Int.reduceToNat, Int.reduceEq, Int.reduceNe, ↓reduceIte]
  refine call_of (rl) ?_
  set_option maxRecDepth 100000 in simp (maxSteps := 10000000) only [go_sem, Nat.reduceAdd, Nat.reduceSub, Nat.reduceMul, Nat.reduceLT, Nat.reduceLeDiff, Nat.reduceEqDiff, Nat.reduceMod, Nat.reduceDiv, Int.reduceNeg, Int.reduceLE, Int.reduceLT, Int.reduceToNat, Int.reduceEq, Int.reduceNe, ↓reduceIte,  show (false == true) = false from rfl, show (true == false) = false from rfl, show (false == false) = true from rfl, show (true == true) = true from rfl, decide_true, decide_false, not_true_eq_false, not_false_eq_true, Bool.not_true, Bool.not_false, eq_true hr, eq_false hy]
  refine call_of (wi) ?_
  set_option maxRecDepth 100000 in simp (maxSteps := 10000000) only [go_sem, Nat.reduceAdd, Nat.reduceSub, Nat.reduceMul, Nat.reduceLT, Nat.reduceLeDiff, Nat.reduceEqDiff, Nat.reduceMod, Nat.reduceDiv, Int.reduceNeg, Int.reduceLE, Int.reduceLT, Int.reduceToNat, Int.reduceEq, Int.reduceNe, ↓reduceIte,  show (false == true) = false from rfl, show (true == false) = false from rfl, show (false == false) = true from rfl, show (true == true) = true from rfl, decide_true, decide_false, not_true_eq_false, not_false_eq_true, Bool.not_true, Bool.not_false, eq_true hr, eq_false hy]
  refine call_of (ci) ?_
  set_option maxRecDepth 100000 in simp (maxSteps := 10000000) only [go_sem, Nat.reduceAdd, Nat.reduceSub, Nat.reduceMul, Nat.reduceLT, Nat.reduceLeDiff, Nat.reduceEqDiff, Nat.reduceMod, Nat.reduceDiv, Int.reduceNeg, Int.reduceLE, Int.reduceLT, Int.reduceToNat, Int.reduceEq, Int.reduceNe, ↓reduceIte,  show (false == true) = false from rfl, show (true == false) = false from rfl, show (false == false) = true from rfl, show (true == true) = true from rfl, decide_true, decide_false, not_true_eq_false, not_false_eq_true, Bool.not_true, Bool.not_false, eq_true hr, eq_false hy]
  refine call_of (cy) ?_
  set_option maxRecDepth 100000 in simp (maxSteps := 10000000) only [go_sem, Nat.reduceAdd, Nat.reduceSub, Nat.reduceMul, Nat.reduceLT, Nat.reduceLeDiff, Nat.reduceEqDiff, Nat.reduceMod, Nat.reduceDiv, Int.reduceNeg, Int.reduceLE, Int.reduceLT, Int.reduceToNat, Int.reduceEq, Int.reduceNe, ↓reduceIte,  show (false == true) = false from rfl, show (true == false) = false from rfl, show (false == false) = true from rfl, show (true == true) = true from rfl, decide_true, decide_false, not_true_eq_false, not_false_eq_true, Bool.not_true, Bool.not_false, eq_true hr, eq_false hy]
  refine call_of (cz) ?_
  set_option maxRecDepth 100000 in simp (maxSteps := 10000000) only [go_sem, Nat.reduceAdd, Nat.reduceSub, Nat.reduceMul, Nat.reduceLT, Nat.reduceLeDiff, Nat.reduceEqDiff, Nat.reduceMod, Nat.reduceDiv, Int.reduceNeg, Int.reduceLE, Int.reduceLT, Int.reduceToNat, Int.reduceEq, Int.reduceNe, ↓reduceIte,  show (false == true) = false from rfl, show (true == false) = false from rfl, show (false == false) = true from rfl, show (true == true) = true from rfl, decide_true, decide_false, not_true_eq_false, not_false_eq_true, Bool.not_true, Bool.not_false, eq_true hr, eq_false hy]

set_option maxHeartbeats 4000000 in
theorem rad1_e30 (d : Dir) (l : LList) (lb rf : ByteArray) (rl : Ans Try.prog 57 [.agg (encDir d), .str lb] (.int .i64 0)) (h1 : l.system.length ≤ 1000) (h2 : l.user.length ≤ 1000) (hr : rf = ⟨#[]⟩) (hz : ixS l.system lb = -1) (hy : ixS l.user lb = -1) (h8 : (l.user.length : Int) = 8) : Ans Try.prog 41 [.agg (encDir d), .agg (encLL l), .agg (encLE ⟨lb, 1, rf⟩)] (.tup [.agg [.nils, .str ⟨#[]⟩, .nils], .int .i64 30]) := by
  have wi := Within_good 1 0 4
  rw [show inB 1 0 4 = true by decide] at wi
  have ci := IndexOf_good l.user rf (by omega)
  have cy := IndexOf_good l.user lb (by omega)
  have cz := IndexOf_good l.system lb (by omega)
  rw [hz] at cz
  rw [hy] at cy
  generalize ixS l.user rf = xx at *
  refine good_run [] mixed Try.func41 rfl Try.ntmps41 (rs := [.cell 6 41, .tmp 7]) rfl (by decide +kernel) (by kernel_rfl) rfl ?_
  rw [startE_eq 124 _ _ _ rfl rfl]
  set_option maxRecDepth 100000 in simp (maxSteps := 10000000) only [go_sem, Nat.reduceAdd, Nat.reduceSub, Nat.reduceMul, Nat.reduceLT, Nat.reduceLeDiff, Nat.reduceEqDiff, Nat.reduceMod, Nat.reduceDiv, Int.reduceNeg, Int.reduceLE, Int.reduceLT, Int.reduceToNat, Int.reduceEq, Int.reduceNe, ↓reduceIte]
  refine call_of (rl) ?_
  set_option maxRecDepth 100000 in simp (maxSteps := 10000000) only [go_sem, Nat.reduceAdd, Nat.reduceSub, Nat.reduceMul, Nat.reduceLT, Nat.reduceLeDiff, Nat.reduceEqDiff, Nat.reduceMod, Nat.reduceDiv, Int.reduceNeg, Int.reduceLE, Int.reduceLT, Int.reduceToNat, Int.reduceEq, Int.reduceNe, ↓reduceIte,  show (false == true) = false from rfl, show (true == false) = false from rfl, show (false == false) = true from rfl, show (true == true) = true from rfl, decide_true, decide_false, not_true_eq_false, not_false_eq_true, Bool.not_true, Bool.not_false, eq_true hr, eq_true h8]
  refine call_of (wi) ?_
  set_option maxRecDepth 100000 in simp (maxSteps := 10000000) only [go_sem, Nat.reduceAdd, Nat.reduceSub, Nat.reduceMul, Nat.reduceLT, Nat.reduceLeDiff, Nat.reduceEqDiff, Nat.reduceMod, Nat.reduceDiv, Int.reduceNeg, Int.reduceLE, Int.reduceLT, Int.reduceToNat, Int.reduceEq, Int.reduceNe, ↓reduceIte,  show (false == true) = false from rfl, show (true == false) = false from rfl, show (false == false) = true from rfl, show (true == true) = true from rfl, decide_true, decide_false, not_true_eq_false, not_false_eq_true, Bool.not_true, Bool.not_false, eq_true hr, eq_true h8]
  refine call_of (ci) ?_
  set_option maxRecDepth 100000 in simp (maxSteps := 10000000) only [go_sem, Nat.reduceAdd, Nat.reduceSub, Nat.reduceMul, Nat.reduceLT, Nat.reduceLeDiff, Nat.reduceEqDiff, Nat.reduceMod, Nat.reduceDiv, Int.reduceNeg, Int.reduceLE, Int.reduceLT, Int.reduceToNat, Int.reduceEq, Int.reduceNe, ↓reduceIte,  show (false == true) = false from rfl, show (true == false) = false from rfl, show (false == false) = true from rfl, show (true == true) = true from rfl, decide_true, decide_false, not_true_eq_false, not_false_eq_true, Bool.not_true, Bool.not_false, eq_true hr, eq_true h8]
  refine call_of (cy) ?_
  set_option maxRecDepth 100000 in simp (maxSteps := 10000000) only [go_sem, Nat.reduceAdd, Nat.reduceSub, Nat.reduceMul, Nat.reduceLT, Nat.reduceLeDiff, Nat.reduceEqDiff, Nat.reduceMod, Nat.reduceDiv, Int.reduceNeg, Int.reduceLE, Int.reduceLT, Int.reduceToNat, Int.reduceEq, Int.reduceNe, ↓reduceIte,  show (false == true) = false from rfl, show (true == false) = false from rfl, show (false == false) = true from rfl, show (true == true) = true from rfl, decide_true, decide_false, not_true_eq_false, not_false_eq_true, Bool.not_true, Bool.not_false, eq_true hr, eq_true h8]
  refine call_of (cz) ?_
  set_option maxRecDepth 100000 in simp (maxSteps := 10000000) only [go_sem, Nat.reduceAdd, Nat.reduceSub, Nat.reduceMul, Nat.reduceLT, Nat.reduceLeDiff, Nat.reduceEqDiff, Nat.reduceMod, Nat.reduceDiv, Int.reduceNeg, Int.reduceLE, Int.reduceLT, Int.reduceToNat, Int.reduceEq, Int.reduceNe, ↓reduceIte,  show (false == true) = false from rfl, show (true == false) = false from rfl, show (false == false) = true from rfl, show (true == true) = true from rfl, decide_true, decide_false, not_true_eq_false, not_false_eq_true, Bool.not_true, Bool.not_false, eq_true hr, eq_true h8]
  refine callM_of [] [0, 1] (OwnLM l h1 h2) ⟨rfl, rfl, rfl, by simp, by simp, by simp, by simp, rfl, rfl, rfl, onodup_of (l := [5, 10]) rfl (by decide)⟩ ?_
  set_option maxRecDepth 100000 in simp (maxSteps := 10000000) only [go_sem, Nat.reduceAdd, Nat.reduceSub, Nat.reduceMul, Nat.reduceLT, Nat.reduceLeDiff, Nat.reduceEqDiff, Nat.reduceMod, Nat.reduceDiv, Int.reduceNeg, Int.reduceLE, Int.reduceLT, Int.reduceToNat, Int.reduceEq, Int.reduceNe, ↓reduceIte,  show (false == true) = false from rfl, show (true == false) = false from rfl, show (false == false) = true from rfl, show (true == true) = true from rfl, decide_true, decide_false, not_true_eq_false, not_false_eq_true, Bool.not_true, Bool.not_false, eq_true hr, eq_true h8]

set_option maxHeartbeats 4000000 in
theorem rad2_e5 (d : Dir) (l : LList) (lb rf : ByteArray) (rl : Ans Try.prog 57 [.agg (encDir d), .str lb] (.int .i64 0)) (h1 : l.system.length ≤ 1000) (h2 : l.user.length ≤ 1000) (hr : rf = ⟨#[]⟩) : Ans Try.prog 41 [.agg (encDir d), .agg (encLL l), .agg (encLE ⟨lb, 2, rf⟩)] (.tup [.agg [.nils, .str ⟨#[]⟩, .nils], .int .i64 5]) := by
  have wi := Within_good 2 0 4
  rw [show inB 2 0 4 = true by decide] at wi
  refine good_run [] mixed Try.func41 rfl Try.ntmps41 (rs := [.cell 6 41, .tmp 7]) rfl (by decide +kernel) (by kernel_rfl) rfl ?_
  rw [startE_eq 124 _ _ _ rfl rfl]
  set_option maxRecDepth 100000 in simp (maxSteps := 10000000) only [go_sem, Nat.reduceAdd, Nat.reduceSub, Nat.reduceMul, Nat.reduceLT, Nat.reduceLeDiff, Nat.reduceEqDiff, Nat.reduceMod, Nat.reduceDiv, Int.reduceNeg, Int.reduceLE, Int.reduceLT, Int.reduceToNat, Int.reduceEq, Int.reduceNe, ↓reduceIte]
  refine call_of (rl) ?_
  set_option maxRecDepth 100000 in simp (maxSteps := 10000000) only [go_sem, Nat.reduceAdd, Nat.reduceSub, Nat.reduceMul, Nat.reduceLT, Nat.reduceLeDiff, Nat.reduceEqDiff, Nat.reduceMod, Nat.reduceDiv, Int.reduceNeg, Int.reduceLE, Int.reduceLT, Int.reduceToNat, Int.reduceEq, Int.reduceNe, ↓reduceIte,  show (false == true) = false from rfl, show (true == false) = false from rfl, show (false == false) = true from rfl, show (true == true) = true from rfl, decide_true, decide_false, not_true_eq_false, not_false_eq_true, Bool.not_true, Bool.not_false, eq_true hr]
  refine call_of (wi) ?_
  set_option maxRecDepth 100000 in simp (maxSteps := 10000000) only [go_sem, Nat.reduceAdd, Nat.reduceSub, Nat.reduceMul, Nat.reduceLT, Nat.reduceLeDiff, Nat.reduceEqDiff, Nat.reduceMod, Nat.reduceDiv, Int.reduceNeg, Int.reduceLE, Int.reduceLT, Int.reduceToNat, Int.reduceEq, Int.reduceNe, ↓reduceIte,  show (false == true) = false from rfl, show (true == false) = false from rfl, show (false == false) = true from rfl, show (true == true) = true from rfl, decide_true, decide_false, not_true_eq_false, not_false_eq_true, Bool.not_true, Bool.not_false, eq_true hr]

set_option maxHeartbeats 4000000 in
theorem rad2_e40 (d : Dir) (l : LList) (lb rf : ByteArray) (rl : Ans Try.prog 57 [.agg (encDir d), .str lb] (.int .i64 0)) (h1 : l.system.length ≤ 1000) (h2 : l.user.length ≤ 1000) (hr : ¬ rf = ⟨#[]⟩) (hx : ixS l.user rf = -1) : Ans Try.prog 41 [.agg (encDir d), .agg (encLL l), .agg (encLE ⟨lb, 2, rf⟩)] (.tup [.agg [.nils, .str ⟨#[]⟩, .nils], .int .i64 40]) := by
  have wi := Within_good 2 0 4
  rw [show inB 2 0 4 = true by decide] at wi
  have ci := IndexOf_good l.user rf (by omega)
  rw [hx] at ci
  refine good_run [] mixed Try.func41 rfl Try.ntmps41 (rs := [.cell 6 41, .tmp 7]) rfl (by decide +kernel) (by kernel_rfl) rfl ?_
  rw [startE_eq 124 _ _ _ rfl rfl]
  set_option maxRecDepth 100000 in simp (maxSteps := 10000000) only [go_sem, Nat.reduceAdd, Nat.reduceSub, Nat.reduceMul, Nat.reduceLT, Nat.reduceLeDiff, Nat.reduceEqDiff, Nat.reduceMod, Nat.reduceDiv, Int.reduceNeg, Int.reduceLE, Int.reduceLT, Int.reduceToNat, Int.reduceEq, Int.reduceNe, ↓reduceIte]
  refine call_of (rl) ?_
  set_option maxRecDepth 100000 in simp (maxSteps := 10000000) only [go_sem, Nat.reduceAdd, Nat.reduceSub, Nat.reduceMul, Nat.reduceLT, Nat.reduceLeDiff, Nat.reduceEqDiff, Nat.reduceMod, Nat.reduceDiv, Int.reduceNeg, Int.reduceLE, Int.reduceLT, Int.reduceToNat, Int.reduceEq, Int.reduceNe, ↓reduceIte,  show (false == true) = false from rfl, show (true == false) = false from rfl, show (false == false) = true from rfl, show (true == true) = true from rfl, decide_true, decide_false, not_true_eq_false, not_false_eq_true, Bool.not_true, Bool.not_false, eq_false hr]
  refine call_of (wi) ?_
  set_option maxRecDepth 100000 in simp (maxSteps := 10000000) only [go_sem, Nat.reduceAdd, Nat.reduceSub, Nat.reduceMul, Nat.reduceLT, Nat.reduceLeDiff, Nat.reduceEqDiff, Nat.reduceMod, Nat.reduceDiv, Int.reduceNeg, Int.reduceLE, Int.reduceLT, Int.reduceToNat, Int.reduceEq, Int.reduceNe, ↓reduceIte,  show (false == true) = false from rfl, show (true == false) = false from rfl, show (false == false) = true from rfl, show (true == true) = true from rfl, decide_true, decide_false, not_true_eq_false, not_false_eq_true, Bool.not_true, Bool.not_false, eq_false hr]
  refine call_of (ci) ?_
  set_option maxRecDepth 100000 in simp (maxSteps := 10000000) only [go_sem, Nat.reduceAdd, Nat.reduceSub, Nat.reduceMul, Nat.reduceLT, Nat.reduceLeDiff, Nat.reduceEqDiff, Nat.reduceMod, Nat.reduceDiv, Int.reduceNeg, Int.reduceLE, Int.reduceLT, Int.reduceToNat, Int.reduceEq, Int.reduceNe, ↓reduceIte,  show (false == true) = false from rfl, show (true == false) = false from rfl, show (false == false) = true from rfl, show (true == true) = true from rfl, decide_true, decide_false, not_true_eq_false, not_false_eq_true, Bool.not_true, Bool.not_false, eq_false hr]

set_option maxHeartbeats 4000000 in
theorem rad2_e13a (d : Dir) (l : LList) (lb rf : ByteArray) (rl : Ans Try.prog 57 [.agg (encDir d), .str lb] (.int .i64 0)) (h1 : l.system.length ≤ 1000) (h2 : l.user.length ≤ 1000) (hr : ¬ rf = ⟨#[]⟩) (i : Nat) (hi : i < l.user.length) (hx : ixS l.user rf = (i : Int)) (hz : ¬ ixS l.system lb = -1) : Ans Try.prog 41 [.agg (encDir d), .agg (encLL l), .agg (encLE ⟨lb, 2, rf⟩)] (.tup [.agg [.nils, .str ⟨#[]⟩, .nils], .int .i64 13]) := by
  have wi := Within_good 2 0 4
  rw [show inB 2 0 4 = true by decide] at wi
  have ci := IndexOf_good l.user rf (by omega)
  rw [hx] at ci
  have q5 : ¬ (i : Int) = -1 := by omega
  have cy := IndexOf_good l.user lb (by omega)
  have cz := IndexOf_good l.system lb (by omega)
  refine good_run [] mixed Try.func41 rfl Try.ntmps41 (rs := [.cell 6 41, .tmp 7]) rfl (by decide +kernel) (by kernel_rfl) rfl ?_
  rw [startE_eq 124 _ _ _ rfl rfl]
  set_option maxRecDepth 100000 in simp (maxSteps := 10000000) only [go_sem, Nat.reduceAdd, Nat.reduceSub, Nat.reduceMul, Nat.reduceLT, Nat.reduceLeDiff, Nat.reduceEqDiff, Nat.reduceMod, Nat.reduceDiv, Int.reduceNeg, Int.reduceLE, Int.reduceLT, Int.reduceToNat, Int.reduceEq, Int.reduceNe, ↓reduceIte]
  refine call_of (rl) ?_
  set_option maxRecDepth 100000 in simp (maxSteps := 10000000) only [go_sem, Nat.reduceAdd, Nat.reduceSub, Nat.reduceMul, Nat.reduceLT, Nat.reduceLeDiff, Nat.reduceEqDiff, Nat.reduceMod, Nat.reduceDiv, Int.reduceNeg, Int.reduceLE, Int.reduceLT, Int.reduceToNat, Int.reduceEq, Int.reduceNe, ↓reduceIte,  show (false == true) = false from rfl, show (true == false) = false from rfl, show (false == false) = true from rfl, show (true == true) = true from rfl, decide_true, decide_false, not_true_eq_false, not_false_eq_true, Bool.not_true, Bool.not_false, eq_false hr, eq_false hz, eq_false q5]
  refine call_of (wi) ?_
  set_option maxRecDepth 100000 in simp (maxSteps := 10000000) only [go_sem, Nat.reduceAdd, Nat.reduceSub, Nat.reduceMul, Nat.reduceLT, Nat.reduceLeDiff, Nat.reduceEqDiff, Nat.reduceMod, Nat.reduceDiv, Int.reduceNeg, Int.reduceLE, Int.reduceLT, Int.reduceToNat, Int.reduceEq, Int.reduceNe, ↓reduceIte,  show (false == true) = false from rfl, show (true == false) = false from rfl, show (false == false) = true from rfl, show (true == true) = true from rfl, decide_true, decide_false, not_true_eq_false, not_false_eq_true, Bool.not_true, Bool.not_false, eq_false hr, eq_false hz, eq_false q5]
  refine call_of (ci) ?_
  set_option maxRecDepth 100000 in simp (maxSteps := 10000000) only [go_sem, Nat.reduceAdd, Nat.reduceSub, Nat.reduceMul, Nat.reduceLT, Nat.reduceLeDiff, Nat.reduceEqDiff, Nat.reduceMod, Nat.reduceDiv, Int.reduceNeg, Int.reduceLE, Int.reduceLT, Int.reduceToNat, Int.reduceEq, Int.reduceNe, ↓reduceIte,  show (false == true) = false from rfl, show (true == false) = false from rfl, show (false == false) = true from rfl, show (true == true) = true from rfl, decide_true, decide_false, not_true_eq_false, not_false_eq_true, Bool.not_true, Bool.not_false, eq_false hr, eq_false hz, eq_false q5]
  refine call_of (cy) ?_
  set_option maxRecDepth 100000 in simp (maxSteps := 10000000) only [go_sem, Nat.reduceAdd, Nat.reduceSub, Nat.reduceMul, Nat.reduceLT, Nat.reduceLeDiff, Nat.reduceEqDiff, Nat.reduceMod, Nat.reduceDiv, Int.reduceNeg, Int.reduceLE, Int.reduceLT, Int.reduceToNat, Int.reduceEq, Int.reduceNe, ↓reduceIte,  show (false == true) = false from rfl, show (true == false) = false from rfl, show (false == false) = true from rfl, show (true == true) = true from rfl, decide_true, decide_false, not_true_eq_false, not_false_eq_true, Bool.not_true, Bool.not_false, eq_false hr, eq_false hz, eq_false q5]
  refine call_of (cz) ?_
  set_option maxRecDepth 100000 in simp (maxSteps := 10000000) only [go_sem, Nat.reduceAdd, Nat.reduceSub, Nat.reduceMul, Nat.reduceLT, Nat.reduceLeDiff, Nat.reduceEqDiff, Nat.reduceMod, Nat.reduceDiv, Int.reduceNeg, Int.reduceLE, Int.reduceLT, Int.reduceToNat, Int.reduceEq, Int.reduceNe, ↓reduceIte,  show (false == true) = false from rfl, show (true == false) = false from rfl, show (false == false) = true from rfl, show (true == true) = true from rfl, decide_true, decide_false, not_true_eq_false, not_false_eq_true, Bool.not_true, Bool.not_false, eq_false hr, eq_false hz, eq_false q5]

set_option maxHeartbeats 4000000 in
theorem rad2_ok (d : Dir) (l : LList) (lb rf : ByteArray) (rl : Ans Try.prog 57 [.agg (encDir d), .str lb] (.int .i64 0)) (h1 : l.system.length ≤ 1000) (h2 : l.user.length ≤ 1000) (hr : ¬ rf = ⟨#[]⟩) (i : Nat) (hi : i < l.user.length) (hx : ixS l.user rf = (i : Int)) (hz : ixS l.system lb = -1) (hy : ixS l.user lb = -1) (h8 : ¬ (l.user.length : Int) = 8) : Ans Try.prog 41 [.agg (encDir d), .agg (encLL l), .agg (encLE ⟨lb, 2, rf⟩)] (.tup [.agg [.sl (l.system.map encStr), .str l.current, .sl ((insS l.user (i + 1) lb).map encStr)], .int .i64 0]) := by
  have wi := Within_good 2 0 4
  rw [show inB 2 0 4 = true by decide] at wi
  have ci := IndexOf_good l.user rf (by omega)
  rw [hx] at ci
  have q5 : ¬ (i : Int) = -1 := by omega
  have cy := IndexOf_good l.user lb (by omega)
  have cz := IndexOf_good l.system lb (by omega)
  rw [hz] at cz
  rw [hy] at cy
  have ht : (List.take (i + 1) l.user).length = (i + 1) := by rw [List.length_take]; omega
  have hl2 : (List.drop (i + 1) l.user).length = l.user.length - (i + 1) := List.length_drop
  have m1 : ((i + 1) + 1) * 16 ≤ 140737488355328 := by omega
  have m2 : (i + 1) + 1 ≤ maxLen := by unfold maxLen; omega
  have m3 : ((i + 1) + 1 + (l.user.length - (i + 1))) * 16 ≤ 140737488355328 := by omega
  have m4 : (i + 1) + 1 + (l.user.length - (i + 1)) ≤ maxLen := by unfold maxLen; omega
  have hdr : List.drop (i + 1) (List.take l.user.length l.user) = List.drop (i + 1) l.user := by rw [List.take_of_length_le (Nat.le_refl _)]
  have k1 : (0 : Int) ≤ ((i + 1 : Nat) : Int) := by omega
  have k2 : ((i + 1 : Nat) : Int) ≤ (l.user.length : Int) := by omega
  refine good_run [] mixed Try.func41 rfl Try.ntmps41 (rs := [.cell 6 41, .tmp 7]) rfl (by decide +kernel) (by kernel_rfl) rfl ?_
  rw [startE_eq 124 _ _ _ rfl rfl]
  set_option maxRecDepth 100000 in simp (maxSteps := 10000000) only [go_sem, Nat.reduceAdd, Nat.reduceSub, Nat.reduceMul, Nat.reduceLT, Nat.reduceLeDiff, Nat.reduceEqDiff, Nat.reduceMod, Nat.reduceDiv, Int.reduceNeg, Int.reduceLE, Int.reduceLT, Int.reduceToNat, Int.reduceEq, Int.reduceNe, ↓reduceIte]
  refine call_of (rl) ?_
  set_option maxRecDepth 100000 in simp (maxSteps := 10000000) only [go_sem, Nat.reduceAdd, Nat.reduceSub, Nat.reduceMul, Nat.reduceLT, Nat.reduceLeDiff, Nat.reduceEqDiff, Nat.reduceMod, Nat.reduceDiv, Int.reduceNeg, Int.reduceLE, Int.reduceLT, Int.reduceToNat, Int.reduceEq, Int.reduceNe, ↓reduceIte,  show (false == true) = false from rfl, show (true == false) = false from rfl, show (false == false) = true from rfl, show (true == true) = true from rfl, decide_true, decide_false, not_true_eq_false, not_false_eq_true, Bool.not_true, Bool.not_false, eq_false hr, eq_false q5]
  refine call_of (wi) ?_
  set_option maxRecDepth 100000 in simp (maxSteps := 10000000) only [go_sem, Nat.reduceAdd, Nat.reduceSub, Nat.reduceMul, Nat.reduceLT, Nat.reduceLeDiff, Nat.reduceEqDiff, Nat.reduceMod, Nat.reduceDiv, Int.reduceNeg, Int.reduceLE, Int.reduceLT, Int.reduceToNat, Int.reduceEq, Int.reduceNe, ↓reduceIte,  show (false == true) = false from rfl, show (true == false) = false from rfl, show (false == false) = true from rfl, show (true == true) = true from rfl, decide_true, decide_false, not_true_eq_false, not_false_eq_true, Bool.not_true, Bool.not_false, eq_false hr, eq_false q5]
  refine call_of (ci) ?_
  set_option maxRecDepth 100000 in simp (maxSteps := 10000000) only [go_sem, Nat.reduceAdd, Nat.reduceSub, Nat.reduceMul, Nat.reduceLT, Nat.reduceLeDiff, Nat.reduceEqDiff, Nat.reduceMod, Nat.reduceDiv, Int.reduceNeg, Int.reduceLE, Int.reduceLT, Int.reduceToNat, Int.reduceEq, Int.reduceNe, ↓reduceIte,  show (false == true) = false from rfl, show (true == false) = false from rfl, show (false == false) = true from rfl, show (true == true) = true from rfl, decide_true, decide_false, not_true_eq_false, not_false_eq_true, Bool.not_true, Bool.not_false, eq_false hr, eq_false q5]
  refine call_of (cy) ?_
  set_option maxRecDepth 100000 in simp (maxSteps := 10000000) only [go_sem, Nat.reduceAdd, Nat.reduceSub, Nat.reduceMul, Nat.reduceLT, Nat.reduceLeDiff, Nat.reduceEqDiff, Nat.reduceMod, Nat.reduceDiv, Int.reduceNeg, Int.reduceLE, Int.reduceLT, Int.reduceToNat, Int.reduceEq, Int.reduceNe, ↓reduceIte,  show (false == true) = false from rfl, show (true == false) = false from rfl, show (false == false) = true from rfl, show (true == true) = true from rfl, decide_true, decide_false, not_true_eq_false, not_false_eq_true, Bool.not_true, Bool.not_false, eq_false hr, eq_false q5]
  refine call_of (cz) ?_
  set_option maxRecDepth 100000 in simp (maxSteps := 10000000) only [go_sem, Nat.reduceAdd, Nat.reduceSub, Nat.reduceMul, Nat.reduceLT, Nat.reduceLeDiff, Nat.reduceEqDiff, Nat.reduceMod, Nat.reduceDiv, Int.reduceNeg, Int.reduceLE, Int.reduceLT, Int.reduceToNat, Int.reduceEq, Int.reduceNe, ↓reduceIte,  show (false == true) = false from rfl, show (true == false) = false from rfl, show (false == false) = true from rfl, show (true == true) = true from rfl, decide_true, decide_false, not_true_eq_false, not_false_eq_true, Bool.not_true, Bool.not_false, eq_false hr, eq_false q5]
  refine callM_of [] [0, 1] (OwnLM l h1 h2) ⟨rfl, rfl, rfl, by simp, by simp, by simp, by simp, rfl, rfl, rfl, onodup_of (l := [5, 10]) rfl (by decide)⟩ ?_
  set_option maxRecDepth 100000 in simp (maxSteps := 10000000) only [go_sem, Nat.reduceAdd, Nat.reduceSub, Nat.reduceMul, Nat.reduceLT, Nat.reduceLeDiff, Nat.reduceEqDiff, Nat.reduceMod, Nat.reduceDiv, Int.reduceNeg, Int.reduceLE, Int.reduceLT, Int.reduceToNat, Int.reduceEq, Int.reduceNe, ↓reduceIte,  show (false == true) = false from rfl, show (true == false) = false from rfl, show (false == false) = true from rfl, show (true == true) = true from rfl, decide_true, decide_false, not_true_eq_false, not_false_eq_true, Bool.not_true, Bool.not_false, eq_false hr, eq_false q5, k1, k2, Int.toNat_natCast, List.length_map, ht, hl2, m1, m2, m3, m4, hdr, Int.le_refl, Nat.le_refl, eq_false h8, List.length_append, List.length_singleton, List.length_cons, List.length_nil, wrap_succ (show i < 9223372036854775807 by omega)]
  refine callMD_of [] [112] (CopyM (List.take (i + 1) l.user) (by omega)) ⟨rfl, rfl, rfl, by simp, by simp, by simp, by simp, rfl, rfl, rfl, onodup_of (l := [4]) rfl (by decide)⟩ ?_
  set_option maxRecDepth 100000 in simp (maxSteps := 10000000) only [go_sem, Nat.reduceAdd, Nat.reduceSub, Nat.reduceMul, Nat.reduceLT, Nat.reduceLeDiff, Nat.reduceEqDiff, Nat.reduceMod, Nat.reduceDiv, Int.reduceNeg, Int.reduceLE, Int.reduceLT, Int.reduceToNat, Int.reduceEq, Int.reduceNe, ↓reduceIte,  show (false == true) = false from rfl, show (true == false) = false from rfl, show (false == false) = true from rfl, show (true == true) = true from rfl, decide_true, decide_false, not_true_eq_false, not_false_eq_true, Bool.not_true, Bool.not_false, eq_false hr, eq_false q5, k1, k2, Int.toNat_natCast, List.length_map, ht, hl2, m1, m2, m3, m4, hdr, Int.le_refl, Nat.le_refl, eq_false h8, List.length_append, List.length_singleton, List.length_cons, List.length_nil, wrap_succ (show i < 9223372036854775807 by omega)]
  first | decide +kernel | (refine ⟨by decide +kernel, ?_⟩; simp [insS, encStr])

set_option maxHeartbeats 4000000 in
theorem rad2_e13b (d : Dir) (l : LList) (lb rf : ByteArray) (rl : Ans Try.prog 57 [.agg (encDir d), .str lb] (.int .i64 0)) (h1 : l.system.length ≤ 1000) (h2 : l.user.length ≤ 1000) (hr : ¬ rf = ⟨#[]⟩) (i : Nat) (hi : i < l.user.length) (hx : ixS l.user rf = (i : Int)) (hz : ixS l.system lb = -1) (hy : ¬ ixS l.user lb = -1) : Ans Try.prog 41 [.agg (encDir d), .agg (encLL l), .agg (encLE ⟨lb, 2, rf⟩)] (.tup [.agg [.nils, .str ⟨#[]⟩, .nils], .int .i64 13]) := by
  have wi := Within_good 2 0 4
  rw [show inB 2 0 4 = true by decide] at wi
  have ci := IndexOf_good l.user rf (by omega)
  rw [hx] at ci
  have q5 : ¬ (i : Int) = -1 := by omega
  have cy := IndexOf_good l.user lb (by omega)
  have cz := IndexOf_good l.system lb (by omega)
  rw [hz] at cz
  refine good_run [] mixed Try.func41 rfl Try.ntmps41 (rs := [.cell 6 41, .tmp 7]) rfl (by decide +kernel) (by kernel_rfl) rfl ?_
  rw [startE_eq 124 _ _ _ rfl rfl]
  set_option maxRecDepth 100000 in simp (maxSteps := 10000000) only [go_sem, Nat.reduceAdd, Nat.reduceSub, Nat.reduceMul, Nat.reduceLT, Nat.reduceLeDiff, Nat.reduceEqDiff, Nat.reduceMod, Nat.reduceDiv, Int.reduceNeg, Int.reduceLE, Int.reduceLT, Int.reduceToNat, Int.reduceEq, Int.reduceNe, ↓reduceIte]
  refine call_of (rl) ?_
  set_option maxRecDepth 100000 in simp (maxSteps := 10000000) only [go_sem, Nat.reduceAdd, Nat.reduceSub, Nat.reduceMul, Nat.reduceLT, Nat.reduceLeDiff, Nat.reduceEqDiff, Nat.reduceMod, Nat.reduceDiv, Int.reduceNeg, Int.reduceLE, Int.reduceLT, Int.reduceToNat, Int.reduceEq, Int.reduceNe, ↓reduceIte,  show (false == true) = false from rfl, show (true == false) = false from rfl, show (false == false) = true from rfl, show (true == true) = true from rfl, decide_true, decide_false, not_true_eq_false, not_false_eq_true, Bool.not_true, Bool.not_false, eq_false hr, eq_false hy, eq_false q5]
  refine call_of (wi) ?_
  set_option maxRecDepth 100000 in simp (maxSteps := 10000000) only [go_sem, Nat.reduceAdd, Nat.reduceSub, Nat.reduceMul, Nat.reduceLT, Nat.reduceLeDiff, Nat.reduceEqDiff, Nat.reduceMod, Nat.reduceDiv, Int.reduceNeg, Int.reduceLE, Int.reduceLT, Int.reduceToNat, Int.reduceEq, Int.reduceNe, ↓reduceIte,  show (false == true) = false from rfl, show (true == false) = false from rfl, show (false == false) = true from rfl, show (true == true) = true from rfl, decide_true, decide_false, not_true_eq_false, not_false_eq_true, Bool.not_true, Bool.not_false, eq_false hr, eq_false hy, eq_false q5]
  refine call_of (ci) ?_
  set_option maxRecDepth 100000 in simp (maxSteps := 10000000) only [go_sem, Nat.reduceAdd, Nat.reduceSub, Nat.reduceMul, Nat.reduceLT, Nat.reduceLeDiff, Nat.reduceEqDiff, Nat.reduceMod, Nat.reduceDiv, Int.reduceNeg, Int.reduceLE, Int.reduceLT, Int.reduceToNat, Int.reduceEq, Int.reduceNe, ↓reduceIte,  show (false == true) = false from rfl, show (true == false) = false from rfl, show (false == false) = true from rfl, show (true == true) = true from rfl, decide_true, decide_false, not_true_eq_false, not_false_eq_true, Bool.not_true, Bool.not_false, eq_false hr, eq_false hy, eq_false q5]
  refine call_of (cy) ?_
  set_option maxRecDepth 100000 in simp (maxSteps := 10000000) only [go_sem, Nat.reduceAdd, Nat.reduceSub, Nat.reduceMul, Nat.reduceLT, Nat.reduceLeDiff, Nat.reduceEqDiff, Nat.reduceMod, Nat.reduceDiv, Int.reduceNeg, Int.reduceLE, Int.reduceLT, Int.reduceToNat, Int.reduceEq, Int.reduceNe, ↓reduceIte,  show (false == true) = false from rfl, show (true == false) = false from rfl, show (false == false) = true from rfl, show (true == true) = true from rfl, decide_true, decide_false, not_true_eq_false, not_false_eq_true, Bool.not_true, Bool.not_false, eq_false hr, eq_false hy, eq_false q5]
  refine call_of (cz) ?_
  set_option maxRecDepth 100000 in simp (maxSteps := 10000000) only [go_sem, Nat.reduceAdd, Nat.reduceSub, Nat.reduceMul, Nat.reduceLT, Nat.reduceLeDiff, Nat.reduceEqDiff, Nat.reduceMod, Nat.reduceDiv, Int.reduceNeg, Int.reduceLE, Int.reduceLT, Int.reduceToNat, Int.reduceEq, Int.reduceNe, ↓reduceIte,  show (false == true) = false from rfl, show (true == false) = false from rfl, show (false == false) = true from rfl, show (true == true) = true from rfl, decide_true, decide_false, not_true_eq_false, not_false_eq_true, Bool.not_true, Bool.not_false, eq_false hr, eq_false hy, eq_false q5]

set_option maxHeartbeats 4000000 in
theorem rad2_e30 (d : Dir) (l : LList) (lb rf : ByteArray) (rl : Ans Try.prog 57 [.agg (encDir d), .str lb] (.int .i64 0)) (h1 : l.system.length ≤ 1000) (h2 : l.user.length ≤ 1000) (hr : ¬ rf = ⟨#[]⟩) (i : Nat) (hi : i < l.user.length) (hx : ixS l.user rf = (i : Int)) (hz : ixS l.system lb = -1) (hy : ixS l.user lb = -1) (h8 : (l.user.length : Int) = 8) : Ans Try.prog 41 [.agg (encDir d), .agg (encLL l), .agg (encLE ⟨lb, 2, rf⟩)] (.tup [.agg [.nils, .str ⟨#[]⟩, .nils], .int .i64 30]) := by
  have wi := Within_good 2 0 4
  rw [show inB 2 0 4 = true by decide] at wi
  have ci := IndexOf_good l.user rf (by omega)
  rw [hx] at ci
  have q5 : ¬ (i : Int) = -1 := by omega
  have cy := IndexOf_good l.user lb (by omega)
  have cz := IndexOf_good l.system lb (by omega)
  rw [hz] at cz
  rw [hy] at cy
  refine good_run [] mixed Try.func41 rfl Try.ntmps41 (rs := [.cell 6 41, .tmp 7]) rfl (by decide +kernel) (by kernel_rfl) rfl ?_
  rw [startE_eq 124 _ _ _ rfl rfl]
  set_option maxRecDepth 100000 in simp (maxSteps := 10000000) only [go_sem, Nat.reduceAdd, Nat.reduceSub, Nat.reduceMul, Nat.reduceLT, Nat.reduceLeDiff, Nat.reduceEqDiff, Nat.reduceMod, Nat.reduceDiv, Int.reduceNeg, Int.reduceLE, Int.reduceLT, Int.reduceToNat, Int.reduceEq, Int.reduceNe, ↓reduceIte]
  refine call_of (rl) ?_
  set_option maxRecDepth 100000 in simp (maxSteps := 10000000) only [go_sem, Nat.reduceAdd, Nat.reduceSub, Nat.reduceMul, Nat.reduceLT, Nat.reduceLeDiff, Nat.reduceEqDiff, Nat.reduceMod, Nat.reduceDiv, Int.reduceNeg, Int.reduceLE, Int.reduceLT, Int.reduceToNat, Int.reduceEq, Int.reduceNe, ↓reduceIte,  show (false == true) = false from rfl, show (true == false) = false from rfl, show (false == false) = true from rfl, show (true == true) = true from rfl, decide_true, decide_false, not_true_eq_false, not_false_eq_true, Bool.not_true, Bool.not_false, eq_false hr, eq_true h8, eq_false q5]
  refine call_of (wi) ?_
  set_option maxRecDepth 100000 in simp (maxSteps := 10000000) only [go_sem, Nat.reduceAdd, Nat.reduceSub, Nat.reduceMul, Nat.reduceLT, Nat.reduceLeDiff, Nat.reduceEqDiff, Nat.reduceMod, Nat.reduceDiv, Int.reduceNeg, Int.reduceLE, Int.reduceLT, Int.reduceToNat, Int.reduceEq, Int.reduceNe, ↓reduceIte,  show (false == true) = false from rfl, show (true == false) = false from rfl, show (false == false) = true from rfl, show (true == true) = true from rfl, decide_true, decide_false, not_true_eq_false, not_false_eq_true, Bool.not_true, Bool.not_false, eq_false hr, eq_true h8, eq_false q5]
  refine call_of (ci) ?_
  set_option maxRecDepth 100000 in simp (maxSteps := 10000000) only [go_sem, Nat.reduceAdd, Nat.reduceSub, Nat.reduceMul, Nat.reduceLT, Nat.reduceLeDiff, Nat.reduceEqDiff, Nat.reduceMod, Nat.reduceDiv, Int.reduceNeg, Int.reduceLE, Int.reduceLT, Int.reduceToNat, Int.reduceEq, Int.reduceNe, ↓reduceIte,  show (false == true) = false from rfl, show (true == false) = false from rfl, show (false == false) = true from rfl, show (true == true) = true from rfl, decide_true, decide_false, not_true_eq_false, not_false_eq_true, Bool.not_true, Bool.not_false, eq_false hr, eq_true h8, eq_false q5]
  refine call_of (cy) ?_
  set_option maxRecDepth 100000 in simp (maxSteps := 10000000) only [go_sem, Nat.reduceAdd, Nat.reduceSub, Nat.reduceMul, Nat.reduceLT, Nat.reduceLeDiff, Nat.reduceEqDiff, Nat.reduceMod, Nat.reduceDiv, Int.reduceNeg, Int.reduceLE, Int.reduceLT, Int.reduceToNat, Int.reduceEq, Int.reduceNe, ↓reduceIte,  show (false == true) = false from rfl, show (true == false) = false from rfl, show (false == false) = true from rfl, show (true == true) = true from rfl, decide_true, decide_false, not_true_eq_false, not_false_eq_true, Bool.not_true, Bool.not_false, eq_false hr, eq_true h8, eq_false q5]
  refine call_of (cz) ?_
  set_option maxRecDepth 100000 in simp (maxSteps := 10000000) only [go_sem, Nat.reduceAdd, Nat.reduceSub, Nat.reduceMul, Nat.reduceLT, Nat.reduceLeDiff, Nat.reduceEqDiff, Nat.reduceMod, Nat.reduceDiv, Int.reduceNeg, Int.reduceLE, Int.reduceLT, Int.reduceToNat, Int.reduceEq, Int.reduceNe, ↓reduceIte,  show (false == true) = false from rfl, show (true == false) = false from rfl, show (false == false) = true from rfl, show (true == true) = true from rfl, decide_true, decide_false, not_true_eq_false, not_false_eq_true, Bool.not_true, Bool.not_false, eq_false hr, eq_true h8, eq_false q5]
  refine callM_of [] [0, 1] (OwnLM l h1 h2) ⟨rfl, rfl, rfl, by simp, by simp, by simp, by simp, rfl, rfl, rfl, onodup_of (l := [5, 10]) rfl (by decide)⟩ ?_
  set_option maxRecDepth 100000 in simp (maxSteps := 10000000) only [go_sem, Nat.reduceAdd, Nat.reduceSub, Nat.reduceMul, Nat.reduceLT, Nat.reduceLeDiff, Nat.reduceEqDiff, Nat.reduceMod, Nat.reduceDiv, Int.reduceNeg, Int.reduceLE, Int.reduceLT, Int.reduceToNat, Int.reduceEq, Int.reduceNe, ↓reduceIte,  show (false == true) = false from rfl, show (true == false) = false from rfl, show (false == false) = true from rfl, show (true == true) = true from rfl, decide_true, decide_false, not_true_eq_false, not_false_eq_true, Bool.not_true, Bool.not_false, eq_false hr, eq_true h8, eq_false q5]

set_option maxHeartbeats 4000000 in
theorem rad3_e5 (d : Dir) (l : LList) (lb rf : ByteArray) (rl : Ans Try.prog 57 [.agg (encDir d), .str lb] (.int .i64 0)) (h1 : l.system.length ≤ 1000) (h2 : l.user.length ≤ 1000) (hr : rf = ⟨#[]⟩) : Ans Try.prog 41 [.agg (encDir d), .agg (encLL l), .agg (encLE ⟨lb, 3, rf⟩)] (.tup [.agg [.nils, .str ⟨#[]⟩, .nils], .int .i64 5]) := by
  have wi := Within_good 3 0 4
  rw [show inB 3 0 4 = true by decide] at wi
  refine good_run [] mixed Try.func41 rfl Try.ntmps41 (rs := [.cell 6 41, .tmp 7]) rfl (by decide +kernel) (by kernel_rfl) rfl ?_
  rw [startE_eq 124 _ _ _ rfl rfl]
  set_option maxRecDepth 100000 in simp (maxSteps := 10000000) only [go_sem, Nat.reduceAdd, Nat.reduceSub, Nat.reduceMul, Nat.reduceLT, Nat.reduceLeDiff, Nat.reduceEqDiff, Nat.reduceMod, Nat.reduceDiv, Int.reduceNeg, Int.reduceLE, Int.reduceLT, Int.reduceToNat, Int.reduceEq, Int.reduceNe, ↓reduceIte]
  refine call_of (rl) ?_
  set_option maxRecDepth 100000 in simp (maxSteps := 10000000) only [go_sem, Nat.reduceAdd, Nat.reduceSub, Nat.reduceMul, Nat.reduceLT, Nat.reduceLeDiff, Nat.reduceEqDiff, Nat.reduceMod, Nat.reduceDiv, Int.reduceNeg, Int.reduceLE, Int.reduceLT, Int.reduceToNat, Int.reduceEq, Int.reduceNe, ↓reduceIte,  show (false == true) = false from rfl, show (true == false) = false from rfl, show (false == false) = true from rfl, show (true == true) = true from rfl, decide_true, decide_false, not_true_eq_false, not_false_eq_true, Bool.not_true, Bool.not_false, eq_true hr]
  refine call_of (wi) ?_
  set_option maxRecDepth 100000 in simp (maxSteps := 10000000) only [go_sem, Nat.reduceAdd, Nat.reduceSub, Nat.reduceMul, Nat.reduceLT, Nat.reduceLeDiff, Nat.reduceEqDiff, Nat.reduceMod, Nat.reduceDiv, Int.reduceNeg, Int.reduceLE, Int.reduceLT, Int.reduceToNat, Int.reduceEq, Int.reduceNe, ↓reduceIte,  show (false == true) = false from rfl, show (true == false) = false from rfl, show (false == false) = true from rfl, show (true == true) = true from rfl, decide_true, decide_false, not_true_eq_false, not_false_eq_true, Bool.not_true, Bool.not_false, eq_true hr]

set_option maxHeartbeats 4000000 in
theorem rad3_e40 (d : Dir) (l : LList) (lb rf : ByteArray) (rl : Ans Try.prog 57 [.agg (encDir d), .str lb] (.int .i64 0)) (h1 : l.system.length ≤ 1000) (h2 : l.user.length ≤ 1000) (hr : ¬ rf = ⟨#[]⟩) (hx : ixS l.user rf = -1) : Ans Try.prog 41 [.agg (encDir d), .agg (encLL l), .agg (encLE ⟨lb, 3, rf⟩)] (.tup [.agg [.nils, .str ⟨#[]⟩, .nils], .int .i64 40]) := by
  have wi := Within_good 3 0 4
  rw [show inB 3 0 4 = true by decide] at wi
  have ci := IndexOf_good l.user rf (by omega)
  rw [hx] at ci
  refine good_run [] mixed Try.func41 rfl Try.ntmps41 (rs := [.cell 6 41, .tmp 7]) rfl (by decide +kernel) (by kernel_rfl) rfl ?_
  rw [startE_eq 124 _ _ _ rfl rfl]
  set_option maxRecDepth 100000 in simp (maxSteps := 10000000) only [go_sem, Nat.reduceAdd, Nat.reduceSub, Nat.reduceMul, Nat.reduceLT, Nat.reduceLeDiff, Nat.reduceEqDiff, Nat.reduceMod, Nat.reduceDiv, Int.reduceNeg, Int.reduceLE, Int.reduceLT, Int.reduceToNat, Int.reduceEq, Int.reduceNe, ↓reduceIte]
  refine call_of (rl) ?_
  set_option maxRecDepth 100000 in simp (maxSteps := 10000000) only [go_sem, Nat.reduceAdd, Nat.reduceSub, Nat.reduceMul, Nat.reduceLT, Nat.reduceLeDiff, Nat.reduceEqDiff, Nat.reduceMod, Nat.reduceDiv, Int.reduceNeg, Int.reduceLE, Int.reduceLT, Int.reduceToNat, Int.reduceEq, Int.reduceNe, ↓reduceIte,  show (false == true) = false from rfl, show (true == false) = false from rfl, show (false == false) = true from rfl, show (true == true) = true from rfl, decide_true, decide_false, not_true_eq_false, not_false_eq_true, Bool.not_true, Bool.not_false, eq_false hr]
  refine call_of (wi) ?_
  set_option maxRecDepth 100000 in simp (maxSteps := 10000000) only [go_sem, Nat.reduceAdd, Nat.reduceSub, Nat.reduceMul, Nat.reduceLT, Nat.reduceLeDiff, Nat.reduceEqDiff, Nat.reduceMod, Nat.reduceDiv, Int.reduceNeg, Int.reduceLE, Int.reduceLT, Int.reduceToNat, Int.reduceEq, Int.reduceNe, ↓reduceIte,  show (false == true) = false from rfl, show (true == false) = false from rfl, show (false == false) = true from rfl, show (true == true) = true from rfl, decide_true, decide_false, not_true_eq_false, not_false_eq_true, Bool.not_true, Bool.not_false, eq_false hr]
  refine call_of (ci) ?_
  set_option maxRecDepth 100000 in simp (maxSteps := 10000000) only [go_sem, Nat.reduceAdd, Nat.reduceSub, Nat.reduceMul, Nat.reduceLT, Nat.reduceLeDiff, Nat.reduceEqDiff, Nat.reduceMod, Nat.reduceDiv, Int.reduceNeg, Int.reduceLE, Int.reduceLT, Int.reduceToNat, Int.reduceEq, Int.reduceNe, ↓reduceIte,  show (false == true) = false from rfl, show (true == false) = false from rfl, show (false == false) = true from rfl, show (true == true) = true from rfl, decide_true, decide_false, not_true_eq_false, not_false_eq_true, Bool.not_true, Bool.not_false, eq_false hr]

set_option maxHeartbeats 4000000 in
theorem rad3_e13a (d : Dir) (l : LList) (lb rf : ByteArray) (rl : Ans Try.prog 57 [.agg (encDir d), .str lb] (.int .i64 0)) (h1 : l.system.length ≤ 1000) (h2 : l.user.length ≤ 1000) (hr : ¬ rf = ⟨#[]⟩) (i : Nat) (hi : i < l.user.length) (hx : ixS l.user rf = (i : Int)) (hz : ¬ ixS l.system lb = -1) : Ans Try.prog 41 [.agg (encDir d), .agg (encLL l), .agg (encLE ⟨lb, 3, rf⟩)] (.tup [.agg [.nils, .str ⟨#[]⟩, .nils], .int .i64 13]) := by
  have wi := Within_good 3 0 4
  rw [show inB 3 0 4 = true by decide] at wi
  have ci := IndexOf_good l.user rf (by omega)
  rw [hx] at ci
  have q5 : ¬ (i : Int) = -1 := by omega
  have cy := IndexOf_good l.user lb (by omega)
  have cz := IndexOf_good l.system lb (by omega)
  refine good_run [] mixed Try.func41 rfl Try.ntmps41 (rs := [.cell 6 41, .tmp 7]) rfl (by decide +kernel) (by kernel_rfl) rfl ?_
  rw [startE_eq 124 _ _ _ rfl rfl]
  set_option maxRecDepth 100000 in simp (maxSteps := 10000000) only [go_sem, Nat.reduceAdd, Nat.reduceSub, Nat.reduceMul, Nat.reduceLT, Nat.reduceLeDiff, Nat.reduceEqDiff, Nat.reduceMod, Nat.reduceDiv, Int.reduceNeg, Int.reduceLE, Int.reduceLT, Int.reduceToNat, Int.reduceEq, Int.reduceNe, ↓reduceIte]
  refine call_of (rl) ?_
  set_option maxRecDepth 100000 in simp (maxSteps := 10000000) only [go_sem, Nat.reduceAdd, Nat.reduceSub, Nat.reduceMul, Nat.reduceLT, Nat.reduceLeDiff, Nat.reduceEqDiff, Nat.reduceMod, Nat.reduceDiv, Int.reduceNeg, Int.reduceLE, Int.reduceLT, Int.reduceToNat, Int.reduceEq, Int.reduceNe, ↓reduceIte,  show (false == true) = false from rfl, show (true == false) = false from rfl, show (false == false) = true from rfl, show (true == true) = true from rfl, decide_true, decide_false, not_true_eq_false, not_false_eq_true, Bool.not_true, Bool.not_false, eq_false hr, eq_false hz, eq_false q5]
  refine call_of (wi) ?_
  set_option maxRecDepth 100000 in simp (maxSteps := 10000000) only [go_sem, Nat.reduceAdd, Nat.reduceSub, Nat.reduceMul, Nat.reduceLT, Nat.reduceLeDiff, Nat.reduceEqDiff, Nat.reduceMod, Nat.reduceDiv, Int.reduceNeg, Int.reduceLE, Int.reduceLT, Int.reduceToNat, Int.reduceEq, Int.reduceNe, ↓reduceIte,  show (false == true) = false from rfl, show (true == false) = false from rfl, show (false == false) = true from rfl, show (true == true) = true from rfl, decide_true, decide_false, not_true_eq_false, not_false_eq_true, Bool.not_true, Bool.not_false, eq_false hr, eq_false hz, eq_false q5]
  refine call_of (ci) ?_
  set_option maxRecDepth 100000 in simp (maxSteps := 10000000) only [go_sem, Nat.reduceAdd, Nat.reduceSub, Nat.reduceMul, Nat.reduceLT, Nat.reduceLeDiff, Nat.reduceEqDiff, Nat.reduceMod, Nat.reduceDiv, Int.reduceNeg, Int.reduceLE, Int.reduceLT, Int.reduceToNat, Int.reduceEq, Int.reduceNe, ↓reduceIte,  show (false == true) = false from rfl, show (true == false) = false from rfl, show (false == false) = true from rfl, show (true == true) = true from rfl, decide_true, decide_false, not_true_eq_false, not_false_eq_true, Bool.not_true, Bool.not_false, eq_false hr, eq_false hz, eq_false q5]
  refine call_of (cy) ?_
  set_option maxRecDepth 100000 in simp (maxSteps := 10000000) only [go_sem, Nat.reduceAdd, Nat.reduceSub, Nat.reduceMul, Nat.reduceLT, Nat.reduceLeDiff, Nat.reduceEqDiff, Nat.reduceMod, Nat.reduceDiv, Int.reduceNeg, Int.reduceLE, Int.reduceLT, Int.reduceToNat, Int.reduceEq, Int.reduceNe, ↓reduceIte,  show (false == true) = false from rfl, show (true == false) = false from rfl, show (false == false) = true from rfl, show (true == true) = true from rfl, decide_true, decide_false, not_true_eq_false, not_false_eq_true, Bool.not_true, Bool.not_false, eq_false hr, eq_false hz, eq_false q5]
  refine call_of (cz) ?_
  set_option maxRecDepth 100000 in simp (maxSteps := 10000000) only [go_sem, Nat.reduceAdd, Nat.reduceSub, Nat.reduceMul, Nat.reduceLT, Nat.reduceLeDiff, Nat.reduceEqDiff, Nat.reduceMod, Nat.reduceDiv, Int.reduceNeg, Int.reduceLE, Int.reduceLT, Int.reduceToNat, Int.reduceEq, Int.reduceNe, ↓reduceIte,  show (false == true) = false from rfl, show (true == false) = false from rfl, show (false == false) = true from rfl, show (true == true) = true from rfl, decide_true, decide_false, not_true_eq_false, not_false_eq_true, Bool.not_true, Bool.not_false, eq_false hr, eq_false hz, eq_false q5]

set_option maxHeartbeats 4000000 in
theorem rad3_ok (d : Dir) (l : LList) (lb rf : ByteArray) (rl : Ans Try.prog 57 [.agg (encDir d), .str lb] (.int .i64 0)) (h1 : l.system.length ≤ 1000) (h2 : l.user.length ≤ 1000) (hr : ¬ rf = ⟨#[]⟩) (i : Nat) (hi : i < l.user.length) (hx : ixS l.user rf = (i : Int)) (hz : ixS l.system lb = -1) (hy : ixS l.user lb = -1) (h8 : ¬ (l.user.length : Int) = 8) : Ans Try.prog 41 [.agg (encDir d), .agg (encLL l), .agg (encLE ⟨lb, 3, rf⟩)] (.tup [.agg [.sl (l.system.map encStr), .str l.current, .sl ((insS l.user i lb).map encStr)], .int .i64 0]) := by
  have wi := Within_good 3 0 4
  rw [show inB 3 0 4 = true by decide] at wi
  have ci := IndexOf_good l.user rf (by omega)
  rw [hx] at ci
  have q5 : ¬ (i : Int) = -1 := by omega
  have cy := IndexOf_good l.user lb (by omega)
  have cz := IndexOf_good l.system lb (by omega)
  rw [hz] at cz
  rw [hy] at cy
  have ht : (List.take i l.user).length = i := by rw [List.length_take]; omega
  have hl2 : (List.drop i l.user).length = l.user.length - i := List.length_drop
  have m1 : (i + 1) * 16 ≤ 140737488355328 := by omega
  have m2 : i + 1 ≤ maxLen := by unfold maxLen; omega
  have m3 : (i + 1 + (l.user.length - i)) * 16 ≤ 140737488355328 := by omega
  have m4 : i + 1 + (l.user.length - i) ≤ maxLen := by unfold maxLen; omega
  have hdr : List.drop i (List.take l.user.length l.user) = List.drop i l.user := by rw [List.take_of_length_le (Nat.le_refl _)]
  have k1 : (0 : Int) ≤ (i : Int) := by omega
  have k2 : (i : Int) ≤ (l.user.length : Int) := by omega
  refine good_run [] mixed Try.func41 rfl Try.ntmps41 (rs := [.cell 6 41, .tmp 7]) rfl (by decide +kernel) (by kernel_rfl) rfl ?_
  rw [startE_eq 124 _ _ _ rfl rfl]
  set_option maxRecDepth 100000 in simp (maxSteps := 10000000) only [go_sem, Nat.reduceAdd, Nat.reduceSub, Nat.reduceMul, Nat.reduceLT, Nat.reduceLeDiff, Nat.reduceEqDiff, Nat.reduceMod, Nat.reduceDiv, Int.reduceNeg, Int.reduceLE, Int.reduceLT, Int.reduceToNat, Int.reduceEq, Int.reduceNe, ↓reduceIte]
  refine call_of (rl) ?_
  set_option maxRecDepth 100000 in simp (maxSteps := 10000000) only [go_sem, Nat.reduceAdd, Nat.reduceSub, Nat.reduceMul, Nat.reduceLT, Nat.reduceLeDiff, Nat.reduceEqDiff, Nat.reduceMod, Nat.reduceDiv, Int.reduceNeg, Int.reduceLE, Int.reduceLT, Int.reduceToNat, Int.reduceEq, Int.reduceNe, ↓reduceIte,  show (false == true) = false from rfl, show (true == false) = false from rfl, show (false == false) = true from rfl, show (true == true) = true from rfl, decide_true, decide_false, not_true_eq_false, not_false_eq_true, Bool.not_true, Bool.not_false, eq_false hr, eq_false q5]
  refine call_of (wi) ?_
  set_option maxRecDepth 100000 in simp (maxSteps := 10000000) only [go_sem, Nat.reduceAdd, Nat.reduceSub, Nat.reduceMul, Nat.reduceLT, Nat.reduceLeDiff, Nat.reduceEqDiff, Nat.reduceMod, Nat.reduceDiv, Int.reduceNeg, Int.reduceLE, Int.reduceLT, Int.reduceToNat, Int.reduceEq, Int.reduceNe, ↓reduceIte,  show (false == true) = false from rfl, show (true == false) = false from rfl, show (false == false) = true from rfl, show (true == true) = true from rfl, decide_true, decide_false, not_true_eq_false, not_false_eq_true, Bool.not_true, Bool.not_false, eq_false hr, eq_false q5]
  refine call_of (ci) ?_
  set_option maxRecDepth 100000 in simp (maxSteps := 10000000) only [go_sem, Nat.reduceAdd, Nat.reduceSub, Nat.reduceMul, Nat.reduceLT, Nat.reduceLeDiff, Nat.reduceEqDiff, Nat.reduceMod, Nat.reduceDiv, Int.reduceNeg, Int.reduceLE, Int.reduceLT, Int.reduceToNat, Int.reduceEq, Int.reduceNe, ↓reduceIte,  show (false == true) = false from rfl, show (true == false) = false from rfl, show (false == false) = true from rfl, show (true == true) = true from rfl, decide_true, decide_false, not_true_eq_false, not_false_eq_true, Bool.not_true, Bool.not_false, eq_false hr, eq_false q5]
  refine call_of (cy) ?_
  set_option maxRecDepth 100000 in simp (maxSteps := 10000000) only [go_sem, Nat.reduceAdd, Nat.reduceSub, Nat.reduceMul, Nat.reduceLT, Nat.reduceLeDiff, Nat.reduceEqDiff, Nat.reduceMod, Nat.reduceDiv, Int.reduceNeg, Int.reduceLE, Int.reduceLT, Int.reduceToNat, Int.reduceEq, Int.reduceNe, ↓reduceIte,  show (false == true) = false from rfl, show (true == false) = false from rfl, show (false == false) = true from rfl, show (true == true) = true from rfl, decide_true, decide_false, not_true_eq_false, not_false_eq_true, Bool.not_true, Bool.not_false, eq_false hr, eq_false q5]
  refine call_of (cz) ?_
  set_option maxRecDepth 100000 in simp (maxSteps := 10000000) only [go_sem, Nat.reduceAdd, Nat.reduceSub, Nat.reduceMul, Nat.reduceLT, Nat.reduceLeDiff, Nat.reduceEqDiff, Nat.reduceMod, Nat.reduceDiv, Int.reduceNeg, Int.reduceLE, Int.reduceLT, Int.reduceToNat, Int.reduceEq, Int.reduceNe, ↓reduceIte,  show (false == true) = false from rfl, show (true == false) = false from rfl, show (false == false) = true from rfl, show (true == true) = true from rfl, decide_true, decide_false, not_true_eq_false, not_false_eq_true, Bool.not_true, Bool.not_false, eq_false hr, eq_false q5]
  refine callM_of [] [0, 1] (OwnLM l h1 h2) ⟨rfl, rfl, rfl, by simp, by simp, by simp, by simp, rfl, rfl, rfl, onodup_of (l := [5, 10]) rfl (by decide)⟩ ?_
  set_option maxRecDepth 100000 in simp (maxSteps := 10000000) only [go_sem, Nat.reduceAdd, Nat.reduceSub, Nat.reduceMul, Nat.reduceLT, Nat.reduceLeDiff, Nat.reduceEqDiff, Nat.reduceMod, Nat.reduceDiv, Int.reduceNeg, Int.reduceLE, Int.reduceLT, Int.reduceToNat, Int.reduceEq, Int.reduceNe, ↓reduceIte,  show (false == true) = false from rfl, show (true == false) = false from rfl, show (false == false) = true from rfl, show (true == true) = true from rfl, decide_true, decide_false, not_true_eq_false, not_false_eq_true, Bool.not_true, Bool.not_false, eq_false hr, eq_false q5, k1, k2, Int.toNat_natCast, List.length_map, ht, hl2, m1, m2, m3, m4, hdr, Int.le_refl, Nat.le_refl, eq_false h8, List.length_append, List.length_singleton, List.length_cons, List.length_nil]
  refine callMD_of [] [112] (CopyM (List.take i l.user) (by omega)) ⟨rfl, rfl, rfl, by simp, by simp, by simp, by simp, rfl, rfl, rfl, onodup_of (l := [4]) rfl (by decide)⟩ ?_
  set_option maxRecDepth 100000 in simp (maxSteps := 10000000) only [go_sem, Nat.reduceAdd, Nat.reduceSub, Nat.reduceMul, Nat.reduceLT, Nat.reduceLeDiff, Nat.reduceEqDiff, Nat.reduceMod, Nat.reduceDiv, Int.reduceNeg, Int.reduceLE, Int.reduceLT, Int.reduceToNat, Int.reduceEq, Int.reduceNe, ↓reduceIte,  show (false == true) = false from rfl, show (true == false) = false from rfl, show (false == false) = true from rfl, show (true == true) = true from rfl, decide_true, decide_false, not_true_eq_false, not_false_eq_true, Bool.not_true, Bool.not_false, eq_false hr, eq_false q5, k1, k2, Int.toNat_natCast, List.length_map, ht, hl2, m1, m2, m3, m4, hdr, Int.le_refl, Nat.le_refl, eq_false h8, List.length_append, List.length_singleton, List.length_cons, List.length_nil]
  first | decide +kernel | (refine ⟨by decide +kernel, ?_⟩; simp [insS, encStr])

set_option maxHeartbeats 4000000 in
theorem rad3_e13b (d : Dir) (l : LList) (lb rf : ByteArray) (rl : Ans Try.prog 57 [.agg (encDir d), .str lb] (.int .i64 0)) (h1 : l.system.length ≤ 1000) (h2 : l.user.length ≤ 1000) (hr : ¬ rf = ⟨#[]⟩) (i : Nat) (hi : i < l.user.length) (hx : ixS l.user rf = (i : Int)) (hz : ixS l.system lb = -1) (hy : ¬ ixS l.user lb = -1) : Ans Try.prog 41 [.agg (encDir d), .agg (encLL l), .agg (encLE ⟨lb, 3, rf⟩)] (.tup [.agg [.nils, .str ⟨#[]⟩, .nils], .int .i64 13]) := by
  have wi := Within_good 3 0 4
  rw [show inB 3 0 4 = true by decide] at wi
  have ci := IndexOf_good l.user rf (by omega)
  rw [hx] at ci
  have q5 : ¬ (i : Int) = -1 := by omega
  have cy := IndexOf_good l.user lb (by omega)
  have cz := IndexOf_good l.system lb (by omega)
  rw [hz] at cz
  refine good_run [] mixed Try.func41 rfl Try.ntmps41 (rs := [.cell 6 41, .tmp 7]) rfl (by decide +kernel) (by kernel_rfl) rfl ?_
  rw [startE_eq 124 _ _ _ rfl rfl]
  set_option maxRecDepth 100000 in simp (maxSteps := 10000000) only [go_sem, Nat.reduceAdd, Nat.reduceSub, Nat.reduceMul, Nat.reduceLT, Nat.reduceLeDiff, Nat.reduceEqDiff, Nat.reduceMod, Nat.reduceDiv, Int.reduceNeg, Int.reduceLE, Int.reduceLT, Int.reduceToNat, Int.reduceEq, Int.reduceNe, ↓reduceIte]
  refine call_of (rl) ?_
  set_option maxRecDepth 100000 in simp (maxSteps := 10000000) only [go_sem, Nat.reduceAdd, Nat.reduceSub, Nat.reduceMul, Nat.reduceLT, Nat.reduceLeDiff, Nat.reduceEqDiff, Nat.reduceMod, Nat.reduceDiv, Int.reduceNeg, Int.reduceLE, Int.reduceLT, Int.reduceToNat, Int.reduceEq, Int.reduceNe, ↓reduceIte,  show (false == true) = false from rfl, show (true == false) = false from rfl, show (false == false) = true from rfl, show (true == true) = true from rfl, decide_true, decide_false, not_true_eq_false, not_false_eq_true, Bool.not_true, Bool.not_false, eq_false hr, eq_false hy, eq_false q5]
  refine call_of (wi) ?_
  set_option maxRecDepth 100000 in simp (maxSteps := 10000000) only [go_sem, Nat.reduceAdd, Nat.reduceSub, Nat.reduceMul, Nat.reduceLT, Nat.reduceLeDiff, Nat.reduceEqDiff, Nat.reduceMod, Nat.reduceDiv, Int.reduceNeg, Int.reduceLE, Int.reduceLT, Int.reduceToNat, Int.reduceEq, Int.reduceNe, ↓reduceIte,  show (false == true) = false from rfl, show (true == false) = false from rfl, show (false == false) = true from rfl, show (true == true) = true from rfl, decide_true, decide_false, not_true_eq_false, not_false_eq_true, Bool.not_true, Bool.not_false, eq_false hr, eq_false hy, eq_false q5]
  refine call_of (ci) ?_
  set_option maxRecDepth 100000 in simp (maxSteps := 10000000) only [go_sem, Nat.reduceAdd, Nat.reduceSub, Nat.reduceMul, Nat.reduceLT, Nat.reduceLeDiff, Nat.reduceEqDiff, Nat.reduceMod, Nat.reduceDiv, Int.reduceNeg, Int.reduceLE, Int.reduceLT, Int.reduceToNat, Int.reduceEq, Int.reduceNe, ↓reduceIte,  show (false == true) = false from rfl, show (true == false) = false from rfl, show (false == false) = true from rfl, show (true == true) = true from rfl, decide_true, decide_false, not_true_eq_false, not_false_eq_true, Bool.not_true, Bool.not_false, eq_false hr, eq_false hy, eq_false q5]
  refine call_of (cy) ?_
  set_option maxRecDepth 100000 in simp (maxSteps := 10000000) only [go_sem, Nat.reduceAdd, Nat.reduceSub, Nat.reduceMul, Nat.reduceLT, Nat.reduceLeDiff, Nat.reduceEqDiff, Nat.reduceMod, Nat.reduceDiv, Int.reduceNeg, Int.reduceLE, Int.reduceLT, Int.reduceToNat, Int.reduceEq, Int.reduceNe, ↓reduceIte,  show (false == true) = false from rfl, show (true == false) = false from rfl, show (false == false) = true from rfl, show (true == true) = true from rfl, decide_true, decide_false, not_true_eq_false, not_false_eq_true, Bool.not_true, Bool.not_false, eq_false hr, eq_false hy, eq_false q5]
  refine call_of (cz) ?_
  set_option maxRecDepth 100000 in simp (maxSteps := 10000000) only [go_sem, Nat.reduceAdd, Nat.reduceSub, Nat.reduceMul, Nat.reduceLT, Nat.reduceLeDiff, Nat.reduceEqDiff, Nat.reduceMod, Nat.reduceDiv, Int.reduceNeg, Int.reduceLE, Int.reduceLT, Int.reduceToNat, Int.reduceEq, Int.reduceNe, ↓reduceIte,  show (false == true) = false from rfl, show (true == false) = false from rfl, show (false == false) = true from rfl, show (true == true) = true from rfl, decide_true, decide_false, not_true_eq_false, not_false_eq_true, Bool.not_true, Bool.not_false, eq_false hr, eq_false hy, eq_false q5]

set_option maxHeartbeats 4000000 in
theorem rad3_e30 (d : Dir) (l : LList) (lb rf : ByteArray) (rl : Ans Try.prog 57 [.agg (encDir d), .str lb] (.int .i64 0)) (h1 : l.system.length ≤ 1000) (h2 : l.user.length ≤ 1000) (hr : ¬ rf = ⟨#[]⟩) (i : Nat) (hi : i < l.user.length) (hx : ixS l.user rf = (i : Int)) (hz : ixS l.system lb = -1) (hy : ixS l.user lb = -1) (h8 : (l.user.length : Int) = 8) : Ans Try.prog 41 [.agg (encDir d), .agg (encLL l), .agg (encLE ⟨lb, 3, rf⟩)] (.tup [.agg [.nils, .str ⟨#[]⟩, .nils], .int .i64 30]) := by
  have wi := Within_good 3 0 4
  rw [show inB 3 0 4 = true by decide] at wi
  have ci := IndexOf_good l.user rf (by omega)
  rw [hx] at ci
  have q5 : ¬ (i : Int) = -1 := by omega
  have cy := IndexOf_good l.user lb (by omega)
  have cz := IndexOf_good l.system lb (by omega)
  rw [hz] at cz
  rw [hy] at cy
  refine good_run [] mixed Try.func41 rfl Try.ntmps41 (rs := [.cell 6 41, .tmp 7]) rfl (by decide +kernel) (by kernel_rfl) rfl ?_
  rw [startE_eq 124 _ _ _ rfl rfl]
  set_option maxRecDepth 100000 in simp (maxSteps := 10000000) only [go_sem, Nat.reduceAdd, Nat.reduceSub, Nat.reduceMul, Nat.reduceLT, Nat.reduceLeDiff, Nat.reduceEqDiff, Nat.reduceMod, Nat.reduceDiv, Int.reduceNeg, Int.reduceLE, Int.reduceLT, Int.reduceToNat, Int.reduceEq, Int.reduceNe, ↓reduceIte]
  refine call_of (rl) ?_
  set_option maxRecDepth 100000 in simp (maxSteps := 10000000) only [go_sem, Nat.reduceAdd, Nat.reduceSub, Nat.reduceMul, Nat.reduceLT, Nat.reduceLeDiff, Nat.reduceEqDiff, Nat.reduceMod, Nat.reduceDiv, Int.reduceNeg, Int.reduceLE, Int.reduceLT, Int.reduceToNat, Int.reduceEq, Int.reduceNe, ↓reduceIte,  show (false == true) = false from rfl, show (true == false) = false from rfl, show (false == false) = true from rfl, show (true == true) = true from rfl, decide_true, decide_false, not_true_eq_false, not_false_eq_true, Bool.not_true, Bool.not_false, eq_false hr, eq_true h8, eq_false q5]
  refine call_of (wi) ?_
  set_option maxRecDepth 100000 in simp (maxSteps := 10000000) only [go_sem, Nat.reduceAdd, Nat.reduceSub, Nat.reduceMul, Nat.reduceLT, Nat.reduceLeDiff, Nat.reduceEqDiff, Nat.reduceMod, Nat.reduceDiv, Int.reduceNeg, Int.reduceLE, Int.reduceLT, Int.reduceToNat, Int.reduceEq, Int.reduceNe, ↓reduceIte,  show (false == true) = false from rfl, show (true == false) = false from rfl, show (false == false) = true from rfl, show (true == true) = true from rfl, decide_true, decide_false, not_true_eq_false, not_false_eq_true, Bool.not_true, Bool.not_false, eq_false hr, eq_true h8, eq_false q5]
  refine call_of (ci) ?_
  set_option maxRecDepth 100000 in simp (maxSteps := 10000000) only [go_sem, Nat.reduceAdd, Nat.reduceSub, Nat.reduceMul, Nat.reduceLT, Nat.reduceLeDiff, Nat.reduceEqDiff, Nat.reduceMod, Nat.reduceDiv, Int.reduceNeg, Int.reduceLE, Int.reduceLT, Int.reduceToNat, Int.reduceEq, Int.reduceNe, ↓reduceIte,  show (false == true) = false from rfl, show (true == false) = false from rfl, show (false == false) = true from rfl, show (true == true) = true from rfl, decide_true, decide_false, not_true_eq_false, not_false_eq_true, Bool.not_true, Bool.not_false, eq_false hr, eq_true h8, eq_false q5]
  refine call_of (cy) ?_
  set_option maxRecDepth 100000 in simp (maxSteps := 10000000) only [go_sem, Nat.reduceAdd, Nat.reduceSub, Nat.reduceMul, Nat.reduceLT, Nat.reduceLeDiff, Nat.reduceEqDiff, Nat.reduceMod, Nat.reduceDiv, Int.reduceNeg, Int.reduceLE, Int.reduceLT, Int.reduceToNat, Int.reduceEq, Int.reduceNe, ↓reduceIte,  show (false == true) = false from rfl, show (true == false) = false from rfl, show (false == false) = true from rfl, show (true == true) = true from rfl, decide_true, decide_false, not_true_eq_false, not_false_eq_true, Bool.not_true, Bool.not_false, eq_false hr, eq_true h8, eq_false q5]
  refine call_of (cz) ?_
  set_option maxRecDepth 100000 in simp (maxSteps := 10000000) only [go_sem, Nat.reduceAdd, Nat.reduceSub, Nat.reduceMul, Nat.reduceLT, Nat.reduceLeDiff, Nat.reduceEqDiff, Nat.reduceMod, Nat.reduceDiv, Int.reduceNeg, Int.reduceLE, Int.reduceLT, Int.reduceToNat, Int.reduceEq, Int.reduceNe, ↓reduceIte,  show (false == true) = false from rfl, show (true == false) = false from rfl, show (false == false) = true from rfl, show (true == true) = true from rfl, decide_true, decide_false, not_true_eq_false, not_false_eq_true, Bool.not_true, Bool.not_false, eq_false hr, eq_true h8, eq_false q5]
  refine callM_of [] [0, 1] (OwnLM l h1 h2) ⟨rfl, rfl, rfl, by simp, by simp, by simp, by simp, rfl, rfl, rfl, onodup_of (l := [5, 10]) rfl (by decide)⟩ ?_
  set_option maxRecDepth 100000 in simp (maxSteps := 10000000) only [go_sem, Nat.reduceAdd, Nat.reduceSub, Nat.reduceMul, Nat.reduceLT, Nat.reduceLeDiff, Nat.reduceEqDiff, Nat.reduceMod, Nat.reduceDiv, Int.reduceNeg, Int.reduceLE, Int.reduceLT, Int.reduceToNat, Int.reduceEq, Int.reduceNe, ↓reduceIte,  show (false == true) = false from rfl, show (true == false) = false from rfl, show (false == false) = true from rfl, show (true == true) = true from rfl, decide_true, decide_false, not_true_eq_false, not_false_eq_true, Bool.not_true, Bool.not_false, eq_false hr, eq_true h8, eq_false q5]

set_option maxHeartbeats 4000000 in
theorem rad4_e5 (d : Dir) (l : LList) (lb rf : ByteArray) (rl : Ans Try.prog 57 [.agg (encDir d), .str lb] (.int .i64 0)) (h1 : l.system.length ≤ 1000) (h2 : l.user.length ≤ 1000) (hr : rf = ⟨#[]⟩) : Ans Try.prog 41 [.agg (encDir d), .agg (encLL l), .agg (encLE ⟨lb, 4, rf⟩)] (.tup [.agg [.nils, .str ⟨#[]⟩, .nils], .int .i64 5]) := by
  have wi := Within_good 4 0 4
  rw [show inB 4 0 4 = true by decide] at wi
  refine good_run [] mixed Try.func41 rfl Try.ntmps41 (rs := [.cell 6 41, .tmp 7]) rfl (by decide +kernel) (by kernel_rfl) rfl ?_
  rw [startE_eq 124 _ _ _ rfl rfl]
  set_option maxRecDepth 100000 in simp (maxSteps := 10000000) only [go_sem, Nat.reduceAdd, Nat.reduceSub, Nat.reduceMul, Nat.reduceLT, Nat.reduceLeDiff, Nat.reduceEqDiff, Nat.reduceMod, Nat.reduceDiv, Int.reduceNeg, Int.reduceLE, Int.reduceLT, Int.reduceToNat, Int.reduceEq, Int.reduceNe, ↓reduceIte]
  refine call_of (rl) ?_
  set_option maxRecDepth 100000 in simp (maxSteps := 10000000) only [go_sem, Nat.reduceAdd, Nat.reduceSub, Nat.reduceMul, Nat.reduceLT, Nat.reduceLeDiff, Nat.reduceEqDiff, Nat.reduceMod, Nat.reduceDiv, Int.reduceNeg, Int.reduceLE, Int.reduceLT, Int.reduceToNat, Int.reduceEq, Int.reduceNe, ↓reduceIte,  show (false == true) = false from rfl, show (true == false) = false from rfl, show (false == false) = true from rfl, show (true == true) = true from rfl, decide_true, decide_false, not_true_eq_false, not_false_eq_true, Bool.not_true, Bool.not_false, eq_true hr]
  refine call_of (wi) ?_
  set_option maxRecDepth 100000 in simp (maxSteps := 10000000) only [go_sem, Nat.reduceAdd, Nat.reduceSub, Nat.reduceMul, Nat.reduceLT, Nat.reduceLeDiff, Nat.reduceEqDiff, Nat.reduceMod, Nat.reduceDiv, Int.reduceNeg, Int.reduceLE, Int.reduceLT, Int.reduceToNat, Int.reduceEq, Int.reduceNe, ↓reduceIte,  show (false == true) = false from rfl, show (true == false) = false from rfl, show (false == false) = true from rfl, show (true == true) = true from rfl, decide_true, decide_false, not_true_eq_false, not_false_eq_true, Bool.not_true, Bool.not_false, eq_true hr]

set_option maxHeartbeats 4000000 in
theorem rad4_e40 (d : Dir) (l : LList) (lb rf : ByteArray) (rl : Ans Try.prog 57 [.agg (encDir d), .str lb] (.int .i64 0)) (h1 : l.system.length ≤ 1000) (h2 : l.user.length ≤ 1000) (hr : ¬ rf = ⟨#[]⟩) (hx : ixS l.user rf = -1) : Ans Try.prog 41 [.agg (encDir d), .agg (encLL l), .agg (encLE ⟨lb, 4, rf⟩)] (.tup [.agg [.nils, .str ⟨#[]⟩, .nils], .int .i64 40]) := by
  have wi := Within_good 4 0 4
  rw [show inB 4 0 4 = true by decide] at wi
  have ci := IndexOf_good l.user rf (by omega)
  rw [hx] at ci
  refine good_run [] mixed Try.func41 rfl Try.ntmps41 (rs := [.cell 6 41, .tmp 7]) rfl (by decide +kernel) (by kernel_rfl) rfl ?_
  rw [startE_eq 124 _ _ _ rfl rfl]
  set_option maxRecDepth 100000 in simp (maxSteps := 10000000) only [go_sem, Nat.reduceAdd, Nat.reduceSub, Nat.reduceMul, Nat.reduceLT, Nat.reduceLeDiff, Nat.reduceEqDiff, Nat.reduceMod, Nat.reduceDiv, Int.reduceNeg, Int.reduceLE, Int.reduceLT, Int.reduceToNat, Int.reduceEq, Int.reduceNe, ↓reduceIte]
  refine call_of (rl) ?_
  set_option maxRecDepth 100000 in simp (maxSteps := 10000000) only [go_sem, Nat.reduceAdd, Nat.reduceSub, Nat.reduceMul, Nat.reduceLT, Nat.reduceLeDiff, Nat.reduceEqDiff, Nat.reduceMod, Nat.reduceDiv, Int.reduceNeg, Int.reduceLE, Int.reduceLT, Int.reduceToNat, Int.reduceEq, Int.reduceNe, ↓reduceIte,  show (false == true) = false from rfl, show (true == false) = false from rfl, show (false == false) = true from rfl, show (true == true) = true from rfl, decide_true, decide_false, not_true_eq_false, not_false_eq_true, Bool.not_true, Bool.not_false, eq_false hr]
  refine call_of (wi) ?_
  set_option maxRecDepth 100000 in simp (maxSteps := 10000000) only [go_sem, Nat.reduceAdd, Nat.reduceSub, Nat.reduceMul, Nat.reduceLT, Nat.reduceLeDiff, Nat.reduceEqDiff, Nat.reduceMod, Nat.reduceDiv, Int.reduceNeg, Int.reduceLE, Int.reduceLT, Int.reduceToNat, Int.reduceEq, Int.reduceNe, ↓reduceIte,  show (false == true) = false from rfl, show (true == false) = false from rfl, show (false == false) = true from rfl, show (true == true) = true from rfl, decide_true, decide_false, not_true_eq_false, not_false_eq_true, Bool.not_true, Bool.not_false, eq_false hr]
  refine call_of (ci) ?_
  set_option maxRecDepth 100000 in simp (maxSteps := 10000000) only [go_sem, Nat.reduceAdd, Nat.reduceSub, Nat.reduceMul, Nat.reduceLT, Nat.reduceLeDiff, Nat.reduceEqDiff, Nat.reduceMod, Nat.reduceDiv, Int.reduceNeg, Int.reduceLE, Int.reduceLT, Int.reduceToNat, Int.reduceEq, Int.reduceNe, ↓reduceIte,  show (false == true) = false from rfl, show (true == false) = false from rfl, show (false == false) = true from rfl, show (true == true) = true from rfl, decide_true, decide_false, not_true_eq_false, not_false_eq_true, Bool.not_true, Bool.not_false, eq_false hr]

set_option maxHeartbeats 4000000 in
theorem rad4_e13a (d : Dir) (l : LList) (lb rf : ByteArray) (rl : Ans Try.prog 57 [.agg (encDir d), .str lb] (.int .i64 0)) (h1 : l.system.length ≤ 1000) (h2 : l.user.length ≤ 1000) (hr : ¬ rf = ⟨#[]⟩) (i : Nat) (hi : i < l.user.length) (hx : ixS l.user rf = (i : Int)) (hz : ¬ ixS l.system lb = -1) : Ans Try.prog 41 [.agg (encDir d), .agg (encLL l), .agg (encLE ⟨lb, 4, rf⟩)] (.tup [.agg [.nils, .str ⟨#[]⟩, .nils], .int .i64 13]) := by
  have wi := Within_good 4 0 4
  rw [show inB 4 0 4 = true by decide] at wi
  have ci := IndexOf_good l.user rf (by omega)
  rw [hx] at ci
  have q5 : ¬ (i : Int) = -1 := by omega
  have cy := IndexOf_good l.user lb (by omega)
  have cz := IndexOf_good l.system lb (by omega)
  refine good_run [] mixed Try.func41 rfl Try.ntmps41 (rs := [.cell 6 41, .tmp 7]) rfl (by decide +kernel) (by kernel_rfl) rfl ?_
  rw [startE_eq 124 _ _ _ rfl rfl]
  set_option maxRecDepth 100000 in simp (maxSteps := 10000000) only [go_sem, Nat.reduceAdd, Nat.reduceSub, Nat.reduceMul, Nat.reduceLT, Nat.reduceLeDiff, Nat.reduceEqDiff, Nat.reduceMod, Nat.reduceDiv, Int.reduceNeg, Int.reduceLE, Int.reduceLT, Int.reduceToNat, Int.reduceEq, Int.reduceNe, ↓reduceIte]
  refine call_of (rl) ?_
  set_option maxRecDepth 100000 in simp (maxSteps := 10000000) only [go_sem, Nat.reduceAdd, Nat.reduceSub, Nat.reduceMul, Nat.reduceLT, Nat.reduceLeDiff, Nat.reduceEqDiff, Nat.reduceMod, Nat.reduceDiv, Int.reduceNeg, Int.reduceLE, Int.reduceLT, Int.reduceToNat, Int.reduceEq, Int.reduceNe, ↓reduceIte,  show (false == true) = false from rfl, show (true == false) = false from rfl, show (false == false) = true from rfl, show (true == true) = true from rfl, decide_true, decide_false, not_true_eq_false, not_false_eq_true, Bool.not_true, Bool.not_false, eq_false hr, eq_false hz, eq_false q5]
  refine call_of (wi) ?_
  set_option maxRecDepth 100000 in simp (maxSteps := 10000000) only [go_sem, Nat.reduceAdd, Nat.reduceSub, Nat.reduceMul, Nat.reduceLT, Nat.reduceLeDiff, Nat.reduceEqDiff, Nat.reduceMod, Nat.reduceDiv, Int.reduceNeg, Int.reduceLE, Int.reduceLT, Int.reduceToNat, Int.reduceEq, Int.reduceNe, ↓reduceIte,  show (false == true) = false from rfl, show (true == false) = false from rfl, show (false == false) = true from rfl, show (true == true) = true from rfl, decide_true, decide_false, not_true_eq_false, not_false_eq_true, Bool.not_true, Bool.not_false, eq_false hr, eq_false hz, eq_false q5]
  refine call_of (ci) ?_
  set_option maxRecDepth 100000 in simp (maxSteps := 10000000) only [go_sem, Nat.reduceAdd, Nat.reduceSub, Nat.reduceMul, Nat.reduceLT, Nat.reduceLeDiff, Nat.reduceEqDiff, Nat.reduceMod, Nat.reduceDiv, Int.reduceNeg, Int.reduceLE, Int.reduceLT, Int.reduceToNat, Int.reduceEq, Int.reduceNe, ↓reduceIte,  show (false == true) = false from rfl, show (true == false) = false from rfl, show (false == false) = true from rfl, show (true == true) = true from rfl, decide_true, decide_false, not_true_eq_false, not_false_eq_true, Bool.not_true, Bool.not_false, eq_false hr, eq_false hz, eq_false q5]
  refine call_of (cy) ?_
  set_option maxRecDepth 100000 in simp (maxSteps := 10000000) only [go_sem, Nat.reduceAdd, Nat.reduceSub, Nat.reduceMul, Nat.reduceLT, Nat.reduceLeDiff, Nat.reduceEqDiff, Nat.reduceMod, Nat.reduceDiv, Int.reduceNeg, Int.reduceLE, Int.reduceLT, Int.reduceToNat, Int.reduceEq, Int.reduceNe, ↓reduceIte,  show (false == true) = false from rfl, show (true == false) = false from rfl, show (false == false) = true from rfl, show (true == true) = true from rfl, decide_true, decide_false, not_true_eq_false, not_false_eq_true, Bool.not_true, Bool.not_false, eq_false hr, eq_false hz, eq_false q5]
  refine call_of (cz) ?_
  set_option maxRecDepth 100000 in simp (maxSteps := 10000000) only [go_sem, Nat.reduceAdd, Nat.reduceSub, Nat.reduceMul, Nat.reduceLT, Nat.reduceLeDiff, Nat.reduceEqDiff, Nat.reduceMod, Nat.reduceDiv, Int.reduceNeg, Int.reduceLE, Int.reduceLT, Int.reduceToNat, Int.reduceEq, Int.reduceNe, ↓reduceIte,  show (false == true) = false from rfl, show (true == false) = false from rfl, show (false == false) = true from rfl, show (true == true) = true from rfl, decide_true, decide_false, not_true_eq_false, not_false_eq_true, Bool.not_true, Bool.not_false, eq_false hr, eq_false hz, eq_false q5]

set_option maxHeartbeats 4000000 in
theorem rad4_ok1 (d : Dir) (l : LList) (lb rf : ByteArray) (rl : Ans Try.prog 57 [.agg (encDir d), .str lb] (.int .i64 0)) (h1 : l.system.length ≤ 1000) (h2 : l.user.length ≤ 1000) (hr : ¬ rf = ⟨#[]⟩) (i : Nat) (hi : i < l.user.length) (hx : ixS l.user rf = (i : Int)) (hz : ixS l.system lb = -1) (hy : ixS l.user lb = -1) : Ans Try.prog 41 [.agg (encDir d), .agg (encLL l), .agg (encLE ⟨lb, 4, rf⟩)] (.tup [.agg [.sl (l.system.map encStr), .str l.current, .sl ((l.user.set i lb).map encStr)], .int .i64 0]) := by
  have wi := Within_good 4 0 4
  rw [show inB 4 0 4 = true by decide] at wi
  have ci := IndexOf_good l.user rf (by omega)
  rw [hx] at ci
  have q5 : ¬ (i : Int) = -1 := by omega
  have cy := IndexOf_good l.user lb (by omega)
  have cz := IndexOf_good l.system lb (by omega)
  rw [hz] at cz
  rw [hy] at cy
  have hq := map_at encStr hi
  have hset : (List.map encStr l.user).set i [.str lb] = List.map encStr (l.user.set i lb) := by rw [List.map_set]; rfl
  have q1 : (0 : Int) ≤ (i : Int) := by omega
  have q2 : (i : Int) < (l.user.length : Int) := by omega
  refine good_run [] mixed Try.func41 rfl Try.ntmps41 (rs := [.cell 6 41, .tmp 7]) rfl (by decide +kernel) (by kernel_rfl) rfl ?_
  rw [startE_eq 124 _ _ _ rfl rfl]
  set_option maxRecDepth 100000 in simp (maxSteps := 10000000) only [go_sem, Nat.reduceAdd, Nat.reduceSub, Nat.reduceMul, Nat.reduceLT, Nat.reduceLeDiff, Nat.reduceEqDiff, Nat.reduceMod, Nat.reduceDiv, Int.reduceNeg, Int.reduceLE, Int.reduceLT, Int.reduceToNat, Int.reduceEq, Int.reduceNe, ↓reduceIte]
  refine call_of (rl) ?_
  set_option maxRecDepth 100000 in simp (maxSteps := 10000000) only [go_sem, Nat.reduceAdd, Nat.reduceSub, Nat.reduceMul, Nat.reduceLT, Nat.reduceLeDiff, Nat.reduceEqDiff, Nat.reduceMod, Nat.reduceDiv, Int.reduceNeg, Int.reduceLE, Int.reduceLT, Int.reduceToNat, Int.reduceEq, Int.reduceNe, ↓reduceIte,  show (false == true) = false from rfl, show (true == false) = false from rfl, show (false == false) = true from rfl, show (true == true) = true from rfl, decide_true, decide_false, not_true_eq_false, not_false_eq_true, Bool.not_true, Bool.not_false, eq_false hr, eq_false q5]
  refine call_of (wi) ?_
  set_option maxRecDepth 100000 in simp (maxSteps := 10000000) only [go_sem, Nat.reduceAdd, Nat.reduceSub, Nat.reduceMul, Nat.reduceLT, Nat.reduceLeDiff, Nat.reduceEqDiff, Nat.reduceMod, Nat.reduceDiv, Int.reduceNeg, Int.reduceLE, Int.reduceLT, Int.reduceToNat, Int.reduceEq, Int.reduceNe, ↓reduceIte,  show (false == true) = false from rfl, show (true == false) = false from rfl, show (false == false) = true from rfl, show (true == true) = true from rfl, decide_true, decide_false, not_true_eq_false, not_false_eq_true, Bool.not_true, Bool.not_false, eq_false hr, eq_false q5]
  refine call_of (ci) ?_
  set_option maxRecDepth 100000 in simp (maxSteps := 10000000) only [go_sem, Nat.reduceAdd, Nat.reduceSub, Nat.reduceMul, Nat.reduceLT, Nat.reduceLeDiff, Nat.reduceEqDiff, Nat.reduceMod, Nat.reduceDiv, Int.reduceNeg, Int.reduceLE, Int.reduceLT, Int.reduceToNat, Int.reduceEq, Int.reduceNe, ↓reduceIte,  show (false == true) = false from rfl, show (true == false) = false from rfl, show (false == false) = true from rfl, show (true == true) = true from rfl, decide_true, decide_false, not_true_eq_false, not_false_eq_true, Bool.not_true, Bool.not_false, eq_false hr, eq_false q5]
  refine call_of (cy) ?_
  set_option maxRecDepth 100000 in simp (maxSteps := 10000000) only [go_sem, Nat.reduceAdd, Nat.reduceSub, Nat.reduceMul, Nat.reduceLT, Nat.reduceLeDiff, Nat.reduceEqDiff, Nat.reduceMod, Nat.reduceDiv, Int.reduceNeg, Int.reduceLE, Int.reduceLT, Int.reduceToNat, Int.reduceEq, Int.reduceNe, ↓reduceIte,  show (false == true) = false from rfl, show (true == false) = false from rfl, show (false == false) = true from rfl, show (true == true) = true from rfl, decide_true, decide_false, not_true_eq_false, not_false_eq_true, Bool.not_true, Bool.not_false, eq_false hr, eq_false q5]
  refine call_of (cz) ?_
  set_option maxRecDepth 100000 in simp (maxSteps := 10000000) only [go_sem, Nat.reduceAdd, Nat.reduceSub, Nat.reduceMul, Nat.reduceLT, Nat.reduceLeDiff, Nat.reduceEqDiff, Nat.reduceMod, Nat.reduceDiv, Int.reduceNeg, Int.reduceLE, Int.reduceLT, Int.reduceToNat, Int.reduceEq, Int.reduceNe, ↓reduceIte,  show (false == true) = false from rfl, show (true == false) = false from rfl, show (false == false) = true from rfl, show (true == true) = true from rfl, decide_true, decide_false, not_true_eq_false, not_false_eq_true, Bool.not_true, Bool.not_false, eq_false hr, eq_false q5]
  refine callM_of [] [0, 1] (OwnLM l h1 h2) ⟨rfl, rfl, rfl, by simp, by simp, by simp, by simp, rfl, rfl, rfl, onodup_of (l := [5, 10]) rfl (by decide)⟩ ?_
  set_option maxRecDepth 100000 in simp (maxSteps := 10000000) only [go_sem, Nat.reduceAdd, Nat.reduceSub, Nat.reduceMul, Nat.reduceLT, Nat.reduceLeDiff, Nat.reduceEqDiff, Nat.reduceMod, Nat.reduceDiv, Int.reduceNeg, Int.reduceLE, Int.reduceLT, Int.reduceToNat, Int.reduceEq, Int.reduceNe, ↓reduceIte,  show (false == true) = false from rfl, show (true == false) = false from rfl, show (false == false) = true from rfl, show (true == true) = true from rfl, decide_true, decide_false, not_true_eq_false, not_false_eq_true, Bool.not_true, Bool.not_false, eq_false hr, hq, hi, q1, q2, Option.map_some, Int.toNat_natCast, List.length_map, hset]

set_option maxHeartbeats 4000000 in
theorem rad4_ok2 (d : Dir) (l : LList) (lb rf : ByteArray) (rl : Ans Try.prog 57 [.agg (encDir d), .str lb] (.int .i64 0)) (h1 : l.system.length ≤ 1000) (h2 : l.user.length ≤ 1000) (hr : ¬ rf = ⟨#[]⟩) (i : Nat) (hi : i < l.user.length) (hx : ixS l.user rf = (i : Int)) (hz : ixS l.system lb = -1) (hy : ixS l.user lb = (i : Int)) : Ans Try.prog 41 [.agg (encDir d), .agg (encLL l), .agg (encLE ⟨lb, 4, rf⟩)] (.tup [.agg [.sl (l.system.map encStr), .str l.current, .sl ((l.user.set i lb).map encStr)], .int .i64 0]) := by
  have wi := Within_good 4 0 4
  rw [show inB 4 0 4 = true by decide] at wi
  have ci := IndexOf_good l.user rf (by omega)
  rw [hx] at ci
  have q5 : ¬ (i : Int) = -1 := by omega
  have cy := IndexOf_good l.user lb (by omega)
  have cz := IndexOf_good l.system lb (by omega)
  rw [hz] at cz
  rw [hy] at cy
  have hq := map_at encStr hi
  have hset : (List.map encStr l.user).set i [.str lb] = List.map encStr (l.user.set i lb) := by rw [List.map_set]; rfl
  have q1 : (0 : Int) ≤ (i : Int) := by omega
  have q2 : (i : Int) < (l.user.length : Int) := by omega
  refine good_run [] mixed Try.func41 rfl Try.ntmps41 (rs := [.cell 6 41, .tmp 7]) rfl (by decide +kernel) (by kernel_rfl) rfl ?_
  rw [startE_eq 124 _ _ _ rfl rfl]
  set_option maxRecDepth 100000 in simp (maxSteps := 10000000) only [go_sem, Nat.reduceAdd, Nat.reduceSub, Nat.reduceMul, Nat.reduceLT, Nat.reduceLeDiff, Nat.reduceEqDiff, Nat.reduceMod, Nat.reduceDiv, Int.reduceNeg, Int.reduceLE, Int.reduceLT, Int.reduceToNat, Int.reduceEq, Int.reduceNe, ↓reduceIte]
  refine call_of (rl) ?_
  set_option maxRecDepth 100000 in simp (maxSteps := 10000000) only [go_sem, Nat.reduceAdd, Nat.reduceSub, Nat.reduceMul, Nat.reduceLT, Nat.reduceLeDiff, Nat.reduceEqDiff, Nat.reduceMod, Nat.reduceDiv, Int.reduceNeg, Int.reduceLE, Int.reduceLT, Int.reduceToNat, Int.reduceEq, Int.reduceNe, ↓reduceIte,  show (false == true) = false from rfl, show (true == false) = false from rfl, show (false == false) = true from rfl, show (true == true) = true from rfl, decide_true, decide_false, not_true_eq_false, not_false_eq_true, Bool.not_true, Bool.not_false, eq_false hr, eq_false q5]
  refine call_of (wi) ?_
  set_option maxRecDepth 100000 in simp (maxSteps := 10000000) only [go_sem, Nat.reduceAdd, Nat.reduceSub, Nat.reduceMul, Nat.reduceLT, Nat.reduceLeDiff, Nat.reduceEqDiff, Nat.reduceMod, Nat.reduceDiv, Int.reduceNeg, Int.reduceLE, Int.reduceLT, Int.reduceToNat, Int.reduceEq, Int.reduceNe, ↓reduceIte,  show (false == true) = false from rfl, show (true == false) = false from rfl, show (false == false) = true from rfl, show (true == true) = true from rfl, decide_true, decide_false, not_true_eq_false, not_false_eq_true, Bool.not_true, Bool.not_false, eq_false hr, eq_false q5]
  refine call_of (ci) ?_
  set_option maxRecDepth 100000 in simp (maxSteps := 10000000) only [go_sem, Nat.reduceAdd, Nat.reduceSub, Nat.reduceMul, Nat.reduceLT, Nat.reduceLeDiff, Nat.reduceEqDiff, Nat.reduceMod, Nat.reduceDiv, Int.reduceNeg, Int.reduceLE, Int.reduceLT, Int.reduceToNat, Int.reduceEq, Int.reduceNe, ↓reduceIte,  show (false == true) = false from rfl, show (true == false) = false from rfl, show (false == false) = true from rfl, show (true == true) = true from rfl, decide_true, decide_false, not_true_eq_false, not_false_eq_true, Bool.not_true, Bool.not_false, eq_false hr, eq_false q5]
  refine call_of (cy) ?_
  set_option maxRecDepth 100000 in simp (maxSteps := 10000000) only [go_sem, Nat.reduceAdd, Nat.reduceSub, Nat.reduceMul, Nat.reduceLT, Nat.reduceLeDiff, Nat.reduceEqDiff, Nat.reduceMod, Nat.reduceDiv, Int.reduceNeg, Int.reduceLE, Int.reduceLT, Int.reduceToNat, Int.reduceEq, Int.reduceNe, ↓reduceIte,  show (false == true) = false from rfl, show (true == false) = false from rfl, show (false == false) = true from rfl, show (true == true) = true from rfl, decide_true, decide_false, not_true_eq_false, not_false_eq_true, Bool.not_true, Bool.not_false, eq_false hr, eq_false q5]
  refine call_of (cz) ?_
  set_option maxRecDepth 100000 in simp (maxSteps := 10000000) only [go_sem, Nat.reduceAdd, Nat.reduceSub, Nat.reduceMul, Nat.reduceLT, Nat.reduceLeDiff, Nat.reduceEqDiff, Nat.reduceMod, Nat.reduceDiv, Int.reduceNeg, Int.reduceLE, Int.reduceLT, Int.reduceToNat, Int.reduceEq, Int.reduceNe, ↓reduceIte,  show (false == true) = false from rfl, show (true == false) = false from rfl, show (false == false) = true from rfl, show (true == true) = true from rfl, decide_true, decide_false, not_true_eq_false, not_false_eq_true, Bool.not_true, Bool.not_false, eq_false hr, eq_false q5]
  refine callM_of [] [0, 1] (OwnLM l h1 h2) ⟨rfl, rfl, rfl, by simp, by simp, by simp, by simp, rfl, rfl, rfl, onodup_of (l := [5, 10]) rfl (by decide)⟩ ?_
  set_option maxRecDepth 100000 in simp (maxSteps := 10000000) only [go_sem, Nat.reduceAdd, Nat.reduceSub, Nat.reduceMul, Nat.reduceLT, Nat.reduceLeDiff, Nat.reduceEqDiff, Nat.reduceMod, Nat.reduceDiv, Int.reduceNeg, Int.reduceLE, Int.reduceLT, Int.reduceToNat, Int.reduceEq, Int.reduceNe, ↓reduceIte,  show (false == true) = false from rfl, show (true == false) = false from rfl, show (false == false) = true from rfl, show (true == true) = true from rfl, decide_true, decide_false, not_true_eq_false, not_false_eq_true, Bool.not_true, Bool.not_false, eq_false hr, hq, hi, q1, q2, Option.map_some, Int.toNat_natCast, List.length_map, hset]

set_option maxHeartbeats 4000000 in
theorem rad4_e13b (d : Dir) (l : LList) (lb rf : ByteArray) (rl : Ans Try.prog 57 [.agg (encDir d), .str lb] (.int .i64 0)) (h1 : l.system.length ≤ 1000) (h2 : l.user.length ≤ 1000) (hr : ¬ rf = ⟨#[]⟩) (i : Nat) (hi : i < l.user.length) (hx : ixS l.user rf = (i : Int)) (hz : ixS l.system lb = -1) (hy : ¬ ixS l.user lb = -1) (hy2 : ¬ ixS l.user lb = (i : Int)) : Ans Try.prog 41 [.agg (encDir d), .agg (encLL l), .agg (encLE ⟨lb, 4, rf⟩)] (.tup [.agg [.nils, .str ⟨#[]⟩, .nils], .int .i64 13]) := by
  have wi := Within_good 4 0 4
  rw [show inB 4 0 4 = true by decide] at wi
  have ci := IndexOf_good l.user rf (by omega)
  rw [hx] at ci
  have q5 : ¬ (i : Int) = -1 := by omega
  have cy := IndexOf_good l.user lb (by omega)
  have cz := IndexOf_good l.system lb (by omega)
  rw [hz] at cz
  refine good_run [] mixed Try.func41 rfl Try.ntmps41 (rs := [.cell 6 41, .tmp 7]) rfl (by decide +kernel) (by kernel_rfl) rfl ?_
  rw [startE_eq 124 _ _ _ rfl rfl]
  set_option maxRecDepth 100000 in simp (maxSteps := 10000000) only [go_sem, Nat.reduceAdd, Nat.reduceSub, Nat.reduceMul, Nat.reduceLT, Nat.reduceLeDiff, Nat.reduceEqDiff, Nat.reduceMod, Nat.reduceDiv, Int.reduceNeg, Int.reduceLE, Int.reduceLT, Int.reduceToNat, Int.reduceEq, Int.reduceNe, ↓reduceIte]
  refine call_of (rl) ?_
  set_option maxRecDepth 100000 in simp (maxSteps := 10000000) only [go_sem, Nat.reduceAdd, Nat.reduceSub, Nat.reduceMul, Nat.reduceLT, Nat.reduceLeDiff, Nat.reduceEqDiff, Nat.reduceMod, Nat.reduceDiv, Int.reduceNeg, Int.reduceLE, Int.reduceLT, Int.reduceToNat, Int.reduceEq, Int.reduceNe, ↓reduceIte,  show (false == true) = false from rfl, show (true == false) = false from rfl, show (false == false) = true from rfl, show (true == true) = true from rfl, decide_true, decide_false, not_true_eq_false, not_false_eq_true, Bool.not_true, Bool.not_false, eq_false hr, eq_false hy, eq_false hy2, eq_false q5]
  refine call_of (wi) ?_
  set_option maxRecDepth 100000 in simp (maxSteps := 10000000) only [go_sem, Nat.reduceAdd, Nat.reduceSub, Nat.reduceMul, Nat.reduceLT, Nat.reduceLeDiff, Nat.reduceEqDiff, Nat.reduceMod, Nat.reduceDiv, Int.reduceNeg, Int.reduceLE, Int.reduceLT, Int.reduceToNat, Int.reduceEq, Int.reduceNe, ↓reduceIte,  show (false == true) = false from rfl, show (true == false) = false from rfl, show (false == false) = true from rfl, show (true == true) = true from rfl, decide_true, decide_false, not_true_eq_false, not_false_eq_true, Bool.not_true, Bool.not_false, eq_false hr, eq_false hy, eq_false hy2, eq_false q5]
  refine call_of (ci) ?_
  set_option maxRecDepth 100000 in simp (maxSteps := 10000000) only [go_sem, Nat.reduceAdd, Nat.reduceSub, Nat.reduceMul, Nat.reduceLT, Nat.reduceLeDiff, Nat.reduceEqDiff, Nat.reduceMod, Nat.reduceDiv, Int.reduceNeg, Int.reduceLE, Int.reduceLT, Int.reduceToNat, Int.reduceEq, Int.reduceNe, ↓reduceIte,  show (false == true) = false from rfl, show (true == false) = false from rfl, show (false == false) = true from rfl, show (true == true) = true from rfl, decide_true, decide_false, not_true_eq_false, not_false_eq_true, Bool.not_true, Bool.not_false, eq_false hr, eq_false hy, eq_false hy2, eq_false q5]
  refine call_of (cy) ?_
  set_option maxRecDepth 100000 in simp (maxSteps := 10000000) only [go_sem, Nat.reduceAdd, Nat.reduceSub, Nat.reduceMul, Nat.reduceLT, Nat.reduceLeDiff, Nat.reduceEqDiff, Nat.reduceMod, Nat.reduceDiv, Int.reduceNeg, Int.reduceLE, Int.reduceLT, Int.reduceToNat, Int.reduceEq, Int.reduceNe, ↓reduceIte,  show (false == true) = false from rfl, show (true == false) = false from rfl, show (false == false) = true from rfl, show (true == true) = true from rfl, decide_true, decide_false, not_true_eq_false, not_false_eq_true, Bool.not_true, Bool.not_false, eq_false hr, eq_false hy, eq_false hy2, eq_false q5]
  refine call_of (cz) ?_
  set_option maxRecDepth 100000 in simp (maxSteps := 10000000) only [go_sem, Nat.reduceAdd, Nat.reduceSub, Nat.reduceMul, Nat.reduceLT, Nat.reduceLeDiff, Nat.reduceEqDiff, Nat.reduceMod, Nat.reduceDiv, Int.reduceNeg, Int.reduceLE, Int.reduceLT, Int.reduceToNat, Int.reduceEq, Int.reduceNe, ↓reduceIte,  show (false == true) = false from rfl, show (true == false) = false from rfl, show (false == false) = true from rfl, show (true == true) = true from rfl, decide_true, decide_false, not_true_eq_false, not_false_eq_true, Bool.not_true, Bool.not_false, eq_false hr, eq_false hy, eq_false hy2, eq_false q5]

end Go.Proofs.Ytppjmigiogddpaa.C08
