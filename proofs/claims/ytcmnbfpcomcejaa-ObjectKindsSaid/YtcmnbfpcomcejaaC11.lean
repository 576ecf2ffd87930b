/- Chapter 8: rows of objects that may be written: copied, sorted, cut. -/
import Derived.Test.YtcmnbfpcomcejaaC6
import Derived.Test.YtcmnbfpcomcejaaC10
namespace Go.Proofs.Ytcmnbfpcomcejaa.C08
open Go Go.Proofs Go.Proofs.Ytcmnbfpcomcejaa.Ab
set_option linter.unusedSimpArgs false
attribute [local congr] ite_ctx

@[go_sem] theorem optArr_none : (none : Option Operand).toArray.toList = [] := rfl
@[go_sem] theorem optArr_some (x : Operand) : (some x : Option Operand).toArray.toList = [x] := rfl

theorem CloneM (l : List Obj) (hl : l.length ≤ 1000000) : AnsM Try.prog 70 8 [] [.sl (l.map encObj)] (.ref 7 1) [(7, .obj 1 25 7 false true (l.map encObj))] := by
  refine goodM_runA [1207025007] [] mixed Try.func70 rfl Try.ntmps70 (rs := [.tmp 2]) rfl (by decide +kernel) (by kernel_rfl) ?_
  rw [startM_eq 8 _ _ _ _ rfl rfl]
  set_option maxRecDepth 100000 in simp (maxSteps := 10000000) only [go_sem, Nat.reduceAdd, Nat.reduceSub, Nat.reduceMul, Nat.reduceLT, Nat.reduceLeDiff, Nat.reduceEqDiff, Nat.reduceMod, Nat.reduceDiv, Int.reduceNeg, Int.reduceLE, Int.reduceLT, Int.reduceToNat, Int.reduceEq, Int.reduceNe, ↓reduceIte]
  refine ifI (fun h0 => ?_) fun h0 => ?_
  · have hz : l = [] := List.eq_nil_of_length_eq_zero (by simpa using h0)
    set_option maxRecDepth 100000 in simp (maxSteps := 10000000) only [go_sem, Nat.reduceAdd, Nat.reduceSub, Nat.reduceMul, Nat.reduceLT, Nat.reduceLeDiff, Nat.reduceEqDiff, Nat.reduceMod, Nat.reduceDiv, Int.reduceNeg, Int.reduceLE, Int.reduceLT, Int.reduceToNat, Int.reduceEq, Int.reduceNe, ↓reduceIte,  hz]
    refine bothI ?_ ?_
    · set_option maxRecDepth 100000 in simp (maxSteps := 10000000) only [go_sem, Nat.reduceAdd, Nat.reduceSub, Nat.reduceMul, Nat.reduceLT, Nat.reduceLeDiff, Nat.reduceEqDiff, Nat.reduceMod, Nat.reduceDiv, Int.reduceNeg, Int.reduceLE, Int.reduceLT, Int.reduceToNat, Int.reduceEq, Int.reduceNe, ↓reduceIte]
      simp
    · set_option maxRecDepth 100000 in simp (maxSteps := 10000000) only [go_sem, Nat.reduceAdd, Nat.reduceSub, Nat.reduceMul, Nat.reduceLT, Nat.reduceLeDiff, Nat.reduceEqDiff, Nat.reduceMod, Nat.reduceDiv, Int.reduceNeg, Int.reduceLE, Int.reduceLT, Int.reduceToNat, Int.reduceEq, Int.reduceNe, ↓reduceIte,  show (0 : Nat) ≤ maxLen by unfold maxLen; omega]
      simp
  · set_option maxRecDepth 100000 in simp (maxSteps := 10000000) only [go_sem, Nat.reduceAdd, Nat.reduceSub, Nat.reduceMul, Nat.reduceLT, Nat.reduceLeDiff, Nat.reduceEqDiff, Nat.reduceMod, Nat.reduceDiv, Int.reduceNeg, Int.reduceLE, Int.reduceLT, Int.reduceToNat, Int.reduceEq, Int.reduceNe, ↓reduceIte,  h0, show (0 + l.length) * 96 ≤ 140737488355328 by omega, show 0 + l.length ≤ maxLen by unfold maxLen; omega]
    simp

theorem sortedM (l : List Obj) (next : Int) (h0 : 0 < l.length) (hl : l.length ≤ 1000000) :
    AnsM Try.prog 69 10 [.obj 1 25 7 false true (l.map encObj)] [.ref 10 1, .int .i64 next] (.agg [.ref 10 1, .int .i64 next]) [(10, .obj 1 25 7 false true ((sortO l).map encObj))] := by
  refine goodM_run [] mixed Try.func69 rfl Try.ntmps69 (rs := [.cell 4 37]) rfl (show wfCode 11 _ = true by decide +kernel) (by kernel_rfl) ?_
  rw [startM_eq 10 _ _ _ _ rfl rfl]
  set_option maxRecDepth 100000 in simp (maxSteps := 10000000) only [go_sem, Nat.reduceAdd, Nat.reduceSub, Nat.reduceMul, Nat.reduceLT, Nat.reduceLeDiff, Nat.reduceEqDiff, Nat.reduceMod, Nat.reduceDiv, Int.reduceNeg, Int.reduceLE, Int.reduceLT, Int.reduceToNat, Int.reduceEq, Int.reduceNe, ↓reduceIte]
  refine callM_of [10] [10] (SortFuncM l h0 hl) ⟨by simp [renA, ren1, invM, posOf, verOf, AV.cellP, Env.go], rfl, rfl, by simp, by simp, by simp, by simp, rfl, rfl, rfl, onodup_of (l := [2]) rfl (by decide)⟩ ?_
  set_option maxRecDepth 100000 in simp (maxSteps := 10000000) only [go_sem, Nat.reduceAdd, Nat.reduceSub, Nat.reduceMul, Nat.reduceLT, Nat.reduceLeDiff, Nat.reduceEqDiff, Nat.reduceMod, Nat.reduceDiv, Int.reduceNeg, Int.reduceLE, Int.reduceLT, Int.reduceToNat, Int.reduceEq, Int.reduceNe, ↓reduceIte]
  simp

theorem DeleteO (l : List Obj) (i j : Nat) (hij : i < j) (hj : j ≤ l.length) :
    AnsM Try.prog 72 33 [.obj 1 25 7 false true (l.map encObj)] [.ref 33 1, .int .i64 (i : Int), .int .i64 (j : Int)] (.ref 33 2) [(33, .obj 2 25 7 false true ((l.take i ++ l.drop j).map encObj))] := by
  have q1 : (i : Int) ≤ (j : Int) := by omega
  have q2 : (j : Int) ≤ (l.length : Int) := by omega
  have q3 : (0 : Int) ≤ (i : Int) := by omega
  have q4 : ¬ (i : Int) = (j : Int) := by omega
  have q5 : (i : Int) ≤ (l.length : Int) := by omega
  have q6 : (0 : Int) ≤ (j : Int) := by omega
  have q7 : j + (l.length - j) ≤ l.length := by omega
  have q8 : i + (l.length - j) ≤ l.length := by omega
  have q9 : (0 : Int) ≤ ((i + (l.length - j) : Nat) : Int) := by omega
  have q10 : ((i + (l.length - j) : Nat) : Int) ≤ (l.length : Int) := by omega
  have q11 : i + (l.length - j) + (l.length - (i + (l.length - j))) = l.length := by omega
  have t6 : List.take (l.length - j) (List.drop j l) = List.drop j l := List.take_of_length_le (by simp)
  have t7 : (List.take i l ++ List.drop j l ++ List.drop (i + (l.length - j)) l).length = l.length := by
    simp only [List.length_append, List.length_take, List.length_drop]; omega
  have t8 : (List.take i l ++ List.drop j l).length = i + (l.length - j) := by
    simp only [List.length_append, List.length_take, List.length_drop]; omega
  have t5 : List.take (i + (l.length - j)) (List.take i l ++ List.drop j l ++ List.drop (i + (l.length - j)) l) = List.take i l ++ List.drop j l := by rw [← t8, List.take_left]
  have t3 : (i + (l.length - j)) ≤ (List.map encObj (List.take (i + (l.length - j)) (List.take i l ++ List.drop j l ++ List.drop (i + (l.length - j)) l)) ++ List.replicate (l.length - (i + (l.length - j))) [AV.str { data := #[] }, AV.str { data := #[] }, AV.int IntKind.i64 0, AV.str { data := #[] }, AV.int IntKind.i64 0, AV.str { data := #[] }, AV.str { data := #[] }] ++ List.map encObj (List.drop l.length (List.take i l ++ List.drop j l ++ List.drop (i + (l.length - j)) l))).length := by
    rw [t5]; simp only [List.length_append, List.length_map, t8]; omega
  have t4 : List.take (i + (l.length - j)) (List.map encObj (List.take (i + (l.length - j)) (List.take i l ++ List.drop j l ++ List.drop (i + (l.length - j)) l)) ++ List.replicate (l.length - (i + (l.length - j))) [AV.str { data := #[] }, AV.str { data := #[] }, AV.int IntKind.i64 0, AV.str { data := #[] }, AV.int IntKind.i64 0, AV.str { data := #[] }, AV.str { data := #[] }] ++ List.map encObj (List.drop l.length (List.take i l ++ List.drop j l ++ List.drop (i + (l.length - j)) l))) = List.map encObj (List.take i l ++ List.drop j l) := by
    rw [t5, List.append_assoc]
    exact List.take_left' (by rw [List.length_map, t8])
  refine goodM_run [(3000007, [], [100000000000000000000])] mixed Try.func72 rfl Try.ntmps72 (rs := [.tmp 6]) rfl (show wfCode 34 _ = true by decide +kernel) (by kernel_rfl) ?_
  rw [startM_eq 33 _ _ _ _ rfl rfl]
  set_option maxRecDepth 100000 in simp (maxSteps := 10000000) only [go_sem, Nat.reduceAdd, Nat.reduceSub, Nat.reduceMul, Nat.reduceLT, Nat.reduceLeDiff, Nat.reduceEqDiff, Nat.reduceMod, Nat.reduceDiv, Int.reduceNeg, Int.reduceLE, Int.reduceLT, Int.reduceToNat, Int.reduceEq, Int.reduceNe, ↓reduceIte,  List.length_map, Int.le_refl, Nat.le_refl, q1, q2, q3, q4, q5, q6, Int.toNat_natCast, Nat.sub_zero, Nat.zero_add, Nat.zero_le, t6, q7, q8, List.length_drop]
  refine ⟨by decide +kernel, ?_⟩
  set_option maxRecDepth 100000 in simp (maxSteps := 10000000) only [go_sem, Nat.reduceAdd, Nat.reduceSub, Nat.reduceMul, Nat.reduceLT, Nat.reduceLeDiff, Nat.reduceEqDiff, Nat.reduceMod, Nat.reduceDiv, Int.reduceNeg, Int.reduceLE, Int.reduceLT, Int.reduceToNat, Int.reduceEq, Int.reduceNe, ↓reduceIte,  t7, Int.le_refl, Nat.le_refl, q8, q9, q10, q11, t3, t4, Int.toNat_natCast, Nat.sub_zero, Nat.zero_add, Nat.zero_le, List.length_drop]
  simp
end Go.Proofs.Ytcmnbfpcomcejaa.C08
