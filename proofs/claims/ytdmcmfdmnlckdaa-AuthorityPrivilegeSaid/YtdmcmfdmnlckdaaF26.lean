/- Chapter 10: entries struck from an own row. -/
import Derived.Test.YtdmcmfdmnlckdaaF25
namespace Go.Proofs.Ytdmcmfdmnlckdaa.C10
open Go Go.Proofs Go.Proofs.Ytdmcmfdmnlckdaa.Ab
set_option linter.unusedSimpArgs false
attribute [local congr] ite_ctx

@[go_sem] theorem optArr_none : (none : Option Operand).toArray.toList = [] := rfl
@[go_sem] theorem optArr_some (x : Operand) : (some x : Option Operand).toArray.toList = [x] := rfl

theorem DeleteG (l : List Grant) (i j : Nat) (hij : i < j) (hj : j ≤ l.length) :
    AnsM Try.prog 82 33 [.obj 1 65 2 false true (l.map encGrant)] [.ref 33 1, .int .i64 (i : Int), .int .i64 (j : Int)] (.ref 33 2) [(33, .obj 2 65 2 false true ((l.take i ++ l.drop j).map encGrant))] := by
  have q1 : (i : Int) ≤ (j : Int) := by omega
  have q2 : (j : Int) ≤ (l.length : Int) := by omega
  have q3 : (0 : Int) ≤ (i : Int) := by omega
  have q4 : ¬ (i : Int) = (j : Int) := by omega
  have q5 : (i : Int) ≤ (l.length : Int) := by omega
  have q6 : (0 : Int) ≤ (j : Int) := by omega
  have q7 : j + (l.length - j) ≤ l.length := by omega
  have q8 : i + (l.length - j) ≤ l.length := by omega
  have t1 : List.take (l.length - j) (List.drop j (List.map encGrant l)) = List.map encGrant (l.drop j) := by rw [← List.map_drop, ← List.map_take, List.take_of_length_le (by simp)]
  have t2 : (List.take i (List.map encGrant l) ++ List.map encGrant (List.drop j l) ++ List.drop (i + (l.length - j)) (List.map encGrant l)).length = l.length := by
    simp only [List.length_append, List.length_take, List.length_map, List.length_drop]; omega
  have q9 : (0 : Int) ≤ ((i + (l.length - j) : Nat) : Int) := by omega
  have q10 : ((i + (l.length - j) : Nat) : Int) ≤ (l.length : Int) := by omega
  have q11 : i + (l.length - j) + (l.length - (i + (l.length - j))) = l.length := by omega
  have q12 : i + (l.length - j) ≤ l.length := by omega
  have t5 : List.take (i + (l.length - j)) (List.take i (List.map encGrant l) ++ List.map encGrant (List.drop j l) ++ List.drop (i + (l.length - j)) (List.map encGrant l)) = List.map encGrant (List.take i l ++ List.drop j l) := by
    have e1 : (List.take i (List.map encGrant l) ++ List.map encGrant (List.drop j l)).length = i + (l.length - j) := by
      simp only [List.length_append, List.length_take, List.length_map, List.length_drop]; omega
    rw [← e1, List.take_left, List.map_append, List.map_take]
  have t3 : (i + (l.length - j)) ≤ (List.take (i + (l.length - j)) (List.take i (List.map encGrant l) ++ List.map encGrant (List.drop j l) ++ List.drop (i + (l.length - j)) (List.map encGrant l)) ++ List.replicate (l.length - (i + (l.length - j))) [AV.str { data := #[] }, AV.int IntKind.i64 0] ++ List.drop l.length (List.take i (List.map encGrant l) ++ List.map encGrant (List.drop j l) ++ List.drop (i + (l.length - j)) (List.map encGrant l))).length := by
    rw [t5]; simp only [List.length_append, List.length_take, List.length_map, List.length_drop]; omega
  have t4 : List.take (i + (l.length - j)) (List.take (i + (l.length - j)) (List.take i (List.map encGrant l) ++ List.map encGrant (List.drop j l) ++ List.drop (i + (l.length - j)) (List.map encGrant l)) ++ List.replicate (l.length - (i + (l.length - j))) [AV.str { data := #[] }, AV.int IntKind.i64 0] ++ List.drop l.length (List.take i (List.map encGrant l) ++ List.map encGrant (List.drop j l) ++ List.drop (i + (l.length - j)) (List.map encGrant l))) = List.map encGrant (List.take i l ++ List.drop j l) := by
    rw [t5, List.append_assoc]
    exact List.take_left' (by simp only [List.length_append, List.length_take, List.length_map, List.length_drop]; omega)
  refine goodM_run [(3000007, [], [100000000000000000000])] mixed Try.func82 rfl Try.ntmps82 (rs := [.tmp 6]) rfl (show wfCode 34 _ = true by decide +kernel) (by kernel_rfl) ?_
  rw [startM_eq 33 _ _ _ _ rfl rfl]
  set_option maxRecDepth 100000 in simp (maxSteps := 10000000) only [go_sem, Nat.reduceAdd, Nat.reduceSub, Nat.reduceMul, Nat.reduceLT, Nat.reduceLeDiff, Nat.reduceEqDiff, Nat.reduceMod, Nat.reduceDiv, Int.reduceNeg, Int.reduceLE, Int.reduceLT, Int.reduceToNat, Int.reduceEq, Int.reduceNe, ↓reduceIte,  List.length_map, Int.le_refl, Nat.le_refl, q1, q2, q3, q4, q5, q6, Int.toNat_natCast, Nat.sub_zero, Nat.zero_add, Nat.zero_le, t1, q7, q8, List.length_drop]
  refine ⟨by decide +kernel, ?_⟩
  set_option maxRecDepth 100000 in simp (maxSteps := 10000000) only [go_sem, Nat.reduceAdd, Nat.reduceSub, Nat.reduceMul, Nat.reduceLT, Nat.reduceLeDiff, Nat.reduceEqDiff, Nat.reduceMod, Nat.reduceDiv, Int.reduceNeg, Int.reduceLE, Int.reduceLT, Int.reduceToNat, Int.reduceEq, Int.reduceNe, ↓reduceIte,  t2, Int.le_refl, Nat.le_refl, q9, q10, q11, q12, t3, t4, Int.toNat_natCast, Nat.sub_zero, Nat.zero_add, Nat.zero_le, List.length_drop]
  simp
end Go.Proofs.Ytdmcmfdmnlckdaa.C10
