/- Chapter 9: rows of strings: where one stands, copies, rows put together; libraries that must be there. -/
import Derived.Test.YtppjmigiogddpaaGreatC10
import Derived.Test.YtppjmigiogddpaaGreatE3
import Derived.Test.YtppjmigiogddpaaGreatN0
namespace Go.Proofs.YtppjmigiogddpaaGreat.C08
open Go Go.Proofs Go.Proofs.YtppjmigiogddpaaGreat.Ab
set_option linter.unusedSimpArgs false
set_option linter.unusedVariables false
attribute [local congr] ite_ctx

def ixS (l : List ByteArray) (s : ByteArray) : Int := findIx (fun p => decide (p = s)) l 0
theorem ixS_any (l : List ByteArray) (s : ByteArray) : decide (0 ≤ ixS l s) = l.any fun p => decide (p = s) := findIx_any _ _ _
theorem IndexS_good (l : List ByteArray) (s : ByteArray) (h : l.length ≤ 1000000) : Ans Tryz.prog 67 [.sl (l.map encStr), .str s] (.int .i64 (ixS l s)) := by
  refine good_run [(2, [4, 5, 9, 10, 11, 12, 13, 14, 15, 16, 17, 18], [])] mixed Tryz.func67 rfl Tryz.ntmps67 (rs := [.tmp 4]) rfl (by decide +kernel) (by kernel_rfl) rfl ?_
  rw [startE_eq 19 _ _ _ rfl rfl]
  set_option maxRecDepth 100000 in simp (maxSteps := 10000000) only [go_sem, Nat.reduceAdd, Nat.reduceSub, Nat.reduceMul, Nat.reduceLT, Nat.reduceLeDiff, Nat.reduceEqDiff, Nat.reduceMod, Nat.reduceDiv, Int.reduceNeg, Int.reduceLE, Int.reduceLT, Int.reduceToNat, Int.reduceEq, Int.reduceNe, ↓reduceIte]
  refine loop_by ([4, 5, 9, 10, 11, 12, 13, 14, 15, 16, 17, 18], []) (fun i : Nat => [(.s 8, .int .i64 (i : Int))]) (fun i => l.length - i) (fun i => i ≤ l.length ∧ ixS l s = findIx (fun p => decide (p = s)) (l.drop i) i) 0 rfl ⟨Nat.zero_le _, rfl⟩ rfl ?_
  rintro c' st' hst i ⟨hi, hf⟩ ih
  set_option maxRecDepth 100000 in simp (maxSteps := 10000000) only [go_sem, Nat.reduceAdd, Nat.reduceSub, Nat.reduceMul, Nat.reduceLT, Nat.reduceLeDiff, Nat.reduceEqDiff, Nat.reduceMod, Nat.reduceDiv, Int.reduceNeg, Int.reduceLE, Int.reduceLT, Int.reduceToNat, Int.reduceEq, Int.reduceNe, ↓reduceIte]
  refine ifI (fun hlt => ?_) fun hlt => ?_
  · set_option maxRecDepth 100000 in simp (maxSteps := 10000000) only [go_sem, Nat.reduceAdd, Nat.reduceSub, Nat.reduceMul, Nat.reduceLT, Nat.reduceLeDiff, Nat.reduceEqDiff, Nat.reduceMod, Nat.reduceDiv, Int.reduceNeg, Int.reduceLE, Int.reduceLT, Int.reduceToNat, Int.reduceEq, Int.reduceNe, ↓reduceIte,  hlt]
    refine ifI (fun hn => ?_) fun hn => ?_
    · set_option maxRecDepth 100000 in simp (maxSteps := 10000000) only [go_sem, Nat.reduceAdd, Nat.reduceSub, Nat.reduceMul, Nat.reduceLT, Nat.reduceLeDiff, Nat.reduceEqDiff, Nat.reduceMod, Nat.reduceDiv, Int.reduceNeg, Int.reduceLE, Int.reduceLT, Int.reduceToNat, Int.reduceEq, Int.reduceNe, ↓reduceIte,  hn]
      rw [← hn, hf, drop_nth hlt, findIx, if_pos (by simpa using hn.symm)]
    · set_option maxRecDepth 100000 in simp (maxSteps := 10000000) only [go_sem, Nat.reduceAdd, Nat.reduceSub, Nat.reduceMul, Nat.reduceLT, Nat.reduceLeDiff, Nat.reduceEqDiff, Nat.reduceMod, Nat.reduceDiv, Int.reduceNeg, Int.reduceLE, Int.reduceLT, Int.reduceToNat, Int.reduceEq, Int.reduceNe, ↓reduceIte,  hn, wrap_succ (show i < 9223372036854775807 by omega)]
      refine ih (i + 1) _ ⟨by omega, ?_⟩ (by omega) ?_
      · rw [hf, drop_nth hlt, findIx, if_neg (by simpa [eq_comm] using hn)]
      · set_option maxRecDepth 100000 in simp (maxSteps := 10000000) only [go_sem, Nat.reduceAdd, Nat.reduceSub, Nat.reduceMul, Nat.reduceLT, Nat.reduceLeDiff, Nat.reduceEqDiff, Nat.reduceMod, Nat.reduceDiv, Int.reduceNeg, Int.reduceLE, Int.reduceLT, Int.reduceToNat, Int.reduceEq, Int.reduceNe, ↓reduceIte]
  · subst hst
    set_option maxRecDepth 100000 in simp (maxSteps := 10000000) only [go_sem, Nat.reduceAdd, Nat.reduceSub, Nat.reduceMul, Nat.reduceLT, Nat.reduceLeDiff, Nat.reduceEqDiff, Nat.reduceMod, Nat.reduceDiv, Int.reduceNeg, Int.reduceLE, Int.reduceLT, Int.reduceToNat, Int.reduceEq, Int.reduceNe, ↓reduceIte,  hlt]
    rw [hf, List.drop_eq_nil_of_le (by omega)]; rfl
theorem ContainsS_good (l : List ByteArray) (s : ByteArray) (h : l.length ≤ 1000000) : Ans Tryz.prog 70 [.sl (l.map encStr), .str s] (.bool (l.any fun p => decide (p = s))) := by
  refine good_run [] mixed Tryz.func70 rfl Tryz.ntmps70 (rs := [.tmp 4]) rfl (by decide +kernel) (by kernel_rfl) rfl ?_
  rw [startE_eq 9 _ _ _ rfl rfl]
  set_option maxRecDepth 100000 in simp (maxSteps := 10000000) only [go_sem, Nat.reduceAdd, Nat.reduceSub, Nat.reduceMul, Nat.reduceLT, Nat.reduceLeDiff, Nat.reduceEqDiff, Nat.reduceMod, Nat.reduceDiv, Int.reduceNeg, Int.reduceLE, Int.reduceLT, Int.reduceToNat, Int.reduceEq, Int.reduceNe, ↓reduceIte]
  refine call_of (IndexS_good l s h) ?_
  set_option maxRecDepth 100000 in simp (maxSteps := 10000000) only [go_sem, Nat.reduceAdd, Nat.reduceSub, Nat.reduceMul, Nat.reduceLT, Nat.reduceLeDiff, Nat.reduceEqDiff, Nat.reduceMod, Nat.reduceDiv, Int.reduceNeg, Int.reduceLE, Int.reduceLT, Int.reduceToNat, Int.reduceEq, Int.reduceNe, ↓reduceIte]
  exact ixS_any l s
theorem IndexOf_good (l : List ByteArray) (s : ByteArray) (h : l.length ≤ 1000000) : Ans Tryz.prog 99 [.sl (l.map encStr), .str s] (.int .i64 (ixS l s)) := by
  refine good_run [(2, [4, 6, 7, 8, 9, 10, 11, 12, 13, 14, 15, 16, 17, 18], [])] mixed Tryz.func99 rfl Tryz.ntmps99 (rs := [.tmp 4]) rfl (by decide +kernel) (by kernel_rfl) rfl ?_
  rw [startE_eq 19 _ _ _ rfl rfl]
  set_option maxRecDepth 100000 in simp (maxSteps := 10000000) only [go_sem, Nat.reduceAdd, Nat.reduceSub, Nat.reduceMul, Nat.reduceLT, Nat.reduceLeDiff, Nat.reduceEqDiff, Nat.reduceMod, Nat.reduceDiv, Int.reduceNeg, Int.reduceLE, Int.reduceLT, Int.reduceToNat, Int.reduceEq, Int.reduceNe, ↓reduceIte]
  refine loop_by ([4, 6, 7, 8, 9, 10, 11, 12, 13, 14, 15, 16, 17, 18], []) (fun i : Nat => [(.s 5, .int .i64 (i : Int))]) (fun i => l.length - i) (fun i => i ≤ l.length ∧ ixS l s = findIx (fun p => decide (p = s)) (l.drop i) i) 0 rfl ⟨Nat.zero_le _, rfl⟩ rfl ?_
  rintro c' st' hst i ⟨hi, hf⟩ ih
  set_option maxRecDepth 100000 in simp (maxSteps := 10000000) only [go_sem, Nat.reduceAdd, Nat.reduceSub, Nat.reduceMul, Nat.reduceLT, Nat.reduceLeDiff, Nat.reduceEqDiff, Nat.reduceMod, Nat.reduceDiv, Int.reduceNeg, Int.reduceLE, Int.reduceLT, Int.reduceToNat, Int.reduceEq, Int.reduceNe, ↓reduceIte]
  refine ifI (fun hlt => ?_) fun hlt => ?_
  · set_option maxRecDepth 100000 in simp (maxSteps := 10000000) only [go_sem, Nat.reduceAdd, Nat.reduceSub, Nat.reduceMul, Nat.reduceLT, Nat.reduceLeDiff, Nat.reduceEqDiff, Nat.reduceMod, Nat.reduceDiv, Int.reduceNeg, Int.reduceLE, Int.reduceLT, Int.reduceToNat, Int.reduceEq, Int.reduceNe, ↓reduceIte,  hlt]
    refine ifI (fun hn => ?_) fun hn => ?_
    · set_option maxRecDepth 100000 in simp (maxSteps := 10000000) only [go_sem, Nat.reduceAdd, Nat.reduceSub, Nat.reduceMul, Nat.reduceLT, Nat.reduceLeDiff, Nat.reduceEqDiff, Nat.reduceMod, Nat.reduceDiv, Int.reduceNeg, Int.reduceLE, Int.reduceLT, Int.reduceToNat, Int.reduceEq, Int.reduceNe, ↓reduceIte,  hn]
      rw [hf, drop_nth hlt, findIx, if_pos (by simpa using hn)]
    · set_option maxRecDepth 100000 in simp (maxSteps := 10000000) only [go_sem, Nat.reduceAdd, Nat.reduceSub, Nat.reduceMul, Nat.reduceLT, Nat.reduceLeDiff, Nat.reduceEqDiff, Nat.reduceMod, Nat.reduceDiv, Int.reduceNeg, Int.reduceLE, Int.reduceLT, Int.reduceToNat, Int.reduceEq, Int.reduceNe, ↓reduceIte,  hn, wrap_succ (show i < 9223372036854775807 by omega)]
      refine ih (i + 1) _ ⟨by omega, ?_⟩ (by omega) ?_
      · rw [hf, drop_nth hlt, findIx, if_neg (by simpa using hn)]
      · set_option maxRecDepth 100000 in simp (maxSteps := 10000000) only [go_sem, Nat.reduceAdd, Nat.reduceSub, Nat.reduceMul, Nat.reduceLT, Nat.reduceLeDiff, Nat.reduceEqDiff, Nat.reduceMod, Nat.reduceDiv, Int.reduceNeg, Int.reduceLE, Int.reduceLT, Int.reduceToNat, Int.reduceEq, Int.reduceNe, ↓reduceIte]
  · subst hst
    set_option maxRecDepth 100000 in simp (maxSteps := 10000000) only [go_sem, Nat.reduceAdd, Nat.reduceSub, Nat.reduceMul, Nat.reduceLT, Nat.reduceLeDiff, Nat.reduceEqDiff, Nat.reduceMod, Nat.reduceDiv, Int.reduceNeg, Int.reduceLE, Int.reduceLT, Int.reduceToNat, Int.reduceEq, Int.reduceNe, ↓reduceIte,  hlt]
    rw [hf, List.drop_eq_nil_of_le (by omega)]; rfl

/-- Copies. -/
theorem CopyM (l : List ByteArray) (h : l.length ≤ 1000000) : AnsM Tryz.prog 72 5 [] [.sl (l.map encStr)] (.ref 4 1) [(4, .obj 1 9 1 false true (l.map encStr))] := by
  refine goodM_run [] mixed Tryz.func72 rfl Tryz.ntmps72 (rs := [.tmp 2]) rfl (by decide +kernel) (by kernel_rfl) ?_
  rw [startM_eq 5 _ _ _ _ rfl rfl]
  set_option maxRecDepth 100000 in simp (maxSteps := 10000000) only [go_sem, Nat.reduceAdd, Nat.reduceSub, Nat.reduceMul, Nat.reduceLT, Nat.reduceLeDiff, Nat.reduceEqDiff, Nat.reduceMod, Nat.reduceDiv, Int.reduceNeg, Int.reduceLE, Int.reduceLT, Int.reduceToNat, Int.reduceEq, Int.reduceNe, ↓reduceIte,  show (0 + l.length) * 16 ≤ 140737488355328 by omega, show l.length * 16 ≤ 140737488355328 by omega, show l.length ≤ maxLen by unfold maxLen; omega]
  simp
theorem Copy_good (l : List ByteArray) (h : l.length ≤ 1000000) : Ans Tryz.prog 72 [.sl (l.map encStr)] (.sl (l.map encStr)) := by
  refine good_run [] mixed Tryz.func72 rfl Tryz.ntmps72 (rs := [.tmp 2]) rfl (by decide +kernel) (by kernel_rfl) rfl ?_
  rw [startE_eq 5 _ _ _ rfl rfl]
  set_option maxRecDepth 100000 in simp (maxSteps := 10000000) only [go_sem, Nat.reduceAdd, Nat.reduceSub, Nat.reduceMul, Nat.reduceLT, Nat.reduceLeDiff, Nat.reduceEqDiff, Nat.reduceMod, Nat.reduceDiv, Int.reduceNeg, Int.reduceLE, Int.reduceLT, Int.reduceToNat, Int.reduceEq, Int.reduceNe, ↓reduceIte,  show (0 + l.length) * 16 ≤ 140737488355328 by omega, show l.length * 16 ≤ 140737488355328 by omega, show l.length ≤ maxLen by unfold maxLen; omega]
theorem CloneS (l : List ByteArray) (hl : l.length ≤ 1000000) : AnsM Tryz.prog 68 8 [] [.sl (l.map encStr)] (.ref 7 1) [(7, .obj 1 9 1 false true (l.map encStr))] := by
  refine goodM_runA [1201009007] [] mixed Tryz.func68 rfl Tryz.ntmps68 (rs := [.tmp 2]) rfl (by decide +kernel) (by kernel_rfl) ?_
  rw [startM_eq 8 _ _ _ _ rfl rfl]
  set_option maxRecDepth 100000 in simp (maxSteps := 10000000) only [go_sem, Nat.reduceAdd, Nat.reduceSub, Nat.reduceMul, Nat.reduceLT, Nat.reduceLeDiff, Nat.reduceEqDiff, Nat.reduceMod, Nat.reduceDiv, Int.reduceNeg, Int.reduceLE, Int.reduceLT, Int.reduceToNat, Int.reduceEq, Int.reduceNe, ↓reduceIte]
  refine ifI (fun h0 => ?_) fun h0 => ?_
  · have hz : l = [] := List.eq_nil_of_length_eq_zero (by simpa using h0)
    set_option maxRecDepth 100000 in simp (maxSteps := 10000000) only [go_sem, Nat.reduceAdd, Nat.reduceSub, Nat.reduceMul, Nat.reduceLT, Nat.reduceLeDiff, Nat.reduceEqDiff, Nat.reduceMod, Nat.reduceDiv, Int.reduceNeg, Int.reduceLE, Int.reduceLT, Int.reduceToNat, Int.reduceEq, Int.reduceNe, ↓reduceIte,  hz]
    refine bothI ?_ ?_
    · set_option maxRecDepth 100000 in simp (maxSteps := 10000000) only [go_sem, Nat.reduceAdd, Nat.reduceSub, Nat.reduceMul, Nat.reduceLT, Nat.reduceLeDiff, Nat.reduceEqDiff, Nat.reduceMod, Nat.reduceDiv, Int.reduceNeg, Int.reduceLE, Int.reduceLT, Int.reduceToNat, Int.reduceEq, Int.reduceNe, ↓reduceIte]
      simp
    · set_option maxRecDepth 100000 in simp (maxSteps := 10000000) only [go_sem, Nat.reduceAdd, Nat.reduceSub, Nat.reduceMul, Nat.reduceLT, Nat.reduceLeDiff, Nat.reduceEqDiff, Nat.reduceMod, Nat.reduceDiv, Int.reduceNeg, Int.reduceLE, Int.reduceLT, Int.reduceToNat, Int.reduceEq, Int.reduceNe, ↓reduceIte,  show (0 : Nat) ≤ maxLen by unfold maxLen; omega]
      simp
  · set_option maxRecDepth 100000 in simp (maxSteps := 10000000) only [go_sem, Nat.reduceAdd, Nat.reduceSub, Nat.reduceMul, Nat.reduceLT, Nat.reduceLeDiff, Nat.reduceEqDiff, Nat.reduceMod, Nat.reduceDiv, Int.reduceNeg, Int.reduceLE, Int.reduceLT, Int.reduceToNat, Int.reduceEq, Int.reduceNe, ↓reduceIte,  h0, show (0 + l.length) * 16 ≤ 140737488355328 by omega, show 0 + l.length ≤ maxLen by unfold maxLen; omega]
    simp

/-- Rows put together. -/
theorem GrowM (n : Nat) (h0 : 0 < n) (h : n ≤ 1000000) : AnsM Tryz.prog 133 27 [] [.nils, .int .i64 (n : Int)] (.win 22 1 0 0) [(22, .obj 1 9 1 false true (List.replicate n [.str ⟨#[]⟩]))] := by
  have h1 : (0 : Int) < (n : Int) := by omega
  refine goodM_run [] mixed Tryz.func133 rfl Tryz.ntmps133 (rs := [.tmp 4]) rfl (by decide +kernel) (by kernel_rfl) ?_
  rw [startM_eq 27 _ _ _ _ rfl rfl]
  set_option maxRecDepth 100000 in simp (maxSteps := 10000000) only [go_sem, Nat.reduceAdd, Nat.reduceSub, Nat.reduceMul, Nat.reduceLT, Nat.reduceLeDiff, Nat.reduceEqDiff, Nat.reduceMod, Nat.reduceDiv, Int.reduceNeg, Int.reduceLE, Int.reduceLT, Int.reduceToNat, Int.reduceEq, Int.reduceNe, ↓reduceIte,  h1, decide_true, show (0 : Int) - 0 = 0 from rfl, show IntKind.wrap .i64 0 = 0 by decide, Int.sub_zero, wrap_nat (show n ≤ 9223372036854775807 by omega), show (n : Int) ≤ 16777216 by omega, show n * 16 ≤ 140737488355328 by omega, Nat.zero_le, Nat.zero_add, List.length_replicate]
  simp
theorem Grow0_good : Ans Tryz.prog 133 [.nils, .int .i64 0] .nils := by
  refine good_run [] mixed Tryz.func133 rfl Tryz.ntmps133 (rs := [.tmp 4]) rfl (by decide +kernel) (by kernel_rfl) rfl ?_
  rw [startE_eq 27 _ _ _ rfl rfl]
  set_option maxRecDepth 100000 in simp (maxSteps := 10000000) only [go_sem, Nat.reduceAdd, Nat.reduceSub, Nat.reduceMul, Nat.reduceLT, Nat.reduceLeDiff, Nat.reduceEqDiff, Nat.reduceMod, Nat.reduceDiv, Int.reduceNeg, Int.reduceLE, Int.reduceLT, Int.reduceToNat, Int.reduceEq, Int.reduceNe, ↓reduceIte,  Int.sub_zero, show IntKind.wrap .i64 0 = 0 by decide, Int.lt_irrefl]

set_option maxHeartbeats 4000000 in
theorem Concat_good (a b : List ByteArray) (ha : a.length ≤ 100000) (hb : b.length ≤ 100000) : Ans Tryz.prog 103 [.sl [[.sl (a.map encStr)], [.sl (b.map encStr)]]] (.sl ((a ++ b).map encStr)) := by
  have w1 : IntKind.wrap .i64 ((0 : Int) + (a.length : Int)) = (a.length : Int) := by rw [Int.zero_add]; exact wrap_nat (by omega)
  have w2 : IntKind.wrap .i64 ((a.length : Int) + (b.length : Int)) = ((a.length + b.length : Nat) : Int) := by rw [← Int.natCast_add]; exact wrap_nat (by omega)
  have w3 : IntKind.wrap .i64 (0 + 1) = 1 := by decide
  have w4 : IntKind.wrap .i64 (1 + 1) = 2 := by decide
  refine Classical.byCases (fun hz : 0 < a.length + b.length => ?_) fun hz => ?_
  · have e1 : List.drop a.length (List.replicate (a.length + b.length) [AV.str ⟨#[]⟩]) = List.replicate b.length [AV.str ⟨#[]⟩] := by rw [List.drop_replicate]; congr 1; omega
    have e2 : List.take a.length (List.map encStr a ++ List.replicate b.length [AV.str ⟨#[]⟩]) = List.map encStr a := List.take_left' (by simp)
    have e3 : List.drop (a.length + b.length) (List.map encStr a ++ List.replicate b.length [AV.str ⟨#[]⟩]) = [] := List.drop_eq_nil_of_le (by simp)
    have e4 : List.take (a.length + b.length) (List.map encStr a ++ List.map encStr b) = List.map encStr a ++ List.map encStr b := List.take_of_length_le (by simp)
    refine good_run [(11, [8, 28, 29, 30, 31, 32, 33, 34], []), (3, [5, 12, 13, 14, 15, 16, 17, 18, 19, 20, 21, 22], [])] mixed Tryz.func103 rfl Tryz.ntmps103 (rs := [.tmp 2]) rfl (by decide +kernel) (by kernel_rfl) rfl ?_
    rw [startE_eq 36 _ _ _ rfl rfl]
    set_option maxRecDepth 100000 in simp (maxSteps := 10000000) only [go_sem, Nat.reduceAdd, Nat.reduceSub, Nat.reduceMul, Nat.reduceLT, Nat.reduceLeDiff, Nat.reduceEqDiff, Nat.reduceMod, Nat.reduceDiv, Int.reduceNeg, Int.reduceLE, Int.reduceLT, Int.reduceToNat, Int.reduceEq, Int.reduceNe, ↓reduceIte]
    iterate 3
      refine loop_unfold ?_
      set_option maxRecDepth 100000 in simp (maxSteps := 10000000) only [go_sem, Nat.reduceAdd, Nat.reduceSub, Nat.reduceMul, Nat.reduceLT, Nat.reduceLeDiff, Nat.reduceEqDiff, Nat.reduceMod, Nat.reduceDiv, Int.reduceNeg, Int.reduceLE, Int.reduceLT, Int.reduceToNat, Int.reduceEq, Int.reduceNe, ↓reduceIte,  w1, w2, w3, w4, nat_neg, decide_false]
    refine callM_of [] [24] (GrowM (a.length + b.length) hz (by omega)) ⟨rfl, rfl, rfl, by simp, by simp, by simp, by simp, rfl, rfl, rfl, onodup_of (l := [22]) rfl (by decide)⟩ ?_
    set_option maxRecDepth 100000 in simp (maxSteps := 10000000) only [go_sem, Nat.reduceAdd, Nat.reduceSub, Nat.reduceMul, Nat.reduceLT, Nat.reduceLeDiff, Nat.reduceEqDiff, Nat.reduceMod, Nat.reduceDiv, Int.reduceNeg, Int.reduceLE, Int.reduceLT, Int.reduceToNat, Int.reduceEq, Int.reduceNe, ↓reduceIte]
    iterate 3
      refine loop_unfold ?_
      set_option maxRecDepth 100000 in simp (maxSteps := 10000000) only [go_sem, Nat.reduceAdd, Nat.reduceSub, Nat.reduceMul, Nat.reduceLT, Nat.reduceLeDiff, Nat.reduceEqDiff, Nat.reduceMod, Nat.reduceDiv, Int.reduceNeg, Int.reduceLE, Int.reduceLT, Int.reduceToNat, Int.reduceEq, Int.reduceNe, ↓reduceIte,  w1, w2, w3, w4, nat_neg, decide_false, Nat.zero_add, Nat.add_zero, e1, e2, e3, e4, List.length_append, List.length_replicate, Nat.le_add_right, Nat.le_refl]
    simp only [List.map_append]
    rw [List.take_of_length_le (by simp), List.map_append]
  · have ha : a = [] := List.eq_nil_of_length_eq_zero (by omega)
    have hb : b = [] := List.eq_nil_of_length_eq_zero (by omega)
    subst ha hb
    refine good_run [(11, [8, 28, 29, 30, 31, 32, 33, 34], []), (3, [5, 12, 13, 14, 15, 16, 17, 18, 19, 20, 21, 22], [])] mixed Tryz.func103 rfl Tryz.ntmps103 (rs := [.tmp 2]) rfl (by decide +kernel) (by kernel_rfl) rfl ?_
    rw [startE_eq 36 _ _ _ rfl rfl]
    set_option maxRecDepth 100000 in simp (maxSteps := 10000000) only [go_sem, Nat.reduceAdd, Nat.reduceSub, Nat.reduceMul, Nat.reduceLT, Nat.reduceLeDiff, Nat.reduceEqDiff, Nat.reduceMod, Nat.reduceDiv, Int.reduceNeg, Int.reduceLE, Int.reduceLT, Int.reduceToNat, Int.reduceEq, Int.reduceNe, ↓reduceIte]
    iterate 3
      refine loop_unfold ?_
      set_option maxRecDepth 100000 in simp (maxSteps := 10000000) only [go_sem, Nat.reduceAdd, Nat.reduceSub, Nat.reduceMul, Nat.reduceLT, Nat.reduceLeDiff, Nat.reduceEqDiff, Nat.reduceMod, Nat.reduceDiv, Int.reduceNeg, Int.reduceLE, Int.reduceLT, Int.reduceToNat, Int.reduceEq, Int.reduceNe, ↓reduceIte,  show IntKind.wrap .i64 ((0 : Int) + 0) = 0 by decide, w3, w4, decide_false, Int.natCast_zero, Int.ofNat_zero]
    refine call_of (Grow0_good) ?_
    set_option maxRecDepth 100000 in simp (maxSteps := 10000000) only [go_sem, Nat.reduceAdd, Nat.reduceSub, Nat.reduceMul, Nat.reduceLT, Nat.reduceLeDiff, Nat.reduceEqDiff, Nat.reduceMod, Nat.reduceDiv, Int.reduceNeg, Int.reduceLE, Int.reduceLT, Int.reduceToNat, Int.reduceEq, Int.reduceNe, ↓reduceIte]
    iterate 3
      refine loop_unfold ?_
      set_option maxRecDepth 100000 in simp (maxSteps := 10000000) only [go_sem, Nat.reduceAdd, Nat.reduceSub, Nat.reduceMul, Nat.reduceLT, Nat.reduceLeDiff, Nat.reduceEqDiff, Nat.reduceMod, Nat.reduceDiv, Int.reduceNeg, Int.reduceLE, Int.reduceLT, Int.reduceToNat, Int.reduceEq, Int.reduceNe, ↓reduceIte,  w3, w4, show (0 : Nat) ≤ maxLen by unfold maxLen; omega, Nat.zero_le]

theorem ex1_good (n : ByteArray) (o : Obj) : Ans Tryz.prog 106 [.agg (encObj o), .ptr [.str n]] (.bool (decide (o.name = ⟨qsys, n, 0⟩))) := by
  refine good_run [] mixed Tryz.func106 rfl Tryz.ntmps106 (rs := [.tmp 3]) rfl (by decide +kernel) (by kernel_rfl) rfl ?_
  rw [startE_eq 9 _ _ _ rfl rfl]
  set_option maxRecDepth 100000 in simp (maxSteps := 10000000) only [go_sem, Nat.reduceAdd, Nat.reduceSub, Nat.reduceMul, Nat.reduceLT, Nat.reduceLeDiff, Nat.reduceEqDiff, Nat.reduceMod, Nat.reduceDiv, Int.reduceNeg, Int.reduceLE, Int.reduceLT, Int.reduceToNat, Int.reduceEq, Int.reduceNe, ↓reduceIte]
  rw [← name_eq]
  rfl
theorem libExists_good (d : Dir) (n : ByteArray) (h : d.objects.length ≤ 1000000) : Ans Tryz.prog 73 [.agg (encDir d), .str n] (.bool (hasLib d.objects n)) := by
  have hc := ContainsO_good (ex1_good n) d.objects h
  have hp : (d.objects.any fun o => decide (o.name = ⟨qsys, n, 0⟩)) = decide (0 ≤ placeIx d.objects ⟨qsys, n, 0⟩) := (findIx_any _ _ _).symm
  rw [hp] at hc
  refine Classical.byCases (fun h1 : decide (n = ⟨#[81, 83, 89, 83]⟩) = true => ?_) fun h1 => ?_
  · rw [hasLib, show decide (n = qsys) = true from h1, Bool.true_or]
    refine good_run [] mixed Tryz.func73 rfl Tryz.ntmps73 (rs := [.tmp 4]) rfl (by decide +kernel) (by kernel_rfl) rfl ?_
    rw [startE_eq 13 _ _ _ rfl rfl]
    set_option maxRecDepth 100000 in simp (maxSteps := 10000000) only [go_sem, Nat.reduceAdd, Nat.reduceSub, Nat.reduceMul, Nat.reduceLT, Nat.reduceLeDiff, Nat.reduceEqDiff, Nat.reduceMod, Nat.reduceDiv, Int.reduceNeg, Int.reduceLE, Int.reduceLT, Int.reduceToNat, Int.reduceEq, Int.reduceNe, ↓reduceIte,  h1]
  · have h1' := Bool.eq_false_iff.2 h1
    rw [hasLib, show decide (n = qsys) = false from h1', Bool.false_or]
    refine good_run [] mixed Tryz.func73 rfl Tryz.ntmps73 (rs := [.tmp 4]) rfl (by decide +kernel) (by kernel_rfl) rfl ?_
    rw [startE_eq 13 _ _ _ rfl rfl]
    set_option maxRecDepth 100000 in simp (maxSteps := 10000000) only [go_sem, Nat.reduceAdd, Nat.reduceSub, Nat.reduceMul, Nat.reduceLT, Nat.reduceLeDiff, Nat.reduceEqDiff, Nat.reduceMod, Nat.reduceDiv, Int.reduceNeg, Int.reduceLE, Int.reduceLT, Int.reduceToNat, Int.reduceEq, Int.reduceNe, ↓reduceIte,  h1']
    refine call_of (hc) ?_
    set_option maxRecDepth 100000 in simp (maxSteps := 10000000) only [go_sem, Nat.reduceAdd, Nat.reduceSub, Nat.reduceMul, Nat.reduceLT, Nat.reduceLeDiff, Nat.reduceEqDiff, Nat.reduceMod, Nat.reduceDiv, Int.reduceNeg, Int.reduceLE, Int.reduceLT, Int.reduceToNat, Int.reduceEq, Int.reduceNe, ↓reduceIte]

/-- The error of a library that must be there. -/
def libE (l : List Obj) (s : ByteArray) : Int := if isNm s = false then 7 else if hasLib l s = false then 11 else 0
theorem known_good (d : Dir) (s : ByteArray) (h : d.objects.length ≤ 1000000) : Ans Tryz.prog 37 [.agg (encDir d), .str s] (.int .i64 (libE d.objects s)) := by
  have m1 := libName_good s
  have m2 := libExists_good d s h
  cases h1 : isNm s with
  | false =>
    rw [libE, if_pos h1]
    rw [h1] at m1
    refine good_run [] mixed Tryz.func37 rfl Tryz.ntmps37 (rs := [.tmp 4]) rfl (by decide +kernel) (by kernel_rfl) rfl ?_
    rw [startE_eq 12 _ _ _ rfl rfl]
    set_option maxRecDepth 100000 in simp (maxSteps := 10000000) only [go_sem, Nat.reduceAdd, Nat.reduceSub, Nat.reduceMul, Nat.reduceLT, Nat.reduceLeDiff, Nat.reduceEqDiff, Nat.reduceMod, Nat.reduceDiv, Int.reduceNeg, Int.reduceLE, Int.reduceLT, Int.reduceToNat, Int.reduceEq, Int.reduceNe, ↓reduceIte]
    refine call_of (m1) ?_
    set_option maxRecDepth 100000 in simp (maxSteps := 10000000) only [go_sem, Nat.reduceAdd, Nat.reduceSub, Nat.reduceMul, Nat.reduceLT, Nat.reduceLeDiff, Nat.reduceEqDiff, Nat.reduceMod, Nat.reduceDiv, Int.reduceNeg, Int.reduceLE, Int.reduceLT, Int.reduceToNat, Int.reduceEq, Int.reduceNe, ↓reduceIte,  Bool.not_false]
  | true =>
    rw [libE, if_neg (by rw [h1]; decide)]
    rw [h1] at m1
    cases h2 : hasLib d.objects s with
    | false =>
      rw [h2] at m2
      refine good_run [] mixed Tryz.func37 rfl Tryz.ntmps37 (rs := [.tmp 4]) rfl (by decide +kernel) (by kernel_rfl) rfl ?_
      rw [startE_eq 12 _ _ _ rfl rfl]
      set_option maxRecDepth 100000 in simp (maxSteps := 10000000) only [go_sem, Nat.reduceAdd, Nat.reduceSub, Nat.reduceMul, Nat.reduceLT, Nat.reduceLeDiff, Nat.reduceEqDiff, Nat.reduceMod, Nat.reduceDiv, Int.reduceNeg, Int.reduceLE, Int.reduceLT, Int.reduceToNat, Int.reduceEq, Int.reduceNe, ↓reduceIte]
      refine call_of (m1) ?_
      set_option maxRecDepth 100000 in simp (maxSteps := 10000000) only [go_sem, Nat.reduceAdd, Nat.reduceSub, Nat.reduceMul, Nat.reduceLT, Nat.reduceLeDiff, Nat.reduceEqDiff, Nat.reduceMod, Nat.reduceDiv, Int.reduceNeg, Int.reduceLE, Int.reduceLT, Int.reduceToNat, Int.reduceEq, Int.reduceNe, ↓reduceIte,  Bool.not_true]
      refine call_of (m2) ?_
      set_option maxRecDepth 100000 in simp (maxSteps := 10000000) only [go_sem, Nat.reduceAdd, Nat.reduceSub, Nat.reduceMul, Nat.reduceLT, Nat.reduceLeDiff, Nat.reduceEqDiff, Nat.reduceMod, Nat.reduceDiv, Int.reduceNeg, Int.reduceLE, Int.reduceLT, Int.reduceToNat, Int.reduceEq, Int.reduceNe, ↓reduceIte,  Bool.not_false]
    | true =>
      rw [h2] at m2
      refine good_run [] mixed Tryz.func37 rfl Tryz.ntmps37 (rs := [.tmp 4]) rfl (by decide +kernel) (by kernel_rfl) rfl ?_
      rw [startE_eq 12 _ _ _ rfl rfl]
      set_option maxRecDepth 100000 in simp (maxSteps := 10000000) only [go_sem, Nat.reduceAdd, Nat.reduceSub, Nat.reduceMul, Nat.reduceLT, Nat.reduceLeDiff, Nat.reduceEqDiff, Nat.reduceMod, Nat.reduceDiv, Int.reduceNeg, Int.reduceLE, Int.reduceLT, Int.reduceToNat, Int.reduceEq, Int.reduceNe, ↓reduceIte]
      refine call_of (m1) ?_
      set_option maxRecDepth 100000 in simp (maxSteps := 10000000) only [go_sem, Nat.reduceAdd, Nat.reduceSub, Nat.reduceMul, Nat.reduceLT, Nat.reduceLeDiff, Nat.reduceEqDiff, Nat.reduceMod, Nat.reduceDiv, Int.reduceNeg, Int.reduceLE, Int.reduceLT, Int.reduceToNat, Int.reduceEq, Int.reduceNe, ↓reduceIte,  Bool.not_true]
      refine call_of (m2) ?_
      set_option maxRecDepth 100000 in simp (maxSteps := 10000000) only [go_sem, Nat.reduceAdd, Nat.reduceSub, Nat.reduceMul, Nat.reduceLT, Nat.reduceLeDiff, Nat.reduceEqDiff, Nat.reduceMod, Nat.reduceDiv, Int.reduceNeg, Int.reduceLE, Int.reduceLT, Int.reduceToNat, Int.reduceEq, Int.reduceNe, ↓reduceIte,  Bool.not_true]
theorem RefLib_good (d : Dir) (s : ByteArray) (h : d.objects.length ≤ 1000000) : Ans Tryz.prog 47 [.agg (encDir d), .str s] (.int .i64 (libE d.objects s)) := by
  have m1 := IsName_good s
  have m2 := HasLibrary_good d s h
  cases h1 : isNm s with
  | false =>
    rw [libE, if_pos h1]
    rw [h1] at m1
    refine good_run [] mixed Tryz.func47 rfl Tryz.ntmps47 (rs := [.tmp 4]) rfl (by decide +kernel) (by kernel_rfl) rfl ?_
    rw [startE_eq 12 _ _ _ rfl rfl]
    set_option maxRecDepth 100000 in simp (maxSteps := 10000000) only [go_sem, Nat.reduceAdd, Nat.reduceSub, Nat.reduceMul, Nat.reduceLT, Nat.reduceLeDiff, Nat.reduceEqDiff, Nat.reduceMod, Nat.reduceDiv, Int.reduceNeg, Int.reduceLE, Int.reduceLT, Int.reduceToNat, Int.reduceEq, Int.reduceNe, ↓reduceIte]
    refine call_of (m1) ?_
    set_option maxRecDepth 100000 in simp (maxSteps := 10000000) only [go_sem, Nat.reduceAdd, Nat.reduceSub, Nat.reduceMul, Nat.reduceLT, Nat.reduceLeDiff, Nat.reduceEqDiff, Nat.reduceMod, Nat.reduceDiv, Int.reduceNeg, Int.reduceLE, Int.reduceLT, Int.reduceToNat, Int.reduceEq, Int.reduceNe, ↓reduceIte,  Bool.not_false]
  | true =>
    rw [libE, if_neg (by rw [h1]; decide)]
    rw [h1] at m1
    cases h2 : hasLib d.objects s with
    | false =>
      rw [h2] at m2
      refine good_run [] mixed Tryz.func47 rfl Tryz.ntmps47 (rs := [.tmp 4]) rfl (by decide +kernel) (by kernel_rfl) rfl ?_
      rw [startE_eq 12 _ _ _ rfl rfl]
      set_option maxRecDepth 100000 in simp (maxSteps := 10000000) only [go_sem, Nat.reduceAdd, Nat.reduceSub, Nat.reduceMul, Nat.reduceLT, Nat.reduceLeDiff, Nat.reduceEqDiff, Nat.reduceMod, Nat.reduceDiv, Int.reduceNeg, Int.reduceLE, Int.reduceLT, Int.reduceToNat, Int.reduceEq, Int.reduceNe, ↓reduceIte]
      refine call_of (m1) ?_
      set_option maxRecDepth 100000 in simp (maxSteps := 10000000) only [go_sem, Nat.reduceAdd, Nat.reduceSub, Nat.reduceMul, Nat.reduceLT, Nat.reduceLeDiff, Nat.reduceEqDiff, Nat.reduceMod, Nat.reduceDiv, Int.reduceNeg, Int.reduceLE, Int.reduceLT, Int.reduceToNat, Int.reduceEq, Int.reduceNe, ↓reduceIte,  Bool.not_true]
      refine call_of (m2) ?_
      set_option maxRecDepth 100000 in simp (maxSteps := 10000000) only [go_sem, Nat.reduceAdd, Nat.reduceSub, Nat.reduceMul, Nat.reduceLT, Nat.reduceLeDiff, Nat.reduceEqDiff, Nat.reduceMod, Nat.reduceDiv, Int.reduceNeg, Int.reduceLE, Int.reduceLT, Int.reduceToNat, Int.reduceEq, Int.reduceNe, ↓reduceIte,  Bool.not_false]
    | true =>
      rw [h2] at m2
      refine good_run [] mixed Tryz.func47 rfl Tryz.ntmps47 (rs := [.tmp 4]) rfl (by decide +kernel) (by kernel_rfl) rfl ?_
      rw [startE_eq 12 _ _ _ rfl rfl]
      set_option maxRecDepth 100000 in simp (maxSteps := 10000000) only [go_sem, Nat.reduceAdd, Nat.reduceSub, Nat.reduceMul, Nat.reduceLT, Nat.reduceLeDiff, Nat.reduceEqDiff, Nat.reduceMod, Nat.reduceDiv, Int.reduceNeg, Int.reduceLE, Int.reduceLT, Int.reduceToNat, Int.reduceEq, Int.reduceNe, ↓reduceIte]
      refine call_of (m1) ?_
      set_option maxRecDepth 100000 in simp (maxSteps := 10000000) only [go_sem, Nat.reduceAdd, Nat.reduceSub, Nat.reduceMul, Nat.reduceLT, Nat.reduceLeDiff, Nat.reduceEqDiff, Nat.reduceMod, Nat.reduceDiv, Int.reduceNeg, Int.reduceLE, Int.reduceLT, Int.reduceToNat, Int.reduceEq, Int.reduceNe, ↓reduceIte,  Bool.not_true]
      refine call_of (m2) ?_
      set_option maxRecDepth 100000 in simp (maxSteps := 10000000) only [go_sem, Nat.reduceAdd, Nat.reduceSub, Nat.reduceMul, Nat.reduceLT, Nat.reduceLeDiff, Nat.reduceEqDiff, Nat.reduceMod, Nat.reduceDiv, Int.reduceNeg, Int.reduceLE, Int.reduceLT, Int.reduceToNat, Int.reduceEq, Int.reduceNe, ↓reduceIte,  Bool.not_true]
end Go.Proofs.YtppjmigiogddpaaGreat.C08
