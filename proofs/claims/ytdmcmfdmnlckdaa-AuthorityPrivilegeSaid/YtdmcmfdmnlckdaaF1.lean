/- Chapter 10: the smallest functions. -/
import Derived.Test.YtdmcmfdmnlckdaaD0
namespace Go.Proofs.Ytdmcmfdmnlckdaa.C10
open Go Go.Proofs Go.Proofs.Ytdmcmfdmnlckdaa.Ab
set_option linter.unusedSimpArgs false
attribute [local congr] ite_ctx

theorem cond_good (c : Bool) (e : Int) : Ans Try.prog 78 [.bool c, .int .i64 e] (.int .i64 (if c = true then e else 0)) := by
  refine good_run [] mixed Try.func78 rfl Try.ntmps78 (rs := [.tmp 4]) rfl (by decide +kernel) (by kernel_rfl) rfl ?_
  rw [startE_eq 7 _ _ _ rfl rfl]
  simp (contextual := true) only [go_sem, ifP_eq, Nat.reduceAdd, Nat.reduceSub, Nat.reduceMul, Nat.reduceLT, Nat.reduceLeDiff, Nat.reduceEqDiff, Int.reduceNeg, ↓reduceIte]
  try (cases c <;> simp)

def inB (n lo hi : Int) : Bool := decide (lo ≤ n ∧ n ≤ hi)
theorem in_good (n lo hi : Int) : Ans Try.prog 83 [.int .i64 n, .int .i64 lo, .int .i64 hi] (.bool (inB n lo hi)) := by
  refine good_run [] mixed Try.func83 rfl Try.ntmps83 (rs := [.tmp 6]) rfl (by decide +kernel) (by kernel_rfl) rfl ?_
  rw [startE_eq 15 _ _ _ rfl rfl]
  simp (contextual := true) only [go_sem, ifP_eq, Nat.reduceAdd, Nat.reduceSub, Nat.reduceMul, Nat.reduceLT, Nat.reduceLeDiff, Nat.reduceEqDiff, Int.reduceNeg, ↓reduceIte]
  split <;> simp_all [inB] <;> omega
theorem Within_good (n lo hi : Int) : Ans Try.prog 39 [.int .i64 n, .int .i64 lo, .int .i64 hi] (.bool (inB n lo hi)) := by
  refine good_run [] mixed Try.func39 rfl Try.ntmps39 (rs := [.tmp 6]) rfl (by decide +kernel) (by kernel_rfl) rfl ?_
  rw [startE_eq 15 _ _ _ rfl rfl]
  simp (contextual := true) only [go_sem, ifP_eq, Nat.reduceAdd, Nat.reduceSub, Nat.reduceMul, Nat.reduceLT, Nat.reduceLeDiff, Nat.reduceEqDiff, Int.reduceNeg, ↓reduceIte]
  split <;> simp_all [inB] <;> omega

theorem isAuthority_good (n : Int) : Ans Try.prog 79 [.int .i64 n] (.bool (inB n 0 1023)) := by
  refine good_run [] mixed Try.func79 rfl Try.ntmps79 (rs := [.tmp 2]) rfl (by decide +kernel) (by kernel_rfl) rfl ?_
  rw [startE_eq 5 _ _ _ rfl rfl]
  simp (contextual := true) only [go_sem, ifP_eq, Nat.reduceAdd, Nat.reduceSub, Nat.reduceMul, Nat.reduceLT, Nat.reduceLeDiff, Nat.reduceEqDiff, Int.reduceNeg, ↓reduceIte]
  refine call_of (in_good _ _ _) ?_
  simp only [go_sem, Nat.reduceAdd, Nat.reduceEqDiff, ↓reduceIte]
theorem IsAuthority_good (n : Int) : Ans Try.prog 30 [.int .i64 n] (.bool (inB n 0 1023)) := by
  refine good_run [] mixed Try.func30 rfl Try.ntmps30 (rs := [.tmp 2]) rfl (by decide +kernel) (by kernel_rfl) rfl ?_
  rw [startE_eq 5 _ _ _ rfl rfl]
  simp (contextual := true) only [go_sem, ifP_eq, Nat.reduceAdd, Nat.reduceSub, Nat.reduceMul, Nat.reduceLT, Nat.reduceLeDiff, Nat.reduceEqDiff, Int.reduceNeg, ↓reduceIte]
  refine call_of (Within_good _ _ _) ?_
  simp only [go_sem, Nat.reduceAdd, Nat.reduceEqDiff, ↓reduceIte]

def incB (a needed : Int) : Bool := decide (Go.bits .and .i64 a needed = needed)
theorem includes_good (a n : Int) : Ans Try.prog 80 [.int .i64 a, .int .i64 n] (.bool (incB a n)) := by
  refine good_run [] mixed Try.func80 rfl Try.ntmps80 (rs := [.tmp 4]) rfl (by decide +kernel) (by kernel_rfl) rfl ?_
  rw [startE_eq 10 _ _ _ rfl rfl]
  simp (contextual := true) only [go_sem, ifP_eq, Nat.reduceAdd, Nat.reduceSub, Nat.reduceMul, Nat.reduceLT, Nat.reduceLeDiff, Nat.reduceEqDiff, Int.reduceNeg, ↓reduceIte]
  rfl
theorem Includes_good (a n : Int) : Ans Try.prog 77 [.int .i64 a, .int .i64 n] (.bool (incB a n)) := by
  refine good_run [] mixed Try.func77 rfl Try.ntmps77 (rs := [.tmp 4]) rfl (by decide +kernel) (by kernel_rfl) rfl ?_
  rw [startE_eq 10 _ _ _ rfl rfl]
  simp (contextual := true) only [go_sem, ifP_eq, Nat.reduceAdd, Nat.reduceSub, Nat.reduceMul, Nat.reduceLT, Nat.reduceLeDiff, Nat.reduceEqDiff, Int.reduceNeg, ↓reduceIte]
  rfl
theorem Union_good (a n : Int) : Ans Try.prog 72 [.int .i64 a, .int .i64 n] (.int .i64 (Go.bits .or .i64 a n)) := by
  refine good_run [] mixed Try.func72 rfl Try.ntmps72 (rs := [.tmp 4]) rfl (by decide +kernel) (by kernel_rfl) rfl ?_
  rw [startE_eq 8 _ _ _ rfl rfl]
  simp (contextual := true) only [go_sem, ifP_eq, Nat.reduceAdd, Nat.reduceSub, Nat.reduceMul, Nat.reduceLT, Nat.reduceLeDiff, Nat.reduceEqDiff, Int.reduceNeg, ↓reduceIte]
theorem IsUpper_good (c : Int) : Ans Try.prog 97 [.int .u8 c] (.bool (inB c 65 90)) := by
  refine good_run [] mixed Try.func97 rfl Try.ntmps97 (rs := [.tmp 2]) rfl (by decide +kernel) (by kernel_rfl) rfl ?_
  rw [startE_eq 9 _ _ _ rfl rfl]
  simp (contextual := true) only [go_sem, ifP_eq, Nat.reduceAdd, Nat.reduceSub, Nat.reduceMul, Nat.reduceLT, Nat.reduceLeDiff, Nat.reduceEqDiff, Int.reduceNeg, ↓reduceIte]
  split <;> simp_all [inB] <;> omega
theorem IsDigit_good (c : Int) : Ans Try.prog 98 [.int .u8 c] (.bool (inB c 48 57)) := by
  refine good_run [] mixed Try.func98 rfl Try.ntmps98 (rs := [.tmp 2]) rfl (by decide +kernel) (by kernel_rfl) rfl ?_
  rw [startE_eq 9 _ _ _ rfl rfl]
  simp (contextual := true) only [go_sem, ifP_eq, Nat.reduceAdd, Nat.reduceSub, Nat.reduceMul, Nat.reduceLT, Nat.reduceLeDiff, Nat.reduceEqDiff, Int.reduceNeg, ↓reduceIte]
  split <;> simp_all [inB] <;> omega

theorem small_len {n b : Nat} (h : n ≤ 1000000) (hb : b ≤ 1000) : n * b ≤ 140737488355328 ∧ n ≤ maxLen :=
  ⟨Nat.le_trans (Nat.mul_le_mul h hb) (by decide), Nat.le_trans h (by decide)⟩

theorem CopyStrings_good (l : List ByteArray) (h : l.length ≤ 1000000) : Ans Try.prog 62 [.sl (l.map encStr)] (.sl (l.map encStr)) := by
  refine good_run [] mixed Try.func62 rfl Try.ntmps62 (rs := [.tmp 2]) rfl (by decide +kernel) (by kernel_rfl) rfl ?_
  rw [startE_eq 5 _ _ _ rfl rfl]
  simp (contextual := true) only [go_sem, ifP_eq, Nat.reduceAdd, Nat.reduceSub, Nat.reduceMul, Nat.reduceLT, Nat.reduceLeDiff, Nat.reduceEqDiff, Int.reduceNeg, ↓reduceIte, small_len h (show 16 ≤ 1000 by decide)]
theorem CopyInts_good (l : List Int) (h : l.length ≤ 1000000) : Ans Try.prog 84 [.sl (l.map encInt)] (.sl (l.map encInt)) := by
  refine good_run [] mixed Try.func84 rfl Try.ntmps84 (rs := [.tmp 2]) rfl (by decide +kernel) (by kernel_rfl) rfl ?_
  rw [startE_eq 5 _ _ _ rfl rfl]
  simp (contextual := true) only [go_sem, ifP_eq, Nat.reduceAdd, Nat.reduceSub, Nat.reduceMul, Nat.reduceLT, Nat.reduceLeDiff, Nat.reduceEqDiff, Int.reduceNeg, ↓reduceIte, small_len h (show 8 ≤ 1000 by decide)]

def firstE : List Int → Int
  | [] => 0
  | e :: l => if e = 0 then firstE l else e
theorem first_good (l : List Int) (h : l.length ≤ 1000000) : Ans Try.prog 66 [.sl (l.map encInt)] (.int .i64 (firstE l)) := by
  refine good_run [(2, [2, 4, 8, 9, 10, 11, 12, 13, 14], [])] mixed Try.func66 rfl Try.ntmps66 (rs := [.tmp 2]) rfl (by decide +kernel) (by kernel_rfl) rfl ?_
  rw [startE_eq 15 _ _ _ rfl rfl]
  simp only [go_sem, ifP_eq, Nat.reduceAdd, Nat.reduceSub, Nat.reduceMul, Nat.reduceLT, Nat.reduceLeDiff, Nat.reduceEqDiff, Int.reduceNeg, ↓reduceIte]
  refine loop_by ([2, 4, 8, 9, 10, 11, 12, 13, 14], []) (fun i : Nat => [(.s 7, .int .i64 (i : Int))]) (fun i => l.length - i) (fun i => i ≤ l.length ∧ firstE l = firstE (l.drop i)) 0 rfl ⟨Nat.zero_le _, rfl⟩ rfl ?_
  rintro c' st' hst i ⟨hi, hf⟩ ih
  simp (contextual := true) only [go_sem, ifP_eq, Nat.reduceAdd, Nat.reduceSub, Nat.reduceMul, Nat.reduceLT, Nat.reduceLeDiff, Nat.reduceEqDiff, Int.reduceNeg, ↓reduceIte]
  refine iteI (fun hlt => iteI (fun hn => ?_) fun hn => ih (i + 1) _ ⟨by omega, ?_⟩ (by omega) ?_) fun hlt => ?_
  · rw [hf, drop_nth hlt, firstE, if_neg hn]
  · rw [hf, drop_nth hlt, firstE, if_pos (by omega)]
  · simp only [go_sem, wrap_succ (show i < 9223372036854775807 by omega)]
  · subst hst
    simp only [go_sem, Nat.reduceAdd, Nat.reduceEqDiff, ↓reduceIte]
    rw [hf, List.drop_eq_nil_of_le (by omega)]; rfl

end Go.Proofs.Ytdmcmfdmnlckdaa.C10
