/- Chapter 10: the smallest functions. -/
import Derived.Test.YtbhgehhmjpipiaaGreatDoorD0
import Derived.Shelf.Small.Strs
set_option linter.unusedSimpArgs false
namespace Go.Proofs.YtbhgehhmjpipiaaGreatDoor.C10
open Go Go.Proofs Go.Proofs.YtbhgehhmjpipiaaGreatDoor.Ab
set_option maxRecDepth 100000
attribute [local congr] ite_ctx
theorem cond_good (c : Bool) (e : Int) : Ans Tryz.prog 172 [.bool c, .int .i64 e] (.int .i64 (if c = true then e else 0)) := by
 refine good_run [] mixed Tryz.func172 rfl Tryz.ntmps172 (rs := [.tmp 4]) rfl (by decide +kernel) (by kernel_rfl) rfl ?_
 rw [startE_eq 7 _ _ _ rfl rfl]
 simp (contextual := true) only [go_sem, ifP_eq, Nat.reduceAdd, Nat.reduceSub, Nat.reduceMul, Nat.reduceLT, Nat.reduceLeDiff, Nat.reduceEqDiff, Int.reduceNeg, ↓reduceIte]
 try (cases c <;> simp)
def inB (n lo hi : Int) : Bool := decide (lo ≤ n ∧ n ≤ hi)
theorem in_good (n lo hi : Int) : Ans Tryz.prog 174 [.int .i64 n, .int .i64 lo, .int .i64 hi] (.bool (inB n lo hi)) := by
 refine good_run [] mixed Tryz.func174 rfl Tryz.ntmps174 (rs := [.tmp 6]) rfl (by decide +kernel) (by kernel_rfl) rfl ?_
 rw [startE_eq 15 _ _ _ rfl rfl]
 simp (contextual := true) only [go_sem, ifP_eq, Nat.reduceAdd, Nat.reduceSub, Nat.reduceMul, Nat.reduceLT, Nat.reduceLeDiff, Nat.reduceEqDiff, Int.reduceNeg, ↓reduceIte]
 split <;> simp_all [inB] <;> omega
theorem Within_good (n lo hi : Int) : Ans Tryz.prog 53 [.int .i64 n, .int .i64 lo, .int .i64 hi] (.bool (inB n lo hi)) := by
 refine good_run [] mixed Tryz.func53 rfl Tryz.ntmps53 (rs := [.tmp 6]) rfl (by decide +kernel) (by kernel_rfl) rfl ?_
 rw [startE_eq 15 _ _ _ rfl rfl]
 simp (contextual := true) only [go_sem, ifP_eq, Nat.reduceAdd, Nat.reduceSub, Nat.reduceMul, Nat.reduceLT, Nat.reduceLeDiff, Nat.reduceEqDiff, Int.reduceNeg, ↓reduceIte]
 split <;> simp_all [inB] <;> omega
theorem isAuthority_good (n : Int) : Ans Tryz.prog 178 [.int .i64 n] (.bool (inB n 0 1023)) := by
 refine good_run [] mixed Tryz.func178 rfl Tryz.ntmps178 (rs := [.tmp 2]) rfl (by decide +kernel) (by kernel_rfl) rfl ?_
 rw [startE_eq 5 _ _ _ rfl rfl]
 simp (contextual := true) only [go_sem, ifP_eq, Nat.reduceAdd, Nat.reduceSub, Nat.reduceMul, Nat.reduceLT, Nat.reduceLeDiff, Nat.reduceEqDiff, Int.reduceNeg, ↓reduceIte]
 refine call_of (in_good _ _ _) ?_
 simp only [go_sem, Nat.reduceAdd, Nat.reduceEqDiff, ↓reduceIte]
theorem IsAuthority_good (n : Int) : Ans Tryz.prog 144 [.int .i64 n] (.bool (inB n 0 1023)) := by
 refine good_run [] mixed Tryz.func144 rfl Tryz.ntmps144 (rs := [.tmp 2]) rfl (by decide +kernel) (by kernel_rfl) rfl ?_
 rw [startE_eq 5 _ _ _ rfl rfl]
 simp (contextual := true) only [go_sem, ifP_eq, Nat.reduceAdd, Nat.reduceSub, Nat.reduceMul, Nat.reduceLT, Nat.reduceLeDiff, Nat.reduceEqDiff, Int.reduceNeg, ↓reduceIte]
 refine call_of (Within_good _ _ _) ?_
 simp only [go_sem, Nat.reduceAdd, Nat.reduceEqDiff, ↓reduceIte]
def incB (a needed : Int) : Bool := decide (Go.bits .and .i64 a needed = needed)
theorem Includes_good (a n : Int) : Ans Tryz.prog 50 [.int .i64 a, .int .i64 n] (.bool (incB a n)) := by
 refine good_run [] mixed Tryz.func50 rfl Tryz.ntmps50 (rs := [.tmp 4]) rfl (by decide +kernel) (by kernel_rfl) rfl ?_
 rw [startE_eq 10 _ _ _ rfl rfl]
 simp (contextual := true) only [go_sem, ifP_eq, Nat.reduceAdd, Nat.reduceSub, Nat.reduceMul, Nat.reduceLT, Nat.reduceLeDiff, Nat.reduceEqDiff, Int.reduceNeg, ↓reduceIte]
 rfl
theorem Union_good (a n : Int) : Ans Tryz.prog 102 [.int .i64 a, .int .i64 n] (.int .i64 (Go.bits .or .i64 a n)) := by
 refine good_run [] mixed Tryz.func102 rfl Tryz.ntmps102 (rs := [.tmp 4]) rfl (by decide +kernel) (by kernel_rfl) rfl ?_
 rw [startE_eq 8 _ _ _ rfl rfl]
 simp (contextual := true) only [go_sem, ifP_eq, Nat.reduceAdd, Nat.reduceSub, Nat.reduceMul, Nat.reduceLT, Nat.reduceLeDiff, Nat.reduceEqDiff, Int.reduceNeg, ↓reduceIte]
theorem IsUpper_good (c : Int) : Ans Tryz.prog 168 [.int .u8 c] (.bool (inB c 65 90)) := by
 refine good_run [] mixed Tryz.func168 rfl Tryz.ntmps168 (rs := [.tmp 2]) rfl (by decide +kernel) (by kernel_rfl) rfl ?_
 rw [startE_eq 9 _ _ _ rfl rfl]
 simp (contextual := true) only [go_sem, ifP_eq, Nat.reduceAdd, Nat.reduceSub, Nat.reduceMul, Nat.reduceLT, Nat.reduceLeDiff, Nat.reduceEqDiff, Int.reduceNeg, ↓reduceIte]
 split <;> simp_all [inB] <;> omega
theorem IsDigit_good (c : Int) : Ans Tryz.prog 169 [.int .u8 c] (.bool (inB c 48 57)) := by
 refine good_run [] mixed Tryz.func169 rfl Tryz.ntmps169 (rs := [.tmp 2]) rfl (by decide +kernel) (by kernel_rfl) rfl ?_
 rw [startE_eq 9 _ _ _ rfl rfl]
 simp (contextual := true) only [go_sem, ifP_eq, Nat.reduceAdd, Nat.reduceSub, Nat.reduceMul, Nat.reduceLT, Nat.reduceLeDiff, Nat.reduceEqDiff, Int.reduceNeg, ↓reduceIte]
 split <;> simp_all [inB] <;> omega
theorem small_len {n b : Nat} (h : n ≤ 1000000) (hb : b ≤ 1000) : n * b ≤ 140737488355328 ∧ n ≤ maxLen :=
 ⟨Nat.le_trans (Nat.mul_le_mul h hb) (by decide), Nat.le_trans h (by decide)⟩
theorem CopyStrings_good (l : List ByteArray) (h : l.length ≤ 1000000) : Ans Tryz.prog 39 [.sl (l.map encStr)] (.sl (l.map encStr)) := by
 refine good_run [] mixed Tryz.func39 rfl Tryz.ntmps39 (rs := [.tmp 2]) rfl (by decide +kernel) (by kernel_rfl) rfl ?_
 rw [startE_eq 5 _ _ _ rfl rfl]
 simp (contextual := true) only [go_sem, ifP_eq, Nat.reduceAdd, Nat.reduceSub, Nat.reduceMul, Nat.reduceLT, Nat.reduceLeDiff, Nat.reduceEqDiff, Int.reduceNeg, ↓reduceIte, small_len h (show 16 ≤ 1000 by decide)]
def firstE : List Int → Int
 | [] => 0
 | e :: l => if e = 0 then firstE l else e
theorem first_good (l : List Int) (h : l.length ≤ 1000000) : Ans Tryz.prog 152 [.sl (l.map encInt)] (.int .i64 (firstE l)) := by
 refine good_run [(2, [2, 4, 8, 9, 10, 11, 12, 13, 14], [])] mixed Tryz.func152 rfl Tryz.ntmps152 (rs := [.tmp 2]) rfl (by decide +kernel) (by kernel_rfl) rfl ?_
 rw [startE_eq 15 _ _ _ rfl rfl]
 simp only [go_sem, ifP_eq, Nat.reduceAdd, Nat.reduceSub, Nat.reduceMul, Nat.reduceLT, Nat.reduceLeDiff, Nat.reduceEqDiff, Int.reduceNeg, ↓reduceIte]
 refine loop_by ([2, 4, 8, 9, 10, 11, 12, 13, 14], []) (fun i : Nat => [(.s 7, .int .i64 (i : Int))]) (fun i => l.length - i) (fun i => i ≤ l.length ∧ firstE l = firstE (l.drop i)) 0 rfl ⟨Nat.zero_le _, rfl⟩ rfl ?_
 rintro c' st' hst i ⟨hi, hf⟩ ih
 simp (contextual := true) only [go_sem, ifP_eq, Nat.reduceAdd, Nat.reduceSub, Nat.reduceMul, Nat.reduceLT, Nat.reduceLeDiff, Nat.reduceEqDiff, Int.reduceNeg, ↓reduceIte]
 refine iteI (fun hlt => iteI (fun hn => ?_) fun hn => ih (i + 1) _ ⟨by omega, ?_⟩ (by omega) ?_) fun hlt => ?_
 · rw [hf, drop_nth hlt, firstE, if_neg hn]
 · rw [hf, drop_nth hlt, firstE, if_pos (by omega)]
 · simp only [go_sem, wrap_succ (show i < 9223372036854775807 by omega)]
 · subst hst
   simp only [go_sem, Nat.reduceAdd, Nat.reduceEqDiff, ↓reduceIte]
   rw [hf, List.drop_eq_nil_of_le (by omega)]; rfl
set_option maxRecDepth 100000
def findIx {α : Type} (p : α → Bool) : List α → Nat → Int
 | [], _ => -1
 | a :: l, i => if p a = true then i else findIx p l (i + 1)
theorem User_good (s : Sec) (n : ByteArray) (h : (s.profiles).length ≤ 1000000) : Ans Tryz.prog 65 [.agg (encSec s), .str n] (.int .i64 (findIx (fun p => decide (p.name = n)) (s.profiles) 0)) := by
 refine good_run [(2, [4, 6, 7, 8, 9, 10, 11, 12, 13, 14, 15, 16, 17, 18, 19, 20, 21], [])] mixed Tryz.func65 rfl Tryz.ntmps65 (rs := [.tmp 4]) rfl (by decide +kernel) (by kernel_rfl) rfl ?_
 rw [startE_eq 22 _ _ _ rfl rfl]
 simp only [go_sem, ifP_eq, Nat.reduceAdd, Nat.reduceSub, Nat.reduceMul, Nat.reduceLT, Nat.reduceLeDiff, Nat.reduceEqDiff, Int.reduceNeg, ↓reduceIte]
 refine loop_by ([4, 6, 7, 8, 9, 10, 11, 12, 13, 14, 15, 16, 17, 18, 19, 20, 21], []) (fun i : Nat => [(.s 5, .int .i64 (i : Int))]) (fun i => (s.profiles).length - i) (fun i => i ≤ (s.profiles).length ∧ findIx (fun p => decide (p.name = n)) (s.profiles) 0 = findIx (fun p => decide (p.name = n)) ((s.profiles).drop i) i) 0 rfl ⟨Nat.zero_le _, rfl⟩ rfl ?_
 rintro c' st' hst i ⟨hi, hf⟩ ih
 simp (contextual := true) only [go_sem, ifP_eq, Nat.reduceAdd, Nat.reduceSub, Nat.reduceMul, Nat.reduceLT, Nat.reduceLeDiff, Nat.reduceEqDiff, Int.reduceNeg, ↓reduceIte]
 refine iteI (fun hlt => iteI (fun hn => ?_) fun hn => ih (i + 1) _ ⟨by omega, ?_⟩ (by omega) ?_) fun hlt => ?_
 · rw [hf, drop_nth hlt, findIx, if_pos (by simpa using hn)]
 · rw [hf, drop_nth hlt, findIx, if_neg (by simpa using hn)]
 · simp only [go_sem, wrap_succ (show i < 9223372036854775807 by omega)]
 · subst hst
   simp only [go_sem, Nat.reduceAdd, Nat.reduceEqDiff, ↓reduceIte]
   rw [hf, List.drop_eq_nil_of_le (by omega)]; rfl
theorem List_good (s : Sec) (n : ByteArray) (h : (s.lists).length ≤ 1000000) : Ans Tryz.prog 103 [.agg (encSec s), .str n] (.int .i64 (findIx (fun p => decide (p.name = n)) (s.lists) 0)) := by
 refine good_run [(2, [4, 6, 7, 8, 9, 10, 11, 12, 13, 14, 15, 16, 17, 18, 19, 20, 21], [])] mixed Tryz.func103 rfl Tryz.ntmps103 (rs := [.tmp 4]) rfl (by decide +kernel) (by kernel_rfl) rfl ?_
 rw [startE_eq 22 _ _ _ rfl rfl]
 simp only [go_sem, ifP_eq, Nat.reduceAdd, Nat.reduceSub, Nat.reduceMul, Nat.reduceLT, Nat.reduceLeDiff, Nat.reduceEqDiff, Int.reduceNeg, ↓reduceIte]
 refine loop_by ([4, 6, 7, 8, 9, 10, 11, 12, 13, 14, 15, 16, 17, 18, 19, 20, 21], []) (fun i : Nat => [(.s 5, .int .i64 (i : Int))]) (fun i => (s.lists).length - i) (fun i => i ≤ (s.lists).length ∧ findIx (fun p => decide (p.name = n)) (s.lists) 0 = findIx (fun p => decide (p.name = n)) ((s.lists).drop i) i) 0 rfl ⟨Nat.zero_le _, rfl⟩ rfl ?_
 rintro c' st' hst i ⟨hi, hf⟩ ih
 simp (contextual := true) only [go_sem, ifP_eq, Nat.reduceAdd, Nat.reduceSub, Nat.reduceMul, Nat.reduceLT, Nat.reduceLeDiff, Nat.reduceEqDiff, Int.reduceNeg, ↓reduceIte]
 refine iteI (fun hlt => iteI (fun hn => ?_) fun hn => ih (i + 1) _ ⟨by omega, ?_⟩ (by omega) ?_) fun hlt => ?_
 · rw [hf, drop_nth hlt, findIx, if_pos (by simpa using hn)]
 · rw [hf, drop_nth hlt, findIx, if_neg (by simpa using hn)]
 · simp only [go_sem, wrap_succ (show i < 9223372036854775807 by omega)]
 · subst hst
   simp only [go_sem, Nat.reduceAdd, Nat.reduceEqDiff, ↓reduceIte]
   rw [hf, List.drop_eq_nil_of_le (by omega)]; rfl
theorem Private_good (l : List Grant) (n : ByteArray) (h : (l).length ≤ 1000000) : Ans Tryz.prog 137 [.sl (l.map encGrant), .str n] (.int .i64 (findIx (fun p => decide (p.user = n)) (l) 0)) := by
 refine good_run [(2, [4, 6, 7, 8, 9, 10, 11, 12, 13, 14, 15, 16, 17, 18, 19], [])] mixed Tryz.func137 rfl Tryz.ntmps137 (rs := [.tmp 4]) rfl (by decide +kernel) (by kernel_rfl) rfl ?_
 rw [startE_eq 20 _ _ _ rfl rfl]
 simp only [go_sem, ifP_eq, Nat.reduceAdd, Nat.reduceSub, Nat.reduceMul, Nat.reduceLT, Nat.reduceLeDiff, Nat.reduceEqDiff, Int.reduceNeg, ↓reduceIte]
 refine loop_by ([4, 6, 7, 8, 9, 10, 11, 12, 13, 14, 15, 16, 17, 18, 19], []) (fun i : Nat => [(.s 5, .int .i64 (i : Int))]) (fun i => (l).length - i) (fun i => i ≤ (l).length ∧ findIx (fun p => decide (p.user = n)) (l) 0 = findIx (fun p => decide (p.user = n)) ((l).drop i) i) 0 rfl ⟨Nat.zero_le _, rfl⟩ rfl ?_
 rintro c' st' hst i ⟨hi, hf⟩ ih
 simp (contextual := true) only [go_sem, ifP_eq, Nat.reduceAdd, Nat.reduceSub, Nat.reduceMul, Nat.reduceLT, Nat.reduceLeDiff, Nat.reduceEqDiff, Int.reduceNeg, ↓reduceIte]
 refine iteI (fun hlt => iteI (fun hn => ?_) fun hn => ih (i + 1) _ ⟨by omega, ?_⟩ (by omega) ?_) fun hlt => ?_
 · rw [hf, drop_nth hlt, findIx, if_pos (by simpa using hn)]
 · rw [hf, drop_nth hlt, findIx, if_neg (by simpa using hn)]
 · simp only [go_sem, wrap_succ (show i < 9223372036854775807 by omega)]
 · subst hst
   simp only [go_sem, Nat.reduceAdd, Nat.reduceEqDiff, ↓reduceIte]
   rw [hf, List.drop_eq_nil_of_le (by omega)]; rfl
theorem IndexOfString_good (l : List ByteArray) (n : ByteArray) (h : (l).length ≤ 1000000) : Ans Tryz.prog 142 [.sl (l.map encStr), .str n] (.int .i64 (findIx (fun p => decide (p = n)) (l) 0)) := by
 refine good_run [(2, [4, 6, 7, 8, 9, 10, 11, 12, 13, 14, 15, 16, 17, 18], [])] mixed Tryz.func142 rfl Tryz.ntmps142 (rs := [.tmp 4]) rfl (by decide +kernel) (by kernel_rfl) rfl ?_
 rw [startE_eq 19 _ _ _ rfl rfl]
 simp only [go_sem, ifP_eq, Nat.reduceAdd, Nat.reduceSub, Nat.reduceMul, Nat.reduceLT, Nat.reduceLeDiff, Nat.reduceEqDiff, Int.reduceNeg, ↓reduceIte]
 refine loop_by ([4, 6, 7, 8, 9, 10, 11, 12, 13, 14, 15, 16, 17, 18], []) (fun i : Nat => [(.s 5, .int .i64 (i : Int))]) (fun i => (l).length - i) (fun i => i ≤ (l).length ∧ findIx (fun p => decide (p = n)) (l) 0 = findIx (fun p => decide (p = n)) ((l).drop i) i) 0 rfl ⟨Nat.zero_le _, rfl⟩ rfl ?_
 rintro c' st' hst i ⟨hi, hf⟩ ih
 simp (contextual := true) only [go_sem, ifP_eq, Nat.reduceAdd, Nat.reduceSub, Nat.reduceMul, Nat.reduceLT, Nat.reduceLeDiff, Nat.reduceEqDiff, Int.reduceNeg, ↓reduceIte]
 refine iteI (fun hlt => iteI (fun hn => ?_) fun hn => ih (i + 1) _ ⟨by omega, ?_⟩ (by omega) ?_) fun hlt => ?_
 · rw [hf, drop_nth hlt, findIx, if_pos (by simpa using hn)]
 · rw [hf, drop_nth hlt, findIx, if_neg (by simpa using hn)]
 · simp only [go_sem, wrap_succ (show i < 9223372036854775807 by omega)]
 · subst hst
   simp only [go_sem, Nat.reduceAdd, Nat.reduceEqDiff, ↓reduceIte]
   rw [hf, List.drop_eq_nil_of_le (by omega)]; rfl
theorem IndexS_good (l : List ByteArray) (n : ByteArray) (h : (l).length ≤ 1000000) : Ans Tryz.prog 206 [.sl (l.map encStr), .str n] (.int .i64 (findIx (fun p => decide (p = n)) (l) 0)) := by
 refine good_run [(2, [4, 5, 9, 10, 11, 12, 13, 14, 15, 16, 17, 18], [])] mixed Tryz.func206 rfl Tryz.ntmps206 (rs := [.tmp 4]) rfl (by decide +kernel) (by kernel_rfl) rfl ?_
 rw [startE_eq 19 _ _ _ rfl rfl]
 simp only [go_sem, ifP_eq, Nat.reduceAdd, Nat.reduceSub, Nat.reduceMul, Nat.reduceLT, Nat.reduceLeDiff, Nat.reduceEqDiff, Int.reduceNeg, ↓reduceIte]
 refine loop_by ([4, 5, 9, 10, 11, 12, 13, 14, 15, 16, 17, 18], []) (fun i : Nat => [(.s 8, .int .i64 (i : Int))]) (fun i => (l).length - i) (fun i => i ≤ (l).length ∧ findIx (fun p => decide (p = n)) (l) 0 = findIx (fun p => decide (p = n)) ((l).drop i) i) 0 rfl ⟨Nat.zero_le _, rfl⟩ rfl ?_
 rintro c' st' hst i ⟨hi, hf⟩ ih
 simp (contextual := true) only [go_sem, ifP_eq, Nat.reduceAdd, Nat.reduceSub, Nat.reduceMul, Nat.reduceLT, Nat.reduceLeDiff, Nat.reduceEqDiff, Int.reduceNeg, ↓reduceIte]
 refine iteI (fun hlt => iteI (fun hn => ?_) fun hn => ih (i + 1) _ ⟨by omega, ?_⟩ (by omega) ?_) fun hlt => ?_
 · rw [← hn, hf, drop_nth hlt, findIx, if_pos (by simpa using hn.symm)]
 · rw [hf, drop_nth hlt, findIx, if_neg (by simpa [eq_comm] using hn)]
 · simp only [go_sem, wrap_succ (show i < 9223372036854775807 by omega)]
 · subst hst
   simp only [go_sem, Nat.reduceAdd, Nat.reduceEqDiff, ↓reduceIte]
   rw [hf, List.drop_eq_nil_of_le (by omega)]; rfl
theorem IndexI_good (l : List Int) (n : Int) (h : (l).length ≤ 1000000) : Ans Tryz.prog 235 [.sl (l.map encInt), .int .i64 n] (.int .i64 (findIx (fun p => decide (p = n)) (l) 0)) := by
 refine good_run [(2, [4, 5, 9, 10, 11, 12, 13, 14, 15, 16, 17, 18], [])] mixed Tryz.func235 rfl Tryz.ntmps235 (rs := [.tmp 4]) rfl (by decide +kernel) (by kernel_rfl) rfl ?_
 rw [startE_eq 19 _ _ _ rfl rfl]
 simp only [go_sem, ifP_eq, Nat.reduceAdd, Nat.reduceSub, Nat.reduceMul, Nat.reduceLT, Nat.reduceLeDiff, Nat.reduceEqDiff, Int.reduceNeg, ↓reduceIte]
 refine loop_by ([4, 5, 9, 10, 11, 12, 13, 14, 15, 16, 17, 18], []) (fun i : Nat => [(.s 8, .int .i64 (i : Int))]) (fun i => (l).length - i) (fun i => i ≤ (l).length ∧ findIx (fun p => decide (p = n)) (l) 0 = findIx (fun p => decide (p = n)) ((l).drop i) i) 0 rfl ⟨Nat.zero_le _, rfl⟩ rfl ?_
 rintro c' st' hst i ⟨hi, hf⟩ ih
 simp (contextual := true) only [go_sem, ifP_eq, Nat.reduceAdd, Nat.reduceSub, Nat.reduceMul, Nat.reduceLT, Nat.reduceLeDiff, Nat.reduceEqDiff, Int.reduceNeg, ↓reduceIte]
 refine iteI (fun hlt => iteI (fun hn => ?_) fun hn => ih (i + 1) _ ⟨by omega, ?_⟩ (by omega) ?_) fun hlt => ?_
 · rw [← hn, hf, drop_nth hlt, findIx, if_pos (by simpa using hn.symm)]
 · rw [hf, drop_nth hlt, findIx, if_neg (by simpa [eq_comm] using hn)]
 · simp only [go_sem, wrap_succ (show i < 9223372036854775807 by omega)]
 · subst hst
   simp only [go_sem, Nat.reduceAdd, Nat.reduceEqDiff, ↓reduceIte]
   rw [hf, List.drop_eq_nil_of_le (by omega)]; rfl
theorem isProf_good (p : Prof) (n : ByteArray) : Ans Tryz.prog 205 [.agg (encProf p), .ptr [.str n]] (.bool (decide (p.name = n))) := by
 refine good_run [] mixed Tryz.func205 rfl Tryz.ntmps205 (rs := [.tmp 3]) rfl (by decide +kernel) (by kernel_rfl) rfl ?_
 rw [startE_eq 8 _ _ _ rfl rfl]
 simp only [go_sem, ifP_eq, Nat.reduceAdd, Nat.reduceSub, Nat.reduceMul, Nat.reduceLT, Nat.reduceLeDiff, Nat.reduceEqDiff, Int.reduceNeg, ↓reduceIte]
theorem IndexP_good (l : List Prof) (n : ByteArray) (h : l.length ≤ 1000000) : Ans Tryz.prog 149 [.sl (l.map encProf), .fn 205 [.ptr [.str n]]] (.int .i64 (findIx (fun p => decide (p.name = n)) l 0)) := by
 refine good_run [(2, [4, 5, 9, 10, 11, 12, 13, 14, 15, 16, 17, 18], [])] mixed Tryz.func149 rfl Tryz.ntmps149 (rs := [.tmp 4]) rfl (by decide +kernel) (by kernel_rfl) rfl ?_
 rw [startE_eq 19 _ _ _ rfl rfl]
 simp only [go_sem, ifP_eq, Nat.reduceAdd, Nat.reduceSub, Nat.reduceMul, Nat.reduceLT, Nat.reduceLeDiff, Nat.reduceEqDiff, Int.reduceNeg, ↓reduceIte]
 refine loop_by ([4, 5, 9, 10, 11, 12, 13, 14, 15, 16, 17, 18], []) (fun i : Nat => [(.s 8, .int .i64 (i : Int))]) (fun i => (l).length - i) (fun i => i ≤ (l).length ∧ findIx (fun p => decide (p.name = n)) (l) 0 = findIx (fun p => decide (p.name = n)) ((l).drop i) i) 0 rfl ⟨Nat.zero_le _, rfl⟩ rfl ?_
 rintro c' st' hst i ⟨hi, hf⟩ ih
 simp (contextual := true) only [go_sem, ifP_eq, Nat.reduceAdd, Nat.reduceSub, Nat.reduceMul, Nat.reduceLT, Nat.reduceLeDiff, Nat.reduceEqDiff, Int.reduceNeg, ↓reduceIte]
 refine iteI (fun hlt => call_of (isProf_good (nth l i) n) ?_) fun hlt => ?_
 · simp (contextual := true) only [go_sem, ifP_eq, Nat.reduceAdd, Nat.reduceSub, Nat.reduceMul, Nat.reduceLT, Nat.reduceLeDiff, Nat.reduceEqDiff, Int.reduceNeg, ↓reduceIte]
   refine iteI (fun hn => ?_) fun hn => ih (i + 1) _ ⟨by omega, ?_⟩ (by omega) ?_
   · rw [hf, drop_nth hlt, findIx, if_pos (by simpa using hn)]
   · rw [hf, drop_nth hlt, findIx, if_neg (by simpa using hn)]
   · simp only [go_sem, wrap_succ (show i < 9223372036854775807 by omega)]
 · subst hst
   simp only [go_sem, Nat.reduceAdd, Nat.reduceEqDiff, ↓reduceIte]
   rw [hf, List.drop_eq_nil_of_le (by omega)]; rfl
theorem isList_good (p : AList) (n : ByteArray) : Ans Tryz.prog 213 [.agg (encAList p), .ptr [.str n]] (.bool (decide (p.name = n))) := by
 refine good_run [] mixed Tryz.func213 rfl Tryz.ntmps213 (rs := [.tmp 3]) rfl (by decide +kernel) (by kernel_rfl) rfl ?_
 rw [startE_eq 8 _ _ _ rfl rfl]
 simp only [go_sem, ifP_eq, Nat.reduceAdd, Nat.reduceSub, Nat.reduceMul, Nat.reduceLT, Nat.reduceLeDiff, Nat.reduceEqDiff, Int.reduceNeg, ↓reduceIte]
theorem IndexL_good (l : List AList) (n : ByteArray) (h : l.length ≤ 1000000) : Ans Tryz.prog 212 [.sl (l.map encAList), .fn 213 [.ptr [.str n]]] (.int .i64 (findIx (fun p => decide (p.name = n)) l 0)) := by
 refine good_run [(2, [4, 5, 9, 10, 11, 12, 13, 14, 15, 16, 17, 18], [])] mixed Tryz.func212 rfl Tryz.ntmps212 (rs := [.tmp 4]) rfl (by decide +kernel) (by kernel_rfl) rfl ?_
 rw [startE_eq 19 _ _ _ rfl rfl]
 simp only [go_sem, ifP_eq, Nat.reduceAdd, Nat.reduceSub, Nat.reduceMul, Nat.reduceLT, Nat.reduceLeDiff, Nat.reduceEqDiff, Int.reduceNeg, ↓reduceIte]
 refine loop_by ([4, 5, 9, 10, 11, 12, 13, 14, 15, 16, 17, 18], []) (fun i : Nat => [(.s 8, .int .i64 (i : Int))]) (fun i => (l).length - i) (fun i => i ≤ (l).length ∧ findIx (fun p => decide (p.name = n)) (l) 0 = findIx (fun p => decide (p.name = n)) ((l).drop i) i) 0 rfl ⟨Nat.zero_le _, rfl⟩ rfl ?_
 rintro c' st' hst i ⟨hi, hf⟩ ih
 simp (contextual := true) only [go_sem, ifP_eq, Nat.reduceAdd, Nat.reduceSub, Nat.reduceMul, Nat.reduceLT, Nat.reduceLeDiff, Nat.reduceEqDiff, Int.reduceNeg, ↓reduceIte]
 refine iteI (fun hlt => call_of (isList_good (nth l i) n) ?_) fun hlt => ?_
 · simp (contextual := true) only [go_sem, ifP_eq, Nat.reduceAdd, Nat.reduceSub, Nat.reduceMul, Nat.reduceLT, Nat.reduceLeDiff, Nat.reduceEqDiff, Int.reduceNeg, ↓reduceIte]
   refine iteI (fun hn => ?_) fun hn => ih (i + 1) _ ⟨by omega, ?_⟩ (by omega) ?_
   · rw [hf, drop_nth hlt, findIx, if_pos (by simpa using hn)]
   · rw [hf, drop_nth hlt, findIx, if_neg (by simpa using hn)]
   · simp only [go_sem, wrap_succ (show i < 9223372036854775807 by omega)]
 · subst hst
   simp only [go_sem, Nat.reduceAdd, Nat.reduceEqDiff, ↓reduceIte]
   rw [hf, List.drop_eq_nil_of_le (by omega)]; rfl
theorem isGrant_good (p : Grant) (n : ByteArray) : Ans Tryz.prog 232 [.agg (encGrant p), .ptr [.str n]] (.bool (decide (p.user = n))) := by
 refine good_run [] mixed Tryz.func232 rfl Tryz.ntmps232 (rs := [.tmp 3]) rfl (by decide +kernel) (by kernel_rfl) rfl ?_
 rw [startE_eq 8 _ _ _ rfl rfl]
 simp only [go_sem, ifP_eq, Nat.reduceAdd, Nat.reduceSub, Nat.reduceMul, Nat.reduceLT, Nat.reduceLeDiff, Nat.reduceEqDiff, Int.reduceNeg, ↓reduceIte]
theorem IndexG_good (l : List Grant) (n : ByteArray) (h : l.length ≤ 1000000) : Ans Tryz.prog 231 [.sl (l.map encGrant), .fn 232 [.ptr [.str n]]] (.int .i64 (findIx (fun p => decide (p.user = n)) l 0)) := by
 refine good_run [(2, [4, 5, 9, 10, 11, 12, 13, 14, 15, 16, 17, 18], [])] mixed Tryz.func231 rfl Tryz.ntmps231 (rs := [.tmp 4]) rfl (by decide +kernel) (by kernel_rfl) rfl ?_
 rw [startE_eq 19 _ _ _ rfl rfl]
 simp only [go_sem, ifP_eq, Nat.reduceAdd, Nat.reduceSub, Nat.reduceMul, Nat.reduceLT, Nat.reduceLeDiff, Nat.reduceEqDiff, Int.reduceNeg, ↓reduceIte]
 refine loop_by ([4, 5, 9, 10, 11, 12, 13, 14, 15, 16, 17, 18], []) (fun i : Nat => [(.s 8, .int .i64 (i : Int))]) (fun i => (l).length - i) (fun i => i ≤ (l).length ∧ findIx (fun p => decide (p.user = n)) (l) 0 = findIx (fun p => decide (p.user = n)) ((l).drop i) i) 0 rfl ⟨Nat.zero_le _, rfl⟩ rfl ?_
 rintro c' st' hst i ⟨hi, hf⟩ ih
 simp (contextual := true) only [go_sem, ifP_eq, Nat.reduceAdd, Nat.reduceSub, Nat.reduceMul, Nat.reduceLT, Nat.reduceLeDiff, Nat.reduceEqDiff, Int.reduceNeg, ↓reduceIte]
 refine iteI (fun hlt => call_of (isGrant_good (nth l i) n) ?_) fun hlt => ?_
 · simp (contextual := true) only [go_sem, ifP_eq, Nat.reduceAdd, Nat.reduceSub, Nat.reduceMul, Nat.reduceLT, Nat.reduceLeDiff, Nat.reduceEqDiff, Int.reduceNeg, ↓reduceIte]
   refine iteI (fun hn => ?_) fun hn => ih (i + 1) _ ⟨by omega, ?_⟩ (by omega) ?_
   · rw [hf, drop_nth hlt, findIx, if_pos (by simpa using hn)]
   · rw [hf, drop_nth hlt, findIx, if_neg (by simpa using hn)]
   · simp only [go_sem, wrap_succ (show i < 9223372036854775807 by omega)]
 · subst hst
   simp only [go_sem, Nat.reduceAdd, Nat.reduceEqDiff, ↓reduceIte]
   rw [hf, List.drop_eq_nil_of_le (by omega)]; rfl
set_option maxRecDepth 100000
theorem profile_good (s : Sec) (n : ByteArray) (h : s.profiles.length ≤ 1000000) : Ans Tryz.prog 175 [.agg (encSec s), .str n] (.int .i64 (findIx (fun p => decide (p.name = n)) s.profiles 0)) := by
 refine good_run [] mixed Tryz.func175 rfl Tryz.ntmps175 (rs := [.tmp 4]) rfl (by decide +kernel) (by kernel_rfl) rfl ?_
 rw [startE_eq 9 _ _ _ rfl rfl]
 simp (contextual := true) only [go_sem, ifP_eq, seval]
 refine call_of (IndexP_good s.profiles n h) ?_
 simp (contextual := true) only [go_sem, ifP_eq, seval]
theorem list_good (s : Sec) (n : ByteArray) (h : s.lists.length ≤ 1000000) : Ans Tryz.prog 181 [.agg (encSec s), .str n] (.int .i64 (findIx (fun p => decide (p.name = n)) s.lists 0)) := by
 refine good_run [] mixed Tryz.func181 rfl Tryz.ntmps181 (rs := [.tmp 4]) rfl (by decide +kernel) (by kernel_rfl) rfl ?_
 rw [startE_eq 9 _ _ _ rfl rfl]
 simp (contextual := true) only [go_sem, ifP_eq, seval]
 refine call_of (IndexL_good s.lists n h) ?_
 simp (contextual := true) only [go_sem, ifP_eq, seval]
theorem grant_good (l : List Grant) (n : ByteArray) (h : l.length ≤ 1000000) : Ans Tryz.prog 219 [.sl (l.map encGrant), .str n] (.int .i64 (findIx (fun p => decide (p.user = n)) l 0)) := by
 refine good_run [] mixed Tryz.func219 rfl Tryz.ntmps219 (rs := [.tmp 4]) rfl (by decide +kernel) (by kernel_rfl) rfl ?_
 rw [startE_eq 8 _ _ _ rfl rfl]
 simp (contextual := true) only [go_sem, ifP_eq, seval]
 refine call_of (IndexG_good l n h) ?_
 simp (contextual := true) only [go_sem, ifP_eq, seval]
theorem findIx_ge {α : Type} (p : α → Bool) : ∀ (l : List α) (i : Nat), findIx p l i = -1 ∨ ((i : Int) ≤ findIx p l i ∧ findIx p l i < i + l.length)
 | [], i => .inl rfl
 | a :: l, i => by
   unfold findIx
   split
   · right; simp only [List.length_cons]; omega
   · rcases findIx_ge p l (i + 1) with h | ⟨h, h2⟩
     · exact .inl h
     · right; simp only [List.length_cons]; omega
theorem findIx_any {α : Type} (p : α → Bool) : ∀ (l : List α) (i : Nat), decide (0 ≤ findIx p l i) = l.any p
 | [], i => rfl
 | a :: l, i => by
   unfold findIx
   split
   · rename_i h; simp only [List.any_cons, h, Bool.true_or, decide_eq_true_eq]; omega
   · rename_i h; rw [findIx_any p l (i + 1)]; simp [h]
theorem ContainsS_good (l : List ByteArray) (n : ByteArray) (h : l.length ≤ 1000000) : Ans Tryz.prog 176 [.sl (l.map encStr), .str n] (.bool (l.any fun p => decide (p = n))) := by
 refine good_run [] mixed Tryz.func176 rfl Tryz.ntmps176 (rs := [.tmp 4]) rfl (by decide +kernel) (by kernel_rfl) rfl ?_
 rw [startE_eq 9 _ _ _ rfl rfl]
 simp (contextual := true) only [go_sem, ifP_eq, seval]
 refine call_of (IndexS_good l n h) ?_
 simp (contextual := true) only [go_sem, ifP_eq, seval]
 exact findIx_any _ _ _
theorem ContainsI_good (l : List Int) (n : Int) (h : l.length ≤ 1000000) : Ans Tryz.prog 228 [.sl (l.map encInt), .int .i64 n] (.bool (l.any fun p => decide (p = n))) := by
 refine good_run [] mixed Tryz.func228 rfl Tryz.ntmps228 (rs := [.tmp 4]) rfl (by decide +kernel) (by kernel_rfl) rfl ?_
 rw [startE_eq 9 _ _ _ rfl rfl]
 simp (contextual := true) only [go_sem, ifP_eq, seval]
 refine call_of (IndexI_good l n h) ?_
 simp (contextual := true) only [go_sem, ifP_eq, seval]
 exact findIx_any _ _ _
def isSys (t : Int) : Bool := [0, 5, 6, 23, 24, 25].any fun p : Int => decide (p = t)
theorem isSystem_good (t : Int) : Ans Tryz.prog 211 [.int .i64 t] (.bool (isSys t)) := by
 refine good_run [] mixed Tryz.func211 rfl Tryz.ntmps211 (rs := [.tmp 2]) rfl (by decide +kernel) (by kernel_rfl) rfl ?_
 rw [startE_eq 6 _ _ _ rfl rfl]
 simp (contextual := true) only [go_sem, ifP_eq, seval]
 refine call_of (ContainsI_good [0, 5, 6, 23, 24, 25] t (by decide)) ?_
 simp (contextual := true) only [go_sem, ifP_eq, seval]
 rfl
theorem IsSystem_good (t : Int) : Ans Tryz.prog 204 [.int .i64 t] (.bool (isSys t)) := by
 refine good_run [(1000006, [2, 8], [6, 7]), (1000010, [2, 12], [10, 11]), (1000014, [2, 16], [14, 15]), (1000018, [2, 20], [18, 19]), (1000022, [2, 24], [22, 23])] mixed Tryz.func204 rfl Tryz.ntmps204 (rs := [.tmp 2]) rfl (by decide +kernel) (by kernel_rfl) rfl ?_
 rw [startE_eq 25 _ _ _ rfl rfl]
 simp (contextual := true) only [go_sem, ifP_eq, seval]
 apply join_of
 · simp (contextual := true) only [go_sem, ifP_eq, seval]
   exact joinB
 simp (contextual := true) only [go_sem, ifP_eq, seval]
 apply join_of
 · simp (contextual := true) only [go_sem, ifP_eq, seval]
   exact joinB
 simp (contextual := true) only [go_sem, ifP_eq, seval]
 apply join_of
 · simp (contextual := true) only [go_sem, ifP_eq, seval]
   exact joinB
 simp (contextual := true) only [go_sem, ifP_eq, seval]
 apply join_of
 · simp (contextual := true) only [go_sem, ifP_eq, seval]
   exact joinB
 simp (contextual := true) only [go_sem, ifP_eq, seval]
 apply join_of
 · simp (contextual := true) only [go_sem, ifP_eq, seval]
   exact joinB
 simp (contextual := true) only [go_sem, ifP_eq, seval]
 simp [isSys, Bool.or_assoc, eq_comm]
theorem IsType_good (t : Int) : Ans Tryz.prog 203 [.int .i64 t] (.bool (inB t 0 29)) := by
 refine good_run [] mixed Tryz.func203 rfl Tryz.ntmps203 (rs := [.tmp 2]) rfl (by decide +kernel) (by kernel_rfl) rfl ?_
 rw [startE_eq 5 _ _ _ rfl rfl]
 simp (contextual := true) only [go_sem, ifP_eq, seval]
 refine call_of (Within_good _ _ _) ?_
 simp (contextual := true) only [go_sem, ifP_eq, seval]
def encKind (p : ByteArray × ByteArray) : List AV := [.str p.1, .str p.2]
attribute [go_sem] encKind
def kinds : List (ByteArray × ByteArray) := [
 (⟨#[42, 76, 73, 66]⟩, ⟨#[114, 100, 115]⟩),
 (⟨#[42, 80, 71, 77]⟩, ⟨#[114, 109, 121, 100, 97, 115]⟩),
 (⟨#[42, 83, 82, 86, 80, 71, 77]⟩, ⟨#[114, 109, 121, 100, 115]⟩),
 (⟨#[42, 77, 79, 68, 85, 76, 69]⟩, ⟨#[114, 109, 121, 100, 115]⟩),
 (⟨#[42, 70, 73, 76, 69]⟩, ⟨#[114, 109, 121, 100, 101, 99, 108, 115]⟩),
 (⟨#[42, 85, 83, 82, 80, 82, 70]⟩, ⟨#[100, 101, 99, 115]⟩),
 (⟨#[42, 65, 85, 84, 76]⟩, ⟨#[100, 101, 99, 115]⟩),
 (⟨#[42, 77, 83, 71, 81]⟩, ⟨#[114, 109, 121, 100, 101, 99, 108, 115]⟩),
 (⟨#[42, 77, 83, 71, 70]⟩, ⟨#[114, 109, 121, 100, 101, 99, 115]⟩),
 (⟨#[42, 74, 79, 66, 81]⟩, ⟨#[114, 109, 100, 101, 99, 108, 115]⟩),
 (⟨#[42, 79, 85, 84, 81]⟩, ⟨#[114, 109, 100, 101, 99, 108, 115]⟩),
 (⟨#[42, 74, 79, 66, 68]⟩, ⟨#[114, 109, 121, 100, 101, 99, 115]⟩),
 (⟨#[42, 83, 66, 83, 68]⟩, ⟨#[114, 109, 121, 100, 101, 99, 115]⟩),
 (⟨#[42, 67, 76, 83]⟩, ⟨#[114, 109, 121, 100, 101, 99, 115]⟩),
 (⟨#[42, 67, 77, 68]⟩, ⟨#[114, 109, 121, 100, 99, 97, 115]⟩),
 (⟨#[42, 74, 82, 78]⟩, ⟨#[100, 101, 115]⟩),
 (⟨#[42, 74, 82, 78, 82, 67, 86]⟩, ⟨#[100, 101, 115]⟩),
 (⟨#[42, 68, 84, 65, 65, 82, 65]⟩, ⟨#[114, 109, 121, 100, 101, 99, 115]⟩),
 (⟨#[42, 68, 84, 65, 81]⟩, ⟨#[114, 109, 100, 101, 99, 108, 115]⟩),
 (⟨#[42, 83, 65, 86, 70]⟩, ⟨#[114, 109, 121, 100, 101, 108]⟩),
 (⟨#[42, 85, 83, 82, 83, 80, 67]⟩, ⟨#[114, 109, 121, 100, 101, 99, 115]⟩),
 (⟨#[42, 85, 83, 82, 73, 68, 88]⟩, ⟨#[114, 109, 121, 100, 101, 99, 115]⟩),
 (⟨#[42, 85, 83, 82, 81]⟩, ⟨#[114, 109, 100, 101, 99, 108, 115]⟩),
 (⟨#[42, 68, 69, 86, 68]⟩, ⟨#[114, 100, 101, 99]⟩),
 (⟨#[42, 76, 73, 78, 68]⟩, ⟨#[114, 100, 101, 99]⟩),
 (⟨#[42, 67, 84, 76, 68]⟩, ⟨#[114, 100, 101, 99]⟩),
 (⟨#[42, 69, 68, 84, 68]⟩, ⟨#[100, 101, 115]⟩),
 (⟨#[42, 84, 66, 76]⟩, ⟨#[114, 109, 121, 100, 101, 115]⟩),
 (⟨#[42, 77, 69, 78, 85]⟩, ⟨#[114, 109, 121, 100, 97, 115]⟩),
 (⟨#[42, 81, 82, 89, 68, 70, 78]⟩, ⟨#[114, 109, 121, 100, 101, 99, 97, 115]⟩)]
theorem kinds_good : Ans Tryz.prog 227 [] (.sl (kinds.map encKind)) := by
 refine good_run [] mixed Tryz.func227 rfl Tryz.ntmps227 (rs := [.tmp 0]) rfl (by decide +kernel) (by kernel_rfl) rfl ?_
 rw [startE_eq 32 _ _ _ rfl rfl]
 simp (contextual := true) only [go_sem, ifP_eq, seval]
 simp only [kinds, List.map_cons, List.map_nil, encKind]
theorem isType_good (t : Int) : Ans Tryz.prog 209 [.int .i64 t] (.bool (inB t 0 29)) := by
 refine good_run [] mixed Tryz.func209 rfl Tryz.ntmps209 (rs := [.tmp 2]) rfl (by decide +kernel) (by kernel_rfl) rfl ?_
 rw [startE_eq 11 _ _ _ rfl rfl]
 simp (contextual := true) only [go_sem, ifP_eq, seval]
 refine iteI (fun h => ?_) fun h => ?_
 · refine call_of kinds_good ?_
   simp (contextual := true) only [go_sem, ifP_eq, seval]
   have : kinds.length = 30 := rfl
   rw [this]; simp [inB, h]; omega
 · simp [inB]; omega
def nameByte (i : Nat) (c : Int) : Bool := (inB c 65 90 || decide (c = 36) || decide (c = 35) || decide (c = 64)) || (decide (i ≠ 0) && (inB c 48 57 || decide (c = 95) || decide (c = 46)))
def nameFrom (s : ByteArray) : Nat → Nat → Bool
 | 0, _ => true
 | k + 1, i => nameByte i (byteAt s i) && nameFrom s k (i + 1)
def isNm (s : ByteArray) : Bool := decide (1 ≤ s.size ∧ s.size ≤ 10) && nameFrom s s.size 0
theorem nb1 {i : Nat} {c : Int} (h1 : (!(inB c 65 90 || decide (c = 36) || decide (c = 35) || decide (c = 64))) = true) (h2 : ¬i = 0) :
 if (!inB c 48 57) = true then if ¬c = 95 then (decide ¬c = 46) = !nameByte i c else false = !nameByte i c else false = !nameByte i c := by
 simp only [Bool.not_eq_true', Bool.or_eq_false_iff, decide_eq_false_iff_not] at h1
 simp only [nameByte, h1, h2, not_false_eq_true, decide_true, decide_false, Bool.or_false, Bool.false_or, Bool.true_and, ne_eq]
 cases inB c 48 57 <;> simp
 by_cases h : c = 95 <;> simp [h]
theorem nb2 {i : Nat} {c : Int} (h2 : i = 0) (h1 : (!(inB c 65 90 || decide (c = 36) || decide (c = 35) || decide (c = 64))) = true) : true = !nameByte i c := by
 simp only [Bool.not_eq_true', Bool.or_eq_false_iff, decide_eq_false_iff_not] at h1
 simp [nameByte, h1, h2]
theorem nb3 {i : Nat} {c : Int} (h1 : ¬(!(inB c 65 90 || decide (c = 36) || decide (c = 35) || decide (c = 64))) = true) : false = !nameByte i c := by
 simp only [Bool.not_eq_true, Bool.not_eq_false'] at h1
 simp only [nameByte, h1, Bool.true_or, Bool.not_true]
theorem IsName_good (s : ByteArray) : Ans Tryz.prog 141 [.str s] (.bool (isNm s)) := by
 refine good_run [(4, [2, 4, 5, 10, 11, 12, 13, 14, 15, 16, 17, 18, 19, 20, 21, 22, 23, 24, 25, 26, 27, 28, 29, 30, 31, 32, 33, 34, 35, 36, 37, 38, 39, 40, 41, 42, 43, 44, 45, 46, 47, 48, 49, 50, 51], []), (1000022, [2, 24], [22, 23]), (1000026, [2, 28], [26, 27]), (1000030, [2, 32], [30, 31]), (1000036, [15, 51], [36, 37, 38, 39, 40, 41, 42, 43, 44, 45, 46, 47, 48, 49, 50])] mixed Tryz.func141 rfl Tryz.ntmps141 (rs := [.tmp 2]) rfl (by decide +kernel) (by kernel_rfl) rfl ?_
 rw [startE_eq 52 _ _ _ rfl rfl]
 simp (contextual := true) only [go_sem, ifP_eq, seval]
 refine call_of (Within_good _ _ _) ?_
 simp (contextual := true) only [go_sem, ifP_eq, seval]
 refine iteI (fun h => ?_) (fun h => ?_)
 · simp [inB] at h; simp [isNm]; omega
 · refine loop_by ([2, 4, 5, 10, 11, 12, 13, 14, 15, 16, 17, 18, 19, 20, 21, 22, 23, 24, 25, 26, 27, 28, 29, 30, 31, 32, 33, 34, 35, 36, 37, 38, 39, 40, 41, 42, 43, 44, 45, 46, 47, 48, 49, 50, 51], []) (fun i : Nat => [(.s 3, .int .i64 (i : Int))]) (fun i => s.size - i) (fun i => i ≤ s.size ∧ nameFrom s s.size 0 = nameFrom s (s.size - i) i) 0 rfl ⟨Nat.zero_le _, rfl⟩ rfl ?_
   rintro c' st' hst i ⟨hi, hf⟩ ih
   simp (contextual := true) only [go_sem, ifP_eq, seval]
   refine iteI (fun hlt => call_of (IsUpper_good _) ?_) fun hlt => ?_
   · simp (contextual := true) only [go_sem, ifP_eq, seval]
     apply join_of
     · simp (contextual := true) only [go_sem, ifP_eq, seval]
       exact joinB
     simp (contextual := true) only [go_sem, ifP_eq, seval]
     apply join_of
     · simp (contextual := true) only [go_sem, ifP_eq, seval]
       exact joinB
     simp (contextual := true) only [go_sem, ifP_eq, seval]
     apply join_of
     · simp (contextual := true) only [go_sem, ifP_eq, seval]
       exact joinB
     simp (contextual := true) only [go_sem, ifP_eq, seval]
     refine join_of (!nameByte i (byteAt s i)) ?_ ?_
     · simp (contextual := true) only [go_sem, ifP_eq, seval]
       refine iteI (fun h1 => iteI (fun h2 => call_of (IsDigit_good _) ?_) fun h2 => ?_) fun h1 => ?_
       · simp (contextual := true) only [go_sem, ifP_eq, seval]
         clear ih hf hst h
         exact nb1 h1 (by simpa using h2)
       · clear ih hf hst h
         exact nb2 (by simpa using h2) h1
       · clear ih hf hst h
         exact nb3 h1
     · simp (contextual := true) only [go_sem, ifP_eq, seval]
       refine iteI (fun h1 => ?_) fun h1 => ih (i + 1) _ ⟨by omega, ?_⟩ (by omega) ?_
       · rw [isNm, hf, show s.size - i = (s.size - (i + 1)) + 1 by omega, nameFrom]; simp_all
       · rw [hf, show s.size - i = (s.size - (i + 1)) + 1 by omega, nameFrom]; simp_all
       · simp (contextual := true) only [go_sem, ifP_eq, seval, wrap_succ (show i < 9223372036854775807 by simp [inB] at h; omega)]
   · subst hst
     simp (contextual := true) only [go_sem, ifP_eq, seval]
     rw [isNm, hf, show s.size - i = 0 by omega, nameFrom]; simp [inB] at h ⊢; omega
theorem isName_good (s : ByteArray) : Ans Tryz.prog 210 [.str s] (.bool (isNm s)) := by
 refine good_run [(4, [2, 3, 4, 5, 16, 17, 18, 19, 20, 21, 22, 23, 24, 25, 26, 27, 28, 29, 30, 31, 32, 33, 34, 35, 36, 37, 38, 39, 40, 41, 42, 43, 44, 45, 46, 47, 48, 49, 50, 51, 52, 53, 54, 55, 56, 57, 58, 59, 60, 61, 62], []), (1000009, [3, 12], [9, 10, 11]), (1000024, [2, 26], [24, 25]), (1000028, [2, 30], [28, 29]), (1000032, [2, 34], [32, 33]), (1000036, [2, 38], [36, 37]), (1000042, [19, 61], [42, 43, 44, 45, 46, 47, 48, 49, 50, 51, 52, 53, 54, 55, 56, 57, 58, 59, 60])] mixed Tryz.func210 rfl Tryz.ntmps210 (rs := [.tmp 2]) rfl (by decide +kernel) (by kernel_rfl) rfl ?_
 rw [startE_eq 63 _ _ _ rfl rfl]
 simp (contextual := true) only [go_sem, ifP_eq, seval]
 apply join_of
 · simp (contextual := true) only [go_sem, ifP_eq, seval]
   exact joinB
 simp (contextual := true) only [go_sem, ifP_eq, seval]
 refine iteI (fun h => ?_) (fun h => ?_)
 · simp only [Bool.or_eq_true, decide_eq_true_eq] at h
   rcases h with h | h
   · subst h; rfl
   · simp [isNm]; omega
 · have h0 : 1 ≤ s.size ∧ s.size ≤ 10 := by
    simp only [Bool.or_eq_true, decide_eq_true_eq, not_or] at h
    refine ⟨?_, by omega⟩
    rcases Nat.eq_zero_or_pos s.size with h1 | h1
    · exact absurd (ByteArray.size_eq_zero_iff.1 h1) h.1
    · exact h1
   refine loop_by ([2, 3, 4, 5, 16, 17, 18, 19, 20, 21, 22, 23, 24, 25, 26, 27, 28, 29, 30, 31, 32, 33, 34, 35, 36, 37, 38, 39, 40, 41, 42, 43, 44, 45, 46, 47, 48, 49, 50, 51, 52, 53, 54, 55, 56, 57, 58, 59, 60, 61, 62], []) (fun i : Nat => [(.s 15, .int .i64 (i : Int))]) (fun i => s.size - i) (fun i => i ≤ s.size ∧ nameFrom s s.size 0 = nameFrom s (s.size - i) i) 0 rfl ⟨Nat.zero_le _, rfl⟩ rfl ?_
   rintro c' st' hst i ⟨hi, hf⟩ ih
   simp (contextual := true) only [go_sem, ifP_eq, seval]
   refine iteI (fun hlt => ?_) fun hlt => ?_
   · apply join_of
     · simp (contextual := true) only [go_sem, ifP_eq, seval]
       exact joinB
     simp (contextual := true) only [go_sem, ifP_eq, seval]
     apply join_of
     · simp (contextual := true) only [go_sem, ifP_eq, seval]
       exact joinB
     simp (contextual := true) only [go_sem, ifP_eq, seval]
     apply join_of
     · simp (contextual := true) only [go_sem, ifP_eq, seval]
       exact joinB
     simp (contextual := true) only [go_sem, ifP_eq, seval]
     apply join_of
     · simp (contextual := true) only [go_sem, ifP_eq, seval]
       exact joinB
     simp (contextual := true) only [go_sem, ifP_eq, seval]
     refine join_of (!nameByte i (byteAt s i)) ?_ ?_
     · simp (contextual := true) only [go_sem, ifP_eq, seval]
       clear ih hf hst h h0 hi hlt
       refine iteI (fun h1 => iteI (fun h2 => iteI (fun h3 => iteI (fun h4 => iteI (fun h5 => ?_) fun h5 => ?_) fun h4 => ?_) fun h3 => iteI (fun h5 => ?_) fun h5 => ?_) fun h2 => ?_) fun h1 => ?_ <;> simp_all [nameByte, inB] <;> first | omega | grind
     · simp (contextual := true) only [go_sem, ifP_eq, seval]
       refine iteI (fun h1 => ?_) fun h1 => ih (i + 1) _ ⟨by omega, ?_⟩ (by omega) ?_
       · rw [isNm, hf, show s.size - i = (s.size - (i + 1)) + 1 by omega, nameFrom]; simp_all
       · rw [hf, show s.size - i = (s.size - (i + 1)) + 1 by omega, nameFrom]; simp_all
       · simp (contextual := true) only [go_sem, ifP_eq, seval, wrap_succ (show i < 9223372036854775807 by omega)]
   · subst hst
     simp (contextual := true) only [go_sem, ifP_eq, seval]
     rw [isNm, hf, show s.size - i = 0 by omega, nameFrom]; simp; omega
set_option maxRecDepth 100000
def ren : Go.Shelf.Ren := { f := fun n => if n = 106 then 207 else if n = 213 then 225 else 234, t := fun n => n, g := fun n => n }
theorem lays : Lays.n106 Tryz.prog ren where
 mixed := mixed
 f106 := by kernel_rfl
 f213 := by kernel_rfl
 f265 := by kernel_rfl
 t3 := by kernel_rfl
 a3 := fun w => by kernel_rfl
 z3 := fun w => by kernel_rfl
 v3 := fun w => by kernel_rfl
 t9 := by kernel_rfl
 a9 := fun w => by kernel_rfl
 z9 := fun w => by kernel_rfl
 v9 := fun w => by kernel_rfl
theorem Compare_good (a b : ByteArray) : Ans Tryz.prog 207 [.str a, .str b] (.int .i64 (Lib.compareBytes a.data.toList b.data.toList)) := by
 refine ⟨by kernel_rfl, rfl, fun w Pr vs hsz hvs hpr hgl => ?_⟩
 have h : vs = #[.string a, .string b] := by
  match vs, hsz with
  | ⟨[x, y]⟩, _ =>
    have h0 := hvs 0 _ _ rfl rfl
    have h1 := hvs 1 _ _ rfl rfl
    cases h0; cases h1; rfl
 subst h
 refine (Any.strings_Compare lays a b w).mono fun e w' ⟨he, hw⟩ => ?_
 subst hw
 exact ⟨_, Pr, he, .int _ _, fun _ _ h => h, fun _ _ _ h => h, hpr, BelowD.refl _⟩
def qsys : ByteArray := ⟨#[81, 83, 89, 83]⟩
def clash (n : OName) : Bool := (isSys n.type && decide (¬ n.lib = qsys)) || (decide (n.type = 0) && decide (n.name = qsys))
def errName (n : OName) : Int := if inB n.type 0 29 = false then 4 else if isNm n.lib = false then 7 else if isNm n.name = false then 7 else if clash n = true then 15 else 0
theorem CheckName_good (n : OName) : Ans Tryz.prog 180 [.agg (encOName n)] (.int .i64 (errName n)) := by
 refine good_run [(1000022, [3, 25], [22, 23, 24]), (1000030, [3, 33], [30, 31, 32])] mixed Tryz.func180 rfl Tryz.ntmps180 (rs := [.tmp 2]) rfl (by decide +kernel) (by kernel_rfl) rfl ?_
 rw [startE_eq 34 _ _ _ rfl rfl]
 simp (contextual := true) only [go_sem, ifP_eq, seval]
 refine call_of (isType_good _) ?_
 simp (contextual := true) only [go_sem, ifP_eq, seval]
 refine iteI (fun h1 => ?_) fun h1 => ?_
 · simp only [Bool.not_eq_true'] at h1; rw [errName, if_pos h1]
 refine call_of (isName_good _) ?_
 simp (contextual := true) only [go_sem, ifP_eq, seval]
 simp only [Bool.not_eq_true', Bool.not_eq_false] at h1
 refine iteI (fun h2 => ?_) fun h2 => ?_
 · simp only [Bool.not_eq_true'] at h2; rw [errName, if_neg (by simp [h1]), if_pos h2]
 simp only [Bool.not_eq_true', Bool.not_eq_false] at h2
 refine call_of (isName_good _) ?_
 simp (contextual := true) only [go_sem, ifP_eq, seval]
 refine iteI (fun h3 => ?_) fun h3 => ?_
 · simp only [Bool.not_eq_true'] at h3; rw [errName, if_neg (by simp [h1]), if_neg (by simp [h2]), if_pos h3]
 simp only [Bool.not_eq_true', Bool.not_eq_false] at h3
 refine call_of (isSystem_good _) ?_
 simp (contextual := true) only [go_sem, ifP_eq, seval]
 apply join_of
 · simp (contextual := true) only [go_sem, ifP_eq, seval]
   exact joinB
 simp (contextual := true) only [go_sem, ifP_eq, seval]
 refine iteI (fun h4 => ?_) fun h4 => ?_
 · rw [errName, if_neg (by simp [h1]), if_neg (by simp [h2]), if_neg (by simp [h3]), if_pos (by simp at h4; simp [clash, qsys, h4])]
 apply join_of
 · simp (contextual := true) only [go_sem, ifP_eq, seval]
   exact joinB
 simp (contextual := true) only [go_sem, ifP_eq, seval]
 refine iteI (fun h5 => ?_) fun h5 => ?_
 · rw [errName, if_neg (by simp [h1]), if_neg (by simp [h2]), if_neg (by simp [h3]), if_pos (by simp at h5; simp [clash, qsys, h5])]
 · rw [errName, if_neg (by simp [h1]), if_neg (by simp [h2]), if_neg (by simp [h3]), if_neg (by clear h1 h2 h3; simp only [clash, qsys]; simp_all)]
theorem NameErr_good (n : OName) : Ans Tryz.prog 170 [.agg (encOName n)] (.int .i64 (errName n)) := by
 refine good_run [(1000014, [4, 18], [14, 15, 16, 17]), (1000024, [3, 27], [24, 25, 26]), (1000029, [8, 37], [29, 30, 31, 32, 33, 34, 35, 36])] mixed Tryz.func170 rfl Tryz.ntmps170 (rs := [.tmp 2]) rfl (by decide +kernel) (by kernel_rfl) rfl ?_
 rw [startE_eq 38 _ _ _ rfl rfl]
 simp (contextual := true) only [go_sem, ifP_eq, seval]
 refine call_of (IsType_good _) ?_
 simp (contextual := true) only [go_sem, ifP_eq, seval]
 refine iteI (fun h1 => ?_) fun h1 => ?_
 · simp only [Bool.not_eq_true'] at h1; rw [errName, if_pos h1]
 refine call_of (IsName_good _) ?_
 simp (contextual := true) only [go_sem, ifP_eq, seval]
 simp only [Bool.not_eq_true', Bool.not_eq_false] at h1
 refine join_of (!isNm n.lib || !isNm n.name) ?_ ?_
 · simp (contextual := true) only [go_sem, ifP_eq, seval]
   refine iteI (fun h2 => call_of (IsName_good _) ?_) fun h2 => ?_
   · simp (contextual := true) only [go_sem, ifP_eq, seval]
     try simp [h2]
   · simp [h2]
 simp (contextual := true) only [go_sem, ifP_eq, seval]
 refine iteI (fun h2 => ?_) fun h2 => ?_
 · rw [errName, if_neg (by simp [h1])]
   split
   · rfl
   · rw [if_pos (by simp_all)]
 simp only [Bool.or_eq_true, Bool.not_eq_true', not_or, Bool.not_eq_false] at h2
 refine call_of (IsSystem_good _) ?_
 simp (contextual := true) only [go_sem, ifP_eq, seval]
 apply join_of
 · simp (contextual := true) only [go_sem, ifP_eq, seval]
   exact joinB
 simp (contextual := true) only [go_sem, ifP_eq, seval]
 refine join_of (clash n) ?_ ?_
 · simp (contextual := true) only [go_sem, ifP_eq, seval]
   clear h1 h2
   refine iteI (fun h1 => iteI (fun h2 => ?_) fun h2 => ?_) fun h1 => ?_ <;> simp_all [clash, qsys] <;> cases hs : isSys 0 <;> simp_all <;> exact decide_eq_decide.2 Iff.rfl
 · simp (contextual := true) only [go_sem, ifP_eq, seval]
   have hb : errName n = if clash n = true then 15 else 0 := by
    rw [errName, if_neg (by simp [h1]), if_neg (by simp [h2]), if_neg (by simp [h2])]
   rw [hb]
   split <;> rfl
theorem isName10_good (s : ByteArray) : Ans Tryz.prog 173 [.str s] (.bool (isNm s)) := by
 refine good_run [] mixed Tryz.func173 rfl Tryz.ntmps173 (rs := [.tmp 2]) rfl (by decide +kernel) (by kernel_rfl) rfl ?_
 rw [startE_eq 7 _ _ _ rfl rfl]
 simp (contextual := true) only [go_sem, ifP_eq, seval]
 refine call_of (CheckName_good ⟨qsys, s, 5⟩) ?_
 simp (contextual := true) only [go_sem, ifP_eq, seval]
 have h1 : isNm qsys = true := by decide +kernel
 have h2 : isSys 5 = true := by decide +kernel
 simp [errName, inB, h1, clash, h2]
theorem cmpB_lt : ∀ (a b : List UInt8), (Lib.compareBytes a b < 0) ↔ Go.Op.bytesLess a b = true
 | [], [] => by simp [Lib.compareBytes, Go.Op.bytesLess]
 | [], _ :: _ => by simp [Lib.compareBytes, Go.Op.bytesLess]
 | _ :: _, [] => by simp [Lib.compareBytes, Go.Op.bytesLess]
 | a :: x, b :: y => by
   have ih := cmpB_lt x y
   simp only [Lib.compareBytes, Go.Op.bytesLess, Bool.or_eq_true, decide_eq_true_eq, Bool.and_eq_true, beq_iff_eq]
   split
   · simp_all
   · split
     · rename_i h1 h2
       constructor
       · intro h; omega
       · rintro (h | ⟨h, -⟩)
         · exact absurd h h1
         · subst h; exact absurd h2 h1
     · rename_i h1 h2
       have : a = b := UInt8.le_antisymm (UInt8.not_lt.1 h2) (UInt8.not_lt.1 h1)
       simp [this, ih]
theorem cmpB_eq : ∀ (a b : List UInt8), (Lib.compareBytes a b = 0) ↔ a = b
 | [], [] => by simp [Lib.compareBytes]
 | [], _ :: _ => by simp [Lib.compareBytes]
 | _ :: _, [] => by simp [Lib.compareBytes]
 | a :: x, b :: y => by
   have ih := cmpB_eq x y
   simp only [Lib.compareBytes, List.cons.injEq]
   split
   · rename_i h; constructor
     · intro h; omega
     · rintro ⟨rfl, -⟩; exact absurd h (UInt8.lt_irrefl _)
   · split
     · rename_i h; constructor
       · intro h; omega
       · rintro ⟨rfl, -⟩; exact absurd h (UInt8.lt_irrefl _)
     · rename_i h1 h2
       have : a = b := UInt8.le_antisymm (UInt8.not_lt.1 h2) (UInt8.not_lt.1 h1)
       simp [this, ih]
theorem isNaN_good (n : Int) : Ans Tryz.prog 226 [.int .i64 n] (.bool false) := by
 refine good_run [] mixed Tryz.func226 rfl Tryz.ntmps226 (rs := [.tmp 2]) rfl (by decide +kernel) (by kernel_rfl) rfl ?_
 rw [startE_eq 6 _ _ _ rfl rfl]
 simp (contextual := true) only [go_sem, ifP_eq, seval]
def cmpI (a b : Int) : Int := if a < b then -1 else if b < a then 1 else 0
theorem cmpI_good (a b : Int) : Ans Tryz.prog 208 [.int .i64 a, .int .i64 b] (.int .i64 (cmpI a b)) := by
 refine good_run [] mixed Tryz.func208 rfl Tryz.ntmps208 (rs := [.tmp 4]) rfl (by decide +kernel) (by kernel_rfl) rfl ?_
 rw [startE_eq 20 _ _ _ rfl rfl]
 simp (contextual := true) only [go_sem, ifP_eq, seval]
 refine call_of (isNaN_good _) ?_
 simp (contextual := true) only [go_sem, ifP_eq, seval]
 refine call_of (isNaN_good _) ?_
 simp (contextual := true) only [go_sem, ifP_eq, seval]
 unfold cmpI
 split
 · rfl
 · split <;> rfl
theorem OrI_good (l : List Int) (h : l.length ≤ 1000000) : Ans Tryz.prog 131 [.sl (l.map encInt)] (.int .i64 (firstE l)) := by
 refine good_run [(3, [2, 5, 9, 10, 11, 12, 13, 14, 15, 16], [])] mixed Tryz.func131 rfl Tryz.ntmps131 (rs := [.tmp 2]) rfl (by decide +kernel) (by kernel_rfl) rfl ?_
 rw [startE_eq 18 _ _ _ rfl rfl]
 simp (contextual := true) only [go_sem, ifP_eq, seval]
 refine loop_by ([2, 5, 9, 10, 11, 12, 13, 14, 15, 16], []) (fun i : Nat => [(.s 8, .int .i64 (i : Int))]) (fun i => l.length - i) (fun i => i ≤ l.length ∧ firstE l = firstE (l.drop i)) 0 rfl ⟨Nat.zero_le _, rfl⟩ rfl ?_
 rintro c' st' hst i ⟨hi, hf⟩ ih
 simp (contextual := true) only [go_sem, ifP_eq, seval]
 refine iteI (fun hlt => iteI (fun hn => ?_) fun hn => ih (i + 1) _ ⟨by omega, ?_⟩ (by omega) ?_) fun hlt => ?_
 · rw [hf, drop_nth hlt, firstE, if_neg hn]
 · rw [hf, drop_nth hlt, firstE, if_pos (by omega)]
 · simp (contextual := true) only [go_sem, ifP_eq, seval, wrap_succ (show i < 9223372036854775807 by omega)]
 · subst hst
   simp (contextual := true) only [go_sem, ifP_eq, seval]
   rw [hf, List.drop_eq_nil_of_le (by omega)]; rfl
def sLt (a b : ByteArray) : Bool := Go.Op.bytesLess a.toList b.toList
def nLt (a b : OName) : Bool := if a.lib ≠ b.lib then sLt a.lib b.lib else if a.name ≠ b.name then sLt a.name b.name else decide (a.type < b.type)
theorem Less_good (a b : OName) : Ans Tryz.prog 171 [.agg (encOName a), .agg (encOName b)] (.bool (nLt a b)) := by
 refine good_run [] mixed Tryz.func171 rfl Tryz.ntmps171 (rs := [.tmp 4]) rfl (by decide +kernel) (by kernel_rfl) rfl ?_
 rw [startE_eq 30 _ _ _ rfl rfl]
 simp (contextual := true) only [go_sem, ifP_eq, seval]
 refine iteI (fun h1 => ?_) fun h1 => iteI (fun h2 => ?_) fun h2 => ?_
 · rw [nLt, if_pos h1]; rfl
 · rw [nLt, if_neg h1, if_pos h2]; rfl
 · rw [nLt, if_neg h1, if_neg h2]
def cmpN (a b : OName) : Int := firstE [Lib.compareBytes a.lib.data.toList b.lib.data.toList, Lib.compareBytes a.name.data.toList b.name.data.toList, cmpI a.type b.type]
theorem compare_good (a b : OName) : Ans Tryz.prog 179 [.agg (encOName a), .agg (encOName b)] (.int .i64 (cmpN a b)) := by
 refine good_run [] mixed Tryz.func179 rfl Tryz.ntmps179 (rs := [.tmp 4]) rfl (by decide +kernel) (by kernel_rfl) rfl ?_
 rw [startE_eq 22 _ _ _ rfl rfl]
 simp (contextual := true) only [go_sem, ifP_eq, seval]
 refine callD_of (Compare_good _ _) ?_
 simp (contextual := true) only [go_sem, ifP_eq, seval]
 refine callD_of (Compare_good _ _) ?_
 simp (contextual := true) only [go_sem, ifP_eq, seval]
 refine callD_of (cmpI_good _ _) ?_
 simp (contextual := true) only [go_sem, ifP_eq, seval]
 have ho := OrI_good [Lib.compareBytes a.lib.data.toList b.lib.data.toList, Lib.compareBytes a.name.data.toList b.name.data.toList, cmpI a.type b.type] (by simp)
 simp only [List.map_cons, List.map_nil, encInt] at ho
 refine callD_of ho ?_
 simp (contextual := true) only [go_sem, ifP_eq, seval]
 exact ⟨by decide +kernel, rfl⟩
theorem cmpI_lt (a b : Int) : cmpI a b < 0 ↔ a < b := by
 unfold cmpI; split
 · simp [*]
 · split <;> simp [*]
theorem cmpN_lt (a b : OName) : decide (cmpN a b < 0) = nLt a b := by
 unfold cmpN nLt sLt
 simp only [firstE, cmpB_eq, ByteArray.toList_eq]
 have e : ∀ x y : ByteArray, x.data.toList = y.data.toList ↔ x = y := fun x y => ⟨WideShapes.bytes_inj, fun h => h ▸ rfl⟩
 simp only [e]
 by_cases h1 : a.lib = b.lib
 · rw [if_pos h1, if_neg (Classical.not_not.2 h1 : ¬ a.lib ≠ b.lib)]
   by_cases h2 : a.name = b.name
   · rw [if_pos h2, if_neg (Classical.not_not.2 h2 : ¬ a.name ≠ b.name)]
     split
     · rename_i h3
       unfold cmpI at h3
       split at h3
       · omega
       · simp; omega
     · simp [cmpI_lt]
   · rw [if_neg h2, if_pos h2, Bool.eq_iff_iff, decide_eq_true_eq, cmpB_lt]
 · rw [if_neg h1, if_pos h1, Bool.eq_iff_iff, decide_eq_true_eq, cmpB_lt]
set_option maxRecDepth 100000
theorem lt_trich : ∀ (a b : List UInt8), (!Go.Op.bytesLess a b) = (Go.Op.bytesLess b a || b == a)
 | [], [] => by simp [Go.Op.bytesLess]
 | [], _ :: _ => by simp [Go.Op.bytesLess]
 | _ :: _, [] => by simp [Go.Op.bytesLess]
 | a :: x, b :: y => by
   have ih := lt_trich x y
   simp only [Go.Op.bytesLess, List.cons_beq_cons]
   by_cases h1 : a < b
   · have h2 : ¬ b < a := fun h => UInt8.lt_irrefl _ (UInt8.lt_trans h1 h)
     have h3 : (b == a) = false := by rw [beq_eq_false_iff_ne]; rintro rfl; exact UInt8.lt_irrefl _ h1
     simp [h1, h2, h3]
   · by_cases h2 : b < a
     · have h3 : (a == b) = false := by rw [beq_eq_false_iff_ne]; rintro rfl; exact UInt8.lt_irrefl _ h2
       simp [h1, h2, h3]
     · have : a = b := UInt8.le_antisymm (UInt8.not_lt.1 h2) (UInt8.not_lt.1 h1)
       subst this
       simp [h1, ih]
theorem first3_good (a b c : Int) : Ans Tryz.prog 152 [.sl [[.int .i64 a], [.int .i64 b], [.int .i64 c]]] (.int .i64 (firstE [a, b, c])) := first_good [a, b, c] (by simp)
theorem first4_good (a b c d : Int) : Ans Tryz.prog 152 [.sl [[.int .i64 a], [.int .i64 b], [.int .i64 c], [.int .i64 d]]] (.int .i64 (firstE [a, b, c, d])) := first_good [a, b, c, d] (by simp)
theorem first5_good (a b c d e : Int) : Ans Tryz.prog 152 [.sl [[.int .i64 a], [.int .i64 b], [.int .i64 c], [.int .i64 d], [.int .i64 e]]] (.int .i64 (firstE [a, b, c, d, e])) := first_good [a, b, c, d, e] (by simp)
theorem first7_good (a b c d e f g : Int) : Ans Tryz.prog 152 [.sl [[.int .i64 a], [.int .i64 b], [.int .i64 c], [.int .i64 d], [.int .i64 e], [.int .i64 f], [.int .i64 g]]] (.int .i64 (firstE [a, b, c, d, e, f, g])) := first_good [a, b, c, d, e, f, g] (by simp)
def scan (f : Nat → Int) : Nat → Nat → Int
 | 0, _ => 0
 | k + 1, i => if f i = 0 then scan f k (i + 1) else f i
theorem scan_step {f : Nat → Int} {n i : Nat} (h : i < n) : scan f (n - i) i = if f i = 0 then scan f (n - (i + 1)) (i + 1) else f i := by
 rw [show n - i = (n - (i + 1)) + 1 by omega, scan]
theorem scan_hit {f : Nat → Int} {n i : Nat} {v : Int} (h : i < n) (hv : f i = v) (h0 : v ≠ 0) : scan f (n - i) i = v := by
 rw [scan_step h, hv, if_neg h0]
theorem scan_skip {f : Nat → Int} {n i : Nat} (h : i < n) (hv : f i = 0) : scan f (n - i) i = scan f (n - (i + 1)) (i + 1) := by
 rw [scan_step h, if_pos hv]
def grantE (s : Sec) (l : List Grant) (i : Nat) : Int :=
 firstE [if findIx (fun p => decide (p.name = (nth l i).user)) s.profiles 0 < 0 then 11 else 0, if (decide (0 < i) && !sLt (nth l (i - 1)).user (nth l i).user) = true then 14 else 0, if (!inB (nth l i).auth 0 1023) = true then 3 else 0]
theorem grantE_def (s : Sec) (l : List Grant) (i : Nat) : grantE s l i = firstE [if findIx (fun p => decide (p.name = (nth l i).user)) s.profiles 0 < 0 then 11 else 0, if (decide (0 < i) && !sLt (nth l (i - 1)).user (nth l i).user) = true then 14 else 0, if (!inB (nth l i).auth 0 1023) = true then 3 else 0] := rfl
theorem grantE_cases (s : Sec) (l : List Grant) (i : Nat) : grantE s l i = if findIx (fun p => decide (p.name = (nth l i).user)) s.profiles 0 = -1 then 11 else if 0 < i ∧ (Go.Op.bytesLess (nth l i).user.toList (nth l (i - 1)).user.toList || (nth l i).user.toList == (nth l (i - 1)).user.toList) = true then 14 else if inB (nth l i).auth 0 1023 = false then 3 else 0 := by
 rw [grantE_def, ← lt_trich]
 have h := findIx_ge (fun p => decide (p.name = (nth l i).user)) s.profiles 0
 simp only [firstE, sLt]
 generalize findIx _ _ _ = F at *
 by_cases h1 : F = -1
 · simp [h1]
 · have hF : ¬ F < 0 := by omega
   simp only [hF, h1, ↓reduceIte]
   by_cases h2 : 0 < i ∧ (!Go.Op.bytesLess (nth l (i - 1)).user.toList (nth l i).user.toList) = true
   · rw [if_pos h2]; simp [h2.1]; simp at h2; simp [h2.2]
   · rw [if_neg h2]
     have h3 : (decide (0 < i) && !Go.Op.bytesLess (nth l (i - 1)).user.toList (nth l i).user.toList) = false := by
      rw [Bool.eq_false_iff]; simpa using h2
     simp only [h3, Bool.false_eq_true, if_false, if_true]
     cases inB (nth l i).auth 0 1023 <;> rfl
def grantsE (s : Sec) (l : List Grant) : Int := if 8 < l.length then 2 else scan (grantE s l) l.length 0
set_option maxHeartbeats 4000000 in
theorem grantsErr_good (s : Sec) (l : List Grant) (hs : s.profiles.length ≤ 1000000) (hl : l.length ≤ 1000000) : Ans Tryz.prog 177 [.agg (encSec s), .sl (l.map encGrant)] (.int .i64 (grantsE s l)) := by
 refine good_run [(4, [4, 5, 6, 7, 14, 15, 16, 17, 18, 19, 20, 21, 22, 23, 24, 25, 26, 27, 28, 29, 30, 31, 32, 33, 34, 35, 36, 37, 38, 39, 40, 41, 42, 43, 44, 45, 46, 47, 48, 49], [6, 44])] mixed Tryz.func177 rfl Tryz.ntmps177 (rs := [.tmp 4]) rfl (by decide +kernel) (by kernel_rfl) rfl ?_
 rw [startE_eq 50 _ _ _ rfl rfl]
 simp only [go_sem, seval]
 refine ifI (fun h => ?_) fun h => ?_
 · simp only [go_sem, seval]
   rw [grantsE, if_pos (by omega)]
 · simp only [go_sem, seval]
   have hG : grantsE s l = scan (grantE s l) l.length 0 := by rw [grantsE, if_neg (by omega)]
   refine loop_by ([4, 5, 6, 7, 14, 15, 16, 17, 18, 19, 20, 21, 22, 23, 24, 25, 26, 27, 28, 29, 30, 31, 32, 33, 34, 35, 36, 37, 38, 39, 40, 41, 42, 43, 44, 45, 46, 47, 48, 49], [6, 44]) (fun i : Nat => [(.s 13, .int .i64 (i : Int)), (.o 6, deadV i), (.o 44, deadV i)]) (fun i => l.length - i) (fun i => i ≤ l.length ∧ scan (grantE s l) l.length 0 = scan (grantE s l) (l.length - i) i) 0 rfl ⟨Nat.zero_le _, rfl⟩ rfl ?_
   rintro c' st' hst i ⟨hi, hf⟩ ih
   simp only [go_sem, seval]
   refine ifI (fun hlt => ?_) fun hlt => ?_
   · simp only [go_sem, seval, hlt]
     refine callD_of (profile_good s _ hs) ?_
     simp only [go_sem, seval]
     refine callD_of (cond_good _ _) ?_
     simp only [go_sem, seval]
     refine ifI (fun h1 => ?_) fun h1 => ?_
     · simp only [go_sem, seval, h1, wrap_pred (show 0 < i by omega) (show i ≤ 9223372036854775807 by omega), show i - 1 < l.length by omega]
       refine callD_of (cond_good _ _) ?_
       simp only [go_sem, seval, h1]
       refine callD_of (isAuthority_good _) ?_
       simp only [go_sem, seval]
       refine callD_of (cond_good _ _) ?_
       simp only [go_sem, seval]
       refine callD_of (first3_good _ _ _) ?_
       simp only [go_sem, seval, h1]
       refine ⟨by decide +kernel, ifI (fun h2 => ?_) fun h2 => ?_⟩
       · simp only [go_sem, seval]
         have hg := grantE_def s l i
         rw [decide_eq_true (show 0 < i by omega), Bool.true_and, sLt] at hg
         rw [hG, hf, scan_step hlt, hg]
         exact (if_neg h2).symm
       · simp only [go_sem, seval]
         have hg := grantE_def s l i
         rw [decide_eq_true (show 0 < i by omega), Bool.true_and, sLt] at hg
         refine ih (i + 1) _ ⟨by omega, ?_⟩ (by omega) ?_
         · rw [hf, scan_step hlt, hg]
           exact if_pos (Classical.not_not.1 h2)
         · simp only [go_sem, seval, wrap_succ (show i < 9223372036854775807 by omega)]
     · simp only [go_sem, seval, h1]
       refine callD_of (cond_good _ _) ?_
       simp only [go_sem, seval, h1]
       refine callD_of (isAuthority_good _) ?_
       simp only [go_sem, seval, h1]
       refine callD_of (cond_good _ _) ?_
       simp only [go_sem, seval, h1]
       refine callD_of (first3_good _ _ _) ?_
       simp only [go_sem, seval, h1]
       refine ⟨by decide +kernel, ifI (fun h2 => ?_) fun h2 => ?_⟩
       · simp only [go_sem, seval]
         have hg := grantE_def s l i
         rw [decide_eq_false (show ¬ 0 < i by omega), Bool.false_and, if_neg (by simp : ¬ false = true)] at hg
         rw [hG, hf, scan_step hlt, hg]
         exact (if_neg h2).symm
       · simp only [go_sem, seval]
         have hg := grantE_def s l i
         rw [decide_eq_false (show ¬ 0 < i by omega), Bool.false_and, if_neg (by simp : ¬ false = true)] at hg
         refine ih (i + 1) _ ⟨by omega, ?_⟩ (by omega) ?_
         · rw [hf, scan_step hlt, hg]
           exact if_pos (Classical.not_not.1 h2)
         · simp only [go_sem, seval, wrap_succ (show i < 9223372036854775807 by omega)]
   · subst hst
     simp only [go_sem, seval]
     rw [hG, hf, show l.length - i = 0 by omega]; rfl
set_option maxHeartbeats 4000000 in
theorem grantsErrR_good (s : Sec) (l : List Grant) (hs : s.profiles.length ≤ 1000000) (hl : l.length ≤ 1000000) : Ans Tryz.prog 143 [.agg (encSec s), .sl (l.map encGrant)] (.int .i64 (grantsE s l)) := by
 refine good_run [(4, [4, 9, 10, 11, 12, 13, 14, 15, 16, 17, 18, 19, 20, 21, 22, 23, 24, 25, 26, 27, 28, 29, 30, 31, 32, 33, 34, 35, 36, 37, 38, 39, 40, 41, 42, 43, 44, 45, 46, 47, 48], [])] mixed Tryz.func143 rfl Tryz.ntmps143 (rs := [.tmp 4]) rfl (by decide +kernel) (by kernel_rfl) rfl ?_
 rw [startE_eq 49 _ _ _ rfl rfl]
 simp only [go_sem, seval]
 refine ifI (fun h => ?_) fun h => ?_
 · simp only [go_sem, seval]
   rw [grantsE, if_pos (by omega)]
 · simp only [go_sem, seval]
   have hG : grantsE s l = scan (grantE s l) l.length 0 := by rw [grantsE, if_neg (by omega)]
   refine loop_by ([4, 9, 10, 11, 12, 13, 14, 15, 16, 17, 18, 19, 20, 21, 22, 23, 24, 25, 26, 27, 28, 29, 30, 31, 32, 33, 34, 35, 36, 37, 38, 39, 40, 41, 42, 43, 44, 45, 46, 47, 48], []) (fun i : Nat => [(.s 5, .int .i64 (i : Int))]) (fun i => l.length - i) (fun i => i ≤ l.length ∧ scan (grantE s l) l.length 0 = scan (grantE s l) (l.length - i) i) 0 rfl ⟨Nat.zero_le _, rfl⟩ rfl ?_
   rintro c' st' hst i ⟨hi, hf⟩ ih
   simp only [go_sem, seval]
   refine ifI (fun hlt => ?_) fun hlt => ?_
   · simp only [go_sem, seval, hlt]
     refine callD_of (User_good s _ hs) ?_
     simp only [go_sem, seval]
     refine ⟨by decide +kernel, ifI (fun h1 => ?_) fun h1 => ?_⟩
     · simp only [go_sem, seval]
       exact (hG.trans (hf.trans (scan_hit hlt (by rw [grantE_cases, if_pos h1]) (by decide)))).symm
     · simp only [go_sem, seval]
       refine ifI (fun h2 => ?_) fun h2 => ?_
       · simp only [go_sem, seval, hlt, h2, wrap_pred (show 0 < i by omega) (show i ≤ 9223372036854775807 by omega), show i - 1 < l.length by omega]
         refine ⟨by decide +kernel, ifI (fun h3 => ?_) fun h3 => ?_⟩
         · simp only [go_sem, seval]
           exact (hG.trans (hf.trans (scan_hit hlt (by rw [grantE_cases, if_neg h1, if_pos ⟨by omega, h3⟩]) (by decide)))).symm
         · simp only [go_sem, seval, hlt]
           refine call_of (IsAuthority_good _) ?_
           simp only [go_sem, seval]
           refine ifI (fun h4 => ?_) fun h4 => ?_
           · simp only [go_sem, seval]
             exact (hG.trans (hf.trans (scan_hit hlt (by rw [grantE_cases, if_neg h1, if_neg (fun h => h3 h.2), if_pos (by simpa using h4)]) (by decide)))).symm
           · simp only [go_sem, seval]
             refine ih (i + 1) _ ⟨by omega, ?_⟩ (by omega) ?_
             · exact hf.trans (scan_skip hlt (by rw [grantE_cases, if_neg h1, if_neg (fun h => h3 h.2), if_neg (by simpa using h4)]))
             · simp only [go_sem, seval, wrap_succ (show i < 9223372036854775807 by omega)]
       · simp only [go_sem, seval, h2, hlt]
         refine ⟨by decide +kernel, ?_⟩
         refine call_of (IsAuthority_good _) ?_
         simp only [go_sem, seval]
         refine ifI (fun h4 => ?_) fun h4 => ?_
         · simp only [go_sem, seval]
           exact (hG.trans (hf.trans (scan_hit hlt (by rw [grantE_cases, if_neg h1, if_neg (fun h => h2 (by omega)), if_pos (by simpa using h4)]) (by decide)))).symm
         · simp only [go_sem, seval]
           refine ih (i + 1) _ ⟨by omega, ?_⟩ (by omega) ?_
           · exact hf.trans (scan_skip hlt (by rw [grantE_cases, if_neg h1, if_neg (fun h => h2 (by omega)), if_neg (by simpa using h4)]))
           · simp only [go_sem, seval, wrap_succ (show i < 9223372036854775807 by omega)]
   · subst hst
     simp only [go_sem, seval]
     rw [hG, hf, show l.length - i = 0 by omega]; rfl
end Go.Proofs.YtbhgehhmjpipiaaGreatDoor.C10
