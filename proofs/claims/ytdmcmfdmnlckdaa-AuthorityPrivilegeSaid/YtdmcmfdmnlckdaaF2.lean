/- Chapter 10: the searches. Printed by a program of this work. -/
import Derived.Test.YtdmcmfdmnlckdaaF1
namespace Go.Proofs.Ytdmcmfdmnlckdaa.C10
open Go Go.Proofs Go.Proofs.Ytdmcmfdmnlckdaa.Ab
set_option linter.unusedSimpArgs false
attribute [local congr] ite_ctx

/-- The index of the first entry that fits, or -1. -/
def findIx {α : Type} (p : α → Bool) : List α → Nat → Int
  | [], _ => -1
  | a :: l, i => if p a = true then i else findIx p l (i + 1)

theorem User_good (s : Sec) (n : ByteArray) (h : (s.profiles).length ≤ 1000000) : Ans Try.prog 22 [.agg (encSec s), .str n] (.int .i64 (findIx (fun p => decide (p.name = n)) (s.profiles) 0)) := by
  refine good_run [(2, [4, 6, 7, 8, 9, 10, 11, 12, 13, 14, 15, 16, 17, 18, 19, 20, 21], [])] mixed Try.func22 rfl Try.ntmps22 (rs := [.tmp 4]) rfl (by decide +kernel) (by kernel_rfl) rfl ?_
  rw [startE_eq 22 _ _ _ rfl rfl]
  simp only [go_sem, ifP_eq, Nat.reduceAdd, Nat.reduceSub, Nat.reduceMul, Nat.reduceLT, Nat.reduceLeDiff, Nat.reduceEqDiff, Int.reduceNeg, ↓reduceIte]
  refine loop_by ([4, 6, 7, 8, 9, 10, 11, 12, 13, 14, 15, 16, 17, 18, 19, 20, 21], []) (fun i : Nat => [(.s 5, .int .i64 (i : Int))]) (fun i => (s.profiles).length - i) (fun i => i ≤ (s.profiles).length ∧ findIx (fun p => decide (p.name = n)) (s.profiles) 0 = findIx (fun p => decide (p.name = n)) ((s.profiles).drop i) i) 0 rfl ⟨Nat.zero_le _, rfl⟩ rfl ?_
  rintro c' st' hst i ⟨hi, hf⟩ ih
  simp (contextual := true) only [go_sem, ifP_eq, Nat.reduceAdd, Nat.reduceSub, Nat.reduceMul, Nat.reduceLT, Nat.reduceLeDiff, Nat.reduceEqDiff, Int.reduceNeg, ↓reduceIte]
  refine iteI (fun hlt => iteI (fun hn => ?_) fun hn => ih (i + 1) _ ⟨by omega, ?_⟩ (by omega) ?_) fun hlt => ?_
  · rw [hf, drop_nth hlt, findIx, if_pos (by simpa using hn)]
  · rw [hf, drop_nth hlt, findIx, if_neg (by simpa using hn)]
  · simp only [go_sem, wrap_succ (show i < 9223372036854775807 by omega)]
  · subst hst
    simp only [go_sem, Nat.reduceAdd, Nat.reduceEqDiff, ↓reduceIte]
    rw [hf, List.drop_eq_nil_of_le (by omega)]; rfl

theorem List_good (s : Sec) (n : ByteArray) (h : (s.lists).length ≤ 1000000) : Ans Try.prog 73 [.agg (encSec s), .str n] (.int .i64 (findIx (fun p => decide (p.name = n)) (s.lists) 0)) := by
  refine good_run [(2, [4, 6, 7, 8, 9, 10, 11, 12, 13, 14, 15, 16, 17, 18, 19, 20, 21], [])] mixed Try.func73 rfl Try.ntmps73 (rs := [.tmp 4]) rfl (by decide +kernel) (by kernel_rfl) rfl ?_
  rw [startE_eq 22 _ _ _ rfl rfl]
  simp only [go_sem, ifP_eq, Nat.reduceAdd, Nat.reduceSub, Nat.reduceMul, Nat.reduceLT, Nat.reduceLeDiff, Nat.reduceEqDiff, Int.reduceNeg, ↓reduceIte]
  refine loop_by ([4, 6, 7, 8, 9, 10, 11, 12, 13, 14, 15, 16, 17, 18, 19, 20, 21], []) (fun i : Nat => [(.s 5, .int .i64 (i : Int))]) (fun i => (s.lists).length - i) (fun i => i ≤ (s.lists).length ∧ findIx (fun p => decide (p.name = n)) (s.lists) 0 = findIx (fun p => decide (p.name = n)) ((s.lists).drop i) i) 0 rfl ⟨Nat.zero_le _, rfl⟩ rfl ?_
  rintro c' st' hst i ⟨hi, hf⟩ ih
  simp (contextual := true) only [go_sem, ifP_eq, Nat.reduceAdd, Nat.reduceSub, Nat.reduceMul, Nat.reduceLT, Nat.reduceLeDiff, Nat.reduceEqDiff, Int.reduceNeg, ↓reduceIte]
  refine iteI (fun hlt => iteI (fun hn => ?_) fun hn => ih (i + 1) _ ⟨by omega, ?_⟩ (by omega) ?_) fun hlt => ?_
  · rw [hf, drop_nth hlt, findIx, if_pos (by simpa using hn)]
  · rw [hf, drop_nth hlt, findIx, if_neg (by simpa using hn)]
  · simp only [go_sem, wrap_succ (show i < 9223372036854775807 by omega)]
  · subst hst
    simp only [go_sem, Nat.reduceAdd, Nat.reduceEqDiff, ↓reduceIte]
    rw [hf, List.drop_eq_nil_of_le (by omega)]; rfl

theorem Private_good (l : List Grant) (n : ByteArray) (h : (l).length ≤ 1000000) : Ans Try.prog 31 [.sl (l.map encGrant), .str n] (.int .i64 (findIx (fun p => decide (p.user = n)) (l) 0)) := by
  refine good_run [(2, [4, 6, 7, 8, 9, 10, 11, 12, 13, 14, 15, 16, 17, 18, 19], [])] mixed Try.func31 rfl Try.ntmps31 (rs := [.tmp 4]) rfl (by decide +kernel) (by kernel_rfl) rfl ?_
  rw [startE_eq 20 _ _ _ rfl rfl]
  simp only [go_sem, ifP_eq, Nat.reduceAdd, Nat.reduceSub, Nat.reduceMul, Nat.reduceLT, Nat.reduceLeDiff, Nat.reduceEqDiff, Int.reduceNeg, ↓reduceIte]
  refine loop_by ([4, 6, 7, 8, 9, 10, 11, 12, 13, 14, 15, 16, 17, 18, 19], []) (fun i : Nat => [(.s 5, .int .i64 (i : Int))]) (fun i => (l).length - i) (fun i => i ≤ (l).length ∧ findIx (fun p => decide (p.user = n)) (l) 0 = findIx (fun p => decide (p.user = n)) ((l).drop i) i) 0 rfl ⟨Nat.zero_le _, rfl⟩ rfl ?_
  rintro c' st' hst i ⟨hi, hf⟩ ih
  simp (contextual := true) only [go_sem, ifP_eq, Nat.reduceAdd, Nat.reduceSub, Nat.reduceMul, Nat.reduceLT, Nat.reduceLeDiff, Nat.reduceEqDiff, Int.reduceNeg, ↓reduceIte]
  refine iteI (fun hlt => iteI (fun hn => ?_) fun hn => ih (i + 1) _ ⟨by omega, ?_⟩ (by omega) ?_) fun hlt => ?_
  · rw [hf, drop_nth hlt, findIx, if_pos (by simpa using hn)]
  · rw [hf, drop_nth hlt, findIx, if_neg (by simpa using hn)]
  · simp only [go_sem, wrap_succ (show i < 9223372036854775807 by omega)]
  · subst hst
    simp only [go_sem, Nat.reduceAdd, Nat.reduceEqDiff, ↓reduceIte]
    rw [hf, List.drop_eq_nil_of_le (by omega)]; rfl

theorem IndexOfString_good (l : List ByteArray) (n : ByteArray) (h : (l).length ≤ 1000000) : Ans Try.prog 40 [.sl (l.map encStr), .str n] (.int .i64 (findIx (fun p => decide (p = n)) (l) 0)) := by
  refine good_run [(2, [4, 6, 7, 8, 9, 10, 11, 12, 13, 14, 15, 16, 17, 18], [])] mixed Try.func40 rfl Try.ntmps40 (rs := [.tmp 4]) rfl (by decide +kernel) (by kernel_rfl) rfl ?_
  rw [startE_eq 19 _ _ _ rfl rfl]
  simp only [go_sem, ifP_eq, Nat.reduceAdd, Nat.reduceSub, Nat.reduceMul, Nat.reduceLT, Nat.reduceLeDiff, Nat.reduceEqDiff, Int.reduceNeg, ↓reduceIte]
  refine loop_by ([4, 6, 7, 8, 9, 10, 11, 12, 13, 14, 15, 16, 17, 18], []) (fun i : Nat => [(.s 5, .int .i64 (i : Int))]) (fun i => (l).length - i) (fun i => i ≤ (l).length ∧ findIx (fun p => decide (p = n)) (l) 0 = findIx (fun p => decide (p = n)) ((l).drop i) i) 0 rfl ⟨Nat.zero_le _, rfl⟩ rfl ?_
  rintro c' st' hst i ⟨hi, hf⟩ ih
  simp (contextual := true) only [go_sem, ifP_eq, Nat.reduceAdd, Nat.reduceSub, Nat.reduceMul, Nat.reduceLT, Nat.reduceLeDiff, Nat.reduceEqDiff, Int.reduceNeg, ↓reduceIte]
  refine iteI (fun hlt => iteI (fun hn => ?_) fun hn => ih (i + 1) _ ⟨by omega, ?_⟩ (by omega) ?_) fun hlt => ?_
  · rw [hf, drop_nth hlt, findIx, if_pos (by simpa using hn)]
  · rw [hf, drop_nth hlt, findIx, if_neg (by simpa using hn)]
  · simp only [go_sem, wrap_succ (show i < 9223372036854775807 by omega)]
  · subst hst
    simp only [go_sem, Nat.reduceAdd, Nat.reduceEqDiff, ↓reduceIte]
    rw [hf, List.drop_eq_nil_of_le (by omega)]; rfl

theorem IndexS_good (l : List ByteArray) (n : ByteArray) (h : (l).length ≤ 1000000) : Ans Try.prog 113 [.sl (l.map encStr), .str n] (.int .i64 (findIx (fun p => decide (p = n)) (l) 0)) := by
  refine good_run [(2, [4, 5, 9, 10, 11, 12, 13, 14, 15, 16, 17, 18], [])] mixed Try.func113 rfl Try.ntmps113 (rs := [.tmp 4]) rfl (by decide +kernel) (by kernel_rfl) rfl ?_
  rw [startE_eq 19 _ _ _ rfl rfl]
  simp only [go_sem, ifP_eq, Nat.reduceAdd, Nat.reduceSub, Nat.reduceMul, Nat.reduceLT, Nat.reduceLeDiff, Nat.reduceEqDiff, Int.reduceNeg, ↓reduceIte]
  refine loop_by ([4, 5, 9, 10, 11, 12, 13, 14, 15, 16, 17, 18], []) (fun i : Nat => [(.s 8, .int .i64 (i : Int))]) (fun i => (l).length - i) (fun i => i ≤ (l).length ∧ findIx (fun p => decide (p = n)) (l) 0 = findIx (fun p => decide (p = n)) ((l).drop i) i) 0 rfl ⟨Nat.zero_le _, rfl⟩ rfl ?_
  rintro c' st' hst i ⟨hi, hf⟩ ih
  simp (contextual := true) only [go_sem, ifP_eq, Nat.reduceAdd, Nat.reduceSub, Nat.reduceMul, Nat.reduceLT, Nat.reduceLeDiff, Nat.reduceEqDiff, Int.reduceNeg, ↓reduceIte]
  refine iteI (fun hlt => iteI (fun hn => ?_) fun hn => ih (i + 1) _ ⟨by omega, ?_⟩ (by omega) ?_) fun hlt => ?_
  · rw [← hn, hf, drop_nth hlt, findIx, if_pos (by simpa using hn.symm)]
  · rw [hf, drop_nth hlt, findIx, if_neg (by simpa [eq_comm] using hn)]
  · simp only [go_sem, wrap_succ (show i < 9223372036854775807 by omega)]
  · subst hst
    simp only [go_sem, Nat.reduceAdd, Nat.reduceEqDiff, ↓reduceIte]
    rw [hf, List.drop_eq_nil_of_le (by omega)]; rfl

theorem IndexI_good (l : List Int) (n : Int) (h : (l).length ≤ 1000000) : Ans Try.prog 131 [.sl (l.map encInt), .int .i64 n] (.int .i64 (findIx (fun p => decide (p = n)) (l) 0)) := by
  refine good_run [(2, [4, 5, 9, 10, 11, 12, 13, 14, 15, 16, 17, 18], [])] mixed Try.func131 rfl Try.ntmps131 (rs := [.tmp 4]) rfl (by decide +kernel) (by kernel_rfl) rfl ?_
  rw [startE_eq 19 _ _ _ rfl rfl]
  simp only [go_sem, ifP_eq, Nat.reduceAdd, Nat.reduceSub, Nat.reduceMul, Nat.reduceLT, Nat.reduceLeDiff, Nat.reduceEqDiff, Int.reduceNeg, ↓reduceIte]
  refine loop_by ([4, 5, 9, 10, 11, 12, 13, 14, 15, 16, 17, 18], []) (fun i : Nat => [(.s 8, .int .i64 (i : Int))]) (fun i => (l).length - i) (fun i => i ≤ (l).length ∧ findIx (fun p => decide (p = n)) (l) 0 = findIx (fun p => decide (p = n)) ((l).drop i) i) 0 rfl ⟨Nat.zero_le _, rfl⟩ rfl ?_
  rintro c' st' hst i ⟨hi, hf⟩ ih
  simp (contextual := true) only [go_sem, ifP_eq, Nat.reduceAdd, Nat.reduceSub, Nat.reduceMul, Nat.reduceLT, Nat.reduceLeDiff, Nat.reduceEqDiff, Int.reduceNeg, ↓reduceIte]
  refine iteI (fun hlt => iteI (fun hn => ?_) fun hn => ih (i + 1) _ ⟨by omega, ?_⟩ (by omega) ?_) fun hlt => ?_
  · rw [← hn, hf, drop_nth hlt, findIx, if_pos (by simpa using hn.symm)]
  · rw [hf, drop_nth hlt, findIx, if_neg (by simpa [eq_comm] using hn)]
  · simp only [go_sem, wrap_succ (show i < 9223372036854775807 by omega)]
  · subst hst
    simp only [go_sem, Nat.reduceAdd, Nat.reduceEqDiff, ↓reduceIte]
    rw [hf, List.drop_eq_nil_of_le (by omega)]; rfl

theorem isProf_good (p : Prof) (n : ByteArray) : Ans Try.prog 112 [.agg (encProf p), .ptr [.str n]] (.bool (decide (p.name = n))) := by
  refine good_run [] mixed Try.func112 rfl Try.ntmps112 (rs := [.tmp 3]) rfl (by decide +kernel) (by kernel_rfl) rfl ?_
  rw [startE_eq 8 _ _ _ rfl rfl]
  simp only [go_sem, ifP_eq, Nat.reduceAdd, Nat.reduceSub, Nat.reduceMul, Nat.reduceLT, Nat.reduceLeDiff, Nat.reduceEqDiff, Int.reduceNeg, ↓reduceIte]

theorem IndexP_good (l : List Prof) (n : ByteArray) (h : l.length ≤ 1000000) : Ans Try.prog 111 [.sl (l.map encProf), .fn 112 [.ptr [.str n]]] (.int .i64 (findIx (fun p => decide (p.name = n)) l 0)) := by
  refine good_run [(2, [4, 5, 9, 10, 11, 12, 13, 14, 15, 16, 17, 18], [])] mixed Try.func111 rfl Try.ntmps111 (rs := [.tmp 4]) rfl (by decide +kernel) (by kernel_rfl) rfl ?_
  rw [startE_eq 19 _ _ _ rfl rfl]
  simp only [go_sem, ifP_eq, Nat.reduceAdd, Nat.reduceSub, Nat.reduceMul, Nat.reduceLT, Nat.reduceLeDiff, Nat.reduceEqDiff, Int.reduceNeg, ↓reduceIte]
  refine loop_by ([4, 5, 9, 10, 11, 12, 13, 14, 15, 16, 17, 18], []) (fun i : Nat => [(.s 8, .int .i64 (i : Int))]) (fun i => (l).length - i) (fun i => i ≤ (l).length ∧ findIx (fun p => decide (p.name = n)) (l) 0 = findIx (fun p => decide (p.name = n)) ((l).drop i) i) 0 rfl ⟨Nat.zero_le _, rfl⟩ rfl ?_
  rintro c' st' hst i ⟨hi, hf⟩ ih
  simp (contextual := true) only [go_sem, ifP_eq, Nat.reduceAdd, Nat.reduceSub, Nat.reduceMul, Nat.reduceLT, Nat.reduceLeDiff, Nat.reduceEqDiff, Int.reduceNeg, ↓reduceIte]
  refine iteI (fun hlt => call_of (isProf_good (nth l i) n) ?_) fun hlt => ?_
  · simp (contextual := true) only [go_sem, ifP_eq, Nat.reduceAdd, Nat.reduceSub, Nat.reduceMul, Nat.reduceLT, Nat.reduceLeDiff, Nat.reduceEqDiff, Int.reduceNeg, ↓reduceIte]
    refine iteI (fun hn => ?_) fun hn => ih (i + 1) _ ⟨by omega, ?_⟩ (by omega) ?_
    · rw [hf, drop_nth hlt, findIx, if_pos (by simpa using hn)]
    · rw [hf, drop_nth hlt, findIx, if_neg (by simpa using hn)]
    · simp only [go_sem, wrap_succ (show i < 9223372036854775807 by omega)]
  · subst hst
    simp only [go_sem, Nat.reduceAdd, Nat.reduceEqDiff, ↓reduceIte]
    rw [hf, List.drop_eq_nil_of_le (by omega)]; rfl

theorem isList_good (p : AList) (n : ByteArray) : Ans Try.prog 120 [.agg (encAList p), .ptr [.str n]] (.bool (decide (p.name = n))) := by
  refine good_run [] mixed Try.func120 rfl Try.ntmps120 (rs := [.tmp 3]) rfl (by decide +kernel) (by kernel_rfl) rfl ?_
  rw [startE_eq 8 _ _ _ rfl rfl]
  simp only [go_sem, ifP_eq, Nat.reduceAdd, Nat.reduceSub, Nat.reduceMul, Nat.reduceLT, Nat.reduceLeDiff, Nat.reduceEqDiff, Int.reduceNeg, ↓reduceIte]

theorem IndexL_good (l : List AList) (n : ByteArray) (h : l.length ≤ 1000000) : Ans Try.prog 119 [.sl (l.map encAList), .fn 120 [.ptr [.str n]]] (.int .i64 (findIx (fun p => decide (p.name = n)) l 0)) := by
  refine good_run [(2, [4, 5, 9, 10, 11, 12, 13, 14, 15, 16, 17, 18], [])] mixed Try.func119 rfl Try.ntmps119 (rs := [.tmp 4]) rfl (by decide +kernel) (by kernel_rfl) rfl ?_
  rw [startE_eq 19 _ _ _ rfl rfl]
  simp only [go_sem, ifP_eq, Nat.reduceAdd, Nat.reduceSub, Nat.reduceMul, Nat.reduceLT, Nat.reduceLeDiff, Nat.reduceEqDiff, Int.reduceNeg, ↓reduceIte]
  refine loop_by ([4, 5, 9, 10, 11, 12, 13, 14, 15, 16, 17, 18], []) (fun i : Nat => [(.s 8, .int .i64 (i : Int))]) (fun i => (l).length - i) (fun i => i ≤ (l).length ∧ findIx (fun p => decide (p.name = n)) (l) 0 = findIx (fun p => decide (p.name = n)) ((l).drop i) i) 0 rfl ⟨Nat.zero_le _, rfl⟩ rfl ?_
  rintro c' st' hst i ⟨hi, hf⟩ ih
  simp (contextual := true) only [go_sem, ifP_eq, Nat.reduceAdd, Nat.reduceSub, Nat.reduceMul, Nat.reduceLT, Nat.reduceLeDiff, Nat.reduceEqDiff, Int.reduceNeg, ↓reduceIte]
  refine iteI (fun hlt => call_of (isList_good (nth l i) n) ?_) fun hlt => ?_
  · simp (contextual := true) only [go_sem, ifP_eq, Nat.reduceAdd, Nat.reduceSub, Nat.reduceMul, Nat.reduceLT, Nat.reduceLeDiff, Nat.reduceEqDiff, Int.reduceNeg, ↓reduceIte]
    refine iteI (fun hn => ?_) fun hn => ih (i + 1) _ ⟨by omega, ?_⟩ (by omega) ?_
    · rw [hf, drop_nth hlt, findIx, if_pos (by simpa using hn)]
    · rw [hf, drop_nth hlt, findIx, if_neg (by simpa using hn)]
    · simp only [go_sem, wrap_succ (show i < 9223372036854775807 by omega)]
  · subst hst
    simp only [go_sem, Nat.reduceAdd, Nat.reduceEqDiff, ↓reduceIte]
    rw [hf, List.drop_eq_nil_of_le (by omega)]; rfl

theorem isGrant_good (p : Grant) (n : ByteArray) : Ans Try.prog 110 [.agg (encGrant p), .ptr [.str n]] (.bool (decide (p.user = n))) := by
  refine good_run [] mixed Try.func110 rfl Try.ntmps110 (rs := [.tmp 3]) rfl (by decide +kernel) (by kernel_rfl) rfl ?_
  rw [startE_eq 8 _ _ _ rfl rfl]
  simp only [go_sem, ifP_eq, Nat.reduceAdd, Nat.reduceSub, Nat.reduceMul, Nat.reduceLT, Nat.reduceLeDiff, Nat.reduceEqDiff, Int.reduceNeg, ↓reduceIte]

theorem IndexG_good (l : List Grant) (n : ByteArray) (h : l.length ≤ 1000000) : Ans Try.prog 109 [.sl (l.map encGrant), .fn 110 [.ptr [.str n]]] (.int .i64 (findIx (fun p => decide (p.user = n)) l 0)) := by
  refine good_run [(2, [4, 5, 9, 10, 11, 12, 13, 14, 15, 16, 17, 18], [])] mixed Try.func109 rfl Try.ntmps109 (rs := [.tmp 4]) rfl (by decide +kernel) (by kernel_rfl) rfl ?_
  rw [startE_eq 19 _ _ _ rfl rfl]
  simp only [go_sem, ifP_eq, Nat.reduceAdd, Nat.reduceSub, Nat.reduceMul, Nat.reduceLT, Nat.reduceLeDiff, Nat.reduceEqDiff, Int.reduceNeg, ↓reduceIte]
  refine loop_by ([4, 5, 9, 10, 11, 12, 13, 14, 15, 16, 17, 18], []) (fun i : Nat => [(.s 8, .int .i64 (i : Int))]) (fun i => (l).length - i) (fun i => i ≤ (l).length ∧ findIx (fun p => decide (p.user = n)) (l) 0 = findIx (fun p => decide (p.user = n)) ((l).drop i) i) 0 rfl ⟨Nat.zero_le _, rfl⟩ rfl ?_
  rintro c' st' hst i ⟨hi, hf⟩ ih
  simp (contextual := true) only [go_sem, ifP_eq, Nat.reduceAdd, Nat.reduceSub, Nat.reduceMul, Nat.reduceLT, Nat.reduceLeDiff, Nat.reduceEqDiff, Int.reduceNeg, ↓reduceIte]
  refine iteI (fun hlt => call_of (isGrant_good (nth l i) n) ?_) fun hlt => ?_
  · simp (contextual := true) only [go_sem, ifP_eq, Nat.reduceAdd, Nat.reduceSub, Nat.reduceMul, Nat.reduceLT, Nat.reduceLeDiff, Nat.reduceEqDiff, Int.reduceNeg, ↓reduceIte]
    refine iteI (fun hn => ?_) fun hn => ih (i + 1) _ ⟨by omega, ?_⟩ (by omega) ?_
    · rw [hf, drop_nth hlt, findIx, if_pos (by simpa using hn)]
    · rw [hf, drop_nth hlt, findIx, if_neg (by simpa using hn)]
    · simp only [go_sem, wrap_succ (show i < 9223372036854775807 by omega)]
  · subst hst
    simp only [go_sem, Nat.reduceAdd, Nat.reduceEqDiff, ↓reduceIte]
    rw [hf, List.drop_eq_nil_of_le (by omega)]; rfl

end Go.Proofs.Ytdmcmfdmnlckdaa.C10
