/- Chapter 8: names and types of objects (as in chapter 10). -/
import Derived.Test.YtcmnbfpcomcejaaD0
import Derived.Test.YtcmnbfpcomcejaaN0
import Derived.Shelf.Small.Strs
namespace Go.Proofs.Ytcmnbfpcomcejaa.C08
open Go Go.Proofs Go.Proofs.Ytcmnbfpcomcejaa.Ab
set_option linter.unusedSimpArgs false
attribute [local congr] ite_ctx

def inB (n lo hi : Int) : Bool := decide (lo ≤ n ∧ n ≤ hi)
theorem Within_good (n lo hi : Int) : Ans Try.prog 61 [.int .i64 n, .int .i64 lo, .int .i64 hi] (.bool (inB n lo hi)) := by
  refine good_run [] mixed Try.func61 rfl Try.ntmps61 (rs := [.tmp 6]) rfl (by decide +kernel) (by kernel_rfl) rfl ?_
  rw [startE_eq 15 _ _ _ rfl rfl]
  simp (contextual := true) only [go_sem, ifP_eq, Nat.reduceAdd, Nat.reduceSub, Nat.reduceMul, Nat.reduceLT, Nat.reduceLeDiff, Nat.reduceEqDiff, Int.reduceNeg, ↓reduceIte]
  split <;> simp_all [inB] <;> omega
theorem IsUpper_good (c : Int) : Ans Try.prog 90 [.int .u8 c] (.bool (inB c 65 90)) := by
  refine good_run [] mixed Try.func90 rfl Try.ntmps90 (rs := [.tmp 2]) rfl (by decide +kernel) (by kernel_rfl) rfl ?_
  rw [startE_eq 9 _ _ _ rfl rfl]
  simp (contextual := true) only [go_sem, ifP_eq, Nat.reduceAdd, Nat.reduceSub, Nat.reduceMul, Nat.reduceLT, Nat.reduceLeDiff, Nat.reduceEqDiff, Int.reduceNeg, ↓reduceIte]
  split <;> simp_all [inB] <;> omega
theorem IsDigit_good (c : Int) : Ans Try.prog 91 [.int .u8 c] (.bool (inB c 48 57)) := by
  refine good_run [] mixed Try.func91 rfl Try.ntmps91 (rs := [.tmp 2]) rfl (by decide +kernel) (by kernel_rfl) rfl ?_
  rw [startE_eq 9 _ _ _ rfl rfl]
  simp (contextual := true) only [go_sem, ifP_eq, Nat.reduceAdd, Nat.reduceSub, Nat.reduceMul, Nat.reduceLT, Nat.reduceLeDiff, Nat.reduceEqDiff, Int.reduceNeg, ↓reduceIte]
  split <;> simp_all [inB] <;> omega
theorem small_len {n b : Nat} (h : n ≤ 1000000) (hb : b ≤ 1000) : n * b ≤ 140737488355328 ∧ n ≤ maxLen :=
  ⟨Nat.le_trans (Nat.mul_le_mul h hb) (by decide), Nat.le_trans h (by decide)⟩
def firstE : List Int → Int
  | [] => 0
  | e :: l => if e = 0 then firstE l else e
/-- The index of the first entry that fits, or -1. -/
def findIx {α : Type} (p : α → Bool) : List α → Nat → Int
  | [], _ => -1
  | a :: l, i => if p a = true then i else findIx p l (i + 1)
theorem IndexI_good (l : List Int) (n : Int) (h : (l).length ≤ 1000000) : Ans Try.prog 102 [.sl (l.map encInt), .int .i64 n] (.int .i64 (findIx (fun p => decide (p = n)) (l) 0)) := by
  refine good_run [(2, [4, 5, 9, 10, 11, 12, 13, 14, 15, 16, 17, 18], [])] mixed Try.func102 rfl Try.ntmps102 (rs := [.tmp 4]) rfl (by decide +kernel) (by kernel_rfl) rfl ?_
  rw [startE_eq 19 _ _ _ rfl rfl]
  simp only [go_sem, ifP_eq, Nat.reduceAdd, Nat.reduceSub, Nat.reduceMul, Nat.reduceLT, Nat.reduceLeDiff, Nat.reduceEqDiff, Int.reduceNeg, ↓reduceIte]
  refine loop_by ([4, 5, 9, 10, 11, 12, 13, 14, 15, 16, 17, 18], []) (fun i : Nat => [(.s 8, .int .i64 (i : Int))]) (fun i => (l).length - i) (fun i => i ≤ (l).length ∧ findIx (fun p => decide (p = n)) (l) 0 = findIx (fun p => decide (p = n)) ((l).drop i) i) 0 rfl ⟨Nat.zero_le _, rfl⟩ rfl ?_
  rintro c' st' hst i ⟨hi, hf⟩ ih
  simp (contextual := true) only [go_sem, ifP_eq, Nat.reduceAdd, Nat.reduceSub, Nat.reduceMul, Nat.reduceLT, Nat.reduceLeDiff, Nat.reduceEqDiff, Int.reduceNeg, ↓reduceIte]
  refine iteI (fun hlt => iteI (fun hn => ?_) fun hn => ih (i + 1) _ ⟨by omega, ?_⟩ (by omega) ?_) fun hlt => ?_
  · rw [← hn, hf, drop_nth hlt, findIx, if_pos (by simpa using hn.symm)]
  · rw [hf, drop_nth hlt, findIx, if_neg (by simpa [eq_comm] using hn)]
  · simp only [go_sem, wrap_succ (show i < 9223372036854775807 by omega)]
  · subst hst
    simp only [go_sem]
    rw [hf, List.drop_eq_nil_of_le (by omega)]; rfl
theorem findIx_ge {α : Type} (p : α → Bool) : ∀ (l : List α) (i : Nat), findIx p l i = -1 ∨ ((i : Int) ≤ findIx p l i ∧ findIx p l i < i + l.length)
  | [], i => .inl rfl
  | a :: l, i => by
    unfold findIx
    split
    · right; simp only [List.length_cons]; omega
    · rcases findIx_ge p l (i + 1) with h | ⟨h, h2⟩
      · exact .inl h
      · right; simp only [List.length_cons]; omega
theorem findIx_any {α : Type} (p : α → Bool) : ∀ (l : List α) (i : Nat), decide (0 ≤ findIx p l i) = l.any p
  | [], i => rfl
  | a :: l, i => by
    unfold findIx
    split
    · rename_i h; simp only [List.any_cons, h, Bool.true_or, decide_eq_true_eq]; omega
    · rename_i h; rw [findIx_any p l (i + 1)]; simp [h]
theorem ContainsI_good (l : List Int) (n : Int) (h : l.length ≤ 1000000) : Ans Try.prog 89 [.sl (l.map encInt), .int .i64 n] (.bool (l.any fun p => decide (p = n))) := by
  refine good_run [] mixed Try.func89 rfl Try.ntmps89 (rs := [.tmp 4]) rfl (by decide +kernel) (by kernel_rfl) rfl ?_
  rw [startE_eq 9 _ _ _ rfl rfl]
  set_option maxRecDepth 100000 in simp (contextual := true) (maxSteps := 10000000) only [go_sem, ifP_eq, Nat.reduceAdd, Nat.reduceSub, Nat.reduceMul, Nat.reduceLT, Nat.reduceLeDiff, Nat.reduceEqDiff, Nat.reduceMod, Nat.reduceDiv, Int.reduceNeg, Int.reduceLE, Int.reduceLT, Int.reduceToNat, Int.reduceEq, Int.reduceNe, ↓reduceIte]
  refine call_of (IndexI_good l n h) ?_
  set_option maxRecDepth 100000 in simp (contextual := true) (maxSteps := 10000000) only [go_sem, ifP_eq, Nat.reduceAdd, Nat.reduceSub, Nat.reduceMul, Nat.reduceLT, Nat.reduceLeDiff, Nat.reduceEqDiff, Nat.reduceMod, Nat.reduceDiv, Int.reduceNeg, Int.reduceLE, Int.reduceLT, Int.reduceToNat, Int.reduceEq, Int.reduceNe, ↓reduceIte]
  exact findIx_any _ _ _
def isSys (t : Int) : Bool := [0, 5, 6, 23, 24, 25].any fun p : Int => decide (p = t)
theorem isSystem_good (t : Int) : Ans Try.prog 56 [.int .i64 t] (.bool (isSys t)) := by
  refine good_run [] mixed Try.func56 rfl Try.ntmps56 (rs := [.tmp 2]) rfl (by decide +kernel) (by kernel_rfl) rfl ?_
  rw [startE_eq 6 _ _ _ rfl rfl]
  set_option maxRecDepth 100000 in simp (contextual := true) (maxSteps := 10000000) only [go_sem, ifP_eq, Nat.reduceAdd, Nat.reduceSub, Nat.reduceMul, Nat.reduceLT, Nat.reduceLeDiff, Nat.reduceEqDiff, Nat.reduceMod, Nat.reduceDiv, Int.reduceNeg, Int.reduceLE, Int.reduceLT, Int.reduceToNat, Int.reduceEq, Int.reduceNe, ↓reduceIte]
  refine call_of (ContainsI_good [0, 5, 6, 23, 24, 25] t (by decide)) ?_
  set_option maxRecDepth 100000 in simp (contextual := true) (maxSteps := 10000000) only [go_sem, ifP_eq, Nat.reduceAdd, Nat.reduceSub, Nat.reduceMul, Nat.reduceLT, Nat.reduceLeDiff, Nat.reduceEqDiff, Nat.reduceMod, Nat.reduceDiv, Int.reduceNeg, Int.reduceLE, Int.reduceLT, Int.reduceToNat, Int.reduceEq, Int.reduceNe, ↓reduceIte]
  rfl
theorem IsSystem_good (t : Int) : Ans Try.prog 58 [.int .i64 t] (.bool (isSys t)) := by
  refine good_run [(1000006, [2, 8], [6, 7]), (1000010, [2, 12], [10, 11]), (1000014, [2, 16], [14, 15]), (1000018, [2, 20], [18, 19]), (1000022, [2, 24], [22, 23])] mixed Try.func58 rfl Try.ntmps58 (rs := [.tmp 2]) rfl (by decide +kernel) (by kernel_rfl) rfl ?_
  rw [startE_eq 25 _ _ _ rfl rfl]
  set_option maxRecDepth 100000 in simp (contextual := true) (maxSteps := 10000000) only [go_sem, ifP_eq, Nat.reduceAdd, Nat.reduceSub, Nat.reduceMul, Nat.reduceLT, Nat.reduceLeDiff, Nat.reduceEqDiff, Nat.reduceMod, Nat.reduceDiv, Int.reduceNeg, Int.reduceLE, Int.reduceLT, Int.reduceToNat, Int.reduceEq, Int.reduceNe, ↓reduceIte]
  apply join_of
  · set_option maxRecDepth 100000 in simp (contextual := true) (maxSteps := 10000000) only [go_sem, ifP_eq, Nat.reduceAdd, Nat.reduceSub, Nat.reduceMul, Nat.reduceLT, Nat.reduceLeDiff, Nat.reduceEqDiff, Nat.reduceMod, Nat.reduceDiv, Int.reduceNeg, Int.reduceLE, Int.reduceLT, Int.reduceToNat, Int.reduceEq, Int.reduceNe, ↓reduceIte]
    exact joinB
  set_option maxRecDepth 100000 in simp (contextual := true) (maxSteps := 10000000) only [go_sem, ifP_eq, Nat.reduceAdd, Nat.reduceSub, Nat.reduceMul, Nat.reduceLT, Nat.reduceLeDiff, Nat.reduceEqDiff, Nat.reduceMod, Nat.reduceDiv, Int.reduceNeg, Int.reduceLE, Int.reduceLT, Int.reduceToNat, Int.reduceEq, Int.reduceNe, ↓reduceIte]
  apply join_of
  · set_option maxRecDepth 100000 in simp (contextual := true) (maxSteps := 10000000) only [go_sem, ifP_eq, Nat.reduceAdd, Nat.reduceSub, Nat.reduceMul, Nat.reduceLT, Nat.reduceLeDiff, Nat.reduceEqDiff, Nat.reduceMod, Nat.reduceDiv, Int.reduceNeg, Int.reduceLE, Int.reduceLT, Int.reduceToNat, Int.reduceEq, Int.reduceNe, ↓reduceIte]
    exact joinB
  set_option maxRecDepth 100000 in simp (contextual := true) (maxSteps := 10000000) only [go_sem, ifP_eq, Nat.reduceAdd, Nat.reduceSub, Nat.reduceMul, Nat.reduceLT, Nat.reduceLeDiff, Nat.reduceEqDiff, Nat.reduceMod, Nat.reduceDiv, Int.reduceNeg, Int.reduceLE, Int.reduceLT, Int.reduceToNat, Int.reduceEq, Int.reduceNe, ↓reduceIte]
  apply join_of
  · set_option maxRecDepth 100000 in simp (contextual := true) (maxSteps := 10000000) only [go_sem, ifP_eq, Nat.reduceAdd, Nat.reduceSub, Nat.reduceMul, Nat.reduceLT, Nat.reduceLeDiff, Nat.reduceEqDiff, Nat.reduceMod, Nat.reduceDiv, Int.reduceNeg, Int.reduceLE, Int.reduceLT, Int.reduceToNat, Int.reduceEq, Int.reduceNe, ↓reduceIte]
    exact joinB
  set_option maxRecDepth 100000 in simp (contextual := true) (maxSteps := 10000000) only [go_sem, ifP_eq, Nat.reduceAdd, Nat.reduceSub, Nat.reduceMul, Nat.reduceLT, Nat.reduceLeDiff, Nat.reduceEqDiff, Nat.reduceMod, Nat.reduceDiv, Int.reduceNeg, Int.reduceLE, Int.reduceLT, Int.reduceToNat, Int.reduceEq, Int.reduceNe, ↓reduceIte]
  apply join_of
  · set_option maxRecDepth 100000 in simp (contextual := true) (maxSteps := 10000000) only [go_sem, ifP_eq, Nat.reduceAdd, Nat.reduceSub, Nat.reduceMul, Nat.reduceLT, Nat.reduceLeDiff, Nat.reduceEqDiff, Nat.reduceMod, Nat.reduceDiv, Int.reduceNeg, Int.reduceLE, Int.reduceLT, Int.reduceToNat, Int.reduceEq, Int.reduceNe, ↓reduceIte]
    exact joinB
  set_option maxRecDepth 100000 in simp (contextual := true) (maxSteps := 10000000) only [go_sem, ifP_eq, Nat.reduceAdd, Nat.reduceSub, Nat.reduceMul, Nat.reduceLT, Nat.reduceLeDiff, Nat.reduceEqDiff, Nat.reduceMod, Nat.reduceDiv, Int.reduceNeg, Int.reduceLE, Int.reduceLT, Int.reduceToNat, Int.reduceEq, Int.reduceNe, ↓reduceIte]
  apply join_of
  · set_option maxRecDepth 100000 in simp (contextual := true) (maxSteps := 10000000) only [go_sem, ifP_eq, Nat.reduceAdd, Nat.reduceSub, Nat.reduceMul, Nat.reduceLT, Nat.reduceLeDiff, Nat.reduceEqDiff, Nat.reduceMod, Nat.reduceDiv, Int.reduceNeg, Int.reduceLE, Int.reduceLT, Int.reduceToNat, Int.reduceEq, Int.reduceNe, ↓reduceIte]
    exact joinB
  set_option maxRecDepth 100000 in simp (contextual := true) (maxSteps := 10000000) only [go_sem, ifP_eq, Nat.reduceAdd, Nat.reduceSub, Nat.reduceMul, Nat.reduceLT, Nat.reduceLeDiff, Nat.reduceEqDiff, Nat.reduceMod, Nat.reduceDiv, Int.reduceNeg, Int.reduceLE, Int.reduceLT, Int.reduceToNat, Int.reduceEq, Int.reduceNe, ↓reduceIte]
  simp [isSys, Bool.or_assoc, eq_comm]
theorem IsType_good (t : Int) : Ans Try.prog 37 [.int .i64 t] (.bool (inB t 0 29)) := by
  refine good_run [] mixed Try.func37 rfl Try.ntmps37 (rs := [.tmp 2]) rfl (by decide +kernel) (by kernel_rfl) rfl ?_
  rw [startE_eq 5 _ _ _ rfl rfl]
  set_option maxRecDepth 100000 in simp (contextual := true) (maxSteps := 10000000) only [go_sem, ifP_eq, Nat.reduceAdd, Nat.reduceSub, Nat.reduceMul, Nat.reduceLT, Nat.reduceLeDiff, Nat.reduceEqDiff, Nat.reduceMod, Nat.reduceDiv, Int.reduceNeg, Int.reduceLE, Int.reduceLT, Int.reduceToNat, Int.reduceEq, Int.reduceNe, ↓reduceIte]
  refine call_of (Within_good _ _ _) ?_
  set_option maxRecDepth 100000 in simp (contextual := true) (maxSteps := 10000000) only [go_sem, ifP_eq, Nat.reduceAdd, Nat.reduceSub, Nat.reduceMul, Nat.reduceLT, Nat.reduceLeDiff, Nat.reduceEqDiff, Nat.reduceMod, Nat.reduceDiv, Int.reduceNeg, Int.reduceLE, Int.reduceLT, Int.reduceToNat, Int.reduceEq, Int.reduceNe, ↓reduceIte]
def encKind (p : ByteArray × ByteArray) : List AV := [.str p.1, .str p.2]
attribute [go_sem] encKind
def kinds : List (ByteArray × ByteArray) := [
  (⟨#[42, 76, 73, 66]⟩, ⟨#[114, 100, 115]⟩),
  (⟨#[42, 80, 71, 77]⟩, ⟨#[114, 109, 121, 100, 97, 115]⟩),
  (⟨#[42, 83, 82, 86, 80, 71, 77]⟩, ⟨#[114, 109, 121, 100, 115]⟩),
  (⟨#[42, 77, 79, 68, 85, 76, 69]⟩, ⟨#[114, 109, 121, 100, 115]⟩),
  (⟨#[42, 70, 73, 76, 69]⟩, ⟨#[114, 109, 121, 100, 101, 99, 108, 115]⟩),
  (⟨#[42, 85, 83, 82, 80, 82, 70]⟩, ⟨#[100, 101, 99, 115]⟩),
  (⟨#[42, 65, 85, 84, 76]⟩, ⟨#[100, 101, 99, 115]⟩),
  (⟨#[42, 77, 83, 71, 81]⟩, ⟨#[114, 109, 121, 100, 101, 99, 108, 115]⟩),
  (⟨#[42, 77, 83, 71, 70]⟩, ⟨#[114, 109, 121, 100, 101, 99, 115]⟩),
  (⟨#[42, 74, 79, 66, 81]⟩, ⟨#[114, 109, 100, 101, 99, 108, 115]⟩),
  (⟨#[42, 79, 85, 84, 81]⟩, ⟨#[114, 109, 100, 101, 99, 108, 115]⟩),
  (⟨#[42, 74, 79, 66, 68]⟩, ⟨#[114, 109, 121, 100, 101, 99, 115]⟩),
  (⟨#[42, 83, 66, 83, 68]⟩, ⟨#[114, 109, 121, 100, 101, 99, 115]⟩),
  (⟨#[42, 67, 76, 83]⟩, ⟨#[114, 109, 121, 100, 101, 99, 115]⟩),
  (⟨#[42, 67, 77, 68]⟩, ⟨#[114, 109, 121, 100, 99, 97, 115]⟩),
  (⟨#[42, 74, 82, 78]⟩, ⟨#[100, 101, 115]⟩),
  (⟨#[42, 74, 82, 78, 82, 67, 86]⟩, ⟨#[100, 101, 115]⟩),
  (⟨#[42, 68, 84, 65, 65, 82, 65]⟩, ⟨#[114, 109, 121, 100, 101, 99, 115]⟩),
  (⟨#[42, 68, 84, 65, 81]⟩, ⟨#[114, 109, 100, 101, 99, 108, 115]⟩),
  (⟨#[42, 83, 65, 86, 70]⟩, ⟨#[114, 109, 121, 100, 101, 108]⟩),
  (⟨#[42, 85, 83, 82, 83, 80, 67]⟩, ⟨#[114, 109, 121, 100, 101, 99, 115]⟩),
  (⟨#[42, 85, 83, 82, 73, 68, 88]⟩, ⟨#[114, 109, 121, 100, 101, 99, 115]⟩),
  (⟨#[42, 85, 83, 82, 81]⟩, ⟨#[114, 109, 100, 101, 99, 108, 115]⟩),
  (⟨#[42, 68, 69, 86, 68]⟩, ⟨#[114, 100, 101, 99]⟩),
  (⟨#[42, 76, 73, 78, 68]⟩, ⟨#[114, 100, 101, 99]⟩),
  (⟨#[42, 67, 84, 76, 68]⟩, ⟨#[114, 100, 101, 99]⟩),
  (⟨#[42, 69, 68, 84, 68]⟩, ⟨#[100, 101, 115]⟩),
  (⟨#[42, 84, 66, 76]⟩, ⟨#[114, 109, 121, 100, 101, 115]⟩),
  (⟨#[42, 77, 69, 78, 85]⟩, ⟨#[114, 109, 121, 100, 97, 115]⟩),
  (⟨#[42, 81, 82, 89, 68, 70, 78]⟩, ⟨#[114, 109, 121, 100, 101, 99, 97, 115]⟩)]
theorem kinds_good : Ans Try.prog 82 [] (.sl (kinds.map encKind)) := by
  refine good_run [] mixed Try.func82 rfl Try.ntmps82 (rs := [.tmp 0]) rfl (by decide +kernel) (by kernel_rfl) rfl ?_
  rw [startE_eq 32 _ _ _ rfl rfl]
  set_option maxRecDepth 100000 in simp (contextual := true) (maxSteps := 10000000) only [go_sem, ifP_eq, Nat.reduceAdd, Nat.reduceSub, Nat.reduceMul, Nat.reduceLT, Nat.reduceLeDiff, Nat.reduceEqDiff, Nat.reduceMod, Nat.reduceDiv, Int.reduceNeg, Int.reduceLE, Int.reduceLT, Int.reduceToNat, Int.reduceEq, Int.reduceNe, ↓reduceIte]
  simp only [kinds, List.map_cons, List.map_nil, encKind]
theorem isType_good (t : Int) : Ans Try.prog 54 [.int .i64 t] (.bool (inB t 0 29)) := by
  refine good_run [] mixed Try.func54 rfl Try.ntmps54 (rs := [.tmp 2]) rfl (by decide +kernel) (by kernel_rfl) rfl ?_
  rw [startE_eq 11 _ _ _ rfl rfl]
  set_option maxRecDepth 100000 in simp (contextual := true) (maxSteps := 10000000) only [go_sem, ifP_eq, Nat.reduceAdd, Nat.reduceSub, Nat.reduceMul, Nat.reduceLT, Nat.reduceLeDiff, Nat.reduceEqDiff, Nat.reduceMod, Nat.reduceDiv, Int.reduceNeg, Int.reduceLE, Int.reduceLT, Int.reduceToNat, Int.reduceEq, Int.reduceNe, ↓reduceIte]
  refine iteI (fun h => ?_) fun h => ?_
  · refine call_of kinds_good ?_
    set_option maxRecDepth 100000 in simp (contextual := true) (maxSteps := 10000000) only [go_sem, ifP_eq, Nat.reduceAdd, Nat.reduceSub, Nat.reduceMul, Nat.reduceLT, Nat.reduceLeDiff, Nat.reduceEqDiff, Nat.reduceMod, Nat.reduceDiv, Int.reduceNeg, Int.reduceLE, Int.reduceLT, Int.reduceToNat, Int.reduceEq, Int.reduceNe, ↓reduceIte]
    have : kinds.length = 30 := rfl
    rw [this]; simp [inB, h]; omega
  · simp [inB]; omega
def nameByte (i : Nat) (c : Int) : Bool := (inB c 65 90 || decide (c = 36) || decide (c = 35) || decide (c = 64)) || (decide (i ≠ 0) && (inB c 48 57 || decide (c = 95) || decide (c = 46)))
def nameFrom (s : ByteArray) : Nat → Nat → Bool
  | 0, _ => true
  | k + 1, i => nameByte i (byteAt s i) && nameFrom s k (i + 1)
def isNm (s : ByteArray) : Bool := decide (1 ≤ s.size ∧ s.size ≤ 10) && nameFrom s s.size 0
theorem nb1 {i : Nat} {c : Int} (h1 : (!(inB c 65 90 || decide (c = 36) || decide (c = 35) || decide (c = 64))) = true) (h2 : ¬i = 0) :
    if (!inB c 48 57) = true then if ¬c = 95 then (decide ¬c = 46) = !nameByte i c else false = !nameByte i c else false = !nameByte i c := by
  simp only [Bool.not_eq_true', Bool.or_eq_false_iff, decide_eq_false_iff_not] at h1
  simp only [nameByte, h1, h2, not_false_eq_true, decide_true, decide_false, Bool.or_false, Bool.false_or, Bool.true_and, ne_eq]
  cases inB c 48 57 <;> simp
  by_cases h : c = 95 <;> simp [h]
theorem nb2 {i : Nat} {c : Int} (h2 : i = 0) (h1 : (!(inB c 65 90 || decide (c = 36) || decide (c = 35) || decide (c = 64))) = true) : true = !nameByte i c := by
  simp only [Bool.not_eq_true', Bool.or_eq_false_iff, decide_eq_false_iff_not] at h1
  simp [nameByte, h1, h2]
theorem nb3 {i : Nat} {c : Int} (h1 : ¬(!(inB c 65 90 || decide (c = 36) || decide (c = 35) || decide (c = 64))) = true) : false = !nameByte i c := by
  simp only [Bool.not_eq_true, Bool.not_eq_false'] at h1
  simp only [nameByte, h1, Bool.true_or, Bool.not_true]
theorem IsName_good (s : ByteArray) : Ans Try.prog 57 [.str s] (.bool (isNm s)) := by
  refine good_run [(4, [2, 4, 5, 10, 11, 12, 13, 14, 15, 16, 17, 18, 19, 20, 21, 22, 23, 24, 25, 26, 27, 28, 29, 30, 31, 32, 33, 34, 35, 36, 37, 38, 39, 40, 41, 42, 43, 44, 45, 46, 47, 48, 49, 50, 51], []), (1000022, [2, 24], [22, 23]), (1000026, [2, 28], [26, 27]), (1000030, [2, 32], [30, 31]), (1000036, [15, 51], [36, 37, 38, 39, 40, 41, 42, 43, 44, 45, 46, 47, 48, 49, 50])] mixed Try.func57 rfl Try.ntmps57 (rs := [.tmp 2]) rfl (by decide +kernel) (by kernel_rfl) rfl ?_
  rw [startE_eq 52 _ _ _ rfl rfl]
  set_option maxRecDepth 100000 in simp (contextual := true) (maxSteps := 10000000) only [go_sem, ifP_eq, Nat.reduceAdd, Nat.reduceSub, Nat.reduceMul, Nat.reduceLT, Nat.reduceLeDiff, Nat.reduceEqDiff, Nat.reduceMod, Nat.reduceDiv, Int.reduceNeg, Int.reduceLE, Int.reduceLT, Int.reduceToNat, Int.reduceEq, Int.reduceNe, ↓reduceIte]
  refine call_of (Within_good _ _ _) ?_
  set_option maxRecDepth 100000 in simp (contextual := true) (maxSteps := 10000000) only [go_sem, ifP_eq, Nat.reduceAdd, Nat.reduceSub, Nat.reduceMul, Nat.reduceLT, Nat.reduceLeDiff, Nat.reduceEqDiff, Nat.reduceMod, Nat.reduceDiv, Int.reduceNeg, Int.reduceLE, Int.reduceLT, Int.reduceToNat, Int.reduceEq, Int.reduceNe, ↓reduceIte]
  refine iteI (fun h => ?_) (fun h => ?_)
  · simp [inB] at h; simp [isNm]; omega
  · refine loop_by ([2, 4, 5, 10, 11, 12, 13, 14, 15, 16, 17, 18, 19, 20, 21, 22, 23, 24, 25, 26, 27, 28, 29, 30, 31, 32, 33, 34, 35, 36, 37, 38, 39, 40, 41, 42, 43, 44, 45, 46, 47, 48, 49, 50, 51], []) (fun i : Nat => [(.s 3, .int .i64 (i : Int))]) (fun i => s.size - i) (fun i => i ≤ s.size ∧ nameFrom s s.size 0 = nameFrom s (s.size - i) i) 0 rfl ⟨Nat.zero_le _, rfl⟩ rfl ?_
    rintro c' st' hst i ⟨hi, hf⟩ ih
    set_option maxRecDepth 100000 in simp (contextual := true) (maxSteps := 10000000) only [go_sem, ifP_eq, Nat.reduceAdd, Nat.reduceSub, Nat.reduceMul, Nat.reduceLT, Nat.reduceLeDiff, Nat.reduceEqDiff, Nat.reduceMod, Nat.reduceDiv, Int.reduceNeg, Int.reduceLE, Int.reduceLT, Int.reduceToNat, Int.reduceEq, Int.reduceNe, ↓reduceIte]
    refine iteI (fun hlt => call_of (IsUpper_good _) ?_) fun hlt => ?_
    · set_option maxRecDepth 100000 in simp (contextual := true) (maxSteps := 10000000) only [go_sem, ifP_eq, Nat.reduceAdd, Nat.reduceSub, Nat.reduceMul, Nat.reduceLT, Nat.reduceLeDiff, Nat.reduceEqDiff, Nat.reduceMod, Nat.reduceDiv, Int.reduceNeg, Int.reduceLE, Int.reduceLT, Int.reduceToNat, Int.reduceEq, Int.reduceNe, ↓reduceIte]
      apply join_of
      · set_option maxRecDepth 100000 in simp (contextual := true) (maxSteps := 10000000) only [go_sem, ifP_eq, Nat.reduceAdd, Nat.reduceSub, Nat.reduceMul, Nat.reduceLT, Nat.reduceLeDiff, Nat.reduceEqDiff, Nat.reduceMod, Nat.reduceDiv, Int.reduceNeg, Int.reduceLE, Int.reduceLT, Int.reduceToNat, Int.reduceEq, Int.reduceNe, ↓reduceIte]
        exact joinB
      set_option maxRecDepth 100000 in simp (contextual := true) (maxSteps := 10000000) only [go_sem, ifP_eq, Nat.reduceAdd, Nat.reduceSub, Nat.reduceMul, Nat.reduceLT, Nat.reduceLeDiff, Nat.reduceEqDiff, Nat.reduceMod, Nat.reduceDiv, Int.reduceNeg, Int.reduceLE, Int.reduceLT, Int.reduceToNat, Int.reduceEq, Int.reduceNe, ↓reduceIte]
      apply join_of
      · set_option maxRecDepth 100000 in simp (contextual := true) (maxSteps := 10000000) only [go_sem, ifP_eq, Nat.reduceAdd, Nat.reduceSub, Nat.reduceMul, Nat.reduceLT, Nat.reduceLeDiff, Nat.reduceEqDiff, Nat.reduceMod, Nat.reduceDiv, Int.reduceNeg, Int.reduceLE, Int.reduceLT, Int.reduceToNat, Int.reduceEq, Int.reduceNe, ↓reduceIte]
        exact joinB
      set_option maxRecDepth 100000 in simp (contextual := true) (maxSteps := 10000000) only [go_sem, ifP_eq, Nat.reduceAdd, Nat.reduceSub, Nat.reduceMul, Nat.reduceLT, Nat.reduceLeDiff, Nat.reduceEqDiff, Nat.reduceMod, Nat.reduceDiv, Int.reduceNeg, Int.reduceLE, Int.reduceLT, Int.reduceToNat, Int.reduceEq, Int.reduceNe, ↓reduceIte]
      apply join_of
      · set_option maxRecDepth 100000 in simp (contextual := true) (maxSteps := 10000000) only [go_sem, ifP_eq, Nat.reduceAdd, Nat.reduceSub, Nat.reduceMul, Nat.reduceLT, Nat.reduceLeDiff, Nat.reduceEqDiff, Nat.reduceMod, Nat.reduceDiv, Int.reduceNeg, Int.reduceLE, Int.reduceLT, Int.reduceToNat, Int.reduceEq, Int.reduceNe, ↓reduceIte]
        exact joinB
      set_option maxRecDepth 100000 in simp (contextual := true) (maxSteps := 10000000) only [go_sem, ifP_eq, Nat.reduceAdd, Nat.reduceSub, Nat.reduceMul, Nat.reduceLT, Nat.reduceLeDiff, Nat.reduceEqDiff, Nat.reduceMod, Nat.reduceDiv, Int.reduceNeg, Int.reduceLE, Int.reduceLT, Int.reduceToNat, Int.reduceEq, Int.reduceNe, ↓reduceIte]
      refine join_of (!nameByte i (byteAt s i)) ?_ ?_
      · set_option maxRecDepth 100000 in simp (contextual := true) (maxSteps := 10000000) only [go_sem, ifP_eq, Nat.reduceAdd, Nat.reduceSub, Nat.reduceMul, Nat.reduceLT, Nat.reduceLeDiff, Nat.reduceEqDiff, Nat.reduceMod, Nat.reduceDiv, Int.reduceNeg, Int.reduceLE, Int.reduceLT, Int.reduceToNat, Int.reduceEq, Int.reduceNe, ↓reduceIte]
        refine iteI (fun h1 => iteI (fun h2 => call_of (IsDigit_good _) ?_) fun h2 => ?_) fun h1 => ?_
        · set_option maxRecDepth 100000 in simp (contextual := true) (maxSteps := 10000000) only [go_sem, ifP_eq, Nat.reduceAdd, Nat.reduceSub, Nat.reduceMul, Nat.reduceLT, Nat.reduceLeDiff, Nat.reduceEqDiff, Nat.reduceMod, Nat.reduceDiv, Int.reduceNeg, Int.reduceLE, Int.reduceLT, Int.reduceToNat, Int.reduceEq, Int.reduceNe, ↓reduceIte]
          clear ih hf hst h
          exact nb1 h1 (by simpa using h2)
        · clear ih hf hst h
          exact nb2 (by simpa using h2) h1
        · clear ih hf hst h
          exact nb3 h1
      · set_option maxRecDepth 100000 in simp (contextual := true) (maxSteps := 10000000) only [go_sem, ifP_eq, Nat.reduceAdd, Nat.reduceSub, Nat.reduceMul, Nat.reduceLT, Nat.reduceLeDiff, Nat.reduceEqDiff, Nat.reduceMod, Nat.reduceDiv, Int.reduceNeg, Int.reduceLE, Int.reduceLT, Int.reduceToNat, Int.reduceEq, Int.reduceNe, ↓reduceIte]
        refine iteI (fun h1 => ?_) fun h1 => ih (i + 1) _ ⟨by omega, ?_⟩ (by omega) ?_
        · rw [isNm, hf, show s.size - i = (s.size - (i + 1)) + 1 by omega, nameFrom]; simp_all
        · rw [hf, show s.size - i = (s.size - (i + 1)) + 1 by omega, nameFrom]; simp_all
        · set_option maxRecDepth 100000 in simp (contextual := true) (maxSteps := 10000000) only [go_sem, ifP_eq, Nat.reduceAdd, Nat.reduceSub, Nat.reduceMul, Nat.reduceLT, Nat.reduceLeDiff, Nat.reduceEqDiff, Nat.reduceMod, Nat.reduceDiv, Int.reduceNeg, Int.reduceLE, Int.reduceLT, Int.reduceToNat, Int.reduceEq, Int.reduceNe, ↓reduceIte,  wrap_succ (show i < 9223372036854775807 by simp [inB] at h; omega)]
    · subst hst
      set_option maxRecDepth 100000 in simp (contextual := true) (maxSteps := 10000000) only [go_sem, ifP_eq, Nat.reduceAdd, Nat.reduceSub, Nat.reduceMul, Nat.reduceLT, Nat.reduceLeDiff, Nat.reduceEqDiff, Nat.reduceMod, Nat.reduceDiv, Int.reduceNeg, Int.reduceLE, Int.reduceLT, Int.reduceToNat, Int.reduceEq, Int.reduceNe, ↓reduceIte]
      rw [isNm, hf, show s.size - i = 0 by omega, nameFrom]; simp [inB] at h ⊢; omega
theorem isName_good (s : ByteArray) : Ans Try.prog 55 [.str s] (.bool (isNm s)) := by
  refine good_run [(4, [2, 3, 4, 5, 16, 17, 18, 19, 20, 21, 22, 23, 24, 25, 26, 27, 28, 29, 30, 31, 32, 33, 34, 35, 36, 37, 38, 39, 40, 41, 42, 43, 44, 45, 46, 47, 48, 49, 50, 51, 52, 53, 54, 55, 56, 57, 58, 59, 60, 61, 62], []), (1000009, [3, 12], [9, 10, 11]), (1000024, [2, 26], [24, 25]), (1000028, [2, 30], [28, 29]), (1000032, [2, 34], [32, 33]), (1000036, [2, 38], [36, 37]), (1000042, [19, 61], [42, 43, 44, 45, 46, 47, 48, 49, 50, 51, 52, 53, 54, 55, 56, 57, 58, 59, 60])] mixed Try.func55 rfl Try.ntmps55 (rs := [.tmp 2]) rfl (by decide +kernel) (by kernel_rfl) rfl ?_
  rw [startE_eq 63 _ _ _ rfl rfl]
  set_option maxRecDepth 100000 in simp (contextual := true) (maxSteps := 10000000) only [go_sem, ifP_eq, Nat.reduceAdd, Nat.reduceSub, Nat.reduceMul, Nat.reduceLT, Nat.reduceLeDiff, Nat.reduceEqDiff, Nat.reduceMod, Nat.reduceDiv, Int.reduceNeg, Int.reduceLE, Int.reduceLT, Int.reduceToNat, Int.reduceEq, Int.reduceNe, ↓reduceIte]
  apply join_of
  · set_option maxRecDepth 100000 in simp (contextual := true) (maxSteps := 10000000) only [go_sem, ifP_eq, Nat.reduceAdd, Nat.reduceSub, Nat.reduceMul, Nat.reduceLT, Nat.reduceLeDiff, Nat.reduceEqDiff, Nat.reduceMod, Nat.reduceDiv, Int.reduceNeg, Int.reduceLE, Int.reduceLT, Int.reduceToNat, Int.reduceEq, Int.reduceNe, ↓reduceIte]
    exact joinB
  set_option maxRecDepth 100000 in simp (contextual := true) (maxSteps := 10000000) only [go_sem, ifP_eq, Nat.reduceAdd, Nat.reduceSub, Nat.reduceMul, Nat.reduceLT, Nat.reduceLeDiff, Nat.reduceEqDiff, Nat.reduceMod, Nat.reduceDiv, Int.reduceNeg, Int.reduceLE, Int.reduceLT, Int.reduceToNat, Int.reduceEq, Int.reduceNe, ↓reduceIte]
  refine iteI (fun h => ?_) (fun h => ?_)
  · simp only [Bool.or_eq_true, decide_eq_true_eq] at h
    rcases h with h | h
    · subst h; rfl
    · simp [isNm]; omega
  · have h0 : 1 ≤ s.size ∧ s.size ≤ 10 := by
      simp only [Bool.or_eq_true, decide_eq_true_eq, not_or] at h
      refine ⟨?_, by omega⟩
      rcases Nat.eq_zero_or_pos s.size with h1 | h1
      · exact absurd (ByteArray.size_eq_zero_iff.1 h1) h.1
      · exact h1
    refine loop_by ([2, 3, 4, 5, 16, 17, 18, 19, 20, 21, 22, 23, 24, 25, 26, 27, 28, 29, 30, 31, 32, 33, 34, 35, 36, 37, 38, 39, 40, 41, 42, 43, 44, 45, 46, 47, 48, 49, 50, 51, 52, 53, 54, 55, 56, 57, 58, 59, 60, 61, 62], []) (fun i : Nat => [(.s 15, .int .i64 (i : Int))]) (fun i => s.size - i) (fun i => i ≤ s.size ∧ nameFrom s s.size 0 = nameFrom s (s.size - i) i) 0 rfl ⟨Nat.zero_le _, rfl⟩ rfl ?_
    rintro c' st' hst i ⟨hi, hf⟩ ih
    set_option maxRecDepth 100000 in simp (contextual := true) (maxSteps := 10000000) only [go_sem, ifP_eq, Nat.reduceAdd, Nat.reduceSub, Nat.reduceMul, Nat.reduceLT, Nat.reduceLeDiff, Nat.reduceEqDiff, Nat.reduceMod, Nat.reduceDiv, Int.reduceNeg, Int.reduceLE, Int.reduceLT, Int.reduceToNat, Int.reduceEq, Int.reduceNe, ↓reduceIte]
    refine iteI (fun hlt => ?_) fun hlt => ?_
    · apply join_of
      · set_option maxRecDepth 100000 in simp (contextual := true) (maxSteps := 10000000) only [go_sem, ifP_eq, Nat.reduceAdd, Nat.reduceSub, Nat.reduceMul, Nat.reduceLT, Nat.reduceLeDiff, Nat.reduceEqDiff, Nat.reduceMod, Nat.reduceDiv, Int.reduceNeg, Int.reduceLE, Int.reduceLT, Int.reduceToNat, Int.reduceEq, Int.reduceNe, ↓reduceIte]
        exact joinB
      set_option maxRecDepth 100000 in simp (contextual := true) (maxSteps := 10000000) only [go_sem, ifP_eq, Nat.reduceAdd, Nat.reduceSub, Nat.reduceMul, Nat.reduceLT, Nat.reduceLeDiff, Nat.reduceEqDiff, Nat.reduceMod, Nat.reduceDiv, Int.reduceNeg, Int.reduceLE, Int.reduceLT, Int.reduceToNat, Int.reduceEq, Int.reduceNe, ↓reduceIte]
      apply join_of
      · set_option maxRecDepth 100000 in simp (contextual := true) (maxSteps := 10000000) only [go_sem, ifP_eq, Nat.reduceAdd, Nat.reduceSub, Nat.reduceMul, Nat.reduceLT, Nat.reduceLeDiff, Nat.reduceEqDiff, Nat.reduceMod, Nat.reduceDiv, Int.reduceNeg, Int.reduceLE, Int.reduceLT, Int.reduceToNat, Int.reduceEq, Int.reduceNe, ↓reduceIte]
        exact joinB
      set_option maxRecDepth 100000 in simp (contextual := true) (maxSteps := 10000000) only [go_sem, ifP_eq, Nat.reduceAdd, Nat.reduceSub, Nat.reduceMul, Nat.reduceLT, Nat.reduceLeDiff, Nat.reduceEqDiff, Nat.reduceMod, Nat.reduceDiv, Int.reduceNeg, Int.reduceLE, Int.reduceLT, Int.reduceToNat, Int.reduceEq, Int.reduceNe, ↓reduceIte]
      apply join_of
      · set_option maxRecDepth 100000 in simp (contextual := true) (maxSteps := 10000000) only [go_sem, ifP_eq, Nat.reduceAdd, Nat.reduceSub, Nat.reduceMul, Nat.reduceLT, Nat.reduceLeDiff, Nat.reduceEqDiff, Nat.reduceMod, Nat.reduceDiv, Int.reduceNeg, Int.reduceLE, Int.reduceLT, Int.reduceToNat, Int.reduceEq, Int.reduceNe, ↓reduceIte]
        exact joinB
      set_option maxRecDepth 100000 in simp (contextual := true) (maxSteps := 10000000) only [go_sem, ifP_eq, Nat.reduceAdd, Nat.reduceSub, Nat.reduceMul, Nat.reduceLT, Nat.reduceLeDiff, Nat.reduceEqDiff, Nat.reduceMod, Nat.reduceDiv, Int.reduceNeg, Int.reduceLE, Int.reduceLT, Int.reduceToNat, Int.reduceEq, Int.reduceNe, ↓reduceIte]
      apply join_of
      · set_option maxRecDepth 100000 in simp (contextual := true) (maxSteps := 10000000) only [go_sem, ifP_eq, Nat.reduceAdd, Nat.reduceSub, Nat.reduceMul, Nat.reduceLT, Nat.reduceLeDiff, Nat.reduceEqDiff, Nat.reduceMod, Nat.reduceDiv, Int.reduceNeg, Int.reduceLE, Int.reduceLT, Int.reduceToNat, Int.reduceEq, Int.reduceNe, ↓reduceIte]
        exact joinB
      set_option maxRecDepth 100000 in simp (contextual := true) (maxSteps := 10000000) only [go_sem, ifP_eq, Nat.reduceAdd, Nat.reduceSub, Nat.reduceMul, Nat.reduceLT, Nat.reduceLeDiff, Nat.reduceEqDiff, Nat.reduceMod, Nat.reduceDiv, Int.reduceNeg, Int.reduceLE, Int.reduceLT, Int.reduceToNat, Int.reduceEq, Int.reduceNe, ↓reduceIte]
      refine join_of (!nameByte i (byteAt s i)) ?_ ?_
      · set_option maxRecDepth 100000 in simp (contextual := true) (maxSteps := 10000000) only [go_sem, ifP_eq, Nat.reduceAdd, Nat.reduceSub, Nat.reduceMul, Nat.reduceLT, Nat.reduceLeDiff, Nat.reduceEqDiff, Nat.reduceMod, Nat.reduceDiv, Int.reduceNeg, Int.reduceLE, Int.reduceLT, Int.reduceToNat, Int.reduceEq, Int.reduceNe, ↓reduceIte]
        clear ih hf hst h h0 hi hlt
        refine iteI (fun h1 => iteI (fun h2 => iteI (fun h3 => iteI (fun h4 => iteI (fun h5 => ?_) fun h5 => ?_) fun h4 => ?_) fun h3 => iteI (fun h5 => ?_) fun h5 => ?_) fun h2 => ?_) fun h1 => ?_ <;> simp_all [nameByte, inB] <;> first | omega | grind
      · set_option maxRecDepth 100000 in simp (contextual := true) (maxSteps := 10000000) only [go_sem, ifP_eq, Nat.reduceAdd, Nat.reduceSub, Nat.reduceMul, Nat.reduceLT, Nat.reduceLeDiff, Nat.reduceEqDiff, Nat.reduceMod, Nat.reduceDiv, Int.reduceNeg, Int.reduceLE, Int.reduceLT, Int.reduceToNat, Int.reduceEq, Int.reduceNe, ↓reduceIte]
        refine iteI (fun h1 => ?_) fun h1 => ih (i + 1) _ ⟨by omega, ?_⟩ (by omega) ?_
        · rw [isNm, hf, show s.size - i = (s.size - (i + 1)) + 1 by omega, nameFrom]; simp_all
        · rw [hf, show s.size - i = (s.size - (i + 1)) + 1 by omega, nameFrom]; simp_all
        · set_option maxRecDepth 100000 in simp (contextual := true) (maxSteps := 10000000) only [go_sem, ifP_eq, Nat.reduceAdd, Nat.reduceSub, Nat.reduceMul, Nat.reduceLT, Nat.reduceLeDiff, Nat.reduceEqDiff, Nat.reduceMod, Nat.reduceDiv, Int.reduceNeg, Int.reduceLE, Int.reduceLT, Int.reduceToNat, Int.reduceEq, Int.reduceNe, ↓reduceIte,  wrap_succ (show i < 9223372036854775807 by omega)]
    · subst hst
      set_option maxRecDepth 100000 in simp (contextual := true) (maxSteps := 10000000) only [go_sem, ifP_eq, Nat.reduceAdd, Nat.reduceSub, Nat.reduceMul, Nat.reduceLT, Nat.reduceLeDiff, Nat.reduceEqDiff, Nat.reduceMod, Nat.reduceDiv, Int.reduceNeg, Int.reduceLE, Int.reduceLT, Int.reduceToNat, Int.reduceEq, Int.reduceNe, ↓reduceIte]
      rw [isNm, hf, show s.size - i = 0 by omega, nameFrom]; simp; omega
def ren : Go.Shelf.Ren := { f := fun n => if n = 106 then 94 else if n = 213 then 103 else 108, t := fun n => n, g := fun n => n }
theorem lays : Lays.n106 Try.prog ren where
  mixed := mixed
  f106 := by kernel_rfl
  f213 := by kernel_rfl
  f265 := by kernel_rfl
  t3 := by kernel_rfl
  a3 := fun w => by kernel_rfl
  z3 := fun w => by kernel_rfl
  v3 := fun w => by kernel_rfl
  t9 := by kernel_rfl
  a9 := fun w => by kernel_rfl
  z9 := fun w => by kernel_rfl
  v9 := fun w => by kernel_rfl

theorem Compare_good (a b : ByteArray) : Ans Try.prog 94 [.str a, .str b] (.int .i64 (Lib.compareBytes a.data.toList b.data.toList)) := by
  refine ⟨by kernel_rfl, rfl, fun w Pr vs hsz hvs hpr => ?_⟩
  have h : vs = #[.string a, .string b] := by
    match vs, hsz with
    | ⟨[x, y]⟩, _ =>
      have h0 := hvs 0 _ _ rfl rfl
      have h1 := hvs 1 _ _ rfl rfl
      cases h0; cases h1; rfl
  subst h
  refine (Any.strings_Compare lays a b w).mono fun e w' ⟨he, hw⟩ => ?_
  subst hw
  exact ⟨_, Pr, he, .int _ _, fun _ _ h => h, fun _ _ _ h => h, hpr, BelowD.refl _⟩

def qsys : ByteArray := ⟨#[81, 83, 89, 83]⟩
def clash (n : OName) : Bool := (isSys n.type && decide (¬ n.lib = qsys)) || (decide (n.type = 0) && decide (n.name = qsys))
def errName (n : OName) : Int := if inB n.type 0 29 = false then 4 else if isNm n.lib = false then 7 else if isNm n.name = false then 7 else if clash n = true then 15 else 0
theorem CheckName_good (n : OName) : Ans Try.prog 17 [.agg (encOName n)] (.int .i64 (errName n)) := by
  refine good_run [(1000022, [3, 25], [22, 23, 24]), (1000030, [3, 33], [30, 31, 32])] mixed Try.func17 rfl Try.ntmps17 (rs := [.tmp 2]) rfl (by decide +kernel) (by kernel_rfl) rfl ?_
  rw [startE_eq 34 _ _ _ rfl rfl]
  set_option maxRecDepth 100000 in simp (contextual := true) (maxSteps := 10000000) only [go_sem, ifP_eq, Nat.reduceAdd, Nat.reduceSub, Nat.reduceMul, Nat.reduceLT, Nat.reduceLeDiff, Nat.reduceEqDiff, Nat.reduceMod, Nat.reduceDiv, Int.reduceNeg, Int.reduceLE, Int.reduceLT, Int.reduceToNat, Int.reduceEq, Int.reduceNe, ↓reduceIte]
  refine call_of (isType_good _) ?_
  set_option maxRecDepth 100000 in simp (contextual := true) (maxSteps := 10000000) only [go_sem, ifP_eq, Nat.reduceAdd, Nat.reduceSub, Nat.reduceMul, Nat.reduceLT, Nat.reduceLeDiff, Nat.reduceEqDiff, Nat.reduceMod, Nat.reduceDiv, Int.reduceNeg, Int.reduceLE, Int.reduceLT, Int.reduceToNat, Int.reduceEq, Int.reduceNe, ↓reduceIte]
  refine iteI (fun h1 => ?_) fun h1 => ?_
  · simp only [Bool.not_eq_true'] at h1; rw [errName, if_pos h1]
  refine call_of (isName_good _) ?_
  set_option maxRecDepth 100000 in simp (contextual := true) (maxSteps := 10000000) only [go_sem, ifP_eq, Nat.reduceAdd, Nat.reduceSub, Nat.reduceMul, Nat.reduceLT, Nat.reduceLeDiff, Nat.reduceEqDiff, Nat.reduceMod, Nat.reduceDiv, Int.reduceNeg, Int.reduceLE, Int.reduceLT, Int.reduceToNat, Int.reduceEq, Int.reduceNe, ↓reduceIte]
  simp only [Bool.not_eq_true', Bool.not_eq_false] at h1
  refine iteI (fun h2 => ?_) fun h2 => ?_
  · simp only [Bool.not_eq_true'] at h2; rw [errName, if_neg (by simp [h1]), if_pos h2]
  simp only [Bool.not_eq_true', Bool.not_eq_false] at h2
  refine call_of (isName_good _) ?_
  set_option maxRecDepth 100000 in simp (contextual := true) (maxSteps := 10000000) only [go_sem, ifP_eq, Nat.reduceAdd, Nat.reduceSub, Nat.reduceMul, Nat.reduceLT, Nat.reduceLeDiff, Nat.reduceEqDiff, Nat.reduceMod, Nat.reduceDiv, Int.reduceNeg, Int.reduceLE, Int.reduceLT, Int.reduceToNat, Int.reduceEq, Int.reduceNe, ↓reduceIte]
  refine iteI (fun h3 => ?_) fun h3 => ?_
  · simp only [Bool.not_eq_true'] at h3; rw [errName, if_neg (by simp [h1]), if_neg (by simp [h2]), if_pos h3]
  simp only [Bool.not_eq_true', Bool.not_eq_false] at h3
  refine call_of (isSystem_good _) ?_
  set_option maxRecDepth 100000 in simp (contextual := true) (maxSteps := 10000000) only [go_sem, ifP_eq, Nat.reduceAdd, Nat.reduceSub, Nat.reduceMul, Nat.reduceLT, Nat.reduceLeDiff, Nat.reduceEqDiff, Nat.reduceMod, Nat.reduceDiv, Int.reduceNeg, Int.reduceLE, Int.reduceLT, Int.reduceToNat, Int.reduceEq, Int.reduceNe, ↓reduceIte]
  apply join_of
  · set_option maxRecDepth 100000 in simp (contextual := true) (maxSteps := 10000000) only [go_sem, ifP_eq, Nat.reduceAdd, Nat.reduceSub, Nat.reduceMul, Nat.reduceLT, Nat.reduceLeDiff, Nat.reduceEqDiff, Nat.reduceMod, Nat.reduceDiv, Int.reduceNeg, Int.reduceLE, Int.reduceLT, Int.reduceToNat, Int.reduceEq, Int.reduceNe, ↓reduceIte]
    exact joinB
  set_option maxRecDepth 100000 in simp (contextual := true) (maxSteps := 10000000) only [go_sem, ifP_eq, Nat.reduceAdd, Nat.reduceSub, Nat.reduceMul, Nat.reduceLT, Nat.reduceLeDiff, Nat.reduceEqDiff, Nat.reduceMod, Nat.reduceDiv, Int.reduceNeg, Int.reduceLE, Int.reduceLT, Int.reduceToNat, Int.reduceEq, Int.reduceNe, ↓reduceIte]
  refine iteI (fun h4 => ?_) fun h4 => ?_
  · rw [errName, if_neg (by simp [h1]), if_neg (by simp [h2]), if_neg (by simp [h3]), if_pos (by simp at h4; simp [clash, qsys, h4])]
  apply join_of
  · set_option maxRecDepth 100000 in simp (contextual := true) (maxSteps := 10000000) only [go_sem, ifP_eq, Nat.reduceAdd, Nat.reduceSub, Nat.reduceMul, Nat.reduceLT, Nat.reduceLeDiff, Nat.reduceEqDiff, Nat.reduceMod, Nat.reduceDiv, Int.reduceNeg, Int.reduceLE, Int.reduceLT, Int.reduceToNat, Int.reduceEq, Int.reduceNe, ↓reduceIte]
    exact joinB
  set_option maxRecDepth 100000 in simp (contextual := true) (maxSteps := 10000000) only [go_sem, ifP_eq, Nat.reduceAdd, Nat.reduceSub, Nat.reduceMul, Nat.reduceLT, Nat.reduceLeDiff, Nat.reduceEqDiff, Nat.reduceMod, Nat.reduceDiv, Int.reduceNeg, Int.reduceLE, Int.reduceLT, Int.reduceToNat, Int.reduceEq, Int.reduceNe, ↓reduceIte]
  refine iteI (fun h5 => ?_) fun h5 => ?_
  · rw [errName, if_neg (by simp [h1]), if_neg (by simp [h2]), if_neg (by simp [h3]), if_pos (by simp at h5; simp [clash, qsys, h5])]
  · rw [errName, if_neg (by simp [h1]), if_neg (by simp [h2]), if_neg (by simp [h3]), if_neg (by clear h1 h2 h3; simp only [clash, qsys]; simp_all)]
theorem NameErr_good (n : OName) : Ans Try.prog 18 [.agg (encOName n)] (.int .i64 (errName n)) := by
  refine good_run [(1000014, [4, 18], [14, 15, 16, 17]), (1000024, [3, 27], [24, 25, 26]), (1000029, [8, 37], [29, 30, 31, 32, 33, 34, 35, 36])] mixed Try.func18 rfl Try.ntmps18 (rs := [.tmp 2]) rfl (by decide +kernel) (by kernel_rfl) rfl ?_
  rw [startE_eq 38 _ _ _ rfl rfl]
  set_option maxRecDepth 100000 in simp (contextual := true) (maxSteps := 10000000) only [go_sem, ifP_eq, Nat.reduceAdd, Nat.reduceSub, Nat.reduceMul, Nat.reduceLT, Nat.reduceLeDiff, Nat.reduceEqDiff, Nat.reduceMod, Nat.reduceDiv, Int.reduceNeg, Int.reduceLE, Int.reduceLT, Int.reduceToNat, Int.reduceEq, Int.reduceNe, ↓reduceIte]
  refine call_of (IsType_good _) ?_
  set_option maxRecDepth 100000 in simp (contextual := true) (maxSteps := 10000000) only [go_sem, ifP_eq, Nat.reduceAdd, Nat.reduceSub, Nat.reduceMul, Nat.reduceLT, Nat.reduceLeDiff, Nat.reduceEqDiff, Nat.reduceMod, Nat.reduceDiv, Int.reduceNeg, Int.reduceLE, Int.reduceLT, Int.reduceToNat, Int.reduceEq, Int.reduceNe, ↓reduceIte]
  refine iteI (fun h1 => ?_) fun h1 => ?_
  · simp only [Bool.not_eq_true'] at h1; rw [errName, if_pos h1]
  refine call_of (IsName_good _) ?_
  set_option maxRecDepth 100000 in simp (contextual := true) (maxSteps := 10000000) only [go_sem, ifP_eq, Nat.reduceAdd, Nat.reduceSub, Nat.reduceMul, Nat.reduceLT, Nat.reduceLeDiff, Nat.reduceEqDiff, Nat.reduceMod, Nat.reduceDiv, Int.reduceNeg, Int.reduceLE, Int.reduceLT, Int.reduceToNat, Int.reduceEq, Int.reduceNe, ↓reduceIte]
  simp only [Bool.not_eq_true', Bool.not_eq_false] at h1
  refine join_of (!isNm n.lib || !isNm n.name) ?_ ?_
  · set_option maxRecDepth 100000 in simp (contextual := true) (maxSteps := 10000000) only [go_sem, ifP_eq, Nat.reduceAdd, Nat.reduceSub, Nat.reduceMul, Nat.reduceLT, Nat.reduceLeDiff, Nat.reduceEqDiff, Nat.reduceMod, Nat.reduceDiv, Int.reduceNeg, Int.reduceLE, Int.reduceLT, Int.reduceToNat, Int.reduceEq, Int.reduceNe, ↓reduceIte]
    refine iteI (fun h2 => call_of (IsName_good _) ?_) fun h2 => ?_
    · set_option maxRecDepth 100000 in simp (contextual := true) (maxSteps := 10000000) only [go_sem, ifP_eq, Nat.reduceAdd, Nat.reduceSub, Nat.reduceMul, Nat.reduceLT, Nat.reduceLeDiff, Nat.reduceEqDiff, Nat.reduceMod, Nat.reduceDiv, Int.reduceNeg, Int.reduceLE, Int.reduceLT, Int.reduceToNat, Int.reduceEq, Int.reduceNe, ↓reduceIte]
      try simp [h2]
    · simp [h2]
  set_option maxRecDepth 100000 in simp (contextual := true) (maxSteps := 10000000) only [go_sem, ifP_eq, Nat.reduceAdd, Nat.reduceSub, Nat.reduceMul, Nat.reduceLT, Nat.reduceLeDiff, Nat.reduceEqDiff, Nat.reduceMod, Nat.reduceDiv, Int.reduceNeg, Int.reduceLE, Int.reduceLT, Int.reduceToNat, Int.reduceEq, Int.reduceNe, ↓reduceIte]
  refine iteI (fun h2 => ?_) fun h2 => ?_
  · rw [errName, if_neg (by simp [h1])]
    split
    · rfl
    · rw [if_pos (by simp_all)]
  simp only [Bool.or_eq_true, Bool.not_eq_true', not_or, Bool.not_eq_false] at h2
  refine call_of (IsSystem_good _) ?_
  set_option maxRecDepth 100000 in simp (contextual := true) (maxSteps := 10000000) only [go_sem, ifP_eq, Nat.reduceAdd, Nat.reduceSub, Nat.reduceMul, Nat.reduceLT, Nat.reduceLeDiff, Nat.reduceEqDiff, Nat.reduceMod, Nat.reduceDiv, Int.reduceNeg, Int.reduceLE, Int.reduceLT, Int.reduceToNat, Int.reduceEq, Int.reduceNe, ↓reduceIte]
  apply join_of
  · set_option maxRecDepth 100000 in simp (contextual := true) (maxSteps := 10000000) only [go_sem, ifP_eq, Nat.reduceAdd, Nat.reduceSub, Nat.reduceMul, Nat.reduceLT, Nat.reduceLeDiff, Nat.reduceEqDiff, Nat.reduceMod, Nat.reduceDiv, Int.reduceNeg, Int.reduceLE, Int.reduceLT, Int.reduceToNat, Int.reduceEq, Int.reduceNe, ↓reduceIte]
    exact joinB
  set_option maxRecDepth 100000 in simp (contextual := true) (maxSteps := 10000000) only [go_sem, ifP_eq, Nat.reduceAdd, Nat.reduceSub, Nat.reduceMul, Nat.reduceLT, Nat.reduceLeDiff, Nat.reduceEqDiff, Nat.reduceMod, Nat.reduceDiv, Int.reduceNeg, Int.reduceLE, Int.reduceLT, Int.reduceToNat, Int.reduceEq, Int.reduceNe, ↓reduceIte]
  refine join_of (clash n) ?_ ?_
  · set_option maxRecDepth 100000 in simp (contextual := true) (maxSteps := 10000000) only [go_sem, ifP_eq, Nat.reduceAdd, Nat.reduceSub, Nat.reduceMul, Nat.reduceLT, Nat.reduceLeDiff, Nat.reduceEqDiff, Nat.reduceMod, Nat.reduceDiv, Int.reduceNeg, Int.reduceLE, Int.reduceLT, Int.reduceToNat, Int.reduceEq, Int.reduceNe, ↓reduceIte]
    clear h1 h2
    refine iteI (fun h1 => iteI (fun h2 => ?_) fun h2 => ?_) fun h1 => ?_ <;> simp_all [clash, qsys] <;> cases hs : isSys 0 <;> simp_all <;> exact decide_eq_decide.2 Iff.rfl
  · set_option maxRecDepth 100000 in simp (contextual := true) (maxSteps := 10000000) only [go_sem, ifP_eq, Nat.reduceAdd, Nat.reduceSub, Nat.reduceMul, Nat.reduceLT, Nat.reduceLeDiff, Nat.reduceEqDiff, Nat.reduceMod, Nat.reduceDiv, Int.reduceNeg, Int.reduceLE, Int.reduceLT, Int.reduceToNat, Int.reduceEq, Int.reduceNe, ↓reduceIte]
    have hb : errName n = if clash n = true then 15 else 0 := by
      rw [errName, if_neg (by simp [h1]), if_neg (by simp [h2]), if_neg (by simp [h2])]
    rw [hb]
    split <;> rfl
theorem cmpB_lt : ∀ (a b : List UInt8), (Lib.compareBytes a b < 0) ↔ Go.Op.bytesLess a b = true
  | [], [] => by simp [Lib.compareBytes, Go.Op.bytesLess]
  | [], _ :: _ => by simp [Lib.compareBytes, Go.Op.bytesLess]
  | _ :: _, [] => by simp [Lib.compareBytes, Go.Op.bytesLess]
  | a :: x, b :: y => by
    have ih := cmpB_lt x y
    simp only [Lib.compareBytes, Go.Op.bytesLess, Bool.or_eq_true, decide_eq_true_eq, Bool.and_eq_true, beq_iff_eq]
    split
    · simp_all
    · split
      · rename_i h1 h2
        constructor
        · intro h; omega
        · rintro (h | ⟨h, -⟩)
          · exact absurd h h1
          · subst h; exact absurd h2 h1
      · rename_i h1 h2
        have : a = b := UInt8.le_antisymm (UInt8.not_lt.1 h2) (UInt8.not_lt.1 h1)
        simp [this, ih]
theorem cmpB_eq : ∀ (a b : List UInt8), (Lib.compareBytes a b = 0) ↔ a = b
  | [], [] => by simp [Lib.compareBytes]
  | [], _ :: _ => by simp [Lib.compareBytes]
  | _ :: _, [] => by simp [Lib.compareBytes]
  | a :: x, b :: y => by
    have ih := cmpB_eq x y
    simp only [Lib.compareBytes, List.cons.injEq]
    split
    · rename_i h; constructor
      · intro h; omega
      · rintro ⟨rfl, -⟩; exact absurd h (UInt8.lt_irrefl _)
    · split
      · rename_i h; constructor
        · intro h; omega
        · rintro ⟨rfl, -⟩; exact absurd h (UInt8.lt_irrefl _)
      · rename_i h1 h2
        have : a = b := UInt8.le_antisymm (UInt8.not_lt.1 h2) (UInt8.not_lt.1 h1)
        simp [this, ih]
theorem isNaN_good (n : Int) : Ans Try.prog 104 [.int .i64 n] (.bool false) := by
  refine good_run [] mixed Try.func104 rfl Try.ntmps104 (rs := [.tmp 2]) rfl (by decide +kernel) (by kernel_rfl) rfl ?_
  rw [startE_eq 6 _ _ _ rfl rfl]
  set_option maxRecDepth 100000 in simp (contextual := true) (maxSteps := 10000000) only [go_sem, ifP_eq, Nat.reduceAdd, Nat.reduceSub, Nat.reduceMul, Nat.reduceLT, Nat.reduceLeDiff, Nat.reduceEqDiff, Nat.reduceMod, Nat.reduceDiv, Int.reduceNeg, Int.reduceLE, Int.reduceLT, Int.reduceToNat, Int.reduceEq, Int.reduceNe, ↓reduceIte]
def cmpI (a b : Int) : Int := if a < b then -1 else if b < a then 1 else 0
theorem cmpI_good (a b : Int) : Ans Try.prog 95 [.int .i64 a, .int .i64 b] (.int .i64 (cmpI a b)) := by
  refine good_run [] mixed Try.func95 rfl Try.ntmps95 (rs := [.tmp 4]) rfl (by decide +kernel) (by kernel_rfl) rfl ?_
  rw [startE_eq 20 _ _ _ rfl rfl]
  set_option maxRecDepth 100000 in simp (contextual := true) (maxSteps := 10000000) only [go_sem, ifP_eq, Nat.reduceAdd, Nat.reduceSub, Nat.reduceMul, Nat.reduceLT, Nat.reduceLeDiff, Nat.reduceEqDiff, Nat.reduceMod, Nat.reduceDiv, Int.reduceNeg, Int.reduceLE, Int.reduceLT, Int.reduceToNat, Int.reduceEq, Int.reduceNe, ↓reduceIte]
  refine call_of (isNaN_good _) ?_
  set_option maxRecDepth 100000 in simp (contextual := true) (maxSteps := 10000000) only [go_sem, ifP_eq, Nat.reduceAdd, Nat.reduceSub, Nat.reduceMul, Nat.reduceLT, Nat.reduceLeDiff, Nat.reduceEqDiff, Nat.reduceMod, Nat.reduceDiv, Int.reduceNeg, Int.reduceLE, Int.reduceLT, Int.reduceToNat, Int.reduceEq, Int.reduceNe, ↓reduceIte]
  refine call_of (isNaN_good _) ?_
  set_option maxRecDepth 100000 in simp (contextual := true) (maxSteps := 10000000) only [go_sem, ifP_eq, Nat.reduceAdd, Nat.reduceSub, Nat.reduceMul, Nat.reduceLT, Nat.reduceLeDiff, Nat.reduceEqDiff, Nat.reduceMod, Nat.reduceDiv, Int.reduceNeg, Int.reduceLE, Int.reduceLT, Int.reduceToNat, Int.reduceEq, Int.reduceNe, ↓reduceIte]
  unfold cmpI
  split
  · rfl
  · split <;> rfl
theorem OrI_good (l : List Int) (h : l.length ≤ 1000000) : Ans Try.prog 93 [.sl (l.map encInt)] (.int .i64 (firstE l)) := by
  refine good_run [(3, [2, 5, 9, 10, 11, 12, 13, 14, 15, 16], [])] mixed Try.func93 rfl Try.ntmps93 (rs := [.tmp 2]) rfl (by decide +kernel) (by kernel_rfl) rfl ?_
  rw [startE_eq 18 _ _ _ rfl rfl]
  set_option maxRecDepth 100000 in simp (contextual := true) (maxSteps := 10000000) only [go_sem, ifP_eq, Nat.reduceAdd, Nat.reduceSub, Nat.reduceMul, Nat.reduceLT, Nat.reduceLeDiff, Nat.reduceEqDiff, Nat.reduceMod, Nat.reduceDiv, Int.reduceNeg, Int.reduceLE, Int.reduceLT, Int.reduceToNat, Int.reduceEq, Int.reduceNe, ↓reduceIte]
  refine loop_by ([2, 5, 9, 10, 11, 12, 13, 14, 15, 16], []) (fun i : Nat => [(.s 8, .int .i64 (i : Int))]) (fun i => l.length - i) (fun i => i ≤ l.length ∧ firstE l = firstE (l.drop i)) 0 rfl ⟨Nat.zero_le _, rfl⟩ rfl ?_
  rintro c' st' hst i ⟨hi, hf⟩ ih
  set_option maxRecDepth 100000 in simp (contextual := true) (maxSteps := 10000000) only [go_sem, ifP_eq, Nat.reduceAdd, Nat.reduceSub, Nat.reduceMul, Nat.reduceLT, Nat.reduceLeDiff, Nat.reduceEqDiff, Nat.reduceMod, Nat.reduceDiv, Int.reduceNeg, Int.reduceLE, Int.reduceLT, Int.reduceToNat, Int.reduceEq, Int.reduceNe, ↓reduceIte]
  refine iteI (fun hlt => iteI (fun hn => ?_) fun hn => ih (i + 1) _ ⟨by omega, ?_⟩ (by omega) ?_) fun hlt => ?_
  · rw [hf, drop_nth hlt, firstE, if_neg hn]
  · rw [hf, drop_nth hlt, firstE, if_pos (by omega)]
  · set_option maxRecDepth 100000 in simp (contextual := true) (maxSteps := 10000000) only [go_sem, ifP_eq, Nat.reduceAdd, Nat.reduceSub, Nat.reduceMul, Nat.reduceLT, Nat.reduceLeDiff, Nat.reduceEqDiff, Nat.reduceMod, Nat.reduceDiv, Int.reduceNeg, Int.reduceLE, Int.reduceLT, Int.reduceToNat, Int.reduceEq, Int.reduceNe, ↓reduceIte,  wrap_succ (show i < 9223372036854775807 by omega)]
  · subst hst
    set_option maxRecDepth 100000 in simp (contextual := true) (maxSteps := 10000000) only [go_sem, ifP_eq, Nat.reduceAdd, Nat.reduceSub, Nat.reduceMul, Nat.reduceLT, Nat.reduceLeDiff, Nat.reduceEqDiff, Nat.reduceMod, Nat.reduceDiv, Int.reduceNeg, Int.reduceLE, Int.reduceLT, Int.reduceToNat, Int.reduceEq, Int.reduceNe, ↓reduceIte]
    rw [hf, List.drop_eq_nil_of_le (by omega)]; rfl
def sLt (a b : ByteArray) : Bool := Go.Op.bytesLess a.toList b.toList
def nLt (a b : OName) : Bool := if a.lib ≠ b.lib then sLt a.lib b.lib else if a.name ≠ b.name then sLt a.name b.name else decide (a.type < b.type)
theorem Less_good (a b : OName) : Ans Try.prog 66 [.agg (encOName a), .agg (encOName b)] (.bool (nLt a b)) := by
  refine good_run [] mixed Try.func66 rfl Try.ntmps66 (rs := [.tmp 4]) rfl (by decide +kernel) (by kernel_rfl) rfl ?_
  rw [startE_eq 30 _ _ _ rfl rfl]
  set_option maxRecDepth 100000 in simp (contextual := true) (maxSteps := 10000000) only [go_sem, ifP_eq, Nat.reduceAdd, Nat.reduceSub, Nat.reduceMul, Nat.reduceLT, Nat.reduceLeDiff, Nat.reduceEqDiff, Nat.reduceMod, Nat.reduceDiv, Int.reduceNeg, Int.reduceLE, Int.reduceLT, Int.reduceToNat, Int.reduceEq, Int.reduceNe, ↓reduceIte]
  refine iteI (fun h1 => ?_) fun h1 => iteI (fun h2 => ?_) fun h2 => ?_
  · rw [nLt, if_pos h1]; rfl
  · rw [nLt, if_neg h1, if_pos h2]; rfl
  · rw [nLt, if_neg h1, if_neg h2]
def cmpN (a b : OName) : Int := firstE [Lib.compareBytes a.lib.data.toList b.lib.data.toList, Lib.compareBytes a.name.data.toList b.name.data.toList, cmpI a.type b.type]
theorem order_good (a b : OName) : Ans Try.prog 62 [.agg (encOName a), .agg (encOName b)] (.int .i64 (cmpN a b)) := by
  refine good_run [] mixed Try.func62 rfl Try.ntmps62 (rs := [.tmp 4]) rfl (by decide +kernel) (by kernel_rfl) rfl ?_
  rw [startE_eq 22 _ _ _ rfl rfl]
  set_option maxRecDepth 100000 in simp (contextual := true) (maxSteps := 10000000) only [go_sem, ifP_eq, Nat.reduceAdd, Nat.reduceSub, Nat.reduceMul, Nat.reduceLT, Nat.reduceLeDiff, Nat.reduceEqDiff, Nat.reduceMod, Nat.reduceDiv, Int.reduceNeg, Int.reduceLE, Int.reduceLT, Int.reduceToNat, Int.reduceEq, Int.reduceNe, ↓reduceIte]
  refine callD_of (Compare_good _ _) ?_
  set_option maxRecDepth 100000 in simp (contextual := true) (maxSteps := 10000000) only [go_sem, ifP_eq, Nat.reduceAdd, Nat.reduceSub, Nat.reduceMul, Nat.reduceLT, Nat.reduceLeDiff, Nat.reduceEqDiff, Nat.reduceMod, Nat.reduceDiv, Int.reduceNeg, Int.reduceLE, Int.reduceLT, Int.reduceToNat, Int.reduceEq, Int.reduceNe, ↓reduceIte]
  refine callD_of (Compare_good _ _) ?_
  set_option maxRecDepth 100000 in simp (contextual := true) (maxSteps := 10000000) only [go_sem, ifP_eq, Nat.reduceAdd, Nat.reduceSub, Nat.reduceMul, Nat.reduceLT, Nat.reduceLeDiff, Nat.reduceEqDiff, Nat.reduceMod, Nat.reduceDiv, Int.reduceNeg, Int.reduceLE, Int.reduceLT, Int.reduceToNat, Int.reduceEq, Int.reduceNe, ↓reduceIte]
  refine callD_of (cmpI_good _ _) ?_
  set_option maxRecDepth 100000 in simp (contextual := true) (maxSteps := 10000000) only [go_sem, ifP_eq, Nat.reduceAdd, Nat.reduceSub, Nat.reduceMul, Nat.reduceLT, Nat.reduceLeDiff, Nat.reduceEqDiff, Nat.reduceMod, Nat.reduceDiv, Int.reduceNeg, Int.reduceLE, Int.reduceLT, Int.reduceToNat, Int.reduceEq, Int.reduceNe, ↓reduceIte]
  have ho := OrI_good [Lib.compareBytes a.lib.data.toList b.lib.data.toList, Lib.compareBytes a.name.data.toList b.name.data.toList, cmpI a.type b.type] (by simp)
  simp only [List.map_cons, List.map_nil, encInt] at ho
  refine callD_of ho ?_
  set_option maxRecDepth 100000 in simp (contextual := true) (maxSteps := 10000000) only [go_sem, ifP_eq, Nat.reduceAdd, Nat.reduceSub, Nat.reduceMul, Nat.reduceLT, Nat.reduceLeDiff, Nat.reduceEqDiff, Nat.reduceMod, Nat.reduceDiv, Int.reduceNeg, Int.reduceLE, Int.reduceLT, Int.reduceToNat, Int.reduceEq, Int.reduceNe, ↓reduceIte]
  exact ⟨by decide +kernel, rfl⟩
theorem cmpI_lt (a b : Int) : cmpI a b < 0 ↔ a < b := by
  unfold cmpI; split
  · simp [*]
  · split <;> simp [*]
theorem cmpN_lt (a b : OName) : decide (cmpN a b < 0) = nLt a b := by
  unfold cmpN nLt sLt
  simp only [firstE, cmpB_eq, ByteArray.toList_eq]
  have e : ∀ x y : ByteArray, x.data.toList = y.data.toList ↔ x = y := fun x y => ⟨WideShapes.bytes_inj, fun h => h ▸ rfl⟩
  simp only [e]
  by_cases h1 : a.lib = b.lib
  · rw [if_pos h1, if_neg (Classical.not_not.2 h1 : ¬ a.lib ≠ b.lib)]
    by_cases h2 : a.name = b.name
    · rw [if_pos h2, if_neg (Classical.not_not.2 h2 : ¬ a.name ≠ b.name)]
      split
      · rename_i h3
        unfold cmpI at h3
        split at h3
        · omega
        · simp; omega
      · simp [cmpI_lt]
    · rw [if_neg h2, if_pos h2, Bool.eq_iff_iff, decide_eq_true_eq, cmpB_lt]
  · rw [if_neg h1, if_pos h1, Bool.eq_iff_iff, decide_eq_true_eq, cmpB_lt]
end Go.Proofs.Ytcmnbfpcomcejaa.C08
