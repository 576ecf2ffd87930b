/- Chapter 10: names and types of objects. -/
import Derived.Test.YtdmcmfdmnlckdaaF2
namespace Go.Proofs.Ytdmcmfdmnlckdaa.C10
open Go Go.Proofs Go.Proofs.Ytdmcmfdmnlckdaa.Ab
set_option linter.unusedSimpArgs false
attribute [local congr] ite_ctx

theorem profile_good (s : Sec) (n : ByteArray) (h : s.profiles.length ≤ 1000000) : Ans Try.prog 91 [.agg (encSec s), .str n] (.int .i64 (findIx (fun p => decide (p.name = n)) s.profiles 0)) := by
  refine good_run [] mixed Try.func91 rfl Try.ntmps91 (rs := [.tmp 4]) rfl (by decide +kernel) (by kernel_rfl) rfl ?_
  rw [startE_eq 9 _ _ _ rfl rfl]
  set_option maxRecDepth 100000 in simp (contextual := true) (maxSteps := 10000000) only [go_sem, ifP_eq, Nat.reduceAdd, Nat.reduceSub, Nat.reduceMul, Nat.reduceLT, Nat.reduceLeDiff, Nat.reduceEqDiff, Nat.reduceMod, Nat.reduceDiv, Int.reduceNeg, Int.reduceLE, Int.reduceLT, Int.reduceToNat, Int.reduceEq, Int.reduceNe, ↓reduceIte]
  refine call_of (IndexP_good s.profiles n h) ?_
  set_option maxRecDepth 100000 in simp (contextual := true) (maxSteps := 10000000) only [go_sem, ifP_eq, Nat.reduceAdd, Nat.reduceSub, Nat.reduceMul, Nat.reduceLT, Nat.reduceLeDiff, Nat.reduceEqDiff, Nat.reduceMod, Nat.reduceDiv, Int.reduceNeg, Int.reduceLE, Int.reduceLT, Int.reduceToNat, Int.reduceEq, Int.reduceNe, ↓reduceIte]
theorem list_good (s : Sec) (n : ByteArray) (h : s.lists.length ≤ 1000000) : Ans Try.prog 96 [.agg (encSec s), .str n] (.int .i64 (findIx (fun p => decide (p.name = n)) s.lists 0)) := by
  refine good_run [] mixed Try.func96 rfl Try.ntmps96 (rs := [.tmp 4]) rfl (by decide +kernel) (by kernel_rfl) rfl ?_
  rw [startE_eq 9 _ _ _ rfl rfl]
  set_option maxRecDepth 100000 in simp (contextual := true) (maxSteps := 10000000) only [go_sem, ifP_eq, Nat.reduceAdd, Nat.reduceSub, Nat.reduceMul, Nat.reduceLT, Nat.reduceLeDiff, Nat.reduceEqDiff, Nat.reduceMod, Nat.reduceDiv, Int.reduceNeg, Int.reduceLE, Int.reduceLT, Int.reduceToNat, Int.reduceEq, Int.reduceNe, ↓reduceIte]
  refine call_of (IndexL_good s.lists n h) ?_
  set_option maxRecDepth 100000 in simp (contextual := true) (maxSteps := 10000000) only [go_sem, ifP_eq, Nat.reduceAdd, Nat.reduceSub, Nat.reduceMul, Nat.reduceLT, Nat.reduceLeDiff, Nat.reduceEqDiff, Nat.reduceMod, Nat.reduceDiv, Int.reduceNeg, Int.reduceLE, Int.reduceLT, Int.reduceToNat, Int.reduceEq, Int.reduceNe, ↓reduceIte]
theorem grant_good (l : List Grant) (n : ByteArray) (h : l.length ≤ 1000000) : Ans Try.prog 88 [.sl (l.map encGrant), .str n] (.int .i64 (findIx (fun p => decide (p.user = n)) l 0)) := by
  refine good_run [] mixed Try.func88 rfl Try.ntmps88 (rs := [.tmp 4]) rfl (by decide +kernel) (by kernel_rfl) rfl ?_
  rw [startE_eq 8 _ _ _ rfl rfl]
  set_option maxRecDepth 100000 in simp (contextual := true) (maxSteps := 10000000) only [go_sem, ifP_eq, Nat.reduceAdd, Nat.reduceSub, Nat.reduceMul, Nat.reduceLT, Nat.reduceLeDiff, Nat.reduceEqDiff, Nat.reduceMod, Nat.reduceDiv, Int.reduceNeg, Int.reduceLE, Int.reduceLT, Int.reduceToNat, Int.reduceEq, Int.reduceNe, ↓reduceIte]
  refine call_of (IndexG_good l n h) ?_
  set_option maxRecDepth 100000 in simp (contextual := true) (maxSteps := 10000000) only [go_sem, ifP_eq, Nat.reduceAdd, Nat.reduceSub, Nat.reduceMul, Nat.reduceLT, Nat.reduceLeDiff, Nat.reduceEqDiff, Nat.reduceMod, Nat.reduceDiv, Int.reduceNeg, Int.reduceLE, Int.reduceLT, Int.reduceToNat, Int.reduceEq, Int.reduceNe, ↓reduceIte]

theorem findIx_ge {α : Type} (p : α → Bool) : ∀ (l : List α) (i : Nat), findIx p l i = -1 ∨ ((i : Int) ≤ findIx p l i ∧ findIx p l i < i + l.length)
  | [], i => .inl rfl
  | a :: l, i => by
    unfold findIx
    split
    · right; simp only [List.length_cons]; omega
    · rcases findIx_ge p l (i + 1) with h | ⟨h, h2⟩
      · exact .inl h
      · right; simp only [List.length_cons]; omega
theorem findIx_any {α : Type} (p : α → Bool) : ∀ (l : List α) (i : Nat), decide (0 ≤ findIx p l i) = l.any p
  | [], i => rfl
  | a :: l, i => by
    unfold findIx
    split
    · rename_i h; simp only [List.any_cons, h, Bool.true_or, decide_eq_true_eq]; omega
    · rename_i h; rw [findIx_any p l (i + 1)]; simp [h]

theorem ContainsS_good (l : List ByteArray) (n : ByteArray) (h : l.length ≤ 1000000) : Ans Try.prog 92 [.sl (l.map encStr), .str n] (.bool (l.any fun p => decide (p = n))) := by
  refine good_run [] mixed Try.func92 rfl Try.ntmps92 (rs := [.tmp 4]) rfl (by decide +kernel) (by kernel_rfl) rfl ?_
  rw [startE_eq 9 _ _ _ rfl rfl]
  set_option maxRecDepth 100000 in simp (contextual := true) (maxSteps := 10000000) only [go_sem, ifP_eq, Nat.reduceAdd, Nat.reduceSub, Nat.reduceMul, Nat.reduceLT, Nat.reduceLeDiff, Nat.reduceEqDiff, Nat.reduceMod, Nat.reduceDiv, Int.reduceNeg, Int.reduceLE, Int.reduceLT, Int.reduceToNat, Int.reduceEq, Int.reduceNe, ↓reduceIte]
  refine call_of (IndexS_good l n h) ?_
  set_option maxRecDepth 100000 in simp (contextual := true) (maxSteps := 10000000) only [go_sem, ifP_eq, Nat.reduceAdd, Nat.reduceSub, Nat.reduceMul, Nat.reduceLT, Nat.reduceLeDiff, Nat.reduceEqDiff, Nat.reduceMod, Nat.reduceDiv, Int.reduceNeg, Int.reduceLE, Int.reduceLT, Int.reduceToNat, Int.reduceEq, Int.reduceNe, ↓reduceIte]
  exact findIx_any _ _ _
theorem ContainsI_good (l : List Int) (n : Int) (h : l.length ≤ 1000000) : Ans Try.prog 128 [.sl (l.map encInt), .int .i64 n] (.bool (l.any fun p => decide (p = n))) := by
  refine good_run [] mixed Try.func128 rfl Try.ntmps128 (rs := [.tmp 4]) rfl (by decide +kernel) (by kernel_rfl) rfl ?_
  rw [startE_eq 9 _ _ _ rfl rfl]
  set_option maxRecDepth 100000 in simp (contextual := true) (maxSteps := 10000000) only [go_sem, ifP_eq, Nat.reduceAdd, Nat.reduceSub, Nat.reduceMul, Nat.reduceLT, Nat.reduceLeDiff, Nat.reduceEqDiff, Nat.reduceMod, Nat.reduceDiv, Int.reduceNeg, Int.reduceLE, Int.reduceLT, Int.reduceToNat, Int.reduceEq, Int.reduceNe, ↓reduceIte]
  refine call_of (IndexI_good l n h) ?_
  set_option maxRecDepth 100000 in simp (contextual := true) (maxSteps := 10000000) only [go_sem, ifP_eq, Nat.reduceAdd, Nat.reduceSub, Nat.reduceMul, Nat.reduceLT, Nat.reduceLeDiff, Nat.reduceEqDiff, Nat.reduceMod, Nat.reduceDiv, Int.reduceNeg, Int.reduceLE, Int.reduceLT, Int.reduceToNat, Int.reduceEq, Int.reduceNe, ↓reduceIte]
  exact findIx_any _ _ _

def isSys (t : Int) : Bool := [0, 5, 6, 23, 24, 25].any fun p : Int => decide (p = t)
theorem isSystem_good (t : Int) : Ans Try.prog 118 [.int .i64 t] (.bool (isSys t)) := by
  refine good_run [] mixed Try.func118 rfl Try.ntmps118 (rs := [.tmp 2]) rfl (by decide +kernel) (by kernel_rfl) rfl ?_
  rw [startE_eq 6 _ _ _ rfl rfl]
  set_option maxRecDepth 100000 in simp (contextual := true) (maxSteps := 10000000) only [go_sem, ifP_eq, Nat.reduceAdd, Nat.reduceSub, Nat.reduceMul, Nat.reduceLT, Nat.reduceLeDiff, Nat.reduceEqDiff, Nat.reduceMod, Nat.reduceDiv, Int.reduceNeg, Int.reduceLE, Int.reduceLT, Int.reduceToNat, Int.reduceEq, Int.reduceNe, ↓reduceIte]
  refine call_of (ContainsI_good [0, 5, 6, 23, 24, 25] t (by decide)) ?_
  set_option maxRecDepth 100000 in simp (contextual := true) (maxSteps := 10000000) only [go_sem, ifP_eq, Nat.reduceAdd, Nat.reduceSub, Nat.reduceMul, Nat.reduceLT, Nat.reduceLeDiff, Nat.reduceEqDiff, Nat.reduceMod, Nat.reduceDiv, Int.reduceNeg, Int.reduceLE, Int.reduceLT, Int.reduceToNat, Int.reduceEq, Int.reduceNe, ↓reduceIte]
  rfl
theorem IsSystem_good (t : Int) : Ans Try.prog 122 [.int .i64 t] (.bool (isSys t)) := by
  refine good_run [(1000006, [2, 8], [6, 7]), (1000010, [2, 12], [10, 11]), (1000014, [2, 16], [14, 15]), (1000018, [2, 20], [18, 19]), (1000022, [2, 24], [22, 23])] mixed Try.func122 rfl Try.ntmps122 (rs := [.tmp 2]) rfl (by decide +kernel) (by kernel_rfl) rfl ?_
  rw [startE_eq 25 _ _ _ rfl rfl]
  set_option maxRecDepth 100000 in simp (contextual := true) (maxSteps := 10000000) only [go_sem, ifP_eq, Nat.reduceAdd, Nat.reduceSub, Nat.reduceMul, Nat.reduceLT, Nat.reduceLeDiff, Nat.reduceEqDiff, Nat.reduceMod, Nat.reduceDiv, Int.reduceNeg, Int.reduceLE, Int.reduceLT, Int.reduceToNat, Int.reduceEq, Int.reduceNe, ↓reduceIte]
  apply join_of
  · set_option maxRecDepth 100000 in simp (contextual := true) (maxSteps := 10000000) only [go_sem, ifP_eq, Nat.reduceAdd, Nat.reduceSub, Nat.reduceMul, Nat.reduceLT, Nat.reduceLeDiff, Nat.reduceEqDiff, Nat.reduceMod, Nat.reduceDiv, Int.reduceNeg, Int.reduceLE, Int.reduceLT, Int.reduceToNat, Int.reduceEq, Int.reduceNe, ↓reduceIte]
    exact joinB
  set_option maxRecDepth 100000 in simp (contextual := true) (maxSteps := 10000000) only [go_sem, ifP_eq, Nat.reduceAdd, Nat.reduceSub, Nat.reduceMul, Nat.reduceLT, Nat.reduceLeDiff, Nat.reduceEqDiff, Nat.reduceMod, Nat.reduceDiv, Int.reduceNeg, Int.reduceLE, Int.reduceLT, Int.reduceToNat, Int.reduceEq, Int.reduceNe, ↓reduceIte]
  apply join_of
  · set_option maxRecDepth 100000 in simp (contextual := true) (maxSteps := 10000000) only [go_sem, ifP_eq, Nat.reduceAdd, Nat.reduceSub, Nat.reduceMul, Nat.reduceLT, Nat.reduceLeDiff, Nat.reduceEqDiff, Nat.reduceMod, Nat.reduceDiv, Int.reduceNeg, Int.reduceLE, Int.reduceLT, Int.reduceToNat, Int.reduceEq, Int.reduceNe, ↓reduceIte]
    exact joinB
  set_option maxRecDepth 100000 in simp (contextual := true) (maxSteps := 10000000) only [go_sem, ifP_eq, Nat.reduceAdd, Nat.reduceSub, Nat.reduceMul, Nat.reduceLT, Nat.reduceLeDiff, Nat.reduceEqDiff, Nat.reduceMod, Nat.reduceDiv, Int.reduceNeg, Int.reduceLE, Int.reduceLT, Int.reduceToNat, Int.reduceEq, Int.reduceNe, ↓reduceIte]
  apply join_of
  · set_option maxRecDepth 100000 in simp (contextual := true) (maxSteps := 10000000) only [go_sem, ifP_eq, Nat.reduceAdd, Nat.reduceSub, Nat.reduceMul, Nat.reduceLT, Nat.reduceLeDiff, Nat.reduceEqDiff, Nat.reduceMod, Nat.reduceDiv, Int.reduceNeg, Int.reduceLE, Int.reduceLT, Int.reduceToNat, Int.reduceEq, Int.reduceNe, ↓reduceIte]
    exact joinB
  set_option maxRecDepth 100000 in simp (contextual := true) (maxSteps := 10000000) only [go_sem, ifP_eq, Nat.reduceAdd, Nat.reduceSub, Nat.reduceMul, Nat.reduceLT, Nat.reduceLeDiff, Nat.reduceEqDiff, Nat.reduceMod, Nat.reduceDiv, Int.reduceNeg, Int.reduceLE, Int.reduceLT, Int.reduceToNat, Int.reduceEq, Int.reduceNe, ↓reduceIte]
  apply join_of
  · set_option maxRecDepth 100000 in simp (contextual := true) (maxSteps := 10000000) only [go_sem, ifP_eq, Nat.reduceAdd, Nat.reduceSub, Nat.reduceMul, Nat.reduceLT, Nat.reduceLeDiff, Nat.reduceEqDiff, Nat.reduceMod, Nat.reduceDiv, Int.reduceNeg, Int.reduceLE, Int.reduceLT, Int.reduceToNat, Int.reduceEq, Int.reduceNe, ↓reduceIte]
    exact joinB
  set_option maxRecDepth 100000 in simp (contextual := true) (maxSteps := 10000000) only [go_sem, ifP_eq, Nat.reduceAdd, Nat.reduceSub, Nat.reduceMul, Nat.reduceLT, Nat.reduceLeDiff, Nat.reduceEqDiff, Nat.reduceMod, Nat.reduceDiv, Int.reduceNeg, Int.reduceLE, Int.reduceLT, Int.reduceToNat, Int.reduceEq, Int.reduceNe, ↓reduceIte]
  apply join_of
  · set_option maxRecDepth 100000 in simp (contextual := true) (maxSteps := 10000000) only [go_sem, ifP_eq, Nat.reduceAdd, Nat.reduceSub, Nat.reduceMul, Nat.reduceLT, Nat.reduceLeDiff, Nat.reduceEqDiff, Nat.reduceMod, Nat.reduceDiv, Int.reduceNeg, Int.reduceLE, Int.reduceLT, Int.reduceToNat, Int.reduceEq, Int.reduceNe, ↓reduceIte]
    exact joinB
  set_option maxRecDepth 100000 in simp (contextual := true) (maxSteps := 10000000) only [go_sem, ifP_eq, Nat.reduceAdd, Nat.reduceSub, Nat.reduceMul, Nat.reduceLT, Nat.reduceLeDiff, Nat.reduceEqDiff, Nat.reduceMod, Nat.reduceDiv, Int.reduceNeg, Int.reduceLE, Int.reduceLT, Int.reduceToNat, Int.reduceEq, Int.reduceNe, ↓reduceIte]
  simp [isSys, Bool.or_assoc, eq_comm]
theorem IsType_good (t : Int) : Ans Try.prog 121 [.int .i64 t] (.bool (inB t 0 29)) := by
  refine good_run [] mixed Try.func121 rfl Try.ntmps121 (rs := [.tmp 2]) rfl (by decide +kernel) (by kernel_rfl) rfl ?_
  rw [startE_eq 5 _ _ _ rfl rfl]
  set_option maxRecDepth 100000 in simp (contextual := true) (maxSteps := 10000000) only [go_sem, ifP_eq, Nat.reduceAdd, Nat.reduceSub, Nat.reduceMul, Nat.reduceLT, Nat.reduceLeDiff, Nat.reduceEqDiff, Nat.reduceMod, Nat.reduceDiv, Int.reduceNeg, Int.reduceLE, Int.reduceLT, Int.reduceToNat, Int.reduceEq, Int.reduceNe, ↓reduceIte]
  refine call_of (Within_good _ _ _) ?_
  set_option maxRecDepth 100000 in simp (contextual := true) (maxSteps := 10000000) only [go_sem, ifP_eq, Nat.reduceAdd, Nat.reduceSub, Nat.reduceMul, Nat.reduceLT, Nat.reduceLeDiff, Nat.reduceEqDiff, Nat.reduceMod, Nat.reduceDiv, Int.reduceNeg, Int.reduceLE, Int.reduceLT, Int.reduceToNat, Int.reduceEq, Int.reduceNe, ↓reduceIte]

def encKind (p : ByteArray × ByteArray) : List AV := [.str p.1, .str p.2]
attribute [go_sem] encKind
def kinds : List (ByteArray × ByteArray) := [
  (⟨#[42, 76, 73, 66]⟩, ⟨#[114, 100, 115]⟩),
  (⟨#[42, 80, 71, 77]⟩, ⟨#[114, 109, 121, 100, 97, 115]⟩),
  (⟨#[42, 83, 82, 86, 80, 71, 77]⟩, ⟨#[114, 109, 121, 100, 115]⟩),
  (⟨#[42, 77, 79, 68, 85, 76, 69]⟩, ⟨#[114, 109, 121, 100, 115]⟩),
  (⟨#[42, 70, 73, 76, 69]⟩, ⟨#[114, 109, 121, 100, 101, 99, 108, 115]⟩),
  (⟨#[42, 85, 83, 82, 80, 82, 70]⟩, ⟨#[100, 101, 99, 115]⟩),
  (⟨#[42, 65, 85, 84, 76]⟩, ⟨#[100, 101, 99, 115]⟩),
  (⟨#[42, 77, 83, 71, 81]⟩, ⟨#[114, 109, 121, 100, 101, 99, 108, 115]⟩),
  (⟨#[42, 77, 83, 71, 70]⟩, ⟨#[114, 109, 121, 100, 101, 99, 115]⟩),
  (⟨#[42, 74, 79, 66, 81]⟩, ⟨#[114, 109, 100, 101, 99, 108, 115]⟩),
  (⟨#[42, 79, 85, 84, 81]⟩, ⟨#[114, 109, 100, 101, 99, 108, 115]⟩),
  (⟨#[42, 74, 79, 66, 68]⟩, ⟨#[114, 109, 121, 100, 101, 99, 115]⟩),
  (⟨#[42, 83, 66, 83, 68]⟩, ⟨#[114, 109, 121, 100, 101, 99, 115]⟩),
  (⟨#[42, 67, 76, 83]⟩, ⟨#[114, 109, 121, 100, 101, 99, 115]⟩),
  (⟨#[42, 67, 77, 68]⟩, ⟨#[114, 109, 121, 100, 99, 97, 115]⟩),
  (⟨#[42, 74, 82, 78]⟩, ⟨#[100, 101, 115]⟩),
  (⟨#[42, 74, 82, 78, 82, 67, 86]⟩, ⟨#[100, 101, 115]⟩),
  (⟨#[42, 68, 84, 65, 65, 82, 65]⟩, ⟨#[114, 109, 121, 100, 101, 99, 115]⟩),
  (⟨#[42, 68, 84, 65, 81]⟩, ⟨#[114, 109, 100, 101, 99, 108, 115]⟩),
  (⟨#[42, 83, 65, 86, 70]⟩, ⟨#[114, 109, 121, 100, 101, 108]⟩),
  (⟨#[42, 85, 83, 82, 83, 80, 67]⟩, ⟨#[114, 109, 121, 100, 101, 99, 115]⟩),
  (⟨#[42, 85, 83, 82, 73, 68, 88]⟩, ⟨#[114, 109, 121, 100, 101, 99, 115]⟩),
  (⟨#[42, 85, 83, 82, 81]⟩, ⟨#[114, 109, 100, 101, 99, 108, 115]⟩),
  (⟨#[42, 68, 69, 86, 68]⟩, ⟨#[114, 100, 101, 99]⟩),
  (⟨#[42, 76, 73, 78, 68]⟩, ⟨#[114, 100, 101, 99]⟩),
  (⟨#[42, 67, 84, 76, 68]⟩, ⟨#[114, 100, 101, 99]⟩),
  (⟨#[42, 69, 68, 84, 68]⟩, ⟨#[100, 101, 115]⟩),
  (⟨#[42, 84, 66, 76]⟩, ⟨#[114, 109, 121, 100, 101, 115]⟩),
  (⟨#[42, 77, 69, 78, 85]⟩, ⟨#[114, 109, 121, 100, 97, 115]⟩),
  (⟨#[42, 81, 82, 89, 68, 70, 78]⟩, ⟨#[114, 109, 121, 100, 101, 99, 97, 115]⟩)]
theorem kinds_good : Ans Try.prog 127 [] (.sl (kinds.map encKind)) := by
  refine good_run [] mixed Try.func127 rfl Try.ntmps127 (rs := [.tmp 0]) rfl (by decide +kernel) (by kernel_rfl) rfl ?_
  rw [startE_eq 32 _ _ _ rfl rfl]
  set_option maxRecDepth 100000 in simp (contextual := true) (maxSteps := 10000000) only [go_sem, ifP_eq, Nat.reduceAdd, Nat.reduceSub, Nat.reduceMul, Nat.reduceLT, Nat.reduceLeDiff, Nat.reduceEqDiff, Nat.reduceMod, Nat.reduceDiv, Int.reduceNeg, Int.reduceLE, Int.reduceLT, Int.reduceToNat, Int.reduceEq, Int.reduceNe, ↓reduceIte]
  simp only [kinds, List.map_cons, List.map_nil, encKind]
theorem isType_good (t : Int) : Ans Try.prog 116 [.int .i64 t] (.bool (inB t 0 29)) := by
  refine good_run [] mixed Try.func116 rfl Try.ntmps116 (rs := [.tmp 2]) rfl (by decide +kernel) (by kernel_rfl) rfl ?_
  rw [startE_eq 11 _ _ _ rfl rfl]
  set_option maxRecDepth 100000 in simp (contextual := true) (maxSteps := 10000000) only [go_sem, ifP_eq, Nat.reduceAdd, Nat.reduceSub, Nat.reduceMul, Nat.reduceLT, Nat.reduceLeDiff, Nat.reduceEqDiff, Nat.reduceMod, Nat.reduceDiv, Int.reduceNeg, Int.reduceLE, Int.reduceLT, Int.reduceToNat, Int.reduceEq, Int.reduceNe, ↓reduceIte]
  refine iteI (fun h => ?_) fun h => ?_
  · refine call_of kinds_good ?_
    set_option maxRecDepth 100000 in simp (contextual := true) (maxSteps := 10000000) only [go_sem, ifP_eq, Nat.reduceAdd, Nat.reduceSub, Nat.reduceMul, Nat.reduceLT, Nat.reduceLeDiff, Nat.reduceEqDiff, Nat.reduceMod, Nat.reduceDiv, Int.reduceNeg, Int.reduceLE, Int.reduceLT, Int.reduceToNat, Int.reduceEq, Int.reduceNe, ↓reduceIte]
    have : kinds.length = 30 := rfl
    rw [this]; simp [inB, h]; omega
  · simp [inB]; omega

def nameByte (i : Nat) (c : Int) : Bool := (inB c 65 90 || decide (c = 36) || decide (c = 35) || decide (c = 64)) || (decide (i ≠ 0) && (inB c 48 57 || decide (c = 95) || decide (c = 46)))
def nameFrom (s : ByteArray) : Nat → Nat → Bool
  | 0, _ => true
  | k + 1, i => nameByte i (byteAt s i) && nameFrom s k (i + 1)
def isNm (s : ByteArray) : Bool := decide (1 ≤ s.size ∧ s.size ≤ 10) && nameFrom s s.size 0
theorem nb1 {i : Nat} {c : Int} (h1 : (!(inB c 65 90 || decide (c = 36) || decide (c = 35) || decide (c = 64))) = true) (h2 : ¬i = 0) :
    if (!inB c 48 57) = true then if ¬c = 95 then (decide ¬c = 46) = !nameByte i c else false = !nameByte i c else false = !nameByte i c := by
  simp only [Bool.not_eq_true', Bool.or_eq_false_iff, decide_eq_false_iff_not] at h1
  simp only [nameByte, h1, h2, not_false_eq_true, decide_true, decide_false, Bool.or_false, Bool.false_or, Bool.true_and, ne_eq]
  cases inB c 48 57 <;> simp
  by_cases h : c = 95 <;> simp [h]
theorem nb2 {i : Nat} {c : Int} (h2 : i = 0) (h1 : (!(inB c 65 90 || decide (c = 36) || decide (c = 35) || decide (c = 64))) = true) : true = !nameByte i c := by
  simp only [Bool.not_eq_true', Bool.or_eq_false_iff, decide_eq_false_iff_not] at h1
  simp [nameByte, h1, h2]
theorem nb3 {i : Nat} {c : Int} (h1 : ¬(!(inB c 65 90 || decide (c = 36) || decide (c = 35) || decide (c = 64))) = true) : false = !nameByte i c := by
  simp only [Bool.not_eq_true, Bool.not_eq_false'] at h1
  simp only [nameByte, h1, Bool.true_or, Bool.not_true]
theorem IsName_good (s : ByteArray) : Ans Try.prog 63 [.str s] (.bool (isNm s)) := by
  refine good_run [(4, [2, 4, 5, 10, 11, 12, 13, 14, 15, 16, 17, 18, 19, 20, 21, 22, 23, 24, 25, 26, 27, 28, 29, 30, 31, 32, 33, 34, 35, 36, 37, 38, 39, 40, 41, 42, 43, 44, 45, 46, 47, 48, 49, 50, 51], []), (1000022, [2, 24], [22, 23]), (1000026, [2, 28], [26, 27]), (1000030, [2, 32], [30, 31]), (1000036, [15, 51], [36, 37, 38, 39, 40, 41, 42, 43, 44, 45, 46, 47, 48, 49, 50])] mixed Try.func63 rfl Try.ntmps63 (rs := [.tmp 2]) rfl (by decide +kernel) (by kernel_rfl) rfl ?_
  rw [startE_eq 52 _ _ _ rfl rfl]
  set_option maxRecDepth 100000 in simp (contextual := true) (maxSteps := 10000000) only [go_sem, ifP_eq, Nat.reduceAdd, Nat.reduceSub, Nat.reduceMul, Nat.reduceLT, Nat.reduceLeDiff, Nat.reduceEqDiff, Nat.reduceMod, Nat.reduceDiv, Int.reduceNeg, Int.reduceLE, Int.reduceLT, Int.reduceToNat, Int.reduceEq, Int.reduceNe, ↓reduceIte]
  refine call_of (Within_good _ _ _) ?_
  set_option maxRecDepth 100000 in simp (contextual := true) (maxSteps := 10000000) only [go_sem, ifP_eq, Nat.reduceAdd, Nat.reduceSub, Nat.reduceMul, Nat.reduceLT, Nat.reduceLeDiff, Nat.reduceEqDiff, Nat.reduceMod, Nat.reduceDiv, Int.reduceNeg, Int.reduceLE, Int.reduceLT, Int.reduceToNat, Int.reduceEq, Int.reduceNe, ↓reduceIte]
  refine iteI (fun h => ?_) (fun h => ?_)
  · simp [inB] at h; simp [isNm]; omega
  · refine loop_by ([2, 4, 5, 10, 11, 12, 13, 14, 15, 16, 17, 18, 19, 20, 21, 22, 23, 24, 25, 26, 27, 28, 29, 30, 31, 32, 33, 34, 35, 36, 37, 38, 39, 40, 41, 42, 43, 44, 45, 46, 47, 48, 49, 50, 51], []) (fun i : Nat => [(.s 3, .int .i64 (i : Int))]) (fun i => s.size - i) (fun i => i ≤ s.size ∧ nameFrom s s.size 0 = nameFrom s (s.size - i) i) 0 rfl ⟨Nat.zero_le _, rfl⟩ rfl ?_
    rintro c' st' hst i ⟨hi, hf⟩ ih
    set_option maxRecDepth 100000 in simp (contextual := true) (maxSteps := 10000000) only [go_sem, ifP_eq, Nat.reduceAdd, Nat.reduceSub, Nat.reduceMul, Nat.reduceLT, Nat.reduceLeDiff, Nat.reduceEqDiff, Nat.reduceMod, Nat.reduceDiv, Int.reduceNeg, Int.reduceLE, Int.reduceLT, Int.reduceToNat, Int.reduceEq, Int.reduceNe, ↓reduceIte]
    refine iteI (fun hlt => call_of (IsUpper_good _) ?_) fun hlt => ?_
    · set_option maxRecDepth 100000 in simp (contextual := true) (maxSteps := 10000000) only [go_sem, ifP_eq, Nat.reduceAdd, Nat.reduceSub, Nat.reduceMul, Nat.reduceLT, Nat.reduceLeDiff, Nat.reduceEqDiff, Nat.reduceMod, Nat.reduceDiv, Int.reduceNeg, Int.reduceLE, Int.reduceLT, Int.reduceToNat, Int.reduceEq, Int.reduceNe, ↓reduceIte]
      apply join_of
      · set_option maxRecDepth 100000 in simp (contextual := true) (maxSteps := 10000000) only [go_sem, ifP_eq, Nat.reduceAdd, Nat.reduceSub, Nat.reduceMul, Nat.reduceLT, Nat.reduceLeDiff, Nat.reduceEqDiff, Nat.reduceMod, Nat.reduceDiv, Int.reduceNeg, Int.reduceLE, Int.reduceLT, Int.reduceToNat, Int.reduceEq, Int.reduceNe, ↓reduceIte]
        exact joinB
      set_option maxRecDepth 100000 in simp (contextual := true) (maxSteps := 10000000) only [go_sem, ifP_eq, Nat.reduceAdd, Nat.reduceSub, Nat.reduceMul, Nat.reduceLT, Nat.reduceLeDiff, Nat.reduceEqDiff, Nat.reduceMod, Nat.reduceDiv, Int.reduceNeg, Int.reduceLE, Int.reduceLT, Int.reduceToNat, Int.reduceEq, Int.reduceNe, ↓reduceIte]
      apply join_of
      · set_option maxRecDepth 100000 in simp (contextual := true) (maxSteps := 10000000) only [go_sem, ifP_eq, Nat.reduceAdd, Nat.reduceSub, Nat.reduceMul, Nat.reduceLT, Nat.reduceLeDiff, Nat.reduceEqDiff, Nat.reduceMod, Nat.reduceDiv, Int.reduceNeg, Int.reduceLE, Int.reduceLT, Int.reduceToNat, Int.reduceEq, Int.reduceNe, ↓reduceIte]
        exact joinB
      set_option maxRecDepth 100000 in simp (contextual := true) (maxSteps := 10000000) only [go_sem, ifP_eq, Nat.reduceAdd, Nat.reduceSub, Nat.reduceMul, Nat.reduceLT, Nat.reduceLeDiff, Nat.reduceEqDiff, Nat.reduceMod, Nat.reduceDiv, Int.reduceNeg, Int.reduceLE, Int.reduceLT, Int.reduceToNat, Int.reduceEq, Int.reduceNe, ↓reduceIte]
      apply join_of
      · set_option maxRecDepth 100000 in simp (contextual := true) (maxSteps := 10000000) only [go_sem, ifP_eq, Nat.reduceAdd, Nat.reduceSub, Nat.reduceMul, Nat.reduceLT, Nat.reduceLeDiff, Nat.reduceEqDiff, Nat.reduceMod, Nat.reduceDiv, Int.reduceNeg, Int.reduceLE, Int.reduceLT, Int.reduceToNat, Int.reduceEq, Int.reduceNe, ↓reduceIte]
        exact joinB
      set_option maxRecDepth 100000 in simp (contextual := true) (maxSteps := 10000000) only [go_sem, ifP_eq, Nat.reduceAdd, Nat.reduceSub, Nat.reduceMul, Nat.reduceLT, Nat.reduceLeDiff, Nat.reduceEqDiff, Nat.reduceMod, Nat.reduceDiv, Int.reduceNeg, Int.reduceLE, Int.reduceLT, Int.reduceToNat, Int.reduceEq, Int.reduceNe, ↓reduceIte]
      refine join_of (!nameByte i (byteAt s i)) ?_ ?_
      · set_option maxRecDepth 100000 in simp (contextual := true) (maxSteps := 10000000) only [go_sem, ifP_eq, Nat.reduceAdd, Nat.reduceSub, Nat.reduceMul, Nat.reduceLT, Nat.reduceLeDiff, Nat.reduceEqDiff, Nat.reduceMod, Nat.reduceDiv, Int.reduceNeg, Int.reduceLE, Int.reduceLT, Int.reduceToNat, Int.reduceEq, Int.reduceNe, ↓reduceIte]
        refine iteI (fun h1 => iteI (fun h2 => call_of (IsDigit_good _) ?_) fun h2 => ?_) fun h1 => ?_
        · set_option maxRecDepth 100000 in simp (contextual := true) (maxSteps := 10000000) only [go_sem, ifP_eq, Nat.reduceAdd, Nat.reduceSub, Nat.reduceMul, Nat.reduceLT, Nat.reduceLeDiff, Nat.reduceEqDiff, Nat.reduceMod, Nat.reduceDiv, Int.reduceNeg, Int.reduceLE, Int.reduceLT, Int.reduceToNat, Int.reduceEq, Int.reduceNe, ↓reduceIte]
          clear ih hf hst h
          exact nb1 h1 (by simpa using h2)
        · clear ih hf hst h
          exact nb2 (by simpa using h2) h1
        · clear ih hf hst h
          exact nb3 h1
      · set_option maxRecDepth 100000 in simp (contextual := true) (maxSteps := 10000000) only [go_sem, ifP_eq, Nat.reduceAdd, Nat.reduceSub, Nat.reduceMul, Nat.reduceLT, Nat.reduceLeDiff, Nat.reduceEqDiff, Nat.reduceMod, Nat.reduceDiv, Int.reduceNeg, Int.reduceLE, Int.reduceLT, Int.reduceToNat, Int.reduceEq, Int.reduceNe, ↓reduceIte]
        refine iteI (fun h1 => ?_) fun h1 => ih (i + 1) _ ⟨by omega, ?_⟩ (by omega) ?_
        · rw [isNm, hf, show s.size - i = (s.size - (i + 1)) + 1 by omega, nameFrom]; simp_all
        · rw [hf, show s.size - i = (s.size - (i + 1)) + 1 by omega, nameFrom]; simp_all
        · set_option maxRecDepth 100000 in simp (contextual := true) (maxSteps := 10000000) only [go_sem, ifP_eq, Nat.reduceAdd, Nat.reduceSub, Nat.reduceMul, Nat.reduceLT, Nat.reduceLeDiff, Nat.reduceEqDiff, Nat.reduceMod, Nat.reduceDiv, Int.reduceNeg, Int.reduceLE, Int.reduceLT, Int.reduceToNat, Int.reduceEq, Int.reduceNe, ↓reduceIte,  wrap_succ (show i < 9223372036854775807 by simp [inB] at h; omega)]
    · subst hst
      set_option maxRecDepth 100000 in simp (contextual := true) (maxSteps := 10000000) only [go_sem, ifP_eq, Nat.reduceAdd, Nat.reduceSub, Nat.reduceMul, Nat.reduceLT, Nat.reduceLeDiff, Nat.reduceEqDiff, Nat.reduceMod, Nat.reduceDiv, Int.reduceNeg, Int.reduceLE, Int.reduceLT, Int.reduceToNat, Int.reduceEq, Int.reduceNe, ↓reduceIte]
      rw [isNm, hf, show s.size - i = 0 by omega, nameFrom]; simp [inB] at h ⊢; omega
theorem isName_good (s : ByteArray) : Ans Try.prog 117 [.str s] (.bool (isNm s)) := by
  refine good_run [(4, [2, 3, 4, 5, 16, 17, 18, 19, 20, 21, 22, 23, 24, 25, 26, 27, 28, 29, 30, 31, 32, 33, 34, 35, 36, 37, 38, 39, 40, 41, 42, 43, 44, 45, 46, 47, 48, 49, 50, 51, 52, 53, 54, 55, 56, 57, 58, 59, 60, 61, 62], []), (1000009, [3, 12], [9, 10, 11]), (1000024, [2, 26], [24, 25]), (1000028, [2, 30], [28, 29]), (1000032, [2, 34], [32, 33]), (1000036, [2, 38], [36, 37]), (1000042, [19, 61], [42, 43, 44, 45, 46, 47, 48, 49, 50, 51, 52, 53, 54, 55, 56, 57, 58, 59, 60])] mixed Try.func117 rfl Try.ntmps117 (rs := [.tmp 2]) rfl (by decide +kernel) (by kernel_rfl) rfl ?_
  rw [startE_eq 63 _ _ _ rfl rfl]
  set_option maxRecDepth 100000 in simp (contextual := true) (maxSteps := 10000000) only [go_sem, ifP_eq, Nat.reduceAdd, Nat.reduceSub, Nat.reduceMul, Nat.reduceLT, Nat.reduceLeDiff, Nat.reduceEqDiff, Nat.reduceMod, Nat.reduceDiv, Int.reduceNeg, Int.reduceLE, Int.reduceLT, Int.reduceToNat, Int.reduceEq, Int.reduceNe, ↓reduceIte]
  apply join_of
  · set_option maxRecDepth 100000 in simp (contextual := true) (maxSteps := 10000000) only [go_sem, ifP_eq, Nat.reduceAdd, Nat.reduceSub, Nat.reduceMul, Nat.reduceLT, Nat.reduceLeDiff, Nat.reduceEqDiff, Nat.reduceMod, Nat.reduceDiv, Int.reduceNeg, Int.reduceLE, Int.reduceLT, Int.reduceToNat, Int.reduceEq, Int.reduceNe, ↓reduceIte]
    exact joinB
  set_option maxRecDepth 100000 in simp (contextual := true) (maxSteps := 10000000) only [go_sem, ifP_eq, Nat.reduceAdd, Nat.reduceSub, Nat.reduceMul, Nat.reduceLT, Nat.reduceLeDiff, Nat.reduceEqDiff, Nat.reduceMod, Nat.reduceDiv, Int.reduceNeg, Int.reduceLE, Int.reduceLT, Int.reduceToNat, Int.reduceEq, Int.reduceNe, ↓reduceIte]
  refine iteI (fun h => ?_) (fun h => ?_)
  · simp only [Bool.or_eq_true, decide_eq_true_eq] at h
    rcases h with h | h
    · subst h; rfl
    · simp [isNm]; omega
  · have h0 : 1 ≤ s.size ∧ s.size ≤ 10 := by
      simp only [Bool.or_eq_true, decide_eq_true_eq, not_or] at h
      refine ⟨?_, by omega⟩
      rcases Nat.eq_zero_or_pos s.size with h1 | h1
      · exact absurd (ByteArray.size_eq_zero_iff.1 h1) h.1
      · exact h1
    refine loop_by ([2, 3, 4, 5, 16, 17, 18, 19, 20, 21, 22, 23, 24, 25, 26, 27, 28, 29, 30, 31, 32, 33, 34, 35, 36, 37, 38, 39, 40, 41, 42, 43, 44, 45, 46, 47, 48, 49, 50, 51, 52, 53, 54, 55, 56, 57, 58, 59, 60, 61, 62], []) (fun i : Nat => [(.s 15, .int .i64 (i : Int))]) (fun i => s.size - i) (fun i => i ≤ s.size ∧ nameFrom s s.size 0 = nameFrom s (s.size - i) i) 0 rfl ⟨Nat.zero_le _, rfl⟩ rfl ?_
    rintro c' st' hst i ⟨hi, hf⟩ ih
    set_option maxRecDepth 100000 in simp (contextual := true) (maxSteps := 10000000) only [go_sem, ifP_eq, Nat.reduceAdd, Nat.reduceSub, Nat.reduceMul, Nat.reduceLT, Nat.reduceLeDiff, Nat.reduceEqDiff, Nat.reduceMod, Nat.reduceDiv, Int.reduceNeg, Int.reduceLE, Int.reduceLT, Int.reduceToNat, Int.reduceEq, Int.reduceNe, ↓reduceIte]
    refine iteI (fun hlt => ?_) fun hlt => ?_
    · apply join_of
      · set_option maxRecDepth 100000 in simp (contextual := true) (maxSteps := 10000000) only [go_sem, ifP_eq, Nat.reduceAdd, Nat.reduceSub, Nat.reduceMul, Nat.reduceLT, Nat.reduceLeDiff, Nat.reduceEqDiff, Nat.reduceMod, Nat.reduceDiv, Int.reduceNeg, Int.reduceLE, Int.reduceLT, Int.reduceToNat, Int.reduceEq, Int.reduceNe, ↓reduceIte]
        exact joinB
      set_option maxRecDepth 100000 in simp (contextual := true) (maxSteps := 10000000) only [go_sem, ifP_eq, Nat.reduceAdd, Nat.reduceSub, Nat.reduceMul, Nat.reduceLT, Nat.reduceLeDiff, Nat.reduceEqDiff, Nat.reduceMod, Nat.reduceDiv, Int.reduceNeg, Int.reduceLE, Int.reduceLT, Int.reduceToNat, Int.reduceEq, Int.reduceNe, ↓reduceIte]
      apply join_of
      · set_option maxRecDepth 100000 in simp (contextual := true) (maxSteps := 10000000) only [go_sem, ifP_eq, Nat.reduceAdd, Nat.reduceSub, Nat.reduceMul, Nat.reduceLT, Nat.reduceLeDiff, Nat.reduceEqDiff, Nat.reduceMod, Nat.reduceDiv, Int.reduceNeg, Int.reduceLE, Int.reduceLT, Int.reduceToNat, Int.reduceEq, Int.reduceNe, ↓reduceIte]
        exact joinB
      set_option maxRecDepth 100000 in simp (contextual := true) (maxSteps := 10000000) only [go_sem, ifP_eq, Nat.reduceAdd, Nat.reduceSub, Nat.reduceMul, Nat.reduceLT, Nat.reduceLeDiff, Nat.reduceEqDiff, Nat.reduceMod, Nat.reduceDiv, Int.reduceNeg, Int.reduceLE, Int.reduceLT, Int.reduceToNat, Int.reduceEq, Int.reduceNe, ↓reduceIte]
      apply join_of
      · set_option maxRecDepth 100000 in simp (contextual := true) (maxSteps := 10000000) only [go_sem, ifP_eq, Nat.reduceAdd, Nat.reduceSub, Nat.reduceMul, Nat.reduceLT, Nat.reduceLeDiff, Nat.reduceEqDiff, Nat.reduceMod, Nat.reduceDiv, Int.reduceNeg, Int.reduceLE, Int.reduceLT, Int.reduceToNat, Int.reduceEq, Int.reduceNe, ↓reduceIte]
        exact joinB
      set_option maxRecDepth 100000 in simp (contextual := true) (maxSteps := 10000000) only [go_sem, ifP_eq, Nat.reduceAdd, Nat.reduceSub, Nat.reduceMul, Nat.reduceLT, Nat.reduceLeDiff, Nat.reduceEqDiff, Nat.reduceMod, Nat.reduceDiv, Int.reduceNeg, Int.reduceLE, Int.reduceLT, Int.reduceToNat, Int.reduceEq, Int.reduceNe, ↓reduceIte]
      apply join_of
      · set_option maxRecDepth 100000 in simp (contextual := true) (maxSteps := 10000000) only [go_sem, ifP_eq, Nat.reduceAdd, Nat.reduceSub, Nat.reduceMul, Nat.reduceLT, Nat.reduceLeDiff, Nat.reduceEqDiff, Nat.reduceMod, Nat.reduceDiv, Int.reduceNeg, Int.reduceLE, Int.reduceLT, Int.reduceToNat, Int.reduceEq, Int.reduceNe, ↓reduceIte]
        exact joinB
      set_option maxRecDepth 100000 in simp (contextual := true) (maxSteps := 10000000) only [go_sem, ifP_eq, Nat.reduceAdd, Nat.reduceSub, Nat.reduceMul, Nat.reduceLT, Nat.reduceLeDiff, Nat.reduceEqDiff, Nat.reduceMod, Nat.reduceDiv, Int.reduceNeg, Int.reduceLE, Int.reduceLT, Int.reduceToNat, Int.reduceEq, Int.reduceNe, ↓reduceIte]
      refine join_of (!nameByte i (byteAt s i)) ?_ ?_
      · set_option maxRecDepth 100000 in simp (contextual := true) (maxSteps := 10000000) only [go_sem, ifP_eq, Nat.reduceAdd, Nat.reduceSub, Nat.reduceMul, Nat.reduceLT, Nat.reduceLeDiff, Nat.reduceEqDiff, Nat.reduceMod, Nat.reduceDiv, Int.reduceNeg, Int.reduceLE, Int.reduceLT, Int.reduceToNat, Int.reduceEq, Int.reduceNe, ↓reduceIte]
        clear ih hf hst h h0 hi hlt
        refine iteI (fun h1 => iteI (fun h2 => iteI (fun h3 => iteI (fun h4 => iteI (fun h5 => ?_) fun h5 => ?_) fun h4 => ?_) fun h3 => iteI (fun h5 => ?_) fun h5 => ?_) fun h2 => ?_) fun h1 => ?_ <;> simp_all [nameByte, inB] <;> first | omega | grind
      · set_option maxRecDepth 100000 in simp (contextual := true) (maxSteps := 10000000) only [go_sem, ifP_eq, Nat.reduceAdd, Nat.reduceSub, Nat.reduceMul, Nat.reduceLT, Nat.reduceLeDiff, Nat.reduceEqDiff, Nat.reduceMod, Nat.reduceDiv, Int.reduceNeg, Int.reduceLE, Int.reduceLT, Int.reduceToNat, Int.reduceEq, Int.reduceNe, ↓reduceIte]
        refine iteI (fun h1 => ?_) fun h1 => ih (i + 1) _ ⟨by omega, ?_⟩ (by omega) ?_
        · rw [isNm, hf, show s.size - i = (s.size - (i + 1)) + 1 by omega, nameFrom]; simp_all
        · rw [hf, show s.size - i = (s.size - (i + 1)) + 1 by omega, nameFrom]; simp_all
        · set_option maxRecDepth 100000 in simp (contextual := true) (maxSteps := 10000000) only [go_sem, ifP_eq, Nat.reduceAdd, Nat.reduceSub, Nat.reduceMul, Nat.reduceLT, Nat.reduceLeDiff, Nat.reduceEqDiff, Nat.reduceMod, Nat.reduceDiv, Int.reduceNeg, Int.reduceLE, Int.reduceLT, Int.reduceToNat, Int.reduceEq, Int.reduceNe, ↓reduceIte,  wrap_succ (show i < 9223372036854775807 by omega)]
    · subst hst
      set_option maxRecDepth 100000 in simp (contextual := true) (maxSteps := 10000000) only [go_sem, ifP_eq, Nat.reduceAdd, Nat.reduceSub, Nat.reduceMul, Nat.reduceLT, Nat.reduceLeDiff, Nat.reduceEqDiff, Nat.reduceMod, Nat.reduceDiv, Int.reduceNeg, Int.reduceLE, Int.reduceLT, Int.reduceToNat, Int.reduceEq, Int.reduceNe, ↓reduceIte]
      rw [isNm, hf, show s.size - i = 0 by omega, nameFrom]; simp; omega
end Go.Proofs.Ytdmcmfdmnlckdaa.C10
