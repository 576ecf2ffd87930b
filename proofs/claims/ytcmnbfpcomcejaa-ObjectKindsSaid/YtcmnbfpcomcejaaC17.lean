/- Chapter 8: which operations the types permit. -/
import Derived.Test.YtcmnbfpcomcejaaC16
import Derived.Shelf.Small.Strs
namespace Go.Proofs.Ytcmnbfpcomcejaa.C08
open Go Go.Proofs Go.Proofs.Ytcmnbfpcomcejaa.Ab
set_option linter.unusedSimpArgs false
attribute [local congr] ite_ctx

def ren2 : Go.Shelf.Ren := { f := fun n => if n = 137 then 101 else if n = 217 then 107 else 119, t := fun n => n, g := fun n => n }
theorem lays2 : Lays.n137 Try.prog ren2 where
  mixed := mixed
  f137 := by kernel_rfl
  f217 := by kernel_rfl
  f266 := by kernel_rfl
  t3 := by kernel_rfl
  a3 := fun w => by kernel_rfl
  z3 := fun w => by kernel_rfl
  v3 := fun w => by kernel_rfl
  t5 := by kernel_rfl
  a5 := fun w => by kernel_rfl
  z5 := fun w => by kernel_rfl
  v5 := fun w => by kernel_rfl
  t9 := by kernel_rfl
  a9 := fun w => by kernel_rfl
  z9 := fun w => by kernel_rfl
  v9 := fun w => by kernel_rfl

theorem IndexByte_good (a : ByteArray) (c : Int) : Ans Try.prog 101 [.str a, .int .u8 c] (.int .i64 (Lib.indexByte a.data.toList c.toNat.toUInt8)) := by
  refine ⟨by kernel_rfl, rfl, fun w Pr vs hsz hvs hpr => ?_⟩
  have h : vs = #[.string a, .int .u8 c] := by
    match vs, hsz with
    | ⟨[x, y]⟩, _ =>
      have h0 := hvs 0 _ _ rfl rfl
      have h1 := hvs 1 _ _ rfl rfl
      cases h0; cases h1; rfl
  subst h
  refine (Any.strings_IndexByte lays2 a c w).mono fun e w' ⟨he, hw⟩ => ?_
  subst hw
  exact ⟨_, Pr, he, .int _ _, fun _ _ h => h, fun _ _ _ h => h, hpr, BelowD.refl _⟩

def opTab : ByteArray := ⟨#[114, 109, 121, 100, 101, 99, 97, 108, 115]⟩
def refTab : ByteArray := ⟨#[114, 109, 99, 100, 82, 67, 120, 101, 115]⟩
def permTab : List ByteArray := [
  ⟨#[114, 100, 115]⟩,
  ⟨#[114, 109, 99, 100, 120, 115]⟩,
  ⟨#[114, 109, 99, 100, 115]⟩,
  ⟨#[114, 109, 99, 100, 115]⟩,
  ⟨#[114, 109, 99, 100, 82, 67, 101, 115]⟩,
  ⟨#[100, 82, 67, 115]⟩,
  ⟨#[100, 82, 67, 115]⟩,
  ⟨#[114, 109, 99, 100, 82, 67, 101, 115]⟩,
  ⟨#[114, 109, 99, 100, 82, 67, 115]⟩,
  ⟨#[114, 109, 100, 82, 67, 101, 115]⟩,
  ⟨#[114, 109, 100, 82, 67, 101, 115]⟩,
  ⟨#[114, 109, 99, 100, 82, 67, 115]⟩,
  ⟨#[114, 109, 99, 100, 82, 67, 115]⟩,
  ⟨#[114, 109, 99, 100, 82, 67, 115]⟩,
  ⟨#[114, 109, 99, 100, 67, 120, 115]⟩,
  ⟨#[100, 82, 115]⟩,
  ⟨#[100, 82, 115]⟩,
  ⟨#[114, 109, 99, 100, 82, 67, 115]⟩,
  ⟨#[114, 109, 100, 82, 67, 101, 115]⟩,
  ⟨#[114, 109, 99, 100, 82, 101]⟩,
  ⟨#[114, 109, 99, 100, 82, 67, 115]⟩,
  ⟨#[114, 109, 99, 100, 82, 67, 115]⟩,
  ⟨#[114, 109, 100, 82, 67, 101, 115]⟩,
  ⟨#[114, 100, 82, 67]⟩,
  ⟨#[114, 100, 82, 67]⟩,
  ⟨#[114, 100, 82, 67]⟩,
  ⟨#[100, 82, 115]⟩,
  ⟨#[114, 109, 99, 100, 82, 115]⟩,
  ⟨#[114, 109, 99, 100, 120, 115]⟩,
  ⟨#[114, 109, 99, 100, 82, 67, 120, 115]⟩]

theorem permits_0 : Ans Try.prog 88 [.int .i64 0] (.str ⟨#[114, 100, 115]⟩) := by
  refine good_run [] mixed Try.func88 rfl Try.ntmps88 (rs := [.tmp 2]) rfl (by decide +kernel) (by kernel_rfl) rfl ?_
  rw [startE_eq 45 _ _ _ rfl rfl]
  set_option maxRecDepth 100000 in simp (maxSteps := 10000000) only [go_sem, Nat.reduceAdd, Nat.reduceSub, Nat.reduceMul, Nat.reduceLT, Nat.reduceLeDiff, Nat.reduceEqDiff, Nat.reduceMod, Nat.reduceDiv, Int.reduceNeg, Int.reduceLE, Int.reduceLT, Int.reduceToNat, Int.reduceEq, Int.reduceNe, ↓reduceIte]

theorem permits_1 : Ans Try.prog 88 [.int .i64 1] (.str ⟨#[114, 109, 99, 100, 120, 115]⟩) := by
  refine good_run [] mixed Try.func88 rfl Try.ntmps88 (rs := [.tmp 2]) rfl (by decide +kernel) (by kernel_rfl) rfl ?_
  rw [startE_eq 45 _ _ _ rfl rfl]
  set_option maxRecDepth 100000 in simp (maxSteps := 10000000) only [go_sem, Nat.reduceAdd, Nat.reduceSub, Nat.reduceMul, Nat.reduceLT, Nat.reduceLeDiff, Nat.reduceEqDiff, Nat.reduceMod, Nat.reduceDiv, Int.reduceNeg, Int.reduceLE, Int.reduceLT, Int.reduceToNat, Int.reduceEq, Int.reduceNe, ↓reduceIte]

theorem permits_2 : Ans Try.prog 88 [.int .i64 2] (.str ⟨#[114, 109, 99, 100, 115]⟩) := by
  refine good_run [] mixed Try.func88 rfl Try.ntmps88 (rs := [.tmp 2]) rfl (by decide +kernel) (by kernel_rfl) rfl ?_
  rw [startE_eq 45 _ _ _ rfl rfl]
  set_option maxRecDepth 100000 in simp (maxSteps := 10000000) only [go_sem, Nat.reduceAdd, Nat.reduceSub, Nat.reduceMul, Nat.reduceLT, Nat.reduceLeDiff, Nat.reduceEqDiff, Nat.reduceMod, Nat.reduceDiv, Int.reduceNeg, Int.reduceLE, Int.reduceLT, Int.reduceToNat, Int.reduceEq, Int.reduceNe, ↓reduceIte]

theorem permits_3 : Ans Try.prog 88 [.int .i64 3] (.str ⟨#[114, 109, 99, 100, 115]⟩) := by
  refine good_run [] mixed Try.func88 rfl Try.ntmps88 (rs := [.tmp 2]) rfl (by decide +kernel) (by kernel_rfl) rfl ?_
  rw [startE_eq 45 _ _ _ rfl rfl]
  set_option maxRecDepth 100000 in simp (maxSteps := 10000000) only [go_sem, Nat.reduceAdd, Nat.reduceSub, Nat.reduceMul, Nat.reduceLT, Nat.reduceLeDiff, Nat.reduceEqDiff, Nat.reduceMod, Nat.reduceDiv, Int.reduceNeg, Int.reduceLE, Int.reduceLT, Int.reduceToNat, Int.reduceEq, Int.reduceNe, ↓reduceIte]

theorem permits_4 : Ans Try.prog 88 [.int .i64 4] (.str ⟨#[114, 109, 99, 100, 82, 67, 101, 115]⟩) := by
  refine good_run [] mixed Try.func88 rfl Try.ntmps88 (rs := [.tmp 2]) rfl (by decide +kernel) (by kernel_rfl) rfl ?_
  rw [startE_eq 45 _ _ _ rfl rfl]
  set_option maxRecDepth 100000 in simp (maxSteps := 10000000) only [go_sem, Nat.reduceAdd, Nat.reduceSub, Nat.reduceMul, Nat.reduceLT, Nat.reduceLeDiff, Nat.reduceEqDiff, Nat.reduceMod, Nat.reduceDiv, Int.reduceNeg, Int.reduceLE, Int.reduceLT, Int.reduceToNat, Int.reduceEq, Int.reduceNe, ↓reduceIte]

theorem permits_5 : Ans Try.prog 88 [.int .i64 5] (.str ⟨#[100, 82, 67, 115]⟩) := by
  refine good_run [] mixed Try.func88 rfl Try.ntmps88 (rs := [.tmp 2]) rfl (by decide +kernel) (by kernel_rfl) rfl ?_
  rw [startE_eq 45 _ _ _ rfl rfl]
  set_option maxRecDepth 100000 in simp (maxSteps := 10000000) only [go_sem, Nat.reduceAdd, Nat.reduceSub, Nat.reduceMul, Nat.reduceLT, Nat.reduceLeDiff, Nat.reduceEqDiff, Nat.reduceMod, Nat.reduceDiv, Int.reduceNeg, Int.reduceLE, Int.reduceLT, Int.reduceToNat, Int.reduceEq, Int.reduceNe, ↓reduceIte]

theorem permits_6 : Ans Try.prog 88 [.int .i64 6] (.str ⟨#[100, 82, 67, 115]⟩) := by
  refine good_run [] mixed Try.func88 rfl Try.ntmps88 (rs := [.tmp 2]) rfl (by decide +kernel) (by kernel_rfl) rfl ?_
  rw [startE_eq 45 _ _ _ rfl rfl]
  set_option maxRecDepth 100000 in simp (maxSteps := 10000000) only [go_sem, Nat.reduceAdd, Nat.reduceSub, Nat.reduceMul, Nat.reduceLT, Nat.reduceLeDiff, Nat.reduceEqDiff, Nat.reduceMod, Nat.reduceDiv, Int.reduceNeg, Int.reduceLE, Int.reduceLT, Int.reduceToNat, Int.reduceEq, Int.reduceNe, ↓reduceIte]

theorem permits_7 : Ans Try.prog 88 [.int .i64 7] (.str ⟨#[114, 109, 99, 100, 82, 67, 101, 115]⟩) := by
  refine good_run [] mixed Try.func88 rfl Try.ntmps88 (rs := [.tmp 2]) rfl (by decide +kernel) (by kernel_rfl) rfl ?_
  rw [startE_eq 45 _ _ _ rfl rfl]
  set_option maxRecDepth 100000 in simp (maxSteps := 10000000) only [go_sem, Nat.reduceAdd, Nat.reduceSub, Nat.reduceMul, Nat.reduceLT, Nat.reduceLeDiff, Nat.reduceEqDiff, Nat.reduceMod, Nat.reduceDiv, Int.reduceNeg, Int.reduceLE, Int.reduceLT, Int.reduceToNat, Int.reduceEq, Int.reduceNe, ↓reduceIte]

theorem permits_8 : Ans Try.prog 88 [.int .i64 8] (.str ⟨#[114, 109, 99, 100, 82, 67, 115]⟩) := by
  refine good_run [] mixed Try.func88 rfl Try.ntmps88 (rs := [.tmp 2]) rfl (by decide +kernel) (by kernel_rfl) rfl ?_
  rw [startE_eq 45 _ _ _ rfl rfl]
  set_option maxRecDepth 100000 in simp (maxSteps := 10000000) only [go_sem, Nat.reduceAdd, Nat.reduceSub, Nat.reduceMul, Nat.reduceLT, Nat.reduceLeDiff, Nat.reduceEqDiff, Nat.reduceMod, Nat.reduceDiv, Int.reduceNeg, Int.reduceLE, Int.reduceLT, Int.reduceToNat, Int.reduceEq, Int.reduceNe, ↓reduceIte]

theorem permits_9 : Ans Try.prog 88 [.int .i64 9] (.str ⟨#[114, 109, 100, 82, 67, 101, 115]⟩) := by
  refine good_run [] mixed Try.func88 rfl Try.ntmps88 (rs := [.tmp 2]) rfl (by decide +kernel) (by kernel_rfl) rfl ?_
  rw [startE_eq 45 _ _ _ rfl rfl]
  set_option maxRecDepth 100000 in simp (maxSteps := 10000000) only [go_sem, Nat.reduceAdd, Nat.reduceSub, Nat.reduceMul, Nat.reduceLT, Nat.reduceLeDiff, Nat.reduceEqDiff, Nat.reduceMod, Nat.reduceDiv, Int.reduceNeg, Int.reduceLE, Int.reduceLT, Int.reduceToNat, Int.reduceEq, Int.reduceNe, ↓reduceIte]

theorem permits_10 : Ans Try.prog 88 [.int .i64 10] (.str ⟨#[114, 109, 100, 82, 67, 101, 115]⟩) := by
  refine good_run [] mixed Try.func88 rfl Try.ntmps88 (rs := [.tmp 2]) rfl (by decide +kernel) (by kernel_rfl) rfl ?_
  rw [startE_eq 45 _ _ _ rfl rfl]
  set_option maxRecDepth 100000 in simp (maxSteps := 10000000) only [go_sem, Nat.reduceAdd, Nat.reduceSub, Nat.reduceMul, Nat.reduceLT, Nat.reduceLeDiff, Nat.reduceEqDiff, Nat.reduceMod, Nat.reduceDiv, Int.reduceNeg, Int.reduceLE, Int.reduceLT, Int.reduceToNat, Int.reduceEq, Int.reduceNe, ↓reduceIte]

theorem permits_11 : Ans Try.prog 88 [.int .i64 11] (.str ⟨#[114, 109, 99, 100, 82, 67, 115]⟩) := by
  refine good_run [] mixed Try.func88 rfl Try.ntmps88 (rs := [.tmp 2]) rfl (by decide +kernel) (by kernel_rfl) rfl ?_
  rw [startE_eq 45 _ _ _ rfl rfl]
  set_option maxRecDepth 100000 in simp (maxSteps := 10000000) only [go_sem, Nat.reduceAdd, Nat.reduceSub, Nat.reduceMul, Nat.reduceLT, Nat.reduceLeDiff, Nat.reduceEqDiff, Nat.reduceMod, Nat.reduceDiv, Int.reduceNeg, Int.reduceLE, Int.reduceLT, Int.reduceToNat, Int.reduceEq, Int.reduceNe, ↓reduceIte]

theorem permits_12 : Ans Try.prog 88 [.int .i64 12] (.str ⟨#[114, 109, 99, 100, 82, 67, 115]⟩) := by
  refine good_run [] mixed Try.func88 rfl Try.ntmps88 (rs := [.tmp 2]) rfl (by decide +kernel) (by kernel_rfl) rfl ?_
  rw [startE_eq 45 _ _ _ rfl rfl]
  set_option maxRecDepth 100000 in simp (maxSteps := 10000000) only [go_sem, Nat.reduceAdd, Nat.reduceSub, Nat.reduceMul, Nat.reduceLT, Nat.reduceLeDiff, Nat.reduceEqDiff, Nat.reduceMod, Nat.reduceDiv, Int.reduceNeg, Int.reduceLE, Int.reduceLT, Int.reduceToNat, Int.reduceEq, Int.reduceNe, ↓reduceIte]

theorem permits_13 : Ans Try.prog 88 [.int .i64 13] (.str ⟨#[114, 109, 99, 100, 82, 67, 115]⟩) := by
  refine good_run [] mixed Try.func88 rfl Try.ntmps88 (rs := [.tmp 2]) rfl (by decide +kernel) (by kernel_rfl) rfl ?_
  rw [startE_eq 45 _ _ _ rfl rfl]
  set_option maxRecDepth 100000 in simp (maxSteps := 10000000) only [go_sem, Nat.reduceAdd, Nat.reduceSub, Nat.reduceMul, Nat.reduceLT, Nat.reduceLeDiff, Nat.reduceEqDiff, Nat.reduceMod, Nat.reduceDiv, Int.reduceNeg, Int.reduceLE, Int.reduceLT, Int.reduceToNat, Int.reduceEq, Int.reduceNe, ↓reduceIte]

theorem permits_14 : Ans Try.prog 88 [.int .i64 14] (.str ⟨#[114, 109, 99, 100, 67, 120, 115]⟩) := by
  refine good_run [] mixed Try.func88 rfl Try.ntmps88 (rs := [.tmp 2]) rfl (by decide +kernel) (by kernel_rfl) rfl ?_
  rw [startE_eq 45 _ _ _ rfl rfl]
  set_option maxRecDepth 100000 in simp (maxSteps := 10000000) only [go_sem, Nat.reduceAdd, Nat.reduceSub, Nat.reduceMul, Nat.reduceLT, Nat.reduceLeDiff, Nat.reduceEqDiff, Nat.reduceMod, Nat.reduceDiv, Int.reduceNeg, Int.reduceLE, Int.reduceLT, Int.reduceToNat, Int.reduceEq, Int.reduceNe, ↓reduceIte]

theorem permits_15 : Ans Try.prog 88 [.int .i64 15] (.str ⟨#[100, 82, 115]⟩) := by
  refine good_run [] mixed Try.func88 rfl Try.ntmps88 (rs := [.tmp 2]) rfl (by decide +kernel) (by kernel_rfl) rfl ?_
  rw [startE_eq 45 _ _ _ rfl rfl]
  set_option maxRecDepth 100000 in simp (maxSteps := 10000000) only [go_sem, Nat.reduceAdd, Nat.reduceSub, Nat.reduceMul, Nat.reduceLT, Nat.reduceLeDiff, Nat.reduceEqDiff, Nat.reduceMod, Nat.reduceDiv, Int.reduceNeg, Int.reduceLE, Int.reduceLT, Int.reduceToNat, Int.reduceEq, Int.reduceNe, ↓reduceIte]

theorem permits_16 : Ans Try.prog 88 [.int .i64 16] (.str ⟨#[100, 82, 115]⟩) := by
  refine good_run [] mixed Try.func88 rfl Try.ntmps88 (rs := [.tmp 2]) rfl (by decide +kernel) (by kernel_rfl) rfl ?_
  rw [startE_eq 45 _ _ _ rfl rfl]
  set_option maxRecDepth 100000 in simp (maxSteps := 10000000) only [go_sem, Nat.reduceAdd, Nat.reduceSub, Nat.reduceMul, Nat.reduceLT, Nat.reduceLeDiff, Nat.reduceEqDiff, Nat.reduceMod, Nat.reduceDiv, Int.reduceNeg, Int.reduceLE, Int.reduceLT, Int.reduceToNat, Int.reduceEq, Int.reduceNe, ↓reduceIte]

theorem permits_17 : Ans Try.prog 88 [.int .i64 17] (.str ⟨#[114, 109, 99, 100, 82, 67, 115]⟩) := by
  refine good_run [] mixed Try.func88 rfl Try.ntmps88 (rs := [.tmp 2]) rfl (by decide +kernel) (by kernel_rfl) rfl ?_
  rw [startE_eq 45 _ _ _ rfl rfl]
  set_option maxRecDepth 100000 in simp (maxSteps := 10000000) only [go_sem, Nat.reduceAdd, Nat.reduceSub, Nat.reduceMul, Nat.reduceLT, Nat.reduceLeDiff, Nat.reduceEqDiff, Nat.reduceMod, Nat.reduceDiv, Int.reduceNeg, Int.reduceLE, Int.reduceLT, Int.reduceToNat, Int.reduceEq, Int.reduceNe, ↓reduceIte]

theorem permits_18 : Ans Try.prog 88 [.int .i64 18] (.str ⟨#[114, 109, 100, 82, 67, 101, 115]⟩) := by
  refine good_run [] mixed Try.func88 rfl Try.ntmps88 (rs := [.tmp 2]) rfl (by decide +kernel) (by kernel_rfl) rfl ?_
  rw [startE_eq 45 _ _ _ rfl rfl]
  set_option maxRecDepth 100000 in simp (maxSteps := 10000000) only [go_sem, Nat.reduceAdd, Nat.reduceSub, Nat.reduceMul, Nat.reduceLT, Nat.reduceLeDiff, Nat.reduceEqDiff, Nat.reduceMod, Nat.reduceDiv, Int.reduceNeg, Int.reduceLE, Int.reduceLT, Int.reduceToNat, Int.reduceEq, Int.reduceNe, ↓reduceIte]

theorem permits_19 : Ans Try.prog 88 [.int .i64 19] (.str ⟨#[114, 109, 99, 100, 82, 101]⟩) := by
  refine good_run [] mixed Try.func88 rfl Try.ntmps88 (rs := [.tmp 2]) rfl (by decide +kernel) (by kernel_rfl) rfl ?_
  rw [startE_eq 45 _ _ _ rfl rfl]
  set_option maxRecDepth 100000 in simp (maxSteps := 10000000) only [go_sem, Nat.reduceAdd, Nat.reduceSub, Nat.reduceMul, Nat.reduceLT, Nat.reduceLeDiff, Nat.reduceEqDiff, Nat.reduceMod, Nat.reduceDiv, Int.reduceNeg, Int.reduceLE, Int.reduceLT, Int.reduceToNat, Int.reduceEq, Int.reduceNe, ↓reduceIte]

theorem permits_20 : Ans Try.prog 88 [.int .i64 20] (.str ⟨#[114, 109, 99, 100, 82, 67, 115]⟩) := by
  refine good_run [] mixed Try.func88 rfl Try.ntmps88 (rs := [.tmp 2]) rfl (by decide +kernel) (by kernel_rfl) rfl ?_
  rw [startE_eq 45 _ _ _ rfl rfl]
  set_option maxRecDepth 100000 in simp (maxSteps := 10000000) only [go_sem, Nat.reduceAdd, Nat.reduceSub, Nat.reduceMul, Nat.reduceLT, Nat.reduceLeDiff, Nat.reduceEqDiff, Nat.reduceMod, Nat.reduceDiv, Int.reduceNeg, Int.reduceLE, Int.reduceLT, Int.reduceToNat, Int.reduceEq, Int.reduceNe, ↓reduceIte]

theorem permits_21 : Ans Try.prog 88 [.int .i64 21] (.str ⟨#[114, 109, 99, 100, 82, 67, 115]⟩) := by
  refine good_run [] mixed Try.func88 rfl Try.ntmps88 (rs := [.tmp 2]) rfl (by decide +kernel) (by kernel_rfl) rfl ?_
  rw [startE_eq 45 _ _ _ rfl rfl]
  set_option maxRecDepth 100000 in simp (maxSteps := 10000000) only [go_sem, Nat.reduceAdd, Nat.reduceSub, Nat.reduceMul, Nat.reduceLT, Nat.reduceLeDiff, Nat.reduceEqDiff, Nat.reduceMod, Nat.reduceDiv, Int.reduceNeg, Int.reduceLE, Int.reduceLT, Int.reduceToNat, Int.reduceEq, Int.reduceNe, ↓reduceIte]

theorem permits_22 : Ans Try.prog 88 [.int .i64 22] (.str ⟨#[114, 109, 100, 82, 67, 101, 115]⟩) := by
  refine good_run [] mixed Try.func88 rfl Try.ntmps88 (rs := [.tmp 2]) rfl (by decide +kernel) (by kernel_rfl) rfl ?_
  rw [startE_eq 45 _ _ _ rfl rfl]
  set_option maxRecDepth 100000 in simp (maxSteps := 10000000) only [go_sem, Nat.reduceAdd, Nat.reduceSub, Nat.reduceMul, Nat.reduceLT, Nat.reduceLeDiff, Nat.reduceEqDiff, Nat.reduceMod, Nat.reduceDiv, Int.reduceNeg, Int.reduceLE, Int.reduceLT, Int.reduceToNat, Int.reduceEq, Int.reduceNe, ↓reduceIte]

theorem permits_23 : Ans Try.prog 88 [.int .i64 23] (.str ⟨#[114, 100, 82, 67]⟩) := by
  refine good_run [] mixed Try.func88 rfl Try.ntmps88 (rs := [.tmp 2]) rfl (by decide +kernel) (by kernel_rfl) rfl ?_
  rw [startE_eq 45 _ _ _ rfl rfl]
  set_option maxRecDepth 100000 in simp (maxSteps := 10000000) only [go_sem, Nat.reduceAdd, Nat.reduceSub, Nat.reduceMul, Nat.reduceLT, Nat.reduceLeDiff, Nat.reduceEqDiff, Nat.reduceMod, Nat.reduceDiv, Int.reduceNeg, Int.reduceLE, Int.reduceLT, Int.reduceToNat, Int.reduceEq, Int.reduceNe, ↓reduceIte]

theorem permits_24 : Ans Try.prog 88 [.int .i64 24] (.str ⟨#[114, 100, 82, 67]⟩) := by
  refine good_run [] mixed Try.func88 rfl Try.ntmps88 (rs := [.tmp 2]) rfl (by decide +kernel) (by kernel_rfl) rfl ?_
  rw [startE_eq 45 _ _ _ rfl rfl]
  set_option maxRecDepth 100000 in simp (maxSteps := 10000000) only [go_sem, Nat.reduceAdd, Nat.reduceSub, Nat.reduceMul, Nat.reduceLT, Nat.reduceLeDiff, Nat.reduceEqDiff, Nat.reduceMod, Nat.reduceDiv, Int.reduceNeg, Int.reduceLE, Int.reduceLT, Int.reduceToNat, Int.reduceEq, Int.reduceNe, ↓reduceIte]

theorem permits_25 : Ans Try.prog 88 [.int .i64 25] (.str ⟨#[114, 100, 82, 67]⟩) := by
  refine good_run [] mixed Try.func88 rfl Try.ntmps88 (rs := [.tmp 2]) rfl (by decide +kernel) (by kernel_rfl) rfl ?_
  rw [startE_eq 45 _ _ _ rfl rfl]
  set_option maxRecDepth 100000 in simp (maxSteps := 10000000) only [go_sem, Nat.reduceAdd, Nat.reduceSub, Nat.reduceMul, Nat.reduceLT, Nat.reduceLeDiff, Nat.reduceEqDiff, Nat.reduceMod, Nat.reduceDiv, Int.reduceNeg, Int.reduceLE, Int.reduceLT, Int.reduceToNat, Int.reduceEq, Int.reduceNe, ↓reduceIte]

theorem permits_26 : Ans Try.prog 88 [.int .i64 26] (.str ⟨#[100, 82, 115]⟩) := by
  refine good_run [] mixed Try.func88 rfl Try.ntmps88 (rs := [.tmp 2]) rfl (by decide +kernel) (by kernel_rfl) rfl ?_
  rw [startE_eq 45 _ _ _ rfl rfl]
  set_option maxRecDepth 100000 in simp (maxSteps := 10000000) only [go_sem, Nat.reduceAdd, Nat.reduceSub, Nat.reduceMul, Nat.reduceLT, Nat.reduceLeDiff, Nat.reduceEqDiff, Nat.reduceMod, Nat.reduceDiv, Int.reduceNeg, Int.reduceLE, Int.reduceLT, Int.reduceToNat, Int.reduceEq, Int.reduceNe, ↓reduceIte]

theorem permits_27 : Ans Try.prog 88 [.int .i64 27] (.str ⟨#[114, 109, 99, 100, 82, 115]⟩) := by
  refine good_run [] mixed Try.func88 rfl Try.ntmps88 (rs := [.tmp 2]) rfl (by decide +kernel) (by kernel_rfl) rfl ?_
  rw [startE_eq 45 _ _ _ rfl rfl]
  set_option maxRecDepth 100000 in simp (maxSteps := 10000000) only [go_sem, Nat.reduceAdd, Nat.reduceSub, Nat.reduceMul, Nat.reduceLT, Nat.reduceLeDiff, Nat.reduceEqDiff, Nat.reduceMod, Nat.reduceDiv, Int.reduceNeg, Int.reduceLE, Int.reduceLT, Int.reduceToNat, Int.reduceEq, Int.reduceNe, ↓reduceIte]

theorem permits_28 : Ans Try.prog 88 [.int .i64 28] (.str ⟨#[114, 109, 99, 100, 120, 115]⟩) := by
  refine good_run [] mixed Try.func88 rfl Try.ntmps88 (rs := [.tmp 2]) rfl (by decide +kernel) (by kernel_rfl) rfl ?_
  rw [startE_eq 45 _ _ _ rfl rfl]
  set_option maxRecDepth 100000 in simp (maxSteps := 10000000) only [go_sem, Nat.reduceAdd, Nat.reduceSub, Nat.reduceMul, Nat.reduceLT, Nat.reduceLeDiff, Nat.reduceEqDiff, Nat.reduceMod, Nat.reduceDiv, Int.reduceNeg, Int.reduceLE, Int.reduceLT, Int.reduceToNat, Int.reduceEq, Int.reduceNe, ↓reduceIte]

theorem permits_29 : Ans Try.prog 88 [.int .i64 29] (.str ⟨#[114, 109, 99, 100, 82, 67, 120, 115]⟩) := by
  refine good_run [] mixed Try.func88 rfl Try.ntmps88 (rs := [.tmp 2]) rfl (by decide +kernel) (by kernel_rfl) rfl ?_
  rw [startE_eq 45 _ _ _ rfl rfl]
  set_option maxRecDepth 100000 in simp (maxSteps := 10000000) only [go_sem, Nat.reduceAdd, Nat.reduceSub, Nat.reduceMul, Nat.reduceLT, Nat.reduceLeDiff, Nat.reduceEqDiff, Nat.reduceMod, Nat.reduceDiv, Int.reduceNeg, Int.reduceLE, Int.reduceLT, Int.reduceToNat, Int.reduceEq, Int.reduceNe, ↓reduceIte]

theorem permits88_good (t : Nat) (h : t < 30) : Ans Try.prog 88 [.int .i64 (t : Int)] (.str (nth permTab t)) := by
  match t, h with
  | 0, _ => exact permits_0
  | 1, _ => exact permits_1
  | 2, _ => exact permits_2
  | 3, _ => exact permits_3
  | 4, _ => exact permits_4
  | 5, _ => exact permits_5
  | 6, _ => exact permits_6
  | 7, _ => exact permits_7
  | 8, _ => exact permits_8
  | 9, _ => exact permits_9
  | 10, _ => exact permits_10
  | 11, _ => exact permits_11
  | 12, _ => exact permits_12
  | 13, _ => exact permits_13
  | 14, _ => exact permits_14
  | 15, _ => exact permits_15
  | 16, _ => exact permits_16
  | 17, _ => exact permits_17
  | 18, _ => exact permits_18
  | 19, _ => exact permits_19
  | 20, _ => exact permits_20
  | 21, _ => exact permits_21
  | 22, _ => exact permits_22
  | 23, _ => exact permits_23
  | 24, _ => exact permits_24
  | 25, _ => exact permits_25
  | 26, _ => exact permits_26
  | 27, _ => exact permits_27
  | 28, _ => exact permits_28
  | 29, _ => exact permits_29
  | n + 30, h => exact absurd h (by omega)

def permR (t k : Nat) : Bool := (List.range (nth permTab t).size).any fun i => decide (byteAt (nth permTab t) i = byteAt refTab k)
def permP (t k : Nat) : Bool := decide (0 ≤ Lib.indexByte (nth kinds t).2.data.toList (byteAt opTab k).toNat.toUInt8)
theorem perm_eq : ∀ t, t < 30 → ∀ k, k < 9 → permP t k = permR t k := by decide +kernel

set_option maxHeartbeats 4000000 in
theorem Permits_good (t k : Nat) (ht : t < 30) (hk : k < 9) : Ans Try.prog 47 [.int .i64 (t : Int), .int .i64 (k : Int)] (.bool (permR t k)) := by
  have hs : (nth permTab t).size ≤ 100 := by
    have : ∀ t, t < 30 → (nth permTab t).size ≤ 100 := by decide +kernel
    exact this t ht
  have hE : permR t k = (List.range (nth permTab t).size).any fun i => decide (byteAt (nth permTab t) i = byteAt refTab k) := rfl
  have hk2 : (k : Int) < 9 := by omega
  have hP := permits88_good t ht
  generalize nth permTab t = s at *
  refine good_run [(3, [4, 9, 10, 11, 12, 13, 14, 15, 16, 17, 18, 19, 20], [])] mixed Try.func47 rfl Try.ntmps47 (rs := [.tmp 4]) rfl (by decide +kernel) (by kernel_rfl) rfl ?_
  rw [startE_eq 21 _ _ _ rfl rfl]
  set_option maxRecDepth 100000 in simp (maxSteps := 10000000) only [go_sem, Nat.reduceAdd, Nat.reduceSub, Nat.reduceMul, Nat.reduceLT, Nat.reduceLeDiff, Nat.reduceEqDiff, Nat.reduceMod, Nat.reduceDiv, Int.reduceNeg, Int.reduceLE, Int.reduceLT, Int.reduceToNat, Int.reduceEq, Int.reduceNe, ↓reduceIte]
  refine call_of (hP) ?_
  set_option maxRecDepth 100000 in simp (maxSteps := 10000000) only [go_sem, Nat.reduceAdd, Nat.reduceSub, Nat.reduceMul, Nat.reduceLT, Nat.reduceLeDiff, Nat.reduceEqDiff, Nat.reduceMod, Nat.reduceDiv, Int.reduceNeg, Int.reduceLE, Int.reduceLT, Int.reduceToNat, Int.reduceEq, Int.reduceNe, ↓reduceIte]
  refine loop_by ([4, 9, 10, 11, 12, 13, 14, 15, 16, 17, 18, 19, 20], []) (fun i : Nat => [(.s 6, .int .i64 (i : Int))]) (fun i => s.size - i) (fun i => i ≤ s.size ∧ ∀ j, j < i → ¬ byteAt s j = byteAt refTab k) 0 rfl ⟨Nat.zero_le _, fun j hj => absurd hj (Nat.not_lt_zero _)⟩ rfl ?_
  rintro c' st' hst i ⟨hi, hp⟩ ih
  set_option maxRecDepth 100000 in simp (maxSteps := 10000000) only [go_sem, Nat.reduceAdd, Nat.reduceSub, Nat.reduceMul, Nat.reduceLT, Nat.reduceLeDiff, Nat.reduceEqDiff, Nat.reduceMod, Nat.reduceDiv, Int.reduceNeg, Int.reduceLE, Int.reduceLT, Int.reduceToNat, Int.reduceEq, Int.reduceNe, ↓reduceIte]
  refine ifI (fun hlt => ?_) fun hlt => ?_
  · have hlt' : i < s.size := by omega
    set_option maxRecDepth 100000 in simp (maxSteps := 10000000) only [go_sem, Nat.reduceAdd, Nat.reduceSub, Nat.reduceMul, Nat.reduceLT, Nat.reduceLeDiff, Nat.reduceEqDiff, Nat.reduceMod, Nat.reduceDiv, Int.reduceNeg, Int.reduceLE, Int.reduceLT, Int.reduceToNat, Int.reduceEq, Int.reduceNe, ↓reduceIte,  hlt, hlt', show k < (#[114, 109, 99, 100, 82, 67, 120, 101, 115] : Array UInt8).size from hk]
    refine ⟨by decide +kernel, ifI (fun hn => ?_) fun hn => ?_⟩
    · set_option maxRecDepth 100000 in simp (maxSteps := 10000000) only [go_sem, Nat.reduceAdd, Nat.reduceSub, Nat.reduceMul, Nat.reduceLT, Nat.reduceLeDiff, Nat.reduceEqDiff, Nat.reduceMod, Nat.reduceDiv, Int.reduceNeg, Int.reduceLE, Int.reduceLT, Int.reduceToNat, Int.reduceEq, Int.reduceNe, ↓reduceIte]
      rw [hE]
      exact (List.any_eq_true.2 ⟨i, List.mem_range.2 hlt', decide_eq_true (by simpa using hn : byteAt s i = byteAt ⟨#[114, 109, 99, 100, 82, 67, 120, 101, 115]⟩ k)⟩).symm
    · set_option maxRecDepth 100000 in simp (maxSteps := 10000000) only [go_sem, Nat.reduceAdd, Nat.reduceSub, Nat.reduceMul, Nat.reduceLT, Nat.reduceLeDiff, Nat.reduceEqDiff, Nat.reduceMod, Nat.reduceDiv, Int.reduceNeg, Int.reduceLE, Int.reduceLT, Int.reduceToNat, Int.reduceEq, Int.reduceNe, ↓reduceIte]
      refine ih (i + 1) _ ⟨by omega, fun j hj => ?_⟩ (by omega) ?_
      · rcases Nat.lt_or_ge j i with h | h
        · exact hp j h
        · rw [show j = i by omega]; exact (by simpa using hn : ¬ byteAt s i = byteAt ⟨#[114, 109, 99, 100, 82, 67, 120, 101, 115]⟩ k)
      · set_option maxRecDepth 100000 in simp (maxSteps := 10000000) only [go_sem, Nat.reduceAdd, Nat.reduceSub, Nat.reduceMul, Nat.reduceLT, Nat.reduceLeDiff, Nat.reduceEqDiff, Nat.reduceMod, Nat.reduceDiv, Int.reduceNeg, Int.reduceLE, Int.reduceLT, Int.reduceToNat, Int.reduceEq, Int.reduceNe, ↓reduceIte,  wrap_succ (show i < 9223372036854775807 by omega)]
  · subst hst
    set_option maxRecDepth 100000 in simp (maxSteps := 10000000) only [go_sem, Nat.reduceAdd, Nat.reduceSub, Nat.reduceMul, Nat.reduceLT, Nat.reduceLeDiff, Nat.reduceEqDiff, Nat.reduceMod, Nat.reduceDiv, Int.reduceNeg, Int.reduceLE, Int.reduceLT, Int.reduceToNat, Int.reduceEq, Int.reduceNe, ↓reduceIte]
    refine Eq.symm ?_
    rw [hE, Bool.eq_false_iff]; intro q
    obtain ⟨j, hj, h3⟩ := List.any_eq_true.1 q
    exact hp j (by rw [List.mem_range] at hj; omega) (of_decide_eq_true h3)

theorem permits_good (t k : Nat) (ht : t < 30) (hk : k < 9) : Ans Try.prog 83 [.int .i64 (t : Int), .int .i64 (k : Int)] (.bool (permR t k)) := by
  have hl : kinds.length = 30 := rfl
  have h1 : t < kinds.length := by omega
  have h2 : (t : Int) < (kinds.length : Int) := by omega
  have hk2 : (k : Int) < 9 := by omega
  rw [← perm_eq t ht k hk]
  refine good_run [] mixed Try.func83 rfl Try.ntmps83 (rs := [.tmp 4]) rfl (by decide +kernel) (by kernel_rfl) rfl ?_
  rw [startE_eq 14 _ _ _ rfl rfl]
  set_option maxRecDepth 100000 in simp (maxSteps := 10000000) only [go_sem, Nat.reduceAdd, Nat.reduceSub, Nat.reduceMul, Nat.reduceLT, Nat.reduceLeDiff, Nat.reduceEqDiff, Nat.reduceMod, Nat.reduceDiv, Int.reduceNeg, Int.reduceLE, Int.reduceLT, Int.reduceToNat, Int.reduceEq, Int.reduceNe, ↓reduceIte]
  have hk3 : k < (#[114, 109, 121, 100, 101, 99, 97, 108, 115] : Array UInt8).size := hk
  refine callD_of (kinds_good) ?_
  set_option maxRecDepth 100000 in simp (maxSteps := 10000000) only [go_sem, Nat.reduceAdd, Nat.reduceSub, Nat.reduceMul, Nat.reduceLT, Nat.reduceLeDiff, Nat.reduceEqDiff, Nat.reduceMod, Nat.reduceDiv, Int.reduceNeg, Int.reduceLE, Int.reduceLT, Int.reduceToNat, Int.reduceEq, Int.reduceNe, ↓reduceIte,  h1, h2, hk3]
  refine callD_of (IndexByte_good _ _) ?_
  set_option maxRecDepth 100000 in simp (maxSteps := 10000000) only [go_sem, Nat.reduceAdd, Nat.reduceSub, Nat.reduceMul, Nat.reduceLT, Nat.reduceLeDiff, Nat.reduceEqDiff, Nat.reduceMod, Nat.reduceDiv, Int.reduceNeg, Int.reduceLE, Int.reduceLT, Int.reduceToNat, Int.reduceEq, Int.reduceNe, ↓reduceIte]
  exact ⟨by decide +kernel, rfl⟩
end Go.Proofs.Ytcmnbfpcomcejaa.C08
