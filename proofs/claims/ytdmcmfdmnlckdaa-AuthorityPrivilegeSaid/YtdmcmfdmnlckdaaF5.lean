/- Chapter 10: private authorities. -/
import Derived.Test.YtdmcmfdmnlckdaaF4
namespace Go.Proofs.Ytdmcmfdmnlckdaa.C10
open Go Go.Proofs Go.Proofs.Ytdmcmfdmnlckdaa.Ab
set_option linter.unusedSimpArgs false
attribute [local congr] ite_ctx

theorem lt_trich : ∀ (a b : List UInt8), (!Go.Op.bytesLess a b) = (Go.Op.bytesLess b a || b == a)
  | [], [] => by simp [Go.Op.bytesLess]
  | [], _ :: _ => by simp [Go.Op.bytesLess]
  | _ :: _, [] => by simp [Go.Op.bytesLess]
  | a :: x, b :: y => by
    have ih := lt_trich x y
    simp only [Go.Op.bytesLess, List.cons_beq_cons]
    by_cases h1 : a < b
    · have h2 : ¬ b < a := fun h => UInt8.lt_irrefl _ (UInt8.lt_trans h1 h)
      have h3 : (b == a) = false := by rw [beq_eq_false_iff_ne]; rintro rfl; exact UInt8.lt_irrefl _ h1
      simp [h1, h2, h3]
    · by_cases h2 : b < a
      · have h3 : (a == b) = false := by rw [beq_eq_false_iff_ne]; rintro rfl; exact UInt8.lt_irrefl _ h2
        simp [h1, h2, h3]
      · have : a = b := UInt8.le_antisymm (UInt8.not_lt.1 h2) (UInt8.not_lt.1 h1)
        subst this
        simp [h1, ih]

theorem first2_good (a b : Int) : Ans Try.prog 66 [.sl [[.int .i64 a], [.int .i64 b]]] (.int .i64 (firstE [a, b])) := first_good [a, b] (by simp)
theorem first3_good (a b c : Int) : Ans Try.prog 66 [.sl [[.int .i64 a], [.int .i64 b], [.int .i64 c]]] (.int .i64 (firstE [a, b, c])) := first_good [a, b, c] (by simp)
theorem first4_good (a b c d : Int) : Ans Try.prog 66 [.sl [[.int .i64 a], [.int .i64 b], [.int .i64 c], [.int .i64 d]]] (.int .i64 (firstE [a, b, c, d])) := first_good [a, b, c, d] (by simp)
theorem first5_good (a b c d e : Int) : Ans Try.prog 66 [.sl [[.int .i64 a], [.int .i64 b], [.int .i64 c], [.int .i64 d], [.int .i64 e]]] (.int .i64 (firstE [a, b, c, d, e])) := first_good [a, b, c, d, e] (by simp)
theorem first7_good (a b c d e f g : Int) : Ans Try.prog 66 [.sl [[.int .i64 a], [.int .i64 b], [.int .i64 c], [.int .i64 d], [.int .i64 e], [.int .i64 f], [.int .i64 g]]] (.int .i64 (firstE [a, b, c, d, e, f, g])) := first_good [a, b, c, d, e, f, g] (by simp)

/-- The first error of a row. -/
def scan (f : Nat → Int) : Nat → Nat → Int
  | 0, _ => 0
  | k + 1, i => if f i = 0 then scan f k (i + 1) else f i

theorem scan_step {f : Nat → Int} {n i : Nat} (h : i < n) : scan f (n - i) i = if f i = 0 then scan f (n - (i + 1)) (i + 1) else f i := by
  rw [show n - i = (n - (i + 1)) + 1 by omega, scan]

theorem scan_hit {f : Nat → Int} {n i : Nat} {v : Int} (h : i < n) (hv : f i = v) (h0 : v ≠ 0) : scan f (n - i) i = v := by
  rw [scan_step h, hv, if_neg h0]
theorem scan_skip {f : Nat → Int} {n i : Nat} (h : i < n) (hv : f i = 0) : scan f (n - i) i = scan f (n - (i + 1)) (i + 1) := by
  rw [scan_step h, if_pos hv]

def grantE (s : Sec) (l : List Grant) (i : Nat) : Int :=
  firstE [if findIx (fun p => decide (p.name = (nth l i).user)) s.profiles 0 < 0 then 11 else 0, if (decide (0 < i) && !sLt (nth l (i - 1)).user (nth l i).user) = true then 14 else 0, if (!inB (nth l i).auth 0 1023) = true then 3 else 0]
theorem grantE_def (s : Sec) (l : List Grant) (i : Nat) : grantE s l i = firstE [if findIx (fun p => decide (p.name = (nth l i).user)) s.profiles 0 < 0 then 11 else 0, if (decide (0 < i) && !sLt (nth l (i - 1)).user (nth l i).user) = true then 14 else 0, if (!inB (nth l i).auth 0 1023) = true then 3 else 0] := rfl
theorem grantE_cases (s : Sec) (l : List Grant) (i : Nat) : grantE s l i = if findIx (fun p => decide (p.name = (nth l i).user)) s.profiles 0 = -1 then 11 else if 0 < i ∧ (Go.Op.bytesLess (nth l i).user.toList (nth l (i - 1)).user.toList || (nth l i).user.toList == (nth l (i - 1)).user.toList) = true then 14 else if inB (nth l i).auth 0 1023 = false then 3 else 0 := by
  rw [grantE_def, ← lt_trich]
  have h := findIx_ge (fun p => decide (p.name = (nth l i).user)) s.profiles 0
  simp only [firstE, sLt]
  generalize findIx _ _ _ = F at *
  by_cases h1 : F = -1
  · simp [h1]
  · have hF : ¬ F < 0 := by omega
    simp only [hF, h1, ↓reduceIte]
    by_cases h2 : 0 < i ∧ (!Go.Op.bytesLess (nth l (i - 1)).user.toList (nth l i).user.toList) = true
    · rw [if_pos h2]; simp [h2.1]; simp at h2; simp [h2.2]
    · rw [if_neg h2]
      have h3 : (decide (0 < i) && !Go.Op.bytesLess (nth l (i - 1)).user.toList (nth l i).user.toList) = false := by
        rw [Bool.eq_false_iff]; simpa using h2
      simp only [h3, Bool.false_eq_true, if_false, if_true]
      cases inB (nth l i).auth 0 1023 <;> rfl
def grantsE (s : Sec) (l : List Grant) : Int := if 8 < l.length then 2 else scan (grantE s l) l.length 0

set_option maxHeartbeats 4000000 in
theorem grantsErr_good (s : Sec) (l : List Grant) (hs : s.profiles.length ≤ 1000000) (hl : l.length ≤ 1000000) : Ans Try.prog 93 [.agg (encSec s), .sl (l.map encGrant)] (.int .i64 (grantsE s l)) := by
  refine good_run [(4, [4, 5, 6, 7, 14, 15, 16, 17, 18, 19, 20, 21, 22, 23, 24, 25, 26, 27, 28, 29, 30, 31, 32, 33, 34, 35, 36, 37, 38, 39, 40, 41, 42, 43, 44, 45, 46, 47, 48, 49], [6, 44])] mixed Try.func93 rfl Try.ntmps93 (rs := [.tmp 4]) rfl (by decide +kernel) (by kernel_rfl) rfl ?_
  rw [startE_eq 50 _ _ _ rfl rfl]
  set_option maxRecDepth 100000 in simp (maxSteps := 10000000) only [go_sem, Nat.reduceAdd, Nat.reduceSub, Nat.reduceMul, Nat.reduceLT, Nat.reduceLeDiff, Nat.reduceEqDiff, Nat.reduceMod, Nat.reduceDiv, Int.reduceNeg, Int.reduceLE, Int.reduceLT, Int.reduceToNat, Int.reduceEq, Int.reduceNe, ↓reduceIte]
  refine ifI (fun h => ?_) fun h => ?_
  · set_option maxRecDepth 100000 in simp (maxSteps := 10000000) only [go_sem, Nat.reduceAdd, Nat.reduceSub, Nat.reduceMul, Nat.reduceLT, Nat.reduceLeDiff, Nat.reduceEqDiff, Nat.reduceMod, Nat.reduceDiv, Int.reduceNeg, Int.reduceLE, Int.reduceLT, Int.reduceToNat, Int.reduceEq, Int.reduceNe, ↓reduceIte]
    rw [grantsE, if_pos (by omega)]
  · set_option maxRecDepth 100000 in simp (maxSteps := 10000000) only [go_sem, Nat.reduceAdd, Nat.reduceSub, Nat.reduceMul, Nat.reduceLT, Nat.reduceLeDiff, Nat.reduceEqDiff, Nat.reduceMod, Nat.reduceDiv, Int.reduceNeg, Int.reduceLE, Int.reduceLT, Int.reduceToNat, Int.reduceEq, Int.reduceNe, ↓reduceIte]
    have hG : grantsE s l = scan (grantE s l) l.length 0 := by rw [grantsE, if_neg (by omega)]
    refine loop_by ([4, 5, 6, 7, 14, 15, 16, 17, 18, 19, 20, 21, 22, 23, 24, 25, 26, 27, 28, 29, 30, 31, 32, 33, 34, 35, 36, 37, 38, 39, 40, 41, 42, 43, 44, 45, 46, 47, 48, 49], [6, 44]) (fun i : Nat => [(.s 13, .int .i64 (i : Int)), (.o 6, deadV i), (.o 44, deadV i)]) (fun i => l.length - i) (fun i => i ≤ l.length ∧ scan (grantE s l) l.length 0 = scan (grantE s l) (l.length - i) i) 0 rfl ⟨Nat.zero_le _, rfl⟩ rfl ?_
    rintro c' st' hst i ⟨hi, hf⟩ ih
    set_option maxRecDepth 100000 in simp (maxSteps := 10000000) only [go_sem, Nat.reduceAdd, Nat.reduceSub, Nat.reduceMul, Nat.reduceLT, Nat.reduceLeDiff, Nat.reduceEqDiff, Nat.reduceMod, Nat.reduceDiv, Int.reduceNeg, Int.reduceLE, Int.reduceLT, Int.reduceToNat, Int.reduceEq, Int.reduceNe, ↓reduceIte]
    refine ifI (fun hlt => ?_) fun hlt => ?_
    · set_option maxRecDepth 100000 in simp (maxSteps := 10000000) only [go_sem, Nat.reduceAdd, Nat.reduceSub, Nat.reduceMul, Nat.reduceLT, Nat.reduceLeDiff, Nat.reduceEqDiff, Nat.reduceMod, Nat.reduceDiv, Int.reduceNeg, Int.reduceLE, Int.reduceLT, Int.reduceToNat, Int.reduceEq, Int.reduceNe, ↓reduceIte,  hlt]
      refine callD_of (profile_good s _ hs) ?_
      set_option maxRecDepth 100000 in simp (maxSteps := 10000000) only [go_sem, Nat.reduceAdd, Nat.reduceSub, Nat.reduceMul, Nat.reduceLT, Nat.reduceLeDiff, Nat.reduceEqDiff, Nat.reduceMod, Nat.reduceDiv, Int.reduceNeg, Int.reduceLE, Int.reduceLT, Int.reduceToNat, Int.reduceEq, Int.reduceNe, ↓reduceIte]
      refine callD_of (cond_good _ _) ?_
      set_option maxRecDepth 100000 in simp (maxSteps := 10000000) only [go_sem, Nat.reduceAdd, Nat.reduceSub, Nat.reduceMul, Nat.reduceLT, Nat.reduceLeDiff, Nat.reduceEqDiff, Nat.reduceMod, Nat.reduceDiv, Int.reduceNeg, Int.reduceLE, Int.reduceLT, Int.reduceToNat, Int.reduceEq, Int.reduceNe, ↓reduceIte]
      refine ifI (fun h1 => ?_) fun h1 => ?_
      · set_option maxRecDepth 100000 in simp (maxSteps := 10000000) only [go_sem, Nat.reduceAdd, Nat.reduceSub, Nat.reduceMul, Nat.reduceLT, Nat.reduceLeDiff, Nat.reduceEqDiff, Nat.reduceMod, Nat.reduceDiv, Int.reduceNeg, Int.reduceLE, Int.reduceLT, Int.reduceToNat, Int.reduceEq, Int.reduceNe, ↓reduceIte,  h1, wrap_pred (show 0 < i by omega) (show i ≤ 9223372036854775807 by omega), show i - 1 < l.length by omega]
        refine callD_of (cond_good _ _) ?_
        set_option maxRecDepth 100000 in simp (maxSteps := 10000000) only [go_sem, Nat.reduceAdd, Nat.reduceSub, Nat.reduceMul, Nat.reduceLT, Nat.reduceLeDiff, Nat.reduceEqDiff, Nat.reduceMod, Nat.reduceDiv, Int.reduceNeg, Int.reduceLE, Int.reduceLT, Int.reduceToNat, Int.reduceEq, Int.reduceNe, ↓reduceIte,  h1]
        refine callD_of (isAuthority_good _) ?_
        set_option maxRecDepth 100000 in simp (maxSteps := 10000000) only [go_sem, Nat.reduceAdd, Nat.reduceSub, Nat.reduceMul, Nat.reduceLT, Nat.reduceLeDiff, Nat.reduceEqDiff, Nat.reduceMod, Nat.reduceDiv, Int.reduceNeg, Int.reduceLE, Int.reduceLT, Int.reduceToNat, Int.reduceEq, Int.reduceNe, ↓reduceIte]
        refine callD_of (cond_good _ _) ?_
        set_option maxRecDepth 100000 in simp (maxSteps := 10000000) only [go_sem, Nat.reduceAdd, Nat.reduceSub, Nat.reduceMul, Nat.reduceLT, Nat.reduceLeDiff, Nat.reduceEqDiff, Nat.reduceMod, Nat.reduceDiv, Int.reduceNeg, Int.reduceLE, Int.reduceLT, Int.reduceToNat, Int.reduceEq, Int.reduceNe, ↓reduceIte]
        refine callD_of (first3_good _ _ _) ?_
        set_option maxRecDepth 100000 in simp (maxSteps := 10000000) only [go_sem, Nat.reduceAdd, Nat.reduceSub, Nat.reduceMul, Nat.reduceLT, Nat.reduceLeDiff, Nat.reduceEqDiff, Nat.reduceMod, Nat.reduceDiv, Int.reduceNeg, Int.reduceLE, Int.reduceLT, Int.reduceToNat, Int.reduceEq, Int.reduceNe, ↓reduceIte,  h1]
        refine ⟨by decide +kernel, ifI (fun h2 => ?_) fun h2 => ?_⟩
        · set_option maxRecDepth 100000 in simp (maxSteps := 10000000) only [go_sem, Nat.reduceAdd, Nat.reduceSub, Nat.reduceMul, Nat.reduceLT, Nat.reduceLeDiff, Nat.reduceEqDiff, Nat.reduceMod, Nat.reduceDiv, Int.reduceNeg, Int.reduceLE, Int.reduceLT, Int.reduceToNat, Int.reduceEq, Int.reduceNe, ↓reduceIte]
          have hg := grantE_def s l i
          rw [decide_eq_true (show 0 < i by omega), Bool.true_and, sLt] at hg
          rw [hG, hf, scan_step hlt, hg]
          exact (if_neg h2).symm
        · set_option maxRecDepth 100000 in simp (maxSteps := 10000000) only [go_sem, Nat.reduceAdd, Nat.reduceSub, Nat.reduceMul, Nat.reduceLT, Nat.reduceLeDiff, Nat.reduceEqDiff, Nat.reduceMod, Nat.reduceDiv, Int.reduceNeg, Int.reduceLE, Int.reduceLT, Int.reduceToNat, Int.reduceEq, Int.reduceNe, ↓reduceIte]
          have hg := grantE_def s l i
          rw [decide_eq_true (show 0 < i by omega), Bool.true_and, sLt] at hg
          refine ih (i + 1) _ ⟨by omega, ?_⟩ (by omega) ?_
          · rw [hf, scan_step hlt, hg]
            exact if_pos (Classical.not_not.1 h2)
          · set_option maxRecDepth 100000 in simp (maxSteps := 10000000) only [go_sem, Nat.reduceAdd, Nat.reduceSub, Nat.reduceMul, Nat.reduceLT, Nat.reduceLeDiff, Nat.reduceEqDiff, Nat.reduceMod, Nat.reduceDiv, Int.reduceNeg, Int.reduceLE, Int.reduceLT, Int.reduceToNat, Int.reduceEq, Int.reduceNe, ↓reduceIte,  wrap_succ (show i < 9223372036854775807 by omega)]
      · set_option maxRecDepth 100000 in simp (maxSteps := 10000000) only [go_sem, Nat.reduceAdd, Nat.reduceSub, Nat.reduceMul, Nat.reduceLT, Nat.reduceLeDiff, Nat.reduceEqDiff, Nat.reduceMod, Nat.reduceDiv, Int.reduceNeg, Int.reduceLE, Int.reduceLT, Int.reduceToNat, Int.reduceEq, Int.reduceNe, ↓reduceIte,  h1]
        refine callD_of (cond_good _ _) ?_
        set_option maxRecDepth 100000 in simp (maxSteps := 10000000) only [go_sem, Nat.reduceAdd, Nat.reduceSub, Nat.reduceMul, Nat.reduceLT, Nat.reduceLeDiff, Nat.reduceEqDiff, Nat.reduceMod, Nat.reduceDiv, Int.reduceNeg, Int.reduceLE, Int.reduceLT, Int.reduceToNat, Int.reduceEq, Int.reduceNe, ↓reduceIte,  h1]
        refine callD_of (isAuthority_good _) ?_
        set_option maxRecDepth 100000 in simp (maxSteps := 10000000) only [go_sem, Nat.reduceAdd, Nat.reduceSub, Nat.reduceMul, Nat.reduceLT, Nat.reduceLeDiff, Nat.reduceEqDiff, Nat.reduceMod, Nat.reduceDiv, Int.reduceNeg, Int.reduceLE, Int.reduceLT, Int.reduceToNat, Int.reduceEq, Int.reduceNe, ↓reduceIte,  h1]
        refine callD_of (cond_good _ _) ?_
        set_option maxRecDepth 100000 in simp (maxSteps := 10000000) only [go_sem, Nat.reduceAdd, Nat.reduceSub, Nat.reduceMul, Nat.reduceLT, Nat.reduceLeDiff, Nat.reduceEqDiff, Nat.reduceMod, Nat.reduceDiv, Int.reduceNeg, Int.reduceLE, Int.reduceLT, Int.reduceToNat, Int.reduceEq, Int.reduceNe, ↓reduceIte,  h1]
        refine callD_of (first3_good _ _ _) ?_
        set_option maxRecDepth 100000 in simp (maxSteps := 10000000) only [go_sem, Nat.reduceAdd, Nat.reduceSub, Nat.reduceMul, Nat.reduceLT, Nat.reduceLeDiff, Nat.reduceEqDiff, Nat.reduceMod, Nat.reduceDiv, Int.reduceNeg, Int.reduceLE, Int.reduceLT, Int.reduceToNat, Int.reduceEq, Int.reduceNe, ↓reduceIte,  h1]
        refine ⟨by decide +kernel, ifI (fun h2 => ?_) fun h2 => ?_⟩
        · set_option maxRecDepth 100000 in simp (maxSteps := 10000000) only [go_sem, Nat.reduceAdd, Nat.reduceSub, Nat.reduceMul, Nat.reduceLT, Nat.reduceLeDiff, Nat.reduceEqDiff, Nat.reduceMod, Nat.reduceDiv, Int.reduceNeg, Int.reduceLE, Int.reduceLT, Int.reduceToNat, Int.reduceEq, Int.reduceNe, ↓reduceIte]
          have hg := grantE_def s l i
          rw [decide_eq_false (show ¬ 0 < i by omega), Bool.false_and, if_neg (by simp : ¬ false = true)] at hg
          rw [hG, hf, scan_step hlt, hg]
          exact (if_neg h2).symm
        · set_option maxRecDepth 100000 in simp (maxSteps := 10000000) only [go_sem, Nat.reduceAdd, Nat.reduceSub, Nat.reduceMul, Nat.reduceLT, Nat.reduceLeDiff, Nat.reduceEqDiff, Nat.reduceMod, Nat.reduceDiv, Int.reduceNeg, Int.reduceLE, Int.reduceLT, Int.reduceToNat, Int.reduceEq, Int.reduceNe, ↓reduceIte]
          have hg := grantE_def s l i
          rw [decide_eq_false (show ¬ 0 < i by omega), Bool.false_and, if_neg (by simp : ¬ false = true)] at hg
          refine ih (i + 1) _ ⟨by omega, ?_⟩ (by omega) ?_
          · rw [hf, scan_step hlt, hg]
            exact if_pos (Classical.not_not.1 h2)
          · set_option maxRecDepth 100000 in simp (maxSteps := 10000000) only [go_sem, Nat.reduceAdd, Nat.reduceSub, Nat.reduceMul, Nat.reduceLT, Nat.reduceLeDiff, Nat.reduceEqDiff, Nat.reduceMod, Nat.reduceDiv, Int.reduceNeg, Int.reduceLE, Int.reduceLT, Int.reduceToNat, Int.reduceEq, Int.reduceNe, ↓reduceIte,  wrap_succ (show i < 9223372036854775807 by omega)]
    · subst hst
      set_option maxRecDepth 100000 in simp (maxSteps := 10000000) only [go_sem, Nat.reduceAdd, Nat.reduceSub, Nat.reduceMul, Nat.reduceLT, Nat.reduceLeDiff, Nat.reduceEqDiff, Nat.reduceMod, Nat.reduceDiv, Int.reduceNeg, Int.reduceLE, Int.reduceLT, Int.reduceToNat, Int.reduceEq, Int.reduceNe, ↓reduceIte]
      rw [hG, hf, show l.length - i = 0 by omega]; rfl

set_option maxHeartbeats 4000000 in
theorem grantsErrR_good (s : Sec) (l : List Grant) (hs : s.profiles.length ≤ 1000000) (hl : l.length ≤ 1000000) : Ans Try.prog 64 [.agg (encSec s), .sl (l.map encGrant)] (.int .i64 (grantsE s l)) := by
  refine good_run [(4, [4, 9, 10, 11, 12, 13, 14, 15, 16, 17, 18, 19, 20, 21, 22, 23, 24, 25, 26, 27, 28, 29, 30, 31, 32, 33, 34, 35, 36, 37, 38, 39, 40, 41, 42, 43, 44, 45, 46, 47, 48], [])] mixed Try.func64 rfl Try.ntmps64 (rs := [.tmp 4]) rfl (by decide +kernel) (by kernel_rfl) rfl ?_
  rw [startE_eq 49 _ _ _ rfl rfl]
  set_option maxRecDepth 100000 in simp (maxSteps := 10000000) only [go_sem, Nat.reduceAdd, Nat.reduceSub, Nat.reduceMul, Nat.reduceLT, Nat.reduceLeDiff, Nat.reduceEqDiff, Nat.reduceMod, Nat.reduceDiv, Int.reduceNeg, Int.reduceLE, Int.reduceLT, Int.reduceToNat, Int.reduceEq, Int.reduceNe, ↓reduceIte]
  refine ifI (fun h => ?_) fun h => ?_
  · set_option maxRecDepth 100000 in simp (maxSteps := 10000000) only [go_sem, Nat.reduceAdd, Nat.reduceSub, Nat.reduceMul, Nat.reduceLT, Nat.reduceLeDiff, Nat.reduceEqDiff, Nat.reduceMod, Nat.reduceDiv, Int.reduceNeg, Int.reduceLE, Int.reduceLT, Int.reduceToNat, Int.reduceEq, Int.reduceNe, ↓reduceIte]
    rw [grantsE, if_pos (by omega)]
  · set_option maxRecDepth 100000 in simp (maxSteps := 10000000) only [go_sem, Nat.reduceAdd, Nat.reduceSub, Nat.reduceMul, Nat.reduceLT, Nat.reduceLeDiff, Nat.reduceEqDiff, Nat.reduceMod, Nat.reduceDiv, Int.reduceNeg, Int.reduceLE, Int.reduceLT, Int.reduceToNat, Int.reduceEq, Int.reduceNe, ↓reduceIte]
    have hG : grantsE s l = scan (grantE s l) l.length 0 := by rw [grantsE, if_neg (by omega)]
    refine loop_by ([4, 9, 10, 11, 12, 13, 14, 15, 16, 17, 18, 19, 20, 21, 22, 23, 24, 25, 26, 27, 28, 29, 30, 31, 32, 33, 34, 35, 36, 37, 38, 39, 40, 41, 42, 43, 44, 45, 46, 47, 48], []) (fun i : Nat => [(.s 5, .int .i64 (i : Int))]) (fun i => l.length - i) (fun i => i ≤ l.length ∧ scan (grantE s l) l.length 0 = scan (grantE s l) (l.length - i) i) 0 rfl ⟨Nat.zero_le _, rfl⟩ rfl ?_
    rintro c' st' hst i ⟨hi, hf⟩ ih
    set_option maxRecDepth 100000 in simp (maxSteps := 10000000) only [go_sem, Nat.reduceAdd, Nat.reduceSub, Nat.reduceMul, Nat.reduceLT, Nat.reduceLeDiff, Nat.reduceEqDiff, Nat.reduceMod, Nat.reduceDiv, Int.reduceNeg, Int.reduceLE, Int.reduceLT, Int.reduceToNat, Int.reduceEq, Int.reduceNe, ↓reduceIte]
    refine ifI (fun hlt => ?_) fun hlt => ?_
    · set_option maxRecDepth 100000 in simp (maxSteps := 10000000) only [go_sem, Nat.reduceAdd, Nat.reduceSub, Nat.reduceMul, Nat.reduceLT, Nat.reduceLeDiff, Nat.reduceEqDiff, Nat.reduceMod, Nat.reduceDiv, Int.reduceNeg, Int.reduceLE, Int.reduceLT, Int.reduceToNat, Int.reduceEq, Int.reduceNe, ↓reduceIte,  hlt]
      refine callD_of (User_good s _ hs) ?_
      set_option maxRecDepth 100000 in simp (maxSteps := 10000000) only [go_sem, Nat.reduceAdd, Nat.reduceSub, Nat.reduceMul, Nat.reduceLT, Nat.reduceLeDiff, Nat.reduceEqDiff, Nat.reduceMod, Nat.reduceDiv, Int.reduceNeg, Int.reduceLE, Int.reduceLT, Int.reduceToNat, Int.reduceEq, Int.reduceNe, ↓reduceIte]
      refine ⟨by decide +kernel, ifI (fun h1 => ?_) fun h1 => ?_⟩
      · set_option maxRecDepth 100000 in simp (maxSteps := 10000000) only [go_sem, Nat.reduceAdd, Nat.reduceSub, Nat.reduceMul, Nat.reduceLT, Nat.reduceLeDiff, Nat.reduceEqDiff, Nat.reduceMod, Nat.reduceDiv, Int.reduceNeg, Int.reduceLE, Int.reduceLT, Int.reduceToNat, Int.reduceEq, Int.reduceNe, ↓reduceIte]
        exact (hG.trans (hf.trans (scan_hit hlt (by rw [grantE_cases, if_pos h1]) (by decide)))).symm
      · set_option maxRecDepth 100000 in simp (maxSteps := 10000000) only [go_sem, Nat.reduceAdd, Nat.reduceSub, Nat.reduceMul, Nat.reduceLT, Nat.reduceLeDiff, Nat.reduceEqDiff, Nat.reduceMod, Nat.reduceDiv, Int.reduceNeg, Int.reduceLE, Int.reduceLT, Int.reduceToNat, Int.reduceEq, Int.reduceNe, ↓reduceIte]
        refine ifI (fun h2 => ?_) fun h2 => ?_
        · set_option maxRecDepth 100000 in simp (maxSteps := 10000000) only [go_sem, Nat.reduceAdd, Nat.reduceSub, Nat.reduceMul, Nat.reduceLT, Nat.reduceLeDiff, Nat.reduceEqDiff, Nat.reduceMod, Nat.reduceDiv, Int.reduceNeg, Int.reduceLE, Int.reduceLT, Int.reduceToNat, Int.reduceEq, Int.reduceNe, ↓reduceIte,  hlt, h2, wrap_pred (show 0 < i by omega) (show i ≤ 9223372036854775807 by omega), show i - 1 < l.length by omega]
          refine ⟨by decide +kernel, ifI (fun h3 => ?_) fun h3 => ?_⟩
          · set_option maxRecDepth 100000 in simp (maxSteps := 10000000) only [go_sem, Nat.reduceAdd, Nat.reduceSub, Nat.reduceMul, Nat.reduceLT, Nat.reduceLeDiff, Nat.reduceEqDiff, Nat.reduceMod, Nat.reduceDiv, Int.reduceNeg, Int.reduceLE, Int.reduceLT, Int.reduceToNat, Int.reduceEq, Int.reduceNe, ↓reduceIte]
            exact (hG.trans (hf.trans (scan_hit hlt (by rw [grantE_cases, if_neg h1, if_pos ⟨by omega, h3⟩]) (by decide)))).symm
          · set_option maxRecDepth 100000 in simp (maxSteps := 10000000) only [go_sem, Nat.reduceAdd, Nat.reduceSub, Nat.reduceMul, Nat.reduceLT, Nat.reduceLeDiff, Nat.reduceEqDiff, Nat.reduceMod, Nat.reduceDiv, Int.reduceNeg, Int.reduceLE, Int.reduceLT, Int.reduceToNat, Int.reduceEq, Int.reduceNe, ↓reduceIte,  hlt]
            refine call_of (IsAuthority_good _) ?_
            set_option maxRecDepth 100000 in simp (maxSteps := 10000000) only [go_sem, Nat.reduceAdd, Nat.reduceSub, Nat.reduceMul, Nat.reduceLT, Nat.reduceLeDiff, Nat.reduceEqDiff, Nat.reduceMod, Nat.reduceDiv, Int.reduceNeg, Int.reduceLE, Int.reduceLT, Int.reduceToNat, Int.reduceEq, Int.reduceNe, ↓reduceIte]
            refine ifI (fun h4 => ?_) fun h4 => ?_
            · set_option maxRecDepth 100000 in simp (maxSteps := 10000000) only [go_sem, Nat.reduceAdd, Nat.reduceSub, Nat.reduceMul, Nat.reduceLT, Nat.reduceLeDiff, Nat.reduceEqDiff, Nat.reduceMod, Nat.reduceDiv, Int.reduceNeg, Int.reduceLE, Int.reduceLT, Int.reduceToNat, Int.reduceEq, Int.reduceNe, ↓reduceIte]
              exact (hG.trans (hf.trans (scan_hit hlt (by rw [grantE_cases, if_neg h1, if_neg (fun h => h3 h.2), if_pos (by simpa using h4)]) (by decide)))).symm
            · set_option maxRecDepth 100000 in simp (maxSteps := 10000000) only [go_sem, Nat.reduceAdd, Nat.reduceSub, Nat.reduceMul, Nat.reduceLT, Nat.reduceLeDiff, Nat.reduceEqDiff, Nat.reduceMod, Nat.reduceDiv, Int.reduceNeg, Int.reduceLE, Int.reduceLT, Int.reduceToNat, Int.reduceEq, Int.reduceNe, ↓reduceIte]
              refine ih (i + 1) _ ⟨by omega, ?_⟩ (by omega) ?_
              · exact hf.trans (scan_skip hlt (by rw [grantE_cases, if_neg h1, if_neg (fun h => h3 h.2), if_neg (by simpa using h4)]))
              · set_option maxRecDepth 100000 in simp (maxSteps := 10000000) only [go_sem, Nat.reduceAdd, Nat.reduceSub, Nat.reduceMul, Nat.reduceLT, Nat.reduceLeDiff, Nat.reduceEqDiff, Nat.reduceMod, Nat.reduceDiv, Int.reduceNeg, Int.reduceLE, Int.reduceLT, Int.reduceToNat, Int.reduceEq, Int.reduceNe, ↓reduceIte,  wrap_succ (show i < 9223372036854775807 by omega)]
        · set_option maxRecDepth 100000 in simp (maxSteps := 10000000) only [go_sem, Nat.reduceAdd, Nat.reduceSub, Nat.reduceMul, Nat.reduceLT, Nat.reduceLeDiff, Nat.reduceEqDiff, Nat.reduceMod, Nat.reduceDiv, Int.reduceNeg, Int.reduceLE, Int.reduceLT, Int.reduceToNat, Int.reduceEq, Int.reduceNe, ↓reduceIte,  h2, hlt]
          refine ⟨by decide +kernel, ?_⟩
          refine call_of (IsAuthority_good _) ?_
          set_option maxRecDepth 100000 in simp (maxSteps := 10000000) only [go_sem, Nat.reduceAdd, Nat.reduceSub, Nat.reduceMul, Nat.reduceLT, Nat.reduceLeDiff, Nat.reduceEqDiff, Nat.reduceMod, Nat.reduceDiv, Int.reduceNeg, Int.reduceLE, Int.reduceLT, Int.reduceToNat, Int.reduceEq, Int.reduceNe, ↓reduceIte]
          refine ifI (fun h4 => ?_) fun h4 => ?_
          · set_option maxRecDepth 100000 in simp (maxSteps := 10000000) only [go_sem, Nat.reduceAdd, Nat.reduceSub, Nat.reduceMul, Nat.reduceLT, Nat.reduceLeDiff, Nat.reduceEqDiff, Nat.reduceMod, Nat.reduceDiv, Int.reduceNeg, Int.reduceLE, Int.reduceLT, Int.reduceToNat, Int.reduceEq, Int.reduceNe, ↓reduceIte]
            exact (hG.trans (hf.trans (scan_hit hlt (by rw [grantE_cases, if_neg h1, if_neg (fun h => h2 (by omega)), if_pos (by simpa using h4)]) (by decide)))).symm
          · set_option maxRecDepth 100000 in simp (maxSteps := 10000000) only [go_sem, Nat.reduceAdd, Nat.reduceSub, Nat.reduceMul, Nat.reduceLT, Nat.reduceLeDiff, Nat.reduceEqDiff, Nat.reduceMod, Nat.reduceDiv, Int.reduceNeg, Int.reduceLE, Int.reduceLT, Int.reduceToNat, Int.reduceEq, Int.reduceNe, ↓reduceIte]
            refine ih (i + 1) _ ⟨by omega, ?_⟩ (by omega) ?_
            · exact hf.trans (scan_skip hlt (by rw [grantE_cases, if_neg h1, if_neg (fun h => h2 (by omega)), if_neg (by simpa using h4)]))
            · set_option maxRecDepth 100000 in simp (maxSteps := 10000000) only [go_sem, Nat.reduceAdd, Nat.reduceSub, Nat.reduceMul, Nat.reduceLT, Nat.reduceLeDiff, Nat.reduceEqDiff, Nat.reduceMod, Nat.reduceDiv, Int.reduceNeg, Int.reduceLE, Int.reduceLT, Int.reduceToNat, Int.reduceEq, Int.reduceNe, ↓reduceIte,  wrap_succ (show i < 9223372036854775807 by omega)]
    · subst hst
      set_option maxRecDepth 100000 in simp (maxSteps := 10000000) only [go_sem, Nat.reduceAdd, Nat.reduceSub, Nat.reduceMul, Nat.reduceLT, Nat.reduceLeDiff, Nat.reduceEqDiff, Nat.reduceMod, Nat.reduceDiv, Int.reduceNeg, Int.reduceLE, Int.reduceLT, Int.reduceToNat, Int.reduceEq, Int.reduceNe, ↓reduceIte]
      rw [hG, hf, show l.length - i = 0 by omega]; rfl
end Go.Proofs.Ytdmcmfdmnlckdaa.C10
