/- Chapter 6: numbers, kinds, places, rows of strings. -/
import Derived.Test.YtdfdagfgkijpcaaA0
namespace Go.Proofs.Ytdfdagfgkijpcaa.C06
open Go Go.Proofs Go.Proofs.Ytdfdagfgkijpcaa.Ab
set_option linter.unusedSimpArgs false
set_option linter.unusedVariables false
attribute [local congr] ite_ctx

def inB (n lo hi : Int) : Bool := decide (lo ≤ n ∧ n ≤ hi)
theorem within_good (n lo hi : Int) : Ans Try.prog 34 [.int .i64 n, .int .i64 lo, .int .i64 hi] (.bool (inB n lo hi)) := by
  refine good_run [] mixed Try.func34 rfl Try.ntmps34 (rs := [.tmp 6]) rfl (by decide +kernel) (by kernel_rfl) rfl ?_
  rw [startE_eq 15 _ _ _ rfl rfl]
  set_option maxRecDepth 100000 in simp (contextual := true) (maxSteps := 10000000) only [go_sem, ifP_eq, Nat.reduceAdd, Nat.reduceSub, Nat.reduceMul, Nat.reduceLT, Nat.reduceLeDiff, Nat.reduceEqDiff, Nat.reduceMod, Nat.reduceDiv, Int.reduceNeg, Int.reduceLE, Int.reduceLT, Int.reduceToNat, Int.reduceEq, Int.reduceNe, ↓reduceIte]
  split <;> simp_all [inB] <;> omega
theorem Within_good (n lo hi : Int) : Ans Try.prog 41 [.int .i64 n, .int .i64 lo, .int .i64 hi] (.bool (inB n lo hi)) := by
  refine good_run [] mixed Try.func41 rfl Try.ntmps41 (rs := [.tmp 6]) rfl (by decide +kernel) (by kernel_rfl) rfl ?_
  rw [startE_eq 15 _ _ _ rfl rfl]
  set_option maxRecDepth 100000 in simp (contextual := true) (maxSteps := 10000000) only [go_sem, ifP_eq, Nat.reduceAdd, Nat.reduceSub, Nat.reduceMul, Nat.reduceLT, Nat.reduceLeDiff, Nat.reduceEqDiff, Nat.reduceMod, Nat.reduceDiv, Int.reduceNeg, Int.reduceLE, Int.reduceLT, Int.reduceToNat, Int.reduceEq, Int.reduceNe, ↓reduceIte]
  split <;> simp_all [inB] <;> omega
def cnt (b : Bool) : Int := if b = true then 1 else 0
theorem Count_good (b : Bool) : Ans Try.prog 42 [.bool b] (.int .i64 (cnt b)) := by
  refine good_run [] mixed Try.func42 rfl Try.ntmps42 (rs := [.tmp 2]) rfl (by decide +kernel) (by kernel_rfl) rfl ?_
  rw [startE_eq 4 _ _ _ rfl rfl]
  set_option maxRecDepth 100000 in simp (contextual := true) (maxSteps := 10000000) only [go_sem, ifP_eq, Nat.reduceAdd, Nat.reduceSub, Nat.reduceMul, Nat.reduceLT, Nat.reduceLeDiff, Nat.reduceEqDiff, Nat.reduceMod, Nat.reduceDiv, Int.reduceNeg, Int.reduceLE, Int.reduceLT, Int.reduceToNat, Int.reduceEq, Int.reduceNe, ↓reduceIte]
  cases b <;> simp [cnt]
/-- The least and the greatest number of units of a kind. -/
def lims (kind : Int) : Int × Int := if kind = 0 then (1, 1) else if kind = 1 then (2, 2) else (3, 5)
theorem unitsOf_no {k : Int} (h : inB k 0 2 = false) : Ans Try.prog 33 [.int .i64 k] (.tup [.int .i64 0, .int .i64 0, .bool false]) := by
  have h0 : (k = 0) = False := eq_false fun q => by subst q; simp [inB] at h
  have h1 : (k = 1) = False := eq_false fun q => by subst q; simp [inB] at h
  have h2 : (k = 2) = False := eq_false fun q => by subst q; simp [inB] at h
  refine good_run [] mixed Try.func33 rfl Try.ntmps33 (rs := [.tmp 2, .tmp 3, .tmp 4]) rfl (by decide +kernel) (by kernel_rfl) rfl ?_
  rw [startE_eq 12 _ _ _ rfl rfl]
  set_option maxRecDepth 100000 in simp (maxSteps := 10000000) only [go_sem, Nat.reduceAdd, Nat.reduceSub, Nat.reduceMul, Nat.reduceLT, Nat.reduceLeDiff, Nat.reduceEqDiff, Nat.reduceMod, Nat.reduceDiv, Int.reduceNeg, Int.reduceLE, Int.reduceLT, Int.reduceToNat, Int.reduceEq, Int.reduceNe, ↓reduceIte,  h0, h1, h2]
theorem unitsOf_good {k : Int} (h : inB k 0 2 = true) : Ans Try.prog 33 [.int .i64 k] (.tup [.int .i64 (lims k).1, .int .i64 (lims k).2, .bool true]) := by
  have h3 : k = 0 ∨ k = 1 ∨ k = 2 := by simp only [inB, decide_eq_true_eq] at h; omega
  rcases h3 with rfl | rfl | rfl
  all_goals
    refine good_run [] mixed Try.func33 rfl Try.ntmps33 (rs := [.tmp 2, .tmp 3, .tmp 4]) rfl (by decide +kernel) (by kernel_rfl) rfl ?_
    rw [startE_eq 12 _ _ _ rfl rfl]
    set_option maxRecDepth 100000 in simp (maxSteps := 10000000) only [go_sem, Nat.reduceAdd, Nat.reduceSub, Nat.reduceMul, Nat.reduceLT, Nat.reduceLeDiff, Nat.reduceEqDiff, Nat.reduceMod, Nat.reduceDiv, Int.reduceNeg, Int.reduceLE, Int.reduceLT, Int.reduceToNat, Int.reduceEq, Int.reduceNe, ↓reduceIte]
    decide

/-- How many sectors. -/
def cntI (d : Disk) : Int := if d.kind = 2 then d.size * ((d.units.length : Int) - 1) else d.size
theorem wrap_cnt {d : Disk} (h : d.units.length ≤ 1000000) (h1 : -1000 ≤ d.size) (h2 : d.size ≤ 1000) : IntKind.wrap .i64 (d.size * ((d.units.length : Int) - 1)) = d.size * ((d.units.length : Int) - 1) := by
  have a1 : (d.size).natAbs ≤ 1000 := by omega
  have a2 : ((d.units.length : Int) - 1).natAbs ≤ 1000000 := by omega
  have a3 : (d.size * ((d.units.length : Int) - 1)).natAbs ≤ 1000000000 := by
    rw [Int.natAbs_mul]; exact Nat.le_trans (Nat.mul_le_mul a1 a2) (by decide)
  refine wrap_i64 ?_ ?_ <;> omega
theorem wrap_len {d : Disk} (h : d.units.length ≤ 1000000) : IntKind.wrap .i64 ((d.units.length : Int) - 1) = (d.units.length : Int) - 1 := wrap_i64 (by omega) (by omega)
theorem count_good (d : Disk) (h : d.units.length ≤ 1000000) (h1 : -1000 ≤ d.size) (h2 : d.size ≤ 1000) : Ans Try.prog 39 [.agg (encDisk d)] (.int .i64 (cntI d)) := by
  have w1 := wrap_len h
  have w2 := wrap_cnt h h1 h2
  refine good_run [] mixed Try.func39 rfl Try.ntmps39 (rs := [.tmp 2]) rfl (by decide +kernel) (by kernel_rfl) rfl ?_
  rw [startE_eq 15 _ _ _ rfl rfl]
  set_option maxRecDepth 100000 in simp (maxSteps := 10000000) only [go_sem, Nat.reduceAdd, Nat.reduceSub, Nat.reduceMul, Nat.reduceLT, Nat.reduceLeDiff, Nat.reduceEqDiff, Nat.reduceMod, Nat.reduceDiv, Int.reduceNeg, Int.reduceLE, Int.reduceLT, Int.reduceToNat, Int.reduceEq, Int.reduceNe, ↓reduceIte]
  refine ifI (fun hk => ?_) fun hk => ?_
  · set_option maxRecDepth 100000 in simp (maxSteps := 10000000) only [go_sem, Nat.reduceAdd, Nat.reduceSub, Nat.reduceMul, Nat.reduceLT, Nat.reduceLeDiff, Nat.reduceEqDiff, Nat.reduceMod, Nat.reduceDiv, Int.reduceNeg, Int.reduceLE, Int.reduceLT, Int.reduceToNat, Int.reduceEq, Int.reduceNe, ↓reduceIte,  hk, w1, w2]
    rw [cntI, if_pos (by simpa using hk)]
  · set_option maxRecDepth 100000 in simp (maxSteps := 10000000) only [go_sem, Nat.reduceAdd, Nat.reduceSub, Nat.reduceMul, Nat.reduceLT, Nat.reduceLeDiff, Nat.reduceEqDiff, Nat.reduceMod, Nat.reduceDiv, Int.reduceNeg, Int.reduceLE, Int.reduceLT, Int.reduceToNat, Int.reduceEq, Int.reduceNe, ↓reduceIte,  hk]
    rw [cntI, if_neg (by simpa using hk)]
theorem CountR_good (d : Disk) (h : d.units.length ≤ 1000000) (h1 : -1000 ≤ d.size) (h2 : d.size ≤ 1000) : Ans Try.prog 14 [.agg (encDisk d)] (.int .i64 (cntI d)) := by
  have w1 := wrap_len h
  have w2 := wrap_cnt h h1 h2
  refine good_run [] mixed Try.func14 rfl Try.ntmps14 (rs := [.tmp 2]) rfl (by decide +kernel) (by kernel_rfl) rfl ?_
  rw [startE_eq 15 _ _ _ rfl rfl]
  set_option maxRecDepth 100000 in simp (maxSteps := 10000000) only [go_sem, Nat.reduceAdd, Nat.reduceSub, Nat.reduceMul, Nat.reduceLT, Nat.reduceLeDiff, Nat.reduceEqDiff, Nat.reduceMod, Nat.reduceDiv, Int.reduceNeg, Int.reduceLE, Int.reduceLT, Int.reduceToNat, Int.reduceEq, Int.reduceNe, ↓reduceIte]
  refine ifI (fun hk => ?_) fun hk => ?_
  · set_option maxRecDepth 100000 in simp (maxSteps := 10000000) only [go_sem, Nat.reduceAdd, Nat.reduceSub, Nat.reduceMul, Nat.reduceLT, Nat.reduceLeDiff, Nat.reduceEqDiff, Nat.reduceMod, Nat.reduceDiv, Int.reduceNeg, Int.reduceLE, Int.reduceLT, Int.reduceToNat, Int.reduceEq, Int.reduceNe, ↓reduceIte,  hk, w1, w2]
    rw [cntI, if_pos (by simpa using hk)]
  · set_option maxRecDepth 100000 in simp (maxSteps := 10000000) only [go_sem, Nat.reduceAdd, Nat.reduceSub, Nat.reduceMul, Nat.reduceLT, Nat.reduceLeDiff, Nat.reduceEqDiff, Nat.reduceMod, Nat.reduceDiv, Int.reduceNeg, Int.reduceLE, Int.reduceLT, Int.reduceToNat, Int.reduceEq, Int.reduceNe, ↓reduceIte,  hk]
    rw [cntI, if_neg (by simpa using hk)]

/-- Rows of strings that are the same. -/
theorem same_step {a b : List ByteArray} {i : Nat} (hlt : i < a.length) (hl : a.length = b.length) (h : decide (a = b) = decide (a.drop i = b.drop i)) (hn : nth a i = nth b i) : decide (a = b) = decide (a.drop (i + 1) = b.drop (i + 1)) := by
  rw [h, drop_nth hlt, drop_nth (show i < b.length by omega), hn]
  simp
theorem Strings_good (a b : List ByteArray) (ha : a.length ≤ 1000000) (hb : b.length ≤ 1000000) : Ans Try.prog 46 [.sl (a.map encStr), .sl (b.map encStr)] (.bool (decide (a = b))) := by
  refine good_run [(4, [4, 11, 12, 13, 14, 15, 16, 17, 18, 19, 20, 21, 22, 23, 24, 25], [])] mixed Try.func46 rfl Try.ntmps46 (rs := [.tmp 4]) rfl (by decide +kernel) (by kernel_rfl) rfl ?_
  rw [startE_eq 26 _ _ _ rfl rfl]
  set_option maxRecDepth 100000 in simp (maxSteps := 10000000) only [go_sem, Nat.reduceAdd, Nat.reduceSub, Nat.reduceMul, Nat.reduceLT, Nat.reduceLeDiff, Nat.reduceEqDiff, Nat.reduceMod, Nat.reduceDiv, Int.reduceNeg, Int.reduceLE, Int.reduceLT, Int.reduceToNat, Int.reduceEq, Int.reduceNe, ↓reduceIte]
  refine ifI (fun hl => ?_) fun hl => ?_
  · set_option maxRecDepth 100000 in simp (maxSteps := 10000000) only [go_sem, Nat.reduceAdd, Nat.reduceSub, Nat.reduceMul, Nat.reduceLT, Nat.reduceLeDiff, Nat.reduceEqDiff, Nat.reduceMod, Nat.reduceDiv, Int.reduceNeg, Int.reduceLE, Int.reduceLT, Int.reduceToNat, Int.reduceEq, Int.reduceNe, ↓reduceIte,  hl]
    have : ¬ a = b := fun q => by subst q; simp at hl
    simp [this]
  · set_option maxRecDepth 100000 in simp (maxSteps := 10000000) only [go_sem, Nat.reduceAdd, Nat.reduceSub, Nat.reduceMul, Nat.reduceLT, Nat.reduceLeDiff, Nat.reduceEqDiff, Nat.reduceMod, Nat.reduceDiv, Int.reduceNeg, Int.reduceLE, Int.reduceLT, Int.reduceToNat, Int.reduceEq, Int.reduceNe, ↓reduceIte,  hl]
    have hl' : a.length = b.length := by have := Classical.not_not.1 hl; omega
    refine loop_by ([4, 11, 12, 13, 14, 15, 16, 17, 18, 19, 20, 21, 22, 23, 24, 25], []) (fun i : Nat => [(.s 5, .int .i64 (i : Int))]) (fun i => a.length - i) (fun i => i ≤ a.length ∧ decide (a = b) = decide (a.drop i = b.drop i)) 0 rfl ⟨Nat.zero_le _, rfl⟩ rfl ?_
    rintro c' st' hst i ⟨hi, hf⟩ ih
    set_option maxRecDepth 100000 in simp (maxSteps := 10000000) only [go_sem, Nat.reduceAdd, Nat.reduceSub, Nat.reduceMul, Nat.reduceLT, Nat.reduceLeDiff, Nat.reduceEqDiff, Nat.reduceMod, Nat.reduceDiv, Int.reduceNeg, Int.reduceLE, Int.reduceLT, Int.reduceToNat, Int.reduceEq, Int.reduceNe, ↓reduceIte]
    refine ifI (fun hlt => ?_) fun hlt => ?_
    · have hlb : i < b.length := by omega
      set_option maxRecDepth 100000 in simp (maxSteps := 10000000) only [go_sem, Nat.reduceAdd, Nat.reduceSub, Nat.reduceMul, Nat.reduceLT, Nat.reduceLeDiff, Nat.reduceEqDiff, Nat.reduceMod, Nat.reduceDiv, Int.reduceNeg, Int.reduceLE, Int.reduceLT, Int.reduceToNat, Int.reduceEq, Int.reduceNe, ↓reduceIte,  hlt, hlb]
      refine ⟨by decide +kernel, ?_⟩
      refine ifI (fun hn => ?_) fun hn => ?_
      · set_option maxRecDepth 100000 in simp (maxSteps := 10000000) only [go_sem, Nat.reduceAdd, Nat.reduceSub, Nat.reduceMul, Nat.reduceLT, Nat.reduceLeDiff, Nat.reduceEqDiff, Nat.reduceMod, Nat.reduceDiv, Int.reduceNeg, Int.reduceLE, Int.reduceLT, Int.reduceToNat, Int.reduceEq, Int.reduceNe, ↓reduceIte,  hn]
        rw [hf, drop_nth hlt, drop_nth hlb]
        simp [hn]
      · have hn' : nth a i = nth b i := Classical.not_not.1 hn
        set_option maxRecDepth 100000 in simp (maxSteps := 10000000) only [go_sem, Nat.reduceAdd, Nat.reduceSub, Nat.reduceMul, Nat.reduceLT, Nat.reduceLeDiff, Nat.reduceEqDiff, Nat.reduceMod, Nat.reduceDiv, Int.reduceNeg, Int.reduceLE, Int.reduceLT, Int.reduceToNat, Int.reduceEq, Int.reduceNe, ↓reduceIte,  hn, hn', wrap_succ (show i < 9223372036854775807 by omega)]
        refine ih (i + 1) _ ⟨by omega, same_step hlt hl' hf hn'⟩ (by omega) ?_
        set_option maxRecDepth 100000 in simp (maxSteps := 10000000) only [go_sem, Nat.reduceAdd, Nat.reduceSub, Nat.reduceMul, Nat.reduceLT, Nat.reduceLeDiff, Nat.reduceEqDiff, Nat.reduceMod, Nat.reduceDiv, Int.reduceNeg, Int.reduceLE, Int.reduceLT, Int.reduceToNat, Int.reduceEq, Int.reduceNe, ↓reduceIte]
    · subst hst
      set_option maxRecDepth 100000 in simp (maxSteps := 10000000) only [go_sem, Nat.reduceAdd, Nat.reduceSub, Nat.reduceMul, Nat.reduceLT, Nat.reduceLeDiff, Nat.reduceEqDiff, Nat.reduceMod, Nat.reduceDiv, Int.reduceNeg, Int.reduceLE, Int.reduceLT, Int.reduceToNat, Int.reduceEq, Int.reduceNe, ↓reduceIte,  hlt]
      rw [hf, List.drop_eq_nil_of_le (by omega), List.drop_eq_nil_of_le (by omega)]; rfl

end Go.Proofs.Ytdfdagfgkijpcaa.C06
