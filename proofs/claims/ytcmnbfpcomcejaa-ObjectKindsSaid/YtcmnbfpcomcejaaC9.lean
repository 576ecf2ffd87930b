/- Chapter 8: the check of directories. -/
import Derived.Test.YtcmnbfpcomcejaaC8
namespace Go.Proofs.Ytcmnbfpcomcejaa.C08
open Go Go.Proofs Go.Proofs.Ytcmnbfpcomcejaa.Ab
set_option linter.unusedSimpArgs false
attribute [local congr] ite_ctx

theorem cmpN_ge (a b : OName) : decide (0 ≤ cmpN a b) = !nLt a b := by
  rw [← cmpN_lt, ← decide_not]
  exact decide_eq_decide.2 (by omega)
theorem findIx_take {α : Type} (p : α → Bool) : ∀ (l : List α) (j k : Nat), 0 ≤ findIx p l j → (findIx p l j < ((j + k : Nat) : Int) ↔ (l.take k).any p = true)
  | [], j, k, h => by simp [findIx] at h
  | a :: l, j, 0, h => by
    rw [List.take_zero]
    have := findIx_ge p (a :: l) j
    simp; omega
  | a :: l, j, k + 1, h => by
    rw [List.take_succ_cons, List.any_cons, findIx]
    by_cases ha : p a = true
    · rw [if_pos ha, ha]; simp; omega
    · rw [findIx, if_neg ha] at h
      rw [if_neg ha, Bool.eq_false_iff.2 ha, Bool.false_or, ← findIx_take p l (j + 1) k h]
      rw [show j + 1 + k = j + (k + 1) by omega]
theorem seg_self (l : List Obj) {i : Nat} (h : i < l.length) : 0 ≤ segIx l (nth l i).seg := by
  have := findIx_any (fun o : Obj => decide (o.seg = (nth l i).seg)) l 0
  rw [show (l.any fun o : Obj => decide (o.seg = (nth l i).seg)) = true from List.any_eq_true.2 ⟨nth l i, nth_mem h, by simp⟩, decide_eq_true_eq] at this
  exact this
theorem seg_lt (l : List Obj) {i : Nat} (h : i < l.length) : (segIx l (nth l i).seg < (i : Int)) ↔ ((l.take i).any fun o => decide (o.seg = (nth l i).seg)) = true := by
  have := findIx_take (fun o : Obj => decide (o.seg = (nth l i).seg)) l 0 i (seg_self l h)
  rw [Nat.zero_add] at this
  exact this

set_option maxHeartbeats 4000000 in
theorem CheckDirectory_good (d : Dir) (h : d.objects.length ≤ 1000000) : Ans Try.prog 22 [.agg (encDir d)] (.tup [.int .i64 (dirE d).1, .int .i64 (dirE d).2]) := by
  refine Classical.byCases (fun h40 : 40 < d.objects.length => ?_) fun h40 => ?_
  · rw [dirE, if_pos h40]
    refine good_run [(6, [2, 3, 4, 5, 6, 23, 24, 25, 26, 27, 28, 29, 30, 31, 32, 33, 34, 35, 36, 37, 38, 39, 40, 41, 42, 43, 44, 45, 46, 47, 48, 49, 50, 51, 52, 53, 54, 55, 56, 57, 58, 59, 60, 61, 62, 63, 64, 65, 66, 67, 68, 69, 70, 71, 72, 73, 74, 75, 76], [5])] mixed Try.func22 rfl Try.ntmps22 (rs := [.tmp 2, .tmp 3]) rfl (by decide +kernel) (by kernel_rfl) rfl ?_
    rw [startE_eq 80 _ _ _ rfl rfl]
    set_option maxRecDepth 100000 in simp (maxSteps := 10000000) only [go_sem, Nat.reduceAdd, Nat.reduceSub, Nat.reduceMul, Nat.reduceLT, Nat.reduceLeDiff, Nat.reduceEqDiff, Nat.reduceMod, Nat.reduceDiv, Int.reduceNeg, Int.reduceLE, Int.reduceLT, Int.reduceToNat, Int.reduceEq, Int.reduceNe, ↓reduceIte,  show (40 : Int) < (d.objects.length : Int) by omega]
  refine Classical.byCases (fun hn : d.next < 1 ∨ 10000 < d.next => ?_) fun hn => ?_
  · rw [dirE, if_neg h40, if_pos hn]
    refine good_run [(6, [2, 3, 4, 5, 6, 23, 24, 25, 26, 27, 28, 29, 30, 31, 32, 33, 34, 35, 36, 37, 38, 39, 40, 41, 42, 43, 44, 45, 46, 47, 48, 49, 50, 51, 52, 53, 54, 55, 56, 57, 58, 59, 60, 61, 62, 63, 64, 65, 66, 67, 68, 69, 70, 71, 72, 73, 74, 75, 76], [5])] mixed Try.func22 rfl Try.ntmps22 (rs := [.tmp 2, .tmp 3]) rfl (by decide +kernel) (by kernel_rfl) rfl ?_
    rw [startE_eq 80 _ _ _ rfl rfl]
    set_option maxRecDepth 100000 in simp (maxSteps := 10000000) only [go_sem, Nat.reduceAdd, Nat.reduceSub, Nat.reduceMul, Nat.reduceLT, Nat.reduceLeDiff, Nat.reduceEqDiff, Nat.reduceMod, Nat.reduceDiv, Int.reduceNeg, Int.reduceLE, Int.reduceLT, Int.reduceToNat, Int.reduceEq, Int.reduceNe, ↓reduceIte,  show ¬ (40 : Int) < (d.objects.length : Int) by omega]
    refine ifI (fun h1 => ?_) fun h1 => ?_
    · have h2 : (10000 : Int) < d.next := by simp only [decide_eq_false_iff_not] at h1; omega
      set_option maxRecDepth 100000 in simp (maxSteps := 10000000) only [go_sem, Nat.reduceAdd, Nat.reduceSub, Nat.reduceMul, Nat.reduceLT, Nat.reduceLeDiff, Nat.reduceEqDiff, Nat.reduceMod, Nat.reduceDiv, Int.reduceNeg, Int.reduceLE, Int.reduceLT, Int.reduceToNat, Int.reduceEq, Int.reduceNe, ↓reduceIte,  h1, h2, decide_true]
    · simp only [Bool.not_eq_false, decide_eq_true_eq] at h1
      set_option maxRecDepth 100000 in simp (maxSteps := 10000000) only [go_sem, Nat.reduceAdd, Nat.reduceSub, Nat.reduceMul, Nat.reduceLT, Nat.reduceLeDiff, Nat.reduceEqDiff, Nat.reduceMod, Nat.reduceDiv, Int.reduceNeg, Int.reduceLE, Int.reduceLT, Int.reduceToNat, Int.reduceEq, Int.reduceNe, ↓reduceIte,  h1, decide_true]
  have hE : dirE d = if (scanI (objE d) d.objects.length 0).2 = 0 then ((d.objects.length : Int), 0) else scanI (objE d) d.objects.length 0 := by rw [dirE, if_neg h40, if_neg hn]
  have n1 : ¬ d.next < 1 := fun q => hn (.inl q)
  have n2 : ¬ (10000 : Int) < d.next := fun q => hn (.inr q)
  refine good_run [(6, [2, 3, 4, 5, 6, 23, 24, 25, 26, 27, 28, 29, 30, 31, 32, 33, 34, 35, 36, 37, 38, 39, 40, 41, 42, 43, 44, 45, 46, 47, 48, 49, 50, 51, 52, 53, 54, 55, 56, 57, 58, 59, 60, 61, 62, 63, 64, 65, 66, 67, 68, 69, 70, 71, 72, 73, 74, 75, 76], [5])] mixed Try.func22 rfl Try.ntmps22 (rs := [.tmp 2, .tmp 3]) rfl (by decide +kernel) (by kernel_rfl) rfl ?_
  rw [startE_eq 80 _ _ _ rfl rfl]
  set_option maxRecDepth 100000 in simp (maxSteps := 10000000) only [go_sem, Nat.reduceAdd, Nat.reduceSub, Nat.reduceMul, Nat.reduceLT, Nat.reduceLeDiff, Nat.reduceEqDiff, Nat.reduceMod, Nat.reduceDiv, Int.reduceNeg, Int.reduceLE, Int.reduceLT, Int.reduceToNat, Int.reduceEq, Int.reduceNe, ↓reduceIte,  show ¬ (40 : Int) < (d.objects.length : Int) by omega, n1, n2, decide_false]
  refine loop_by ([2, 3, 4, 5, 6, 23, 24, 25, 26, 27, 28, 29, 30, 31, 32, 33, 34, 35, 36, 37, 38, 39, 40, 41, 42, 43, 44, 45, 46, 47, 48, 49, 50, 51, 52, 53, 54, 55, 56, 57, 58, 59, 60, 61, 62, 63, 64, 65, 66, 67, 68, 69, 70, 71, 72, 73, 74, 75, 76], [5]) (fun i : Nat => [(.s 22, .int .i64 (i : Int)), (.o 5, deadV i)]) (fun i => d.objects.length - i) (fun i => i ≤ d.objects.length ∧ scanI (objE d) d.objects.length 0 = scanI (objE d) (d.objects.length - i) i) 0 rfl ⟨Nat.zero_le _, rfl⟩ rfl ?_
  rintro c' st' hst i ⟨hi, hf⟩ ih
  set_option maxRecDepth 100000 in simp (maxSteps := 10000000) only [go_sem, Nat.reduceAdd, Nat.reduceSub, Nat.reduceMul, Nat.reduceLT, Nat.reduceLeDiff, Nat.reduceEqDiff, Nat.reduceMod, Nat.reduceDiv, Int.reduceNeg, Int.reduceLE, Int.reduceLT, Int.reduceToNat, Int.reduceEq, Int.reduceNe, ↓reduceIte]
  refine ifI (fun hlt => ?_) fun hlt => ?_
  case refine_2 =>
    have hke : scanI (objE d) d.objects.length 0 = (0, 0) := by rw [hf, show d.objects.length - i = 0 by omega]; rfl
    rw [hE, hke, if_pos rfl]
    subst hst
    set_option maxRecDepth 100000 in simp (maxSteps := 10000000) only [go_sem, Nat.reduceAdd, Nat.reduceSub, Nat.reduceMul, Nat.reduceLT, Nat.reduceLeDiff, Nat.reduceEqDiff, Nat.reduceMod, Nat.reduceDiv, Int.reduceNeg, Int.reduceLE, Int.reduceLT, Int.reduceToNat, Int.reduceEq, Int.reduceNe, ↓reduceIte]
  have hw : i < 9223372036854775807 := by omega
  -- what the round says: the error of this object
  have done : ∀ {e : Int}, objE d i = e → e ≠ 0 → dirE d = ((i : Int), e) := fun {e} h1 h2 => by
    have := hf.trans (scanI_hit hlt h1 h2)
    rw [hE, this, if_neg h2]
  have next : objE d i = 0 → scanI (objE d) d.objects.length 0 = scanI (objE d) (d.objects.length - (i + 1)) (i + 1) := fun h1 => hf.trans (scanI_skip hlt h1)
  set_option maxRecDepth 100000 in simp (maxSteps := 10000000) only [go_sem, Nat.reduceAdd, Nat.reduceSub, Nat.reduceMul, Nat.reduceLT, Nat.reduceLeDiff, Nat.reduceEqDiff, Nat.reduceMod, Nat.reduceDiv, Int.reduceNeg, Int.reduceLE, Int.reduceLT, Int.reduceToNat, Int.reduceEq, Int.reduceNe, ↓reduceIte,  hlt]
  refine call_of (CheckObject_good (nth d.objects i)) ?_
  set_option maxRecDepth 100000 in simp (maxSteps := 10000000) only [go_sem, Nat.reduceAdd, Nat.reduceSub, Nat.reduceMul, Nat.reduceLT, Nat.reduceLeDiff, Nat.reduceEqDiff, Nat.reduceMod, Nat.reduceDiv, Int.reduceNeg, Int.reduceLE, Int.reduceLT, Int.reduceToNat, Int.reduceEq, Int.reduceNe, ↓reduceIte]
  refine ifI (fun h1 => ?_) fun h1 => ?_
  case refine_2 =>
    have ho : objE d i = errObj (nth d.objects i) := by rw [objE, if_pos h1]
    set_option maxRecDepth 100000 in simp (maxSteps := 10000000) only [go_sem, Nat.reduceAdd, Nat.reduceSub, Nat.reduceMul, Nat.reduceLT, Nat.reduceLeDiff, Nat.reduceEqDiff, Nat.reduceMod, Nat.reduceDiv, Int.reduceNeg, Int.reduceLE, Int.reduceLT, Int.reduceToNat, Int.reduceEq, Int.reduceNe, ↓reduceIte,  h1, not_false_eq_true, decide_true]
    rw [done ho h1]
    exact ⟨rfl, rfl⟩
  refine Classical.byCases (fun s1 : (nth d.objects i).seg < 1 => ?_) fun s1 => ?_
  · have ho : objE d i = 3 := by rw [objE, if_neg (not_not_intro h1), if_pos (.inl s1)]
    set_option maxRecDepth 100000 in simp (maxSteps := 10000000) only [go_sem, Nat.reduceAdd, Nat.reduceSub, Nat.reduceMul, Nat.reduceLT, Nat.reduceLeDiff, Nat.reduceEqDiff, Nat.reduceMod, Nat.reduceDiv, Int.reduceNeg, Int.reduceLE, Int.reduceLT, Int.reduceToNat, Int.reduceEq, Int.reduceNe, ↓reduceIte,  h1, s1, decide_true]
    rw [done ho (by decide)]
    exact ⟨rfl, rfl⟩
  refine Classical.byCases (fun s2 : d.next ≤ (nth d.objects i).seg => ?_) fun s2 => ?_
  · have ho : objE d i = 3 := by rw [objE, if_neg (not_not_intro h1), if_pos (.inr s2)]
    set_option maxRecDepth 100000 in simp (maxSteps := 10000000) only [go_sem, Nat.reduceAdd, Nat.reduceSub, Nat.reduceMul, Nat.reduceLT, Nat.reduceLeDiff, Nat.reduceEqDiff, Nat.reduceMod, Nat.reduceDiv, Int.reduceNeg, Int.reduceLE, Int.reduceLT, Int.reduceToNat, Int.reduceEq, Int.reduceNe, ↓reduceIte,  h1, s1, s2, decide_true, decide_false]
    rw [done ho (by decide)]
    exact ⟨rfl, rfl⟩
  set_option maxRecDepth 100000 in simp (maxSteps := 10000000) only [go_sem, Nat.reduceAdd, Nat.reduceSub, Nat.reduceMul, Nat.reduceLT, Nat.reduceLeDiff, Nat.reduceEqDiff, Nat.reduceMod, Nat.reduceDiv, Int.reduceNeg, Int.reduceLE, Int.reduceLT, Int.reduceToNat, Int.reduceEq, Int.reduceNe, ↓reduceIte,  h1, s1, s2, decide_true, decide_false]
  have hb : ¬ ((nth d.objects i).seg < 1 ∨ d.next ≤ (nth d.objects i).seg) := fun q => q.elim s1 s2
  refine Classical.byCases (fun s3 : 0 < i ∧ nLt (nth d.objects (i - 1)).name (nth d.objects i).name = false => ?_) fun s3 => ?_
  · have ho : objE d i = 14 := by rw [objE, if_neg (not_not_intro h1), if_neg hb, if_pos s3]
    set_option maxRecDepth 100000 in simp (maxSteps := 10000000) only [go_sem, Nat.reduceAdd, Nat.reduceSub, Nat.reduceMul, Nat.reduceLT, Nat.reduceLeDiff, Nat.reduceEqDiff, Nat.reduceMod, Nat.reduceDiv, Int.reduceNeg, Int.reduceLE, Int.reduceLT, Int.reduceToNat, Int.reduceEq, Int.reduceNe, ↓reduceIte,  show (0 : Int) < (i : Int) by omega, decide_true, wrap_pred (show 0 < i by omega) (show i ≤ 9223372036854775807 by omega), show i - 1 < d.objects.length by omega]
    refine callD_of (order_good (nth d.objects (i - 1)).name (nth d.objects i).name) ?_
    set_option maxRecDepth 100000 in simp (maxSteps := 10000000) only [go_sem, Nat.reduceAdd, Nat.reduceSub, Nat.reduceMul, Nat.reduceLT, Nat.reduceLeDiff, Nat.reduceEqDiff, Nat.reduceMod, Nat.reduceDiv, Int.reduceNeg, Int.reduceLE, Int.reduceLT, Int.reduceToNat, Int.reduceEq, Int.reduceNe, ↓reduceIte,  show (0 : Int) < (i : Int) by omega, decide_true, cmpN_ge, s3.2, Bool.not_false]
    refine ⟨by decide +kernel, ?_⟩
    rw [done ho (by decide)]
    exact ⟨rfl, rfl⟩
  have c1 := ContainsO_good (seg2_good (nth d.objects i)) (d.objects.take i) (by rw [List.length_take]; omega)
  have c2 := exists_good d (nth d.objects i).name.lib h
  refine Classical.byCases (fun s6 : (0 : Int) < (i : Int) => ?_) fun s6 => ?_
  · have s7 : nLt (nth d.objects (i - 1)).name (nth d.objects i).name = true := by
      rw [← Bool.not_eq_false]; exact fun q => s3 ⟨by omega, q⟩
    set_option maxRecDepth 100000 in simp (maxSteps := 10000000) only [go_sem, Nat.reduceAdd, Nat.reduceSub, Nat.reduceMul, Nat.reduceLT, Nat.reduceLeDiff, Nat.reduceEqDiff, Nat.reduceMod, Nat.reduceDiv, Int.reduceNeg, Int.reduceLE, Int.reduceLT, Int.reduceToNat, Int.reduceEq, Int.reduceNe, ↓reduceIte,  s6, decide_true, wrap_pred (show 0 < i by omega) (show i ≤ 9223372036854775807 by omega), show i - 1 < d.objects.length by omega]
    refine callD_of (order_good (nth d.objects (i - 1)).name (nth d.objects i).name) ?_
    set_option maxRecDepth 100000 in simp (maxSteps := 10000000) only [go_sem, Nat.reduceAdd, Nat.reduceSub, Nat.reduceMul, Nat.reduceLT, Nat.reduceLeDiff, Nat.reduceEqDiff, Nat.reduceMod, Nat.reduceDiv, Int.reduceNeg, Int.reduceLE, Int.reduceLT, Int.reduceToNat, Int.reduceEq, Int.reduceNe, ↓reduceIte,  s6, decide_true, cmpN_ge, s7, Bool.not_true, show (i : Int) ≤ (d.objects.length : Int) by omega, show (0 : Int) ≤ (i : Int) by omega, Int.toNat_natCast, Int.toNat_zero]
    refine ⟨by decide +kernel, ?_⟩
    refine call_of (c1) ?_
    set_option maxRecDepth 100000 in simp (maxSteps := 10000000) only [go_sem, Nat.reduceAdd, Nat.reduceSub, Nat.reduceMul, Nat.reduceLT, Nat.reduceLeDiff, Nat.reduceEqDiff, Nat.reduceMod, Nat.reduceDiv, Int.reduceNeg, Int.reduceLE, Int.reduceLT, Int.reduceToNat, Int.reduceEq, Int.reduceNe, ↓reduceIte]
    refine ifI (fun s4 => ?_) fun s4 => ?_
    · have ho : objE d i = 13 := by rw [objE, if_neg (not_not_intro h1), if_neg hb, if_neg s3, if_pos s4]
      set_option maxRecDepth 100000 in simp (maxSteps := 10000000) only [go_sem, Nat.reduceAdd, Nat.reduceSub, Nat.reduceMul, Nat.reduceLT, Nat.reduceLeDiff, Nat.reduceEqDiff, Nat.reduceMod, Nat.reduceDiv, Int.reduceNeg, Int.reduceLE, Int.reduceLT, Int.reduceToNat, Int.reduceEq, Int.reduceNe, ↓reduceIte]
      rw [done ho (by decide)]
      exact ⟨rfl, rfl⟩
    set_option maxRecDepth 100000 in simp (maxSteps := 10000000) only [go_sem, Nat.reduceAdd, Nat.reduceSub, Nat.reduceMul, Nat.reduceLT, Nat.reduceLeDiff, Nat.reduceEqDiff, Nat.reduceMod, Nat.reduceDiv, Int.reduceNeg, Int.reduceLE, Int.reduceLT, Int.reduceToNat, Int.reduceEq, Int.reduceNe, ↓reduceIte]
    refine call_of (c2) ?_
    set_option maxRecDepth 100000 in simp (maxSteps := 10000000) only [go_sem, Nat.reduceAdd, Nat.reduceSub, Nat.reduceMul, Nat.reduceLT, Nat.reduceLeDiff, Nat.reduceEqDiff, Nat.reduceMod, Nat.reduceDiv, Int.reduceNeg, Int.reduceLE, Int.reduceLT, Int.reduceToNat, Int.reduceEq, Int.reduceNe, ↓reduceIte]
    refine ifI (fun s5 => ?_) fun s5 => ?_
    · have ho : objE d i = 11 := by rw [objE, if_neg (not_not_intro h1), if_neg hb, if_neg s3, if_neg s4, if_pos (by simpa using s5)]
      set_option maxRecDepth 100000 in simp (maxSteps := 10000000) only [go_sem, Nat.reduceAdd, Nat.reduceSub, Nat.reduceMul, Nat.reduceLT, Nat.reduceLeDiff, Nat.reduceEqDiff, Nat.reduceMod, Nat.reduceDiv, Int.reduceNeg, Int.reduceLE, Int.reduceLT, Int.reduceToNat, Int.reduceEq, Int.reduceNe, ↓reduceIte]
      rw [done ho (by decide)]
      exact ⟨rfl, rfl⟩
    have ho : objE d i = 0 := by rw [objE, if_neg (not_not_intro h1), if_neg hb, if_neg s3, if_neg s4, if_neg (by simpa using s5)]
    set_option maxRecDepth 100000 in simp (maxSteps := 10000000) only [go_sem, Nat.reduceAdd, Nat.reduceSub, Nat.reduceMul, Nat.reduceLT, Nat.reduceLeDiff, Nat.reduceEqDiff, Nat.reduceMod, Nat.reduceDiv, Int.reduceNeg, Int.reduceLE, Int.reduceLT, Int.reduceToNat, Int.reduceEq, Int.reduceNe, ↓reduceIte]
    refine ih (i + 1) _ ⟨by omega, next ho⟩ (by omega) ?_
    set_option maxRecDepth 100000 in simp (maxSteps := 10000000) only [go_sem, Nat.reduceAdd, Nat.reduceSub, Nat.reduceMul, Nat.reduceLT, Nat.reduceLeDiff, Nat.reduceEqDiff, Nat.reduceMod, Nat.reduceDiv, Int.reduceNeg, Int.reduceLE, Int.reduceLT, Int.reduceToNat, Int.reduceEq, Int.reduceNe, ↓reduceIte,  wrap_succ hw]
  · set_option maxRecDepth 100000 in simp (maxSteps := 10000000) only [go_sem, Nat.reduceAdd, Nat.reduceSub, Nat.reduceMul, Nat.reduceLT, Nat.reduceLeDiff, Nat.reduceEqDiff, Nat.reduceMod, Nat.reduceDiv, Int.reduceNeg, Int.reduceLE, Int.reduceLT, Int.reduceToNat, Int.reduceEq, Int.reduceNe, ↓reduceIte,  s6, decide_false, show (i : Int) ≤ (d.objects.length : Int) by omega, show (0 : Int) ≤ (i : Int) by omega, Int.toNat_natCast, Int.toNat_zero]
    refine ⟨by decide +kernel, ?_⟩
    refine call_of (c1) ?_
    set_option maxRecDepth 100000 in simp (maxSteps := 10000000) only [go_sem, Nat.reduceAdd, Nat.reduceSub, Nat.reduceMul, Nat.reduceLT, Nat.reduceLeDiff, Nat.reduceEqDiff, Nat.reduceMod, Nat.reduceDiv, Int.reduceNeg, Int.reduceLE, Int.reduceLT, Int.reduceToNat, Int.reduceEq, Int.reduceNe, ↓reduceIte]
    refine ifI (fun s4 => ?_) fun s4 => ?_
    · have ho : objE d i = 13 := by rw [objE, if_neg (not_not_intro h1), if_neg hb, if_neg s3, if_pos s4]
      set_option maxRecDepth 100000 in simp (maxSteps := 10000000) only [go_sem, Nat.reduceAdd, Nat.reduceSub, Nat.reduceMul, Nat.reduceLT, Nat.reduceLeDiff, Nat.reduceEqDiff, Nat.reduceMod, Nat.reduceDiv, Int.reduceNeg, Int.reduceLE, Int.reduceLT, Int.reduceToNat, Int.reduceEq, Int.reduceNe, ↓reduceIte]
      rw [done ho (by decide)]
      exact ⟨rfl, rfl⟩
    set_option maxRecDepth 100000 in simp (maxSteps := 10000000) only [go_sem, Nat.reduceAdd, Nat.reduceSub, Nat.reduceMul, Nat.reduceLT, Nat.reduceLeDiff, Nat.reduceEqDiff, Nat.reduceMod, Nat.reduceDiv, Int.reduceNeg, Int.reduceLE, Int.reduceLT, Int.reduceToNat, Int.reduceEq, Int.reduceNe, ↓reduceIte]
    refine call_of (c2) ?_
    set_option maxRecDepth 100000 in simp (maxSteps := 10000000) only [go_sem, Nat.reduceAdd, Nat.reduceSub, Nat.reduceMul, Nat.reduceLT, Nat.reduceLeDiff, Nat.reduceEqDiff, Nat.reduceMod, Nat.reduceDiv, Int.reduceNeg, Int.reduceLE, Int.reduceLT, Int.reduceToNat, Int.reduceEq, Int.reduceNe, ↓reduceIte]
    refine ifI (fun s5 => ?_) fun s5 => ?_
    · have ho : objE d i = 11 := by rw [objE, if_neg (not_not_intro h1), if_neg hb, if_neg s3, if_neg s4, if_pos (by simpa using s5)]
      set_option maxRecDepth 100000 in simp (maxSteps := 10000000) only [go_sem, Nat.reduceAdd, Nat.reduceSub, Nat.reduceMul, Nat.reduceLT, Nat.reduceLeDiff, Nat.reduceEqDiff, Nat.reduceMod, Nat.reduceDiv, Int.reduceNeg, Int.reduceLE, Int.reduceLT, Int.reduceToNat, Int.reduceEq, Int.reduceNe, ↓reduceIte]
      rw [done ho (by decide)]
      exact ⟨rfl, rfl⟩
    have ho : objE d i = 0 := by rw [objE, if_neg (not_not_intro h1), if_neg hb, if_neg s3, if_neg s4, if_neg (by simpa using s5)]
    set_option maxRecDepth 100000 in simp (maxSteps := 10000000) only [go_sem, Nat.reduceAdd, Nat.reduceSub, Nat.reduceMul, Nat.reduceLT, Nat.reduceLeDiff, Nat.reduceEqDiff, Nat.reduceMod, Nat.reduceDiv, Int.reduceNeg, Int.reduceLE, Int.reduceLT, Int.reduceToNat, Int.reduceEq, Int.reduceNe, ↓reduceIte]
    refine ih (i + 1) _ ⟨by omega, next ho⟩ (by omega) ?_
    set_option maxRecDepth 100000 in simp (maxSteps := 10000000) only [go_sem, Nat.reduceAdd, Nat.reduceSub, Nat.reduceMul, Nat.reduceLT, Nat.reduceLeDiff, Nat.reduceEqDiff, Nat.reduceMod, Nat.reduceDiv, Int.reduceNeg, Int.reduceLE, Int.reduceLT, Int.reduceToNat, Int.reduceEq, Int.reduceNe, ↓reduceIte,  wrap_succ hw]
end Go.Proofs.Ytcmnbfpcomcejaa.C08
