/- Chapter 6: copies of disks; the same disks; small writes; how many sectors; bytes. -/
import Derived.Test.YtdfdagfgkijpcaaA3
namespace Go.Proofs.Ytdfdagfgkijpcaa.C06
open Go Go.Proofs Go.Proofs.Ytdfdagfgkijpcaa.Ab
set_option linter.unusedSimpArgs false
set_option linter.unusedVariables false
attribute [local congr] ite_ctx

theorem take_snoc {α : Type} [Inhabited α] {l : List α} {i : Nat} (h : i < l.length) : l.take i ++ [nth l i] = l.take (i + 1) := by
  rw [List.take_add_one, List.getElem?_eq_getElem h, nth_eq h]; rfl
theorem fits_take {α : Type} {l : List α} {i b : Nat} (hl : l.length ≤ 1000000) (hb : b ≤ 1000) : ((l.take i).length + 1) * b ≤ 140737488355328 ∧ (l.take i).length + 1 ≤ maxLen := by
  have h1 : (l.take i).length ≤ 1000000 := by rw [List.length_take]; omega
  have h2 : ((l.take i).length + 1) * b ≤ 1000001 * 1000 := Nat.mul_le_mul (by omega) hb
  unfold maxLen
  exact ⟨by omega, by omega⟩
theorem row_snoc {α : Type} [Inhabited α] {f : α → List AV} {l : List α} {i : Nat} (h : i < l.length) : List.map f (List.take (i + 1) l) = List.map f (List.take i l) ++ [f (nth l i)] := by
  rw [← take_snoc h, List.map_append]; rfl

set_option maxHeartbeats 4000000 in
theorem Own_good (d : Disk) (h : FitD d) : Ans Try.prog 11 [.agg (encDisk d)] (.agg (encDisk d)) := by
  have hn := h.n
  refine good_run [(3, [10, 11, 12, 13, 14, 15, 16, 17, 18, 19, 20, 21, 22, 23, 24, 25, 26, 27, 28, 29, 30, 31, 32, 33, 34, 35], [33, 301302066034])] mixed Try.func11 rfl Try.ntmps11 (rs := [.cell 2 24]) rfl (by decide +kernel) (by kernel_rfl) rfl ?_
  rw [startE_eq 37 _ _ _ rfl rfl]
  set_option maxRecDepth 100000 in simp (maxSteps := 10000000) only [go_sem, Nat.reduceAdd, Nat.reduceSub, Nat.reduceMul, Nat.reduceLT, Nat.reduceLeDiff, Nat.reduceEqDiff, Nat.reduceMod, Nat.reduceDiv, Int.reduceNeg, Int.reduceLE, Int.reduceLT, Int.reduceToNat, Int.reduceEq, Int.reduceNe, ↓reduceIte]
  refine loop_by ([10, 11, 12, 13, 14, 15, 16, 17, 18, 19, 20, 21, 22, 23, 24, 25, 26, 27, 28, 29, 30, 31, 32, 33, 34, 35], [33, 301302066034]) (fun i : Nat => [(.s 4, .int .i64 (i : Int)), (.o 33, deadV i), (.o 34, .obj (i + 1) 66 2 false true ((d.units.take i).map encDU)), (.o 3, .obj 1 24 3 false false [[.int .i64 d.kind, .int .i64 d.size, .ref 34 (i + 1)]])]) (fun i => d.units.length - i) (fun i => i ≤ d.units.length) 0 rfl (Nat.zero_le _) ?_ ?_
  · set_option maxRecDepth 100000 in simp (maxSteps := 10000000) only [go_sem, Nat.reduceAdd, Nat.reduceSub, Nat.reduceMul, Nat.reduceLT, Nat.reduceLeDiff, Nat.reduceEqDiff, Nat.reduceMod, Nat.reduceDiv, Int.reduceNeg, Int.reduceLE, Int.reduceLT, Int.reduceToNat, Int.reduceEq, Int.reduceNe, ↓reduceIte]
  rintro c' st' hst i0 hi ih
  set_option maxRecDepth 100000 in simp (maxSteps := 10000000) only [go_sem, Nat.reduceAdd, Nat.reduceSub, Nat.reduceMul, Nat.reduceLT, Nat.reduceLeDiff, Nat.reduceEqDiff, Nat.reduceMod, Nat.reduceDiv, Int.reduceNeg, Int.reduceLE, Int.reduceLT, Int.reduceToNat, Int.reduceEq, Int.reduceNe, ↓reduceIte]
  refine ifI (fun hlt => ?_) fun hlt => ?_
  · set_option maxRecDepth 100000 in simp (maxSteps := 10000000) only [go_sem, Nat.reduceAdd, Nat.reduceSub, Nat.reduceMul, Nat.reduceLT, Nat.reduceLeDiff, Nat.reduceEqDiff, Nat.reduceMod, Nat.reduceDiv, Int.reduceNeg, Int.reduceLE, Int.reduceLT, Int.reduceToNat, Int.reduceEq, Int.reduceNe, ↓reduceIte,  hlt]
    refine callD_of (CopyS_good _ (show (nth d.units i0).secs.length ≤ 1000000 by have := h.m _ (nth_mem hlt); omega)) ?_
    set_option maxRecDepth 100000 in simp (maxSteps := 10000000) only [go_sem, Nat.reduceAdd, Nat.reduceSub, Nat.reduceMul, Nat.reduceLT, Nat.reduceLeDiff, Nat.reduceEqDiff, Nat.reduceMod, Nat.reduceDiv, Int.reduceNeg, Int.reduceLE, Int.reduceLT, Int.reduceToNat, Int.reduceEq, Int.reduceNe, ↓reduceIte,  (fits_take (i := i0) (show d.units.length ≤ 1000000 by omega) (show 32 ≤ 1000 by decide)).1, (fits_take (i := i0) (show d.units.length ≤ 1000000 by omega) (show 32 ≤ 1000 by decide)).2]
    refine ⟨by decide +kernel, ?_⟩
    have hr := row_snoc (f := encDU) hlt
    simp only [encDU] at hr
    refine ih (i0 + 1) _ (by omega) (by omega) ?_
    set_option maxRecDepth 100000 in simp (maxSteps := 10000000) only [go_sem, Nat.reduceAdd, Nat.reduceSub, Nat.reduceMul, Nat.reduceLT, Nat.reduceLeDiff, Nat.reduceEqDiff, Nat.reduceMod, Nat.reduceDiv, Int.reduceNeg, Int.reduceLE, Int.reduceLT, Int.reduceToNat, Int.reduceEq, Int.reduceNe, ↓reduceIte,  wrap_succ (show i0 < 9223372036854775807 by omega), hr]
  have hn1 : d.units.length ≤ i0 := by omega
  subst hst
  set_option maxRecDepth 100000 in simp (maxSteps := 10000000) only [go_sem, Nat.reduceAdd, Nat.reduceSub, Nat.reduceMul, Nat.reduceLT, Nat.reduceLeDiff, Nat.reduceEqDiff, Nat.reduceMod, Nat.reduceDiv, Int.reduceNeg, Int.reduceLE, Int.reduceLT, Int.reduceToNat, Int.reduceEq, Int.reduceNe, ↓reduceIte,  hlt, List.take_of_length_le hn1]

theorem SectorCount_good (d : Disk) (h : FitD d) : Ans Try.prog 12 [.agg (encDisk d)] (.tup [.int .i64 (if (dE d).2 = 0 then cntI d else 0), .int .i64 (dE d).2]) := by
  refine Classical.byCases (fun h0 : (dE d).2 = 0 => ?_) fun h0 => ?_
  · have hk : shE d.kind d.size d.units.length = 0 := by
      rw [dE] at h0; split at h0
      · assumption
      · rename_i q; exact absurd h0 q
    have hsz : 1 ≤ d.size ∧ d.size ≤ 10 := by have := (shE_kind hk).2.1; simpa [inB] using this
    have hd := diskErr_good d h
    rw [h0] at hd ⊢
    rw [if_pos rfl]
    refine good_run [] mixed Try.func12 rfl Try.ntmps12 (rs := [.tmp 2, .tmp 3]) rfl (by decide +kernel) (by kernel_rfl) rfl ?_
    rw [startE_eq 12 _ _ _ rfl rfl]
    set_option maxRecDepth 100000 in simp (maxSteps := 10000000) only [go_sem, Nat.reduceAdd, Nat.reduceSub, Nat.reduceMul, Nat.reduceLT, Nat.reduceLeDiff, Nat.reduceEqDiff, Nat.reduceMod, Nat.reduceDiv, Int.reduceNeg, Int.reduceLE, Int.reduceLT, Int.reduceToNat, Int.reduceEq, Int.reduceNe, ↓reduceIte]
    refine call_of (hd) ?_
    set_option maxRecDepth 100000 in simp (maxSteps := 10000000) only [go_sem, Nat.reduceAdd, Nat.reduceSub, Nat.reduceMul, Nat.reduceLT, Nat.reduceLeDiff, Nat.reduceEqDiff, Nat.reduceMod, Nat.reduceDiv, Int.reduceNeg, Int.reduceLE, Int.reduceLT, Int.reduceToNat, Int.reduceEq, Int.reduceNe, ↓reduceIte]
    refine call_of (count_good d (by have := h.n; omega) (by omega) (by omega)) ?_
    set_option maxRecDepth 100000 in simp (maxSteps := 10000000) only [go_sem, Nat.reduceAdd, Nat.reduceSub, Nat.reduceMul, Nat.reduceLT, Nat.reduceLeDiff, Nat.reduceEqDiff, Nat.reduceMod, Nat.reduceDiv, Int.reduceNeg, Int.reduceLE, Int.reduceLT, Int.reduceToNat, Int.reduceEq, Int.reduceNe, ↓reduceIte]
  · rw [if_neg h0]
    refine good_run [] mixed Try.func12 rfl Try.ntmps12 (rs := [.tmp 2, .tmp 3]) rfl (by decide +kernel) (by kernel_rfl) rfl ?_
    rw [startE_eq 12 _ _ _ rfl rfl]
    set_option maxRecDepth 100000 in simp (maxSteps := 10000000) only [go_sem, Nat.reduceAdd, Nat.reduceSub, Nat.reduceMul, Nat.reduceLT, Nat.reduceLeDiff, Nat.reduceEqDiff, Nat.reduceMod, Nat.reduceDiv, Int.reduceNeg, Int.reduceLE, Int.reduceLT, Int.reduceToNat, Int.reduceEq, Int.reduceNe, ↓reduceIte]
    refine call_of (diskErr_good d h) ?_
    set_option maxRecDepth 100000 in simp (maxSteps := 10000000) only [go_sem, Nat.reduceAdd, Nat.reduceSub, Nat.reduceMul, Nat.reduceLT, Nat.reduceLeDiff, Nat.reduceEqDiff, Nat.reduceMod, Nat.reduceDiv, Int.reduceNeg, Int.reduceLE, Int.reduceLT, Int.reduceToNat, Int.reduceEq, Int.reduceNe, ↓reduceIte,  h0]

theorem light_len {l : List SW} (h : lightB l = true) : l.length ≤ 1000 := by simp only [lightB, Bool.and_eq_true, decide_eq_true_eq] at h; omega
theorem light_no {l : List SW} {i : Nat} (hlt : i < l.length) (h : 41 < i ∨ 30 < (nth l i).bytes.size) : lightB l = false := by
  rcases h with h | h
  · rw [lightB, decide_eq_false (by omega), Bool.false_and]
  · rw [lightB, all_not (p := fun w : SW => decide (w.bytes.size ≤ 30)) hlt (decide_eq_false (by omega)), Bool.and_false]
theorem light_good (l : List SW) : Ans Try.prog 15 [.sl (l.map encSW)] (.bool (lightB l)) := by
  refine good_run [(2, [2, 4, 5, 6, 7, 8, 9, 10, 11, 12, 13, 14, 15, 16, 17, 18, 19, 20], [])] mixed Try.func15 rfl Try.ntmps15 (rs := [.tmp 2]) rfl (by decide +kernel) (by kernel_rfl) rfl ?_
  rw [startE_eq 21 _ _ _ rfl rfl]
  set_option maxRecDepth 100000 in simp (maxSteps := 10000000) only [go_sem, Nat.reduceAdd, Nat.reduceSub, Nat.reduceMul, Nat.reduceLT, Nat.reduceLeDiff, Nat.reduceEqDiff, Nat.reduceMod, Nat.reduceDiv, Int.reduceNeg, Int.reduceLE, Int.reduceLT, Int.reduceToNat, Int.reduceEq, Int.reduceNe, ↓reduceIte]
  refine loop_by ([2, 4, 5, 6, 7, 8, 9, 10, 11, 12, 13, 14, 15, 16, 17, 18, 19, 20], []) (fun i : Nat => [(.s 3, .int .i64 (i : Int))]) (fun i => l.length - i) (fun i => i ≤ l.length ∧ i ≤ 42 ∧ ∀ j, j < i → decide ((nth l j).bytes.size ≤ 30) = true) 0 rfl ⟨Nat.zero_le _, by omega, fun j hj => absurd hj (Nat.not_lt_zero _)⟩ rfl ?_
  rintro c' st' hst i ⟨hi, h42, hp⟩ ih
  set_option maxRecDepth 100000 in simp (maxSteps := 10000000) only [go_sem, Nat.reduceAdd, Nat.reduceSub, Nat.reduceMul, Nat.reduceLT, Nat.reduceLeDiff, Nat.reduceEqDiff, Nat.reduceMod, Nat.reduceDiv, Int.reduceNeg, Int.reduceLE, Int.reduceLT, Int.reduceToNat, Int.reduceEq, Int.reduceNe, ↓reduceIte]
  refine ifI (fun hlt => ?_) fun hlt => ?_
  · set_option maxRecDepth 100000 in simp (maxSteps := 10000000) only [go_sem, Nat.reduceAdd, Nat.reduceSub, Nat.reduceMul, Nat.reduceLT, Nat.reduceLeDiff, Nat.reduceEqDiff, Nat.reduceMod, Nat.reduceDiv, Int.reduceNeg, Int.reduceLE, Int.reduceLT, Int.reduceToNat, Int.reduceEq, Int.reduceNe, ↓reduceIte,  hlt]
    refine Classical.byCases (fun h1 : (41 : Int) < (i : Int) => ?_) fun h1 => ?_
    · set_option maxRecDepth 100000 in simp (maxSteps := 10000000) only [go_sem, Nat.reduceAdd, Nat.reduceSub, Nat.reduceMul, Nat.reduceLT, Nat.reduceLeDiff, Nat.reduceEqDiff, Nat.reduceMod, Nat.reduceDiv, Int.reduceNeg, Int.reduceLE, Int.reduceLT, Int.reduceToNat, Int.reduceEq, Int.reduceNe, ↓reduceIte,  h1, decide_true]
      rw [light_no hlt (.inl (by omega))]
    set_option maxRecDepth 100000 in simp (maxSteps := 10000000) only [go_sem, Nat.reduceAdd, Nat.reduceSub, Nat.reduceMul, Nat.reduceLT, Nat.reduceLeDiff, Nat.reduceEqDiff, Nat.reduceMod, Nat.reduceDiv, Int.reduceNeg, Int.reduceLE, Int.reduceLT, Int.reduceToNat, Int.reduceEq, Int.reduceNe, ↓reduceIte,  h1, decide_false, hlt]
    refine ifI (fun h2 => ?_) fun h2 => ?_
    · set_option maxRecDepth 100000 in simp (maxSteps := 10000000) only [go_sem, Nat.reduceAdd, Nat.reduceSub, Nat.reduceMul, Nat.reduceLT, Nat.reduceLeDiff, Nat.reduceEqDiff, Nat.reduceMod, Nat.reduceDiv, Int.reduceNeg, Int.reduceLE, Int.reduceLT, Int.reduceToNat, Int.reduceEq, Int.reduceNe, ↓reduceIte,  h2]
      rw [light_no hlt (.inr (by omega))]
    · set_option maxRecDepth 100000 in simp (maxSteps := 10000000) only [go_sem, Nat.reduceAdd, Nat.reduceSub, Nat.reduceMul, Nat.reduceLT, Nat.reduceLeDiff, Nat.reduceEqDiff, Nat.reduceMod, Nat.reduceDiv, Int.reduceNeg, Int.reduceLE, Int.reduceLT, Int.reduceToNat, Int.reduceEq, Int.reduceNe, ↓reduceIte,  h2]
      refine ih (i + 1) _ ⟨by omega, by omega, step_all (p := fun w : SW => decide (w.bytes.size ≤ 30)) hp (decide_eq_true (by omega))⟩ (by omega) ?_
      set_option maxRecDepth 100000 in simp (maxSteps := 10000000) only [go_sem, Nat.reduceAdd, Nat.reduceSub, Nat.reduceMul, Nat.reduceLT, Nat.reduceLeDiff, Nat.reduceEqDiff, Nat.reduceMod, Nat.reduceDiv, Int.reduceNeg, Int.reduceLE, Int.reduceLT, Int.reduceToNat, Int.reduceEq, Int.reduceNe, ↓reduceIte,  wrap_succ (show i < 9223372036854775807 by omega)]
  · subst hst
    set_option maxRecDepth 100000 in simp (maxSteps := 10000000) only [go_sem, Nat.reduceAdd, Nat.reduceSub, Nat.reduceMul, Nat.reduceLT, Nat.reduceLeDiff, Nat.reduceEqDiff, Nat.reduceMod, Nat.reduceDiv, Int.reduceNeg, Int.reduceLE, Int.reduceLT, Int.reduceToNat, Int.reduceEq, Int.reduceNe, ↓reduceIte,  hlt]
    rw [lightB, decide_eq_true (by omega), all_lt (p := fun w : SW => decide (w.bytes.size ≤ 30)) fun j hj => hp j (by omega), Bool.true_and]

def rep (c : UInt8) (n : Nat) : ByteArray := ⟨(List.replicate n c).toArray⟩
theorem RepeatB_good (c : UInt8) (n : Nat) (hn : n ≤ 1000000) : Ans Try.prog 31 [.int .u8 (c.toNat : Int), .int .i64 (n : Int)] (.str (rep c n)) := by
  refine good_run [(3, [7, 8, 9, 10, 11, 12, 13, 14, 15], [14, 1501005015])] mixed Try.func31 rfl Try.ntmps31 (rs := [.tmp 4]) rfl (by decide +kernel) (by kernel_rfl) rfl ?_
  rw [startE_eq 18 _ _ _ rfl rfl]
  set_option maxRecDepth 100000 in simp (maxSteps := 10000000) only [go_sem, Nat.reduceAdd, Nat.reduceSub, Nat.reduceMul, Nat.reduceLT, Nat.reduceLeDiff, Nat.reduceEqDiff, Nat.reduceMod, Nat.reduceDiv, Int.reduceNeg, Int.reduceLE, Int.reduceLT, Int.reduceToNat, Int.reduceEq, Int.reduceNe, ↓reduceIte]
  refine loop_by ([7, 8, 9, 10, 11, 12, 13, 14, 15], [14, 1501005015]) (fun i : Nat => [(.s 6, .int .i64 (i : Int)), (.o 14, deadV i), (.o 15, .obj (i + 1) 5 1 false true ((List.replicate i c).map encByte)), (.s 5, .ref 15 (i + 1))]) (fun i => n - i) (fun i => i ≤ n) 0 rfl (Nat.zero_le _) ?_ ?_
  · set_option maxRecDepth 100000 in simp (maxSteps := 10000000) only [go_sem, Nat.reduceAdd, Nat.reduceSub, Nat.reduceMul, Nat.reduceLT, Nat.reduceLeDiff, Nat.reduceEqDiff, Nat.reduceMod, Nat.reduceDiv, Int.reduceNeg, Int.reduceLE, Int.reduceLT, Int.reduceToNat, Int.reduceEq, Int.reduceNe, ↓reduceIte]
  rintro c' st' hst i hi ih
  set_option maxRecDepth 100000 in simp (maxSteps := 10000000) only [go_sem, Nat.reduceAdd, Nat.reduceSub, Nat.reduceMul, Nat.reduceLT, Nat.reduceLeDiff, Nat.reduceEqDiff, Nat.reduceMod, Nat.reduceDiv, Int.reduceNeg, Int.reduceLE, Int.reduceLT, Int.reduceToNat, Int.reduceEq, Int.reduceNe, ↓reduceIte]
  refine ifI (fun hlt => ?_) fun hlt => ?_
  · set_option maxRecDepth 100000 in simp (maxSteps := 10000000) only [go_sem, Nat.reduceAdd, Nat.reduceSub, Nat.reduceMul, Nat.reduceLT, Nat.reduceLeDiff, Nat.reduceEqDiff, Nat.reduceMod, Nat.reduceDiv, Int.reduceNeg, Int.reduceLE, Int.reduceLT, Int.reduceToNat, Int.reduceEq, Int.reduceNe, ↓reduceIte,  hlt, List.length_replicate, show (i + 1) * 1 ≤ 140737488355328 by omega, show i + 1 ≤ maxLen by unfold maxLen; omega]
    have hr : encByte c :: List.map encByte (List.replicate i c) = List.map encByte (List.replicate i c) ++ [[.int .u8 (c.toNat : Int)]] := by
      rw [show encByte c :: List.map encByte (List.replicate i c) = List.map encByte (List.replicate (i + 1) c) from rfl, List.replicate_succ', List.map_append]; rfl
    refine ih (i + 1) _ (by omega) (by omega) ?_
    set_option maxRecDepth 100000 in simp (maxSteps := 10000000) only [go_sem, Nat.reduceAdd, Nat.reduceSub, Nat.reduceMul, Nat.reduceLT, Nat.reduceLeDiff, Nat.reduceEqDiff, Nat.reduceMod, Nat.reduceDiv, Int.reduceNeg, Int.reduceLE, Int.reduceLT, Int.reduceToNat, Int.reduceEq, Int.reduceNe, ↓reduceIte,  wrap_succ (show i < 9223372036854775807 by omega), hr]
  have hni : i = n := by omega
  subst hst hni
  set_option maxRecDepth 100000 in simp (maxSteps := 10000000) only [go_sem, Nat.reduceAdd, Nat.reduceSub, Nat.reduceMul, Nat.reduceLT, Nat.reduceLeDiff, Nat.reduceEqDiff, Nat.reduceMod, Nat.reduceDiv, Int.reduceNeg, Int.reduceLE, Int.reduceLT, Int.reduceToNat, Int.reduceEq, Int.reduceNe, ↓reduceIte,  hlt]
  rfl

theorem place_plain (d : Disk) (s : Int) (hk : ¬ d.kind = 2) : Ans Try.prog 54 [.agg (encDisk d), .int .i64 s] (.tup [.int .i64 0, .int .i64 s, .int .i64 (-1)]) := by
  refine good_run [] mixed Try.func54 rfl Try.ntmps54 (rs := [.tmp 4, .tmp 5, .tmp 6]) rfl (by decide +kernel) (by kernel_rfl) rfl ?_
  rw [startE_eq 35 _ _ _ rfl rfl]
  set_option maxRecDepth 100000 in simp (maxSteps := 10000000) only [go_sem, Nat.reduceAdd, Nat.reduceSub, Nat.reduceMul, Nat.reduceLT, Nat.reduceLeDiff, Nat.reduceEqDiff, Nat.reduceMod, Nat.reduceDiv, Int.reduceNeg, Int.reduceLE, Int.reduceLT, Int.reduceToNat, Int.reduceEq, Int.reduceNe, ↓reduceIte,  hk, not_false_eq_true, decide_true]
theorem place_par (d : Disk) (s : Nat) (hk : d.kind = 2) (hn : 2 ≤ d.units.length) (hn2 : d.units.length ≤ 1000) (hs : s ≤ 1000000) :
    Ans Try.prog 54 [.agg (encDisk d), .int .i64 (s : Int)] (.tup [.int .i64 (d.pU s : Nat), .int .i64 (d.pA s : Nat), .int .i64 (d.pP s : Nat)]) := by
  have w1 : IntKind.wrap .i64 ((d.units.length - 1 : Nat) : Int) = ((d.units.length - 1 : Nat) : Int) := wrap_nat (by omega)
  have hd : (d.units.length : Int) - 1 = ((d.units.length - 1 : Nat) : Int) := by omega
  have hz : (((d.units.length - 1 : Nat) : Int) = 0) = False := eq_false (by omega)
  have q1 : Int.tdiv (s : Int) ((d.units.length - 1 : Nat) : Int) = ((s / (d.units.length - 1) : Nat) : Int) := rfl
  have q2 : Int.tmod (s : Int) ((d.units.length - 1 : Nat) : Int) = ((s % (d.units.length - 1) : Nat) : Int) := rfl
  have q3 : s / (d.units.length - 1) ≤ s := Nat.div_le_self _ _
  have w2 : IntKind.wrap .i64 ((s / (d.units.length - 1) : Nat) : Int) = ((s / (d.units.length - 1) : Nat) : Int) := wrap_nat (Nat.le_trans q3 (Nat.le_trans hs (by decide)))
  have hz2 : ((d.units.length : Int) = 0) = False := eq_false (by omega)
  have q4 : Int.tmod ((s / (d.units.length - 1) : Nat) : Int) (d.units.length : Int) = ((s / (d.units.length - 1) % d.units.length : Nat) : Int) := rfl
  have eA : d.pA s = s / (d.units.length - 1) := Disk.pA2 hk s
  have eP : d.pP s = s / (d.units.length - 1) % d.units.length := by unfold Disk.pP; rw [eA]; rfl
  have eU : d.pU s = plU (s / (d.units.length - 1) % d.units.length) (s % (d.units.length - 1)) := by unfold Disk.pU; rw [if_pos hk, eP]; rfl
  have q5 : s % (d.units.length - 1) ≤ s := Nat.mod_le _ _
  rw [eA, eP, eU]
  refine good_run [] mixed Try.func54 rfl Try.ntmps54 (rs := [.tmp 4, .tmp 5, .tmp 6]) rfl (by decide +kernel) (by kernel_rfl) rfl ?_
  rw [startE_eq 35 _ _ _ rfl rfl]
  set_option maxRecDepth 100000 in simp (maxSteps := 10000000) only [go_sem, Nat.reduceAdd, Nat.reduceSub, Nat.reduceMul, Nat.reduceLT, Nat.reduceLeDiff, Nat.reduceEqDiff, Nat.reduceMod, Nat.reduceDiv, Int.reduceNeg, Int.reduceLE, Int.reduceLT, Int.reduceToNat, Int.reduceEq, Int.reduceNe, ↓reduceIte,  hk, not_true_eq_false, decide_false, w1, hd, hz, q1, q2, w2, hz2, q4]
  refine ⟨by decide +kernel, ?_⟩
  unfold plU
  refine ifI (fun hp => ?_) fun hp => ?_
  · set_option maxRecDepth 100000 in simp (maxSteps := 10000000) only [go_sem, Nat.reduceAdd, Nat.reduceSub, Nat.reduceMul, Nat.reduceLT, Nat.reduceLeDiff, Nat.reduceEqDiff, Nat.reduceMod, Nat.reduceDiv, Int.reduceNeg, Int.reduceLE, Int.reduceLT, Int.reduceToNat, Int.reduceEq, Int.reduceNe, ↓reduceIte,  wrap_succ (show s % (d.units.length - 1) < 9223372036854775807 from Nat.lt_of_le_of_lt q5 (Nat.lt_of_le_of_lt hs (by decide)))]
    rw [if_pos (by omega)]
  · set_option maxRecDepth 100000 in simp (maxSteps := 10000000) only [go_sem, Nat.reduceAdd, Nat.reduceSub, Nat.reduceMul, Nat.reduceLT, Nat.reduceLeDiff, Nat.reduceEqDiff, Nat.reduceMod, Nat.reduceDiv, Int.reduceNeg, Int.reduceLE, Int.reduceLT, Int.reduceToNat, Int.reduceEq, Int.reduceNe, ↓reduceIte]
    rw [if_neg (by omega)]

end Go.Proofs.Ytdfdagfgkijpcaa.C06
