/- Chapter 8: what the reference makes of directories. -/
import Derived.Test.YtcmnbfpcomcejaaC12
import Derived.Test.YtcmnbfpcomcejaaP8
namespace Go.Proofs.Ytcmnbfpcomcejaa.C08
open Go Go.Proofs Go.Proofs.Ytcmnbfpcomcejaa.Ab
set_option linter.unusedSimpArgs false
attribute [local congr] ite_ctx

theorem take_snoc {α : Type} [Inhabited α] {l : List α} {i : Nat} (h : i < l.length) : l.take (i + 1) = l.take i ++ [nth l i] := by
  rw [nth_eq h, List.take_succ_eq_append_getElem h]
def doneB (o : Obj) (l : List Obj) : Bool := l.any fun a => nLt o.name a.name
def withAcc (o : Obj) (l : List Obj) : List Obj := if doneB o l = true then insO o l else l
theorem withAcc_len (o : Obj) (l : List Obj) : (withAcc o l).length ≤ l.length + 1 := by
  rw [withAcc]; split
  · rw [insO_len]; exact Nat.le_refl _
  · exact Nat.le_succ _
theorem withAcc_t {o : Obj} {l : List Obj} (h : doneB o l = true) : withAcc o l = insO o l := if_pos h
theorem withAcc_f {o : Obj} {l : List Obj} (h : doneB o l = false) : withAcc o l = l := if_neg (by rw [h]; decide)
theorem with_done {o x : Obj} {l : List Obj} (h : doneB o l = true) : withAcc o (l ++ [x]) = withAcc o l ++ [x] ∧ doneB o (l ++ [x]) = true := by
  have h2 : doneB o (l ++ [x]) = true := by rw [doneB, List.any_append, show (l.any fun a => nLt o.name a.name) = true from h, Bool.true_or]
  rw [withAcc_t h, withAcc_t h2]
  exact ⟨insO_any h, h2⟩
theorem with_now {o x : Obj} {l : List Obj} (h : doneB o l = false) (hx : nLt o.name x.name = true) : withAcc o (l ++ [x]) = withAcc o l ++ [o] ++ [x] ∧ doneB o (l ++ [x]) = true := by
  have h2 : doneB o (l ++ [x]) = true := by rw [doneB, List.any_append, List.any_cons, hx]; simp
  rw [withAcc_f h, withAcc_t h2]
  exact ⟨insO_at h hx, h2⟩
theorem with_not {o x : Obj} {l : List Obj} (h : doneB o l = false) (hx : nLt o.name x.name = false) : withAcc o (l ++ [x]) = withAcc o l ++ [x] ∧ doneB o (l ++ [x]) = false := by
  have h2 : doneB o (l ++ [x]) = false := by rw [doneB, List.any_append, List.any_cons, hx, show (l.any fun a => nLt o.name a.name) = false from h]; rfl
  rw [withAcc_f h, withAcc_f h2]
  exact ⟨rfl, h2⟩

theorem encO_snoc (l : List Obj) (o : Obj) : List.map encObj l ++ [[.str o.name.lib, .str o.name.name, .int .i64 o.name.type, .str o.owner, .int .i64 o.seg, .str o.text, .str o.content]] = List.map encObj (l ++ [o]) := by
  rw [List.map_append]; rfl

set_option maxHeartbeats 4000000 in
theorem With_good (d : Dir) (o : Obj) (h : d.objects.length ≤ 1000000) : Ans Try.prog 100 [.agg (encDir d), .agg (encObj o)] (.agg (encDir ⟨insO o d.objects, d.next⟩)) := by
  refine good_run [(4, [11, 12, 13, 14, 15, 16, 17, 18, 19, 20, 21, 22, 23, 24, 25, 26, 27, 28, 29, 30, 31, 32, 33, 34, 35, 36, 37, 38, 39, 40, 41, 42, 43, 44, 45, 46], [34, 35, 44, 101507025045])] mixed Try.func100 rfl Try.ntmps100 (rs := [.cell 4 37]) rfl (by decide +kernel) (by kernel_rfl) rfl ?_
  rw [startE_eq 56 _ _ _ rfl rfl]
  set_option maxRecDepth 100000 in simp (maxSteps := 10000000) only [go_sem, Nat.reduceAdd, Nat.reduceSub, Nat.reduceMul, Nat.reduceLT, Nat.reduceLeDiff, Nat.reduceEqDiff, Nat.reduceMod, Nat.reduceDiv, Int.reduceNeg, Int.reduceLE, Int.reduceLT, Int.reduceToNat, Int.reduceEq, Int.reduceNe, ↓reduceIte]
  refine loop_by ([11, 12, 13, 14, 15, 16, 17, 18, 19, 20, 21, 22, 23, 24, 25, 26, 27, 28, 29, 30, 31, 32, 33, 34, 35, 36, 37, 38, 39, 40, 41, 42, 43, 44, 45, 46], [34, 35, 44, 101507025045]) (fun x : Nat × Nat => [(.s 7, .int .i64 (x.1 : Int)), (.s 6, .bool (doneB o (d.objects.take x.1))), (.o 34, deadV x.2), (.o 35, deadV x.2), (.o 44, deadV x.1), (.o 45, .obj (x.1 + 1) 25 7 false true ((withAcc o (d.objects.take x.1)).map encObj)), (.o 5, .obj 1 37 2 false false [[.ref 45 (x.1 + 1), .int .i64 d.next]])])
    (fun x => d.objects.length - x.1) (fun x => x.1 ≤ d.objects.length) (0, 0) rfl (Nat.zero_le _) ?_ ?_
  · set_option maxRecDepth 100000 in simp (maxSteps := 10000000) only [go_sem, Nat.reduceAdd, Nat.reduceSub, Nat.reduceMul, Nat.reduceLT, Nat.reduceLeDiff, Nat.reduceEqDiff, Nat.reduceMod, Nat.reduceDiv, Int.reduceNeg, Int.reduceLE, Int.reduceLT, Int.reduceToNat, Int.reduceEq, Int.reduceNe, ↓reduceIte,  show withAcc o [] = [] from rfl, show doneB o [] = false from rfl]
  rintro c' st' hst ⟨i, n⟩ hi ih
  simp only at hi
  set_option maxRecDepth 100000 in simp (maxSteps := 10000000) only [go_sem, Nat.reduceAdd, Nat.reduceSub, Nat.reduceMul, Nat.reduceLT, Nat.reduceLeDiff, Nat.reduceEqDiff, Nat.reduceMod, Nat.reduceDiv, Int.reduceNeg, Int.reduceLE, Int.reduceLT, Int.reduceToNat, Int.reduceEq, Int.reduceNe, ↓reduceIte]
  refine ifI (fun hlt => ?_) fun hlt => ?_
  · have ht := take_snoc hlt
    have hlen := withAcc_len o (d.objects.take i)
    have htl : (d.objects.take i).length = i := by rw [List.length_take]; omega
    have hw : i < 9223372036854775807 := by omega
    refine Classical.byCases (fun hd : doneB o (d.objects.take i) = true => ?_) fun hd => ?_
    · have hs := with_done (x := nth d.objects i) hd
      rw [← ht] at hs
      have hr := encO_snoc (withAcc o (d.objects.take i)) (nth d.objects i)
      rw [← hs.1] at hr
      set_option maxRecDepth 100000 in simp (maxSteps := 10000000) only [go_sem, Nat.reduceAdd, Nat.reduceSub, Nat.reduceMul, Nat.reduceLT, Nat.reduceLeDiff, Nat.reduceEqDiff, Nat.reduceMod, Nat.reduceDiv, Int.reduceNeg, Int.reduceLE, Int.reduceLT, Int.reduceToNat, Int.reduceEq, Int.reduceNe, ↓reduceIte,  hlt, hd, Bool.not_true, hr, wrap_succ hw, show ((withAcc o (d.objects.take i)).length + 1) * 96 ≤ 140737488355328 by omega, show (withAcc o (d.objects.take i)).length + 1 ≤ maxLen by unfold maxLen; omega]
      refine ⟨by decide +kernel, ?_⟩
      refine ⟨by decide +kernel, ?_⟩
      refine ih (i + 1, n) _ (by simp only; omega) (by simp only; omega) ?_
      set_option maxRecDepth 100000 in simp (maxSteps := 10000000) only [go_sem, Nat.reduceAdd, Nat.reduceSub, Nat.reduceMul, Nat.reduceLT, Nat.reduceLeDiff, Nat.reduceEqDiff, Nat.reduceMod, Nat.reduceDiv, Int.reduceNeg, Int.reduceLE, Int.reduceLT, Int.reduceToNat, Int.reduceEq, Int.reduceNe, ↓reduceIte,  hs.2]
    have hd2 : doneB o (d.objects.take i) = false := Bool.eq_false_iff.2 hd
    refine Classical.byCases (fun hx : nLt o.name (nth d.objects i).name = true => ?_) fun hx => ?_
    · have hs := with_now (x := nth d.objects i) hd2 hx
      rw [← ht] at hs
      have hr := encO_snoc (withAcc o (d.objects.take i)) o
      have hr2 := encO_snoc (withAcc o (d.objects.take i) ++ [o]) (nth d.objects i)
      rw [← hs.1] at hr2
      have hl1 : (withAcc o (d.objects.take i) ++ [o]).length = (withAcc o (d.objects.take i)).length + 1 := by rw [List.length_append]; rfl
      set_option maxRecDepth 100000 in simp (maxSteps := 10000000) only [go_sem, Nat.reduceAdd, Nat.reduceSub, Nat.reduceMul, Nat.reduceLT, Nat.reduceLeDiff, Nat.reduceEqDiff, Nat.reduceMod, Nat.reduceDiv, Int.reduceNeg, Int.reduceLE, Int.reduceLT, Int.reduceToNat, Int.reduceEq, Int.reduceNe, ↓reduceIte,  hlt, hd2, Bool.not_false, show ((withAcc o (d.objects.take i)).length + 1) * 96 ≤ 140737488355328 by omega, show (withAcc o (d.objects.take i)).length + 1 ≤ maxLen by unfold maxLen; omega]
      refine callD_of (Less_good o.name (nth d.objects i).name) ?_
      set_option maxRecDepth 100000 in simp (maxSteps := 10000000) only [go_sem, Nat.reduceAdd, Nat.reduceSub, Nat.reduceMul, Nat.reduceLT, Nat.reduceLeDiff, Nat.reduceEqDiff, Nat.reduceMod, Nat.reduceDiv, Int.reduceNeg, Int.reduceLE, Int.reduceLT, Int.reduceToNat, Int.reduceEq, Int.reduceNe, ↓reduceIte,  hlt, hx, hr, hr2, hl1, wrap_succ hw, show ((withAcc o (d.objects.take i)).length + 1) * 96 ≤ 140737488355328 by omega, show (withAcc o (d.objects.take i)).length + 1 ≤ maxLen by unfold maxLen; omega, show ((withAcc o (d.objects.take i)).length + 1 + 1) * 96 ≤ 140737488355328 by omega, show (withAcc o (d.objects.take i)).length + 1 + 1 ≤ maxLen by unfold maxLen; omega]
      refine ⟨by decide +kernel, ?_⟩
      refine ⟨by decide +kernel, ?_⟩
      refine ih (i + 1, n + 1) _ (by simp only; omega) (by simp only; omega) ?_
      set_option maxRecDepth 100000 in simp (maxSteps := 10000000) only [go_sem, Nat.reduceAdd, Nat.reduceSub, Nat.reduceMul, Nat.reduceLT, Nat.reduceLeDiff, Nat.reduceEqDiff, Nat.reduceMod, Nat.reduceDiv, Int.reduceNeg, Int.reduceLE, Int.reduceLT, Int.reduceToNat, Int.reduceEq, Int.reduceNe, ↓reduceIte,  hs.2]
    have hx2 : nLt o.name (nth d.objects i).name = false := Bool.eq_false_iff.2 hx
    have hs := with_not (x := nth d.objects i) hd2 hx2
    rw [← ht] at hs
    have hr := encO_snoc (withAcc o (d.objects.take i)) (nth d.objects i)
    rw [← hs.1] at hr
    set_option maxRecDepth 100000 in simp (maxSteps := 10000000) only [go_sem, Nat.reduceAdd, Nat.reduceSub, Nat.reduceMul, Nat.reduceLT, Nat.reduceLeDiff, Nat.reduceEqDiff, Nat.reduceMod, Nat.reduceDiv, Int.reduceNeg, Int.reduceLE, Int.reduceLT, Int.reduceToNat, Int.reduceEq, Int.reduceNe, ↓reduceIte,  hlt, hd2, Bool.not_false]
    refine callD_of (Less_good o.name (nth d.objects i).name) ?_
    set_option maxRecDepth 100000 in simp (maxSteps := 10000000) only [go_sem, Nat.reduceAdd, Nat.reduceSub, Nat.reduceMul, Nat.reduceLT, Nat.reduceLeDiff, Nat.reduceEqDiff, Nat.reduceMod, Nat.reduceDiv, Int.reduceNeg, Int.reduceLE, Int.reduceLT, Int.reduceToNat, Int.reduceEq, Int.reduceNe, ↓reduceIte,  hlt, hx2, hr, wrap_succ hw, show ((withAcc o (d.objects.take i)).length + 1) * 96 ≤ 140737488355328 by omega, show (withAcc o (d.objects.take i)).length + 1 ≤ maxLen by unfold maxLen; omega]
    refine ⟨by decide +kernel, ?_⟩
    refine ⟨by decide +kernel, ?_⟩
    refine ih (i + 1, n) _ (by simp only; omega) (by simp only; omega) ?_
    set_option maxRecDepth 100000 in simp (maxSteps := 10000000) only [go_sem, Nat.reduceAdd, Nat.reduceSub, Nat.reduceMul, Nat.reduceLT, Nat.reduceLeDiff, Nat.reduceEqDiff, Nat.reduceMod, Nat.reduceDiv, Int.reduceNeg, Int.reduceLE, Int.reduceLT, Int.reduceToNat, Int.reduceEq, Int.reduceNe, ↓reduceIte,  hs.2]
  have hie : i = d.objects.length := by omega
  subst hst
  refine Classical.byCases (fun hd : doneB o d.objects = true => ?_) fun hd => ?_
  · have hw := withAcc_t hd
    set_option maxRecDepth 100000 in simp (maxSteps := 10000000) only [go_sem, Nat.reduceAdd, Nat.reduceSub, Nat.reduceMul, Nat.reduceLT, Nat.reduceLeDiff, Nat.reduceEqDiff, Nat.reduceMod, Nat.reduceDiv, Int.reduceNeg, Int.reduceLE, Int.reduceLT, Int.reduceToNat, Int.reduceEq, Int.reduceNe, ↓reduceIte,  hlt, hie, List.take_length, hd, Bool.not_true, hw]
  have hd2 : doneB o d.objects = false := Bool.eq_false_iff.2 hd
  have hr := encO_snoc d.objects o
  rw [← insO_none hd2] at hr
  set_option maxRecDepth 100000 in simp (maxSteps := 10000000) only [go_sem, Nat.reduceAdd, Nat.reduceSub, Nat.reduceMul, Nat.reduceLT, Nat.reduceLeDiff, Nat.reduceEqDiff, Nat.reduceMod, Nat.reduceDiv, Int.reduceNeg, Int.reduceLE, Int.reduceLT, Int.reduceToNat, Int.reduceEq, Int.reduceNe, ↓reduceIte,  hlt, hie, List.take_length, hd2, Bool.not_false, withAcc_f hd2, hr, List.length_map, show (d.objects.length + 1) * 96 ≤ 140737488355328 by omega, show d.objects.length + 1 ≤ maxLen by unfold maxLen; omega]
end Go.Proofs.Ytcmnbfpcomcejaa.C08
