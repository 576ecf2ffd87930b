/- Chapter 10: a copy of the whole that may be written; the law of ownership. -/
import Derived.Test.YtdmcmfdmnlckdaaF19
import Derived.Test.YtdmcmfdmnlckdaaP6
namespace Go.Proofs.Ytdmcmfdmnlckdaa.C10
open Go Go.Proofs Go.Proofs.Ytdmcmfdmnlckdaa.Ab
set_option linter.unusedSimpArgs false
attribute [local congr] ite_ctx

set_option maxHeartbeats 8000000 in
theorem OwnM (s : Sec) (hs : Fit s) : AnsM Try.prog 18 78 [] [.agg (encSec s)] (.agg [.ref 31 (s.profiles.length + 1), .ref 53 (s.lists.length + 1), .ref 75 (s.objects.length + 1)])
    [(31, .obj (s.profiles.length + 1) 57 3 false true (s.profiles.map encProf)), (53, .obj (s.lists.length + 1) 108 4 false true (s.lists.map encAList)), (75, .obj (s.objects.length + 1) 62 8 false true (s.objects.map encSecured))] := by
  refine goodM_run [(15, [9, 55, 56, 57, 58, 59, 60, 61, 62, 63, 64, 65, 66, 67, 68, 69, 70, 71, 72, 73, 74, 75, 76], [9, 69, 74, 301308062075]), (9, [7, 33, 34, 35, 36, 37, 38, 39, 40, 41, 42, 43, 44, 45, 46, 47, 48, 49, 50, 51, 52, 53, 54], [7, 47, 52, 201304108053]), (3, [5, 11, 12, 13, 14, 15, 16, 17, 18, 19, 20, 21, 22, 23, 24, 25, 26, 27, 28, 29, 30, 31, 32], [5, 30, 101303057031])] mixed Try.func18 rfl Try.ntmps18 (rs := [.cell 2 26]) rfl (by decide +kernel) (by kernel_rfl) ?_
  rw [startM_eq 78 _ _ _ _ rfl rfl]
  set_option maxRecDepth 100000 in simp (maxSteps := 10000000) only [go_sem, Nat.reduceAdd, Nat.reduceSub, Nat.reduceMul, Nat.reduceLT, Nat.reduceLeDiff, Nat.reduceEqDiff, Nat.reduceMod, Nat.reduceDiv, Int.reduceNeg, Int.reduceLE, Int.reduceLT, Int.reduceToNat, Int.reduceEq, Int.reduceNe, ↓reduceIte]
  refine loop_by ([5, 11, 12, 13, 14, 15, 16, 17, 18, 19, 20, 21, 22, 23, 24, 25, 26, 27, 28, 29, 30, 31, 32], [5, 30, 101303057031]) (fun i : Nat => [(.s 4, .int .i64 (i : Int)), (.o 5, deadV i), (.o 30, deadV i), (.o 31, .obj (i + 1) 57 3 false true ((s.profiles.take i).map encProf)), (.o 3, .obj 1 26 3 false false [[.ref 31 (i + 1), .nils, .nils]])]) (fun i => s.profiles.length - i) (fun i => i ≤ s.profiles.length) 0 rfl (Nat.zero_le _) ?_ ?_
  · set_option maxRecDepth 100000 in simp (maxSteps := 10000000) only [go_sem, Nat.reduceAdd, Nat.reduceSub, Nat.reduceMul, Nat.reduceLT, Nat.reduceLeDiff, Nat.reduceEqDiff, Nat.reduceMod, Nat.reduceDiv, Int.reduceNeg, Int.reduceLE, Int.reduceLT, Int.reduceToNat, Int.reduceEq, Int.reduceNe, ↓reduceIte]
  rintro c' st' hst i0 hi ih
  set_option maxRecDepth 100000 in simp (maxSteps := 10000000) only [go_sem, Nat.reduceAdd, Nat.reduceSub, Nat.reduceMul, Nat.reduceLT, Nat.reduceLeDiff, Nat.reduceEqDiff, Nat.reduceMod, Nat.reduceDiv, Int.reduceNeg, Int.reduceLE, Int.reduceLT, Int.reduceToNat, Int.reduceEq, Int.reduceNe, ↓reduceIte]
  refine ifI (fun hlt => ?_) fun hlt => ?_
  · set_option maxRecDepth 100000 in simp (maxSteps := 10000000) only [go_sem, Nat.reduceAdd, Nat.reduceSub, Nat.reduceMul, Nat.reduceLT, Nat.reduceLeDiff, Nat.reduceEqDiff, Nat.reduceMod, Nat.reduceDiv, Int.reduceNeg, Int.reduceLE, Int.reduceLT, Int.reduceToNat, Int.reduceEq, Int.reduceNe, ↓reduceIte,  hlt]
    refine call_of (CopyStrings_good _ (hs.groups _ (nth_mem hlt))) ?_
    set_option maxRecDepth 100000 in simp (maxSteps := 10000000) only [go_sem, Nat.reduceAdd, Nat.reduceSub, Nat.reduceMul, Nat.reduceLT, Nat.reduceLeDiff, Nat.reduceEqDiff, Nat.reduceMod, Nat.reduceDiv, Int.reduceNeg, Int.reduceLE, Int.reduceLT, Int.reduceToNat, Int.reduceEq, Int.reduceNe, ↓reduceIte,  (fits_take (i := i0) hs.profiles (show 48 ≤ 1000 by decide)).1, (fits_take (i := i0) hs.profiles (show 48 ≤ 1000 by decide)).2]
    have hr := row_snoc (f := encProf) hlt
    simp only [encProf] at hr
    refine ih (i0 + 1) _ (by omega) (by omega) ?_
    set_option maxRecDepth 100000 in simp (maxSteps := 10000000) only [go_sem, Nat.reduceAdd, Nat.reduceSub, Nat.reduceMul, Nat.reduceLT, Nat.reduceLeDiff, Nat.reduceEqDiff, Nat.reduceMod, Nat.reduceDiv, Int.reduceNeg, Int.reduceLE, Int.reduceLT, Int.reduceToNat, Int.reduceEq, Int.reduceNe, ↓reduceIte,  wrap_succ (show i0 < 9223372036854775807 by have := hs.profiles; omega), hr]
  have hn1 : s.profiles.length ≤ i0 := by omega
  have hxi0 : i0 = s.profiles.length := by omega
  subst hxi0
  subst hst
  clear ih hi hlt
  set_option maxRecDepth 100000 in simp (maxSteps := 10000000) only [go_sem, Nat.reduceAdd, Nat.reduceSub, Nat.reduceMul, Nat.reduceLT, Nat.reduceLeDiff, Nat.reduceEqDiff, Nat.reduceMod, Nat.reduceDiv, Int.reduceNeg, Int.reduceLE, Int.reduceLT, Int.reduceToNat, Int.reduceEq, Int.reduceNe, ↓reduceIte,  List.take_of_length_le hn1]
  refine loop_by ([7, 33, 34, 35, 36, 37, 38, 39, 40, 41, 42, 43, 44, 45, 46, 47, 48, 49, 50, 51, 52, 53, 54], [7, 47, 52, 201304108053]) (fun i : Nat => [(.s 6, .int .i64 (i : Int)), (.o 7, deadV i), (.o 47, deadV i), (.o 52, deadV i), (.o 53, .obj (i + 1) 108 4 false true ((s.lists.take i).map encAList)), (.o 3, .obj 1 26 3 false false [[.ref 31 (s.profiles.length + 1), .ref 53 (i + 1), .nils]])]) (fun i => s.lists.length - i) (fun i => i ≤ s.lists.length) 0 rfl (Nat.zero_le _) ?_ ?_
  · set_option maxRecDepth 100000 in simp (maxSteps := 10000000) only [go_sem, Nat.reduceAdd, Nat.reduceSub, Nat.reduceMul, Nat.reduceLT, Nat.reduceLeDiff, Nat.reduceEqDiff, Nat.reduceMod, Nat.reduceDiv, Int.reduceNeg, Int.reduceLE, Int.reduceLT, Int.reduceToNat, Int.reduceEq, Int.reduceNe, ↓reduceIte]
  rintro c' st' hst i1 hi ih
  set_option maxRecDepth 100000 in simp (maxSteps := 10000000) only [go_sem, Nat.reduceAdd, Nat.reduceSub, Nat.reduceMul, Nat.reduceLT, Nat.reduceLeDiff, Nat.reduceEqDiff, Nat.reduceMod, Nat.reduceDiv, Int.reduceNeg, Int.reduceLE, Int.reduceLT, Int.reduceToNat, Int.reduceEq, Int.reduceNe, ↓reduceIte]
  refine ifI (fun hlt => ?_) fun hlt => ?_
  · have hg := hs.lgrants _ (nth_mem hlt)
    set_option maxRecDepth 100000 in simp (maxSteps := 10000000) only [go_sem, Nat.reduceAdd, Nat.reduceSub, Nat.reduceMul, Nat.reduceLT, Nat.reduceLeDiff, Nat.reduceEqDiff, Nat.reduceMod, Nat.reduceDiv, Int.reduceNeg, Int.reduceLE, Int.reduceLT, Int.reduceToNat, Int.reduceEq, Int.reduceNe, ↓reduceIte,  hlt, show (nth s.lists i1).grants.length * 24 ≤ 140737488355328 by omega, show (nth s.lists i1).grants.length ≤ maxLen by unfold maxLen; omega, (fits_take (i := i1) hs.lists (show 64 ≤ 1000 by decide)).1, (fits_take (i := i1) hs.lists (show 64 ≤ 1000 by decide)).2]
    have hr := row_snoc (f := encAList) hlt
    simp only [encAList] at hr
    refine ih (i1 + 1) _ (by omega) (by omega) ?_
    set_option maxRecDepth 100000 in simp (maxSteps := 10000000) only [go_sem, Nat.reduceAdd, Nat.reduceSub, Nat.reduceMul, Nat.reduceLT, Nat.reduceLeDiff, Nat.reduceEqDiff, Nat.reduceMod, Nat.reduceDiv, Int.reduceNeg, Int.reduceLE, Int.reduceLT, Int.reduceToNat, Int.reduceEq, Int.reduceNe, ↓reduceIte,  wrap_succ (show i1 < 9223372036854775807 by have := hs.lists; omega), hr]
  have hn2 : s.lists.length ≤ i1 := by omega
  have hxi1 : i1 = s.lists.length := by omega
  subst hxi1
  subst hst
  clear ih hi hlt
  set_option maxRecDepth 100000 in simp (maxSteps := 10000000) only [go_sem, Nat.reduceAdd, Nat.reduceSub, Nat.reduceMul, Nat.reduceLT, Nat.reduceLeDiff, Nat.reduceEqDiff, Nat.reduceMod, Nat.reduceDiv, Int.reduceNeg, Int.reduceLE, Int.reduceLT, Int.reduceToNat, Int.reduceEq, Int.reduceNe, ↓reduceIte,  List.take_of_length_le hn2]
  refine loop_by ([9, 55, 56, 57, 58, 59, 60, 61, 62, 63, 64, 65, 66, 67, 68, 69, 70, 71, 72, 73, 74, 75, 76], [9, 69, 74, 301308062075]) (fun i : Nat => [(.s 8, .int .i64 (i : Int)), (.o 9, deadV i), (.o 69, deadV i), (.o 74, deadV i), (.o 75, .obj (i + 1) 62 8 false true ((s.objects.take i).map encSecured)), (.o 3, .obj 1 26 3 false false [[.ref 31 (s.profiles.length + 1), .ref 53 (s.lists.length + 1), .ref 75 (i + 1)]])]) (fun i => s.objects.length - i) (fun i => i ≤ s.objects.length) 0 rfl (Nat.zero_le _) ?_ ?_
  · set_option maxRecDepth 100000 in simp (maxSteps := 10000000) only [go_sem, Nat.reduceAdd, Nat.reduceSub, Nat.reduceMul, Nat.reduceLT, Nat.reduceLeDiff, Nat.reduceEqDiff, Nat.reduceMod, Nat.reduceDiv, Int.reduceNeg, Int.reduceLE, Int.reduceLT, Int.reduceToNat, Int.reduceEq, Int.reduceNe, ↓reduceIte]
  rintro c' st' hst i2 hi ih
  set_option maxRecDepth 100000 in simp (maxSteps := 10000000) only [go_sem, Nat.reduceAdd, Nat.reduceSub, Nat.reduceMul, Nat.reduceLT, Nat.reduceLeDiff, Nat.reduceEqDiff, Nat.reduceMod, Nat.reduceDiv, Int.reduceNeg, Int.reduceLE, Int.reduceLT, Int.reduceToNat, Int.reduceEq, Int.reduceNe, ↓reduceIte]
  refine ifI (fun hlt => ?_) fun hlt => ?_
  · have hg := hs.ogrants _ (nth_mem hlt)
    set_option maxRecDepth 100000 in simp (maxSteps := 10000000) only [go_sem, Nat.reduceAdd, Nat.reduceSub, Nat.reduceMul, Nat.reduceLT, Nat.reduceLeDiff, Nat.reduceEqDiff, Nat.reduceMod, Nat.reduceDiv, Int.reduceNeg, Int.reduceLE, Int.reduceLT, Int.reduceToNat, Int.reduceEq, Int.reduceNe, ↓reduceIte,  hlt, show (nth s.objects i2).grants.length * 24 ≤ 140737488355328 by omega, show (nth s.objects i2).grants.length ≤ maxLen by unfold maxLen; omega, (fits_take (i := i2) hs.objects (show 112 ≤ 1000 by decide)).1, (fits_take (i := i2) hs.objects (show 112 ≤ 1000 by decide)).2]
    have hr := row_snoc (f := encSecured) hlt
    simp only [encSecured] at hr
    refine ih (i2 + 1) _ (by omega) (by omega) ?_
    set_option maxRecDepth 100000 in simp (maxSteps := 10000000) only [go_sem, Nat.reduceAdd, Nat.reduceSub, Nat.reduceMul, Nat.reduceLT, Nat.reduceLeDiff, Nat.reduceEqDiff, Nat.reduceMod, Nat.reduceDiv, Int.reduceNeg, Int.reduceLE, Int.reduceLT, Int.reduceToNat, Int.reduceEq, Int.reduceNe, ↓reduceIte,  wrap_succ (show i2 < 9223372036854775807 by have := hs.objects; omega), hr]
  have hn3 : s.objects.length ≤ i2 := by omega
  have hxi2 : i2 = s.objects.length := by omega
  subst hxi2
  subst hst
  clear ih hi hlt
  set_option maxRecDepth 100000 in simp (maxSteps := 10000000) only [go_sem, Nat.reduceAdd, Nat.reduceSub, Nat.reduceMul, Nat.reduceLT, Nat.reduceLeDiff, Nat.reduceEqDiff, Nat.reduceMod, Nat.reduceDiv, Int.reduceNeg, Int.reduceLE, Int.reduceLT, Int.reduceToNat, Int.reduceEq, Int.reduceNe, ↓reduceIte,  List.take_of_length_le hn3]
  simp
end Go.Proofs.Ytdmcmfdmnlckdaa.C10
