/- Chapter 10: a copy of the whole of which one object's private authorities may be written. -/
import Derived.Test.YtdmcmfdmnlckdaaF22
import Derived.Test.YtdmcmfdmnlckdaaF34
namespace Go.Proofs.Ytdmcmfdmnlckdaa.C10
open Go Go.Proofs Go.Proofs.Ytdmcmfdmnlckdaa.Ab
set_option linter.unusedSimpArgs false
set_option linter.unusedVariables false
attribute [local congr] ite_ctx

def refRow (o : Secured) (t v : Nat) : List AV := [.str o.name.lib, .str o.name.name, .int .i64 o.name.type, .str o.owner, .ref t v, .str o.list, .int .i64 o.pub, .bool o.byList]
def kRows (s : Sec) (k i : Nat) : List (List AV) := if k < i then ((s.objects.take i).map encSecured).set k (refRow (nth s.objects k) 0 1) else (s.objects.take i).map encSecured
def kObj (s : Sec) (k i : Nat) : AV := if k < i then .obj 1 65 2 false true ((nth s.objects k).grants.map encGrant) else .any
def kPu (k i : Nat) : Bool := !decide (k < i)
theorem kRows_len (s : Sec) (k : Nat) {i : Nat} (h : i ≤ s.objects.length) : (kRows s k i).length = i := by
  rw [kRows]; split <;> simp <;> omega
theorem kRows_ne {s : Sec} {k i : Nat} (h : i < s.objects.length) (hne : ¬ i = k) : kRows s k (i + 1) = kRows s k i ++ [encSecured (nth s.objects i)] := by
  rw [kRows, kRows, row_snoc h]
  by_cases q : k < i
  · rw [if_pos (by omega), if_pos q, List.set_append_left _ _ (by simp; omega)]
  · rw [if_neg (by omega), if_neg q]
theorem kRows_eq {s : Sec} {k : Nat} (h : k < s.objects.length) : kRows s k (k + 1) = kRows s k k ++ [refRow (nth s.objects k) 0 1] := by
  rw [kRows, kRows, row_snoc h, if_pos (by omega), if_neg (by omega), List.set_append_right _ _ (by simp; omega)]
  have : k - (List.map encSecured (List.take k s.objects)).length = 0 := by simp; omega
  rw [this]; rfl
theorem rowsP_grants (l : List Grant) : rowsP (l.map encGrant) = true := by
  unfold rowsP
  rw [List.all_map, List.all_eq_true]
  intro o _; rfl
theorem snoc_get {α : Type} {l : List α} {x : α} {n : Nat} (h : l.length = n) : (l ++ [x])[n]? = some x := by
  rw [List.getElem?_append_right (by omega), h, Nat.sub_self]; rfl
theorem snoc_set {α : Type} {l : List α} {x y : α} {n : Nat} (h : l.length = n) : (l ++ [x]).set n y = l ++ [y] := by
  rw [List.set_append_right _ _ (by omega), h, Nat.sub_self]; rfl

set_option maxHeartbeats 16000000 in
/-- A copy of the whole of which the private authorities of object k may be written. -/
theorem OwnKM (s : Sec) (hs : Fit s) (k : Nat) (hk : k < s.objects.length) : AnsM Try.prog 18 78 [] [.agg (encSec s)] (.agg [.ref 31 (s.profiles.length + 1), .ref 53 (s.lists.length + 1), .ref 75 (s.objects.length + 1)])
    [(31, .obj (s.profiles.length + 1) 57 3 false true (s.profiles.map encProf)), (53, .obj (s.lists.length + 1) 108 4 false true (s.lists.map encAList)), (75, .obj (s.objects.length + 1) 62 8 false false ((s.objects.map encSecured).set k (refRow (nth s.objects k) 0 1))),
     (0, .obj 1 65 2 false true ((nth s.objects k).grants.map encGrant))] := by
  refine goodM_run [(4000019, [1], []), (4000016, [1], []), (15, [9, 55, 56, 57, 58, 59, 60, 61, 62, 63, 64, 65, 66, 67, 68, 69, 70, 71, 72, 73, 74, 75, 76], [9, 69, 74, 301308062075]), (9, [7, 33, 34, 35, 36, 37, 38, 39, 40, 41, 42, 43, 44, 45, 46, 47, 48, 49, 50, 51, 52, 53, 54], [7, 47, 52, 201304108053]), (3, [5, 11, 12, 13, 14, 15, 16, 17, 18, 19, 20, 21, 22, 23, 24, 25, 26, 27, 28, 29, 30, 31, 32], [5, 30, 101303057031])] mixed Try.func18 rfl Try.ntmps18 (rs := [.cell 2 26]) rfl (by decide +kernel) (by kernel_rfl) ?_
  rw [startM_eq 78 _ _ _ _ rfl rfl]
  set_option maxRecDepth 100000 in simp (maxSteps := 10000000) only [go_sem, Nat.reduceAdd, Nat.reduceSub, Nat.reduceMul, Nat.reduceLT, Nat.reduceLeDiff, Nat.reduceEqDiff, Nat.reduceMod, Nat.reduceDiv, Int.reduceNeg, Int.reduceLE, Int.reduceLT, Int.reduceToNat, Int.reduceEq, Int.reduceNe, ↓reduceIte]
  refine loop_by ([5, 11, 12, 13, 14, 15, 16, 17, 18, 19, 20, 21, 22, 23, 24, 25, 26, 27, 28, 29, 30, 31, 32], [5, 30, 101303057031]) (fun i : Nat => [(.s 4, .int .i64 (i : Int)), (.o 5, deadV i), (.o 30, deadV i), (.o 31, .obj (i + 1) 57 3 false true ((s.profiles.take i).map encProf)), (.o 3, .obj 1 26 3 false false [[.ref 31 (i + 1), .nils, .nils]])]) (fun i => s.profiles.length - i) (fun i => i ≤ s.profiles.length) 0 rfl (Nat.zero_le _) ?_ ?_
  · set_option maxRecDepth 100000 in simp (maxSteps := 10000000) only [go_sem, Nat.reduceAdd, Nat.reduceSub, Nat.reduceMul, Nat.reduceLT, Nat.reduceLeDiff, Nat.reduceEqDiff, Nat.reduceMod, Nat.reduceDiv, Int.reduceNeg, Int.reduceLE, Int.reduceLT, Int.reduceToNat, Int.reduceEq, Int.reduceNe, ↓reduceIte]
  rintro c' st' hst i0 hi ih
  set_option maxRecDepth 100000 in simp (maxSteps := 10000000) only [go_sem, Nat.reduceAdd, Nat.reduceSub, Nat.reduceMul, Nat.reduceLT, Nat.reduceLeDiff, Nat.reduceEqDiff, Nat.reduceMod, Nat.reduceDiv, Int.reduceNeg, Int.reduceLE, Int.reduceLT, Int.reduceToNat, Int.reduceEq, Int.reduceNe, ↓reduceIte]
  refine ifI (fun hlt => ?_) fun hlt => ?_
  · set_option maxRecDepth 100000 in simp (maxSteps := 10000000) only [go_sem, Nat.reduceAdd, Nat.reduceSub, Nat.reduceMul, Nat.reduceLT, Nat.reduceLeDiff, Nat.reduceEqDiff, Nat.reduceMod, Nat.reduceDiv, Int.reduceNeg, Int.reduceLE, Int.reduceLT, Int.reduceToNat, Int.reduceEq, Int.reduceNe, ↓reduceIte,  hlt]
    refine call_of (CopyStrings_good _ (hs.groups _ (nth_mem hlt))) ?_
    set_option maxRecDepth 100000 in simp (maxSteps := 10000000) only [go_sem, Nat.reduceAdd, Nat.reduceSub, Nat.reduceMul, Nat.reduceLT, Nat.reduceLeDiff, Nat.reduceEqDiff, Nat.reduceMod, Nat.reduceDiv, Int.reduceNeg, Int.reduceLE, Int.reduceLT, Int.reduceToNat, Int.reduceEq, Int.reduceNe, ↓reduceIte,  (fits_take (i := i0) hs.profiles (show 48 ≤ 1000 by decide)).1, (fits_take (i := i0) hs.profiles (show 48 ≤ 1000 by decide)).2]
    have hr := row_snoc (f := encProf) hlt
    simp only [encProf] at hr
    refine ih (i0 + 1) _ (by omega) (by omega) ?_
    set_option maxRecDepth 100000 in simp (maxSteps := 10000000) only [go_sem, Nat.reduceAdd, Nat.reduceSub, Nat.reduceMul, Nat.reduceLT, Nat.reduceLeDiff, Nat.reduceEqDiff, Nat.reduceMod, Nat.reduceDiv, Int.reduceNeg, Int.reduceLE, Int.reduceLT, Int.reduceToNat, Int.reduceEq, Int.reduceNe, ↓reduceIte,  wrap_succ (show i0 < 9223372036854775807 by have := hs.profiles; omega), hr]
  have hn1 : s.profiles.length ≤ i0 := by omega
  have hxi0 : i0 = s.profiles.length := by omega
  subst hxi0
  subst hst
  clear ih hi hlt
  set_option maxRecDepth 100000 in simp (maxSteps := 10000000) only [go_sem, Nat.reduceAdd, Nat.reduceSub, Nat.reduceMul, Nat.reduceLT, Nat.reduceLeDiff, Nat.reduceEqDiff, Nat.reduceMod, Nat.reduceDiv, Int.reduceNeg, Int.reduceLE, Int.reduceLT, Int.reduceToNat, Int.reduceEq, Int.reduceNe, ↓reduceIte,  List.take_of_length_le hn1]
  refine loop_by ([7, 33, 34, 35, 36, 37, 38, 39, 40, 41, 42, 43, 44, 45, 46, 47, 48, 49, 50, 51, 52, 53, 54], [7, 47, 52, 201304108053]) (fun i : Nat => [(.s 6, .int .i64 (i : Int)), (.o 7, deadV i), (.o 47, deadV i), (.o 52, deadV i), (.o 53, .obj (i + 1) 108 4 false true ((s.lists.take i).map encAList)), (.o 3, .obj 1 26 3 false false [[.ref 31 (s.profiles.length + 1), .ref 53 (i + 1), .nils]])]) (fun i => s.lists.length - i) (fun i => i ≤ s.lists.length) 0 rfl (Nat.zero_le _) ?_ ?_
  · set_option maxRecDepth 100000 in simp (maxSteps := 10000000) only [go_sem, Nat.reduceAdd, Nat.reduceSub, Nat.reduceMul, Nat.reduceLT, Nat.reduceLeDiff, Nat.reduceEqDiff, Nat.reduceMod, Nat.reduceDiv, Int.reduceNeg, Int.reduceLE, Int.reduceLT, Int.reduceToNat, Int.reduceEq, Int.reduceNe, ↓reduceIte]
  rintro c' st' hst i1 hi ih
  set_option maxRecDepth 100000 in simp (maxSteps := 10000000) only [go_sem, Nat.reduceAdd, Nat.reduceSub, Nat.reduceMul, Nat.reduceLT, Nat.reduceLeDiff, Nat.reduceEqDiff, Nat.reduceMod, Nat.reduceDiv, Int.reduceNeg, Int.reduceLE, Int.reduceLT, Int.reduceToNat, Int.reduceEq, Int.reduceNe, ↓reduceIte]
  refine ifI (fun hlt => ?_) fun hlt => ?_
  · have hg := hs.lgrants _ (nth_mem hlt)
    set_option maxRecDepth 100000 in simp (maxSteps := 10000000) only [go_sem, Nat.reduceAdd, Nat.reduceSub, Nat.reduceMul, Nat.reduceLT, Nat.reduceLeDiff, Nat.reduceEqDiff, Nat.reduceMod, Nat.reduceDiv, Int.reduceNeg, Int.reduceLE, Int.reduceLT, Int.reduceToNat, Int.reduceEq, Int.reduceNe, ↓reduceIte,  hlt, show (nth s.lists i1).grants.length * 24 ≤ 140737488355328 by omega, show (nth s.lists i1).grants.length ≤ maxLen by unfold maxLen; omega, (fits_take (i := i1) hs.lists (show 64 ≤ 1000 by decide)).1, (fits_take (i := i1) hs.lists (show 64 ≤ 1000 by decide)).2]
    have hr := row_snoc (f := encAList) hlt
    simp only [encAList] at hr
    refine ih (i1 + 1) _ (by omega) (by omega) ?_
    set_option maxRecDepth 100000 in simp (maxSteps := 10000000) only [go_sem, Nat.reduceAdd, Nat.reduceSub, Nat.reduceMul, Nat.reduceLT, Nat.reduceLeDiff, Nat.reduceEqDiff, Nat.reduceMod, Nat.reduceDiv, Int.reduceNeg, Int.reduceLE, Int.reduceLT, Int.reduceToNat, Int.reduceEq, Int.reduceNe, ↓reduceIte,  wrap_succ (show i1 < 9223372036854775807 by have := hs.lists; omega), hr]
  have hn2 : s.lists.length ≤ i1 := by omega
  have hxi1 : i1 = s.lists.length := by omega
  subst hxi1
  subst hst
  clear ih hi hlt
  set_option maxRecDepth 100000 in simp (maxSteps := 10000000) only [go_sem, Nat.reduceAdd, Nat.reduceSub, Nat.reduceMul, Nat.reduceLT, Nat.reduceLeDiff, Nat.reduceEqDiff, Nat.reduceMod, Nat.reduceDiv, Int.reduceNeg, Int.reduceLE, Int.reduceLT, Int.reduceToNat, Int.reduceEq, Int.reduceNe, ↓reduceIte,  List.take_of_length_le hn2]
  refine loop_by ([9, 55, 56, 57, 58, 59, 60, 61, 62, 63, 64, 65, 66, 67, 68, 69, 70, 71, 72, 73, 74, 75, 76], [9, 69, 74, 301308062075]) (fun i : Nat => [(.s 8, .int .i64 (i : Int)), (.o 9, deadV i), (.o 69, deadV i), (.o 74, deadV i), (.o 0, kObj s k i), (.o 75, .obj (i + 1) 62 8 false (kPu k i) (kRows s k i)), (.o 3, .obj 1 26 3 false false [[.ref 31 (s.profiles.length + 1), .ref 53 (s.lists.length + 1), .ref 75 (i + 1)]])]) (fun i => s.objects.length - i) (fun i => i ≤ s.objects.length) 0 rfl (Nat.zero_le _) ?_ ?_
  · set_option maxRecDepth 100000 in simp (maxSteps := 10000000) only [go_sem, Nat.reduceAdd, Nat.reduceSub, Nat.reduceMul, Nat.reduceLT, Nat.reduceLeDiff, Nat.reduceEqDiff, Nat.reduceMod, Nat.reduceDiv, Int.reduceNeg, Int.reduceLE, Int.reduceLT, Int.reduceToNat, Int.reduceEq, Int.reduceNe, ↓reduceIte,  show kRows s k 0 = [] from rfl, show kPu k 0 = true from rfl, show kObj s k 0 = .any from rfl]
  rintro c' st' hst i2 hi ih
  have hkl := kRows_len s k hi
  set_option maxRecDepth 100000 in simp (maxSteps := 10000000) only [go_sem, Nat.reduceAdd, Nat.reduceSub, Nat.reduceMul, Nat.reduceLT, Nat.reduceLeDiff, Nat.reduceEqDiff, Nat.reduceMod, Nat.reduceDiv, Int.reduceNeg, Int.reduceLE, Int.reduceLT, Int.reduceToNat, Int.reduceEq, Int.reduceNe, ↓reduceIte]
  refine ifI (fun hlt => ?_) fun hlt => ?_
  · have hg := hs.ogrants _ (nth_mem hlt)
    have f1 : (nth s.objects i2).grants.length * 24 ≤ 140737488355328 := by omega
    have f2 : (nth s.objects i2).grants.length ≤ maxLen := by unfold maxLen; omega
    have f3 : (i2 + 1) * 112 ≤ 140737488355328 := by have := hs.objects; omega
    have f4 : i2 + 1 ≤ maxLen := by have := hs.objects; unfold maxLen; omega
    refine Classical.byCases (fun hik : i2 = k => ?_) fun hik => ?_
    · subst hik
      have e1 : kObj s i2 i2 = .any := by rw [kObj, if_neg (Nat.lt_irrefl _)]
      have e2 : kObj s i2 (i2 + 1) = .obj 1 65 2 false true ((nth s.objects i2).grants.map encGrant) := by rw [kObj, if_pos (Nat.lt_succ_self _)]
      have e3 : kPu i2 (i2 + 1) = false := by rw [kPu, decide_eq_true (Nat.lt_succ_self _)]; rfl
      have hr := kRows_eq hlt
      have g1 : ∀ x, (kRows s i2 i2 ++ [x])[i2]? = some x := fun x => snoc_get hkl
      have g2 : ∀ x y, (kRows s i2 i2 ++ [x]).set i2 y = kRows s i2 i2 ++ [y] := fun x y => snoc_set hkl
      have g3 := rowsP_grants (nth s.objects i2).grants
      simp only [refRow] at hr
      set_option maxRecDepth 100000 in simp (maxSteps := 10000000) only [go_sem, Nat.reduceAdd, Nat.reduceSub, Nat.reduceMul, Nat.reduceLT, Nat.reduceLeDiff, Nat.reduceEqDiff, Nat.reduceMod, Nat.reduceDiv, Int.reduceNeg, Int.reduceLE, Int.reduceLT, Int.reduceToNat, Int.reduceEq, Int.reduceNe, ↓reduceIte,  hlt, f1, f2, f3, f4, hkl, e1]
      refine pick_of [100000000000000000000069] ?_
      set_option maxRecDepth 100000 in simp (maxSteps := 10000000) only [go_sem, Nat.reduceAdd, Nat.reduceSub, Nat.reduceMul, Nat.reduceLT, Nat.reduceLeDiff, Nat.reduceEqDiff, Nat.reduceMod, Nat.reduceDiv, Int.reduceNeg, Int.reduceLE, Int.reduceLT, Int.reduceToNat, Int.reduceEq, Int.reduceNe, ↓reduceIte,  f1, f2, f3, f4, hkl]
      refine pick_of [102000000040080750000069, 101000000000000000000000] ?_
      set_option maxRecDepth 100000 in simp (maxSteps := 10000000) only [go_sem, Nat.reduceAdd, Nat.reduceSub, Nat.reduceMul, Nat.reduceLT, Nat.reduceLeDiff, Nat.reduceEqDiff, Nat.reduceMod, Nat.reduceDiv, Int.reduceNeg, Int.reduceLE, Int.reduceLT, Int.reduceToNat, Int.reduceEq, Int.reduceNe, ↓reduceIte,  g1, g2, g3, f3, f4]
      refine ih (i2 + 1) _ (by omega) (by omega) ?_
      set_option maxRecDepth 100000 in simp (maxSteps := 10000000) only [go_sem, Nat.reduceAdd, Nat.reduceSub, Nat.reduceMul, Nat.reduceLT, Nat.reduceLeDiff, Nat.reduceEqDiff, Nat.reduceMod, Nat.reduceDiv, Int.reduceNeg, Int.reduceLE, Int.reduceLT, Int.reduceToNat, Int.reduceEq, Int.reduceNe, ↓reduceIte,  wrap_succ (show i2 < 9223372036854775807 by have := hs.objects; omega), hr, e2, e3]
    · have e1 : kObj s k (i2 + 1) = kObj s k i2 := by rw [kObj, kObj]; split <;> split <;> first | rfl | omega
      have e3 : kPu k (i2 + 1) = kPu k i2 := by rw [kPu, kPu]; congr 1; rw [decide_eq_decide]; omega
      have hr := kRows_ne hlt hik
      simp only [encSecured] at hr
      set_option maxRecDepth 100000 in simp (maxSteps := 10000000) only [go_sem, Nat.reduceAdd, Nat.reduceSub, Nat.reduceMul, Nat.reduceLT, Nat.reduceLeDiff, Nat.reduceEqDiff, Nat.reduceMod, Nat.reduceDiv, Int.reduceNeg, Int.reduceLE, Int.reduceLT, Int.reduceToNat, Int.reduceEq, Int.reduceNe, ↓reduceIte,  hlt, f1, f2, f3, f4, hkl]
      refine pick_of [] ?_
      set_option maxRecDepth 100000 in simp (maxSteps := 10000000) only [go_sem, Nat.reduceAdd, Nat.reduceSub, Nat.reduceMul, Nat.reduceLT, Nat.reduceLeDiff, Nat.reduceEqDiff, Nat.reduceMod, Nat.reduceDiv, Int.reduceNeg, Int.reduceLE, Int.reduceLT, Int.reduceToNat, Int.reduceEq, Int.reduceNe, ↓reduceIte,  f1, f2, f3, f4, hkl]
      refine pick_of [] ?_
      set_option maxRecDepth 100000 in simp (maxSteps := 10000000) only [go_sem, Nat.reduceAdd, Nat.reduceSub, Nat.reduceMul, Nat.reduceLT, Nat.reduceLeDiff, Nat.reduceEqDiff, Nat.reduceMod, Nat.reduceDiv, Int.reduceNeg, Int.reduceLE, Int.reduceLT, Int.reduceToNat, Int.reduceEq, Int.reduceNe, ↓reduceIte]
      refine ih (i2 + 1) _ (by omega) (by omega) ?_
      set_option maxRecDepth 100000 in simp (maxSteps := 10000000) only [go_sem, Nat.reduceAdd, Nat.reduceSub, Nat.reduceMul, Nat.reduceLT, Nat.reduceLeDiff, Nat.reduceEqDiff, Nat.reduceMod, Nat.reduceDiv, Int.reduceNeg, Int.reduceLE, Int.reduceLT, Int.reduceToNat, Int.reduceEq, Int.reduceNe, ↓reduceIte,  wrap_succ (show i2 < 9223372036854775807 by have := hs.objects; omega), hr, e1, e3]
  have hn3 : s.objects.length ≤ i2 := by omega
  have hxi2 : i2 = s.objects.length := by omega
  subst hxi2
  subst hst
  clear ih hi hlt
  have e1 : kObj s k s.objects.length = .obj 1 65 2 false true ((nth s.objects k).grants.map encGrant) := by rw [kObj, if_pos hk]
  have e2 : kRows s k s.objects.length = (s.objects.map encSecured).set k (refRow (nth s.objects k) 0 1) := by rw [kRows, if_pos hk, List.take_of_length_le hn3]
  have e3 : kPu k s.objects.length = false := by rw [kPu, decide_eq_true hk]; rfl
  set_option maxRecDepth 100000 in simp (maxSteps := 10000000) only [go_sem, Nat.reduceAdd, Nat.reduceSub, Nat.reduceMul, Nat.reduceLT, Nat.reduceLeDiff, Nat.reduceEqDiff, Nat.reduceMod, Nat.reduceDiv, Int.reduceNeg, Int.reduceLE, Int.reduceLT, Int.reduceToNat, Int.reduceEq, Int.reduceNe, ↓reduceIte,  e1, e2, e3]
  simp
end Go.Proofs.Ytdmcmfdmnlckdaa.C10
/- Chapter 10: what the reference makes of granting. -/
namespace Go.Proofs.Ytdmcmfdmnlckdaa.C10
open Go Go.Proofs Go.Proofs.Ytdmcmfdmnlckdaa.Ab
set_option linter.unusedSimpArgs false
set_option linter.unusedVariables false
attribute [local congr] ite_ctx

theorem PrivateM (l : List Grant) (u : ByteArray) (h : l.length ≤ 1000000) : AnsM Try.prog 31 20 [.obj 1 65 2 false true (l.map encGrant)] [.ref 20 1, .str u] (.int .i64 (grantIx l u)) [(20, .obj 1 65 2 false true (l.map encGrant))] := by
  refine goodM_run [(2, [4, 6, 7, 8, 9, 10, 11, 12, 13, 14, 15, 16, 17, 18, 19], [])] mixed Try.func31 rfl Try.ntmps31 (rs := [.tmp 4]) rfl (show wfCode 21 _ = true by decide +kernel) (by kernel_rfl) ?_
  rw [startM_eq 20 _ _ _ _ rfl rfl]
  set_option maxRecDepth 100000 in simp (maxSteps := 10000000) only [go_sem, Nat.reduceAdd, Nat.reduceSub, Nat.reduceMul, Nat.reduceLT, Nat.reduceLeDiff, Nat.reduceEqDiff, Nat.reduceMod, Nat.reduceDiv, Int.reduceNeg, Int.reduceLE, Int.reduceLT, Int.reduceToNat, Int.reduceEq, Int.reduceNe, ↓reduceIte]
  refine loop_by ([4, 6, 7, 8, 9, 10, 11, 12, 13, 14, 15, 16, 17, 18, 19], []) (fun i : Nat => [(.s 5, .int .i64 (i : Int))]) (fun i => l.length - i) (fun i => i ≤ l.length ∧ grantIx l u = findIx (fun p => decide (p.user = u)) (l.drop i) i) 0 rfl ⟨Nat.zero_le _, rfl⟩ rfl ?_
  rintro c' st' hst i ⟨hi, hf⟩ ih
  set_option maxRecDepth 100000 in simp (maxSteps := 10000000) only [go_sem, Nat.reduceAdd, Nat.reduceSub, Nat.reduceMul, Nat.reduceLT, Nat.reduceLeDiff, Nat.reduceEqDiff, Nat.reduceMod, Nat.reduceDiv, Int.reduceNeg, Int.reduceLE, Int.reduceLT, Int.reduceToNat, Int.reduceEq, Int.reduceNe, ↓reduceIte]
  refine ifI (fun hlt => ?_) fun hlt => ?_
  · have hq : (List.map encGrant l)[i]? = some (encGrant (nth l i)) := at_map (by omega)
    set_option maxRecDepth 100000 in simp (maxSteps := 10000000) only [go_sem, Nat.reduceAdd, Nat.reduceSub, Nat.reduceMul, Nat.reduceLT, Nat.reduceLeDiff, Nat.reduceEqDiff, Nat.reduceMod, Nat.reduceDiv, Int.reduceNeg, Int.reduceLE, Int.reduceLT, Int.reduceToNat, Int.reduceEq, Int.reduceNe, ↓reduceIte,  hlt, hq, Option.map_some]
    refine ifI (fun hn => ?_) fun hn => ?_
    · set_option maxRecDepth 100000 in simp (maxSteps := 10000000) only [go_sem, Nat.reduceAdd, Nat.reduceSub, Nat.reduceMul, Nat.reduceLT, Nat.reduceLeDiff, Nat.reduceEqDiff, Nat.reduceMod, Nat.reduceDiv, Int.reduceNeg, Int.reduceLE, Int.reduceLT, Int.reduceToNat, Int.reduceEq, Int.reduceNe, ↓reduceIte]
      rw [hf, drop_nth (by omega), findIx, if_pos (by simpa using hn)]
      simp
    · set_option maxRecDepth 100000 in simp (maxSteps := 10000000) only [go_sem, Nat.reduceAdd, Nat.reduceSub, Nat.reduceMul, Nat.reduceLT, Nat.reduceLeDiff, Nat.reduceEqDiff, Nat.reduceMod, Nat.reduceDiv, Int.reduceNeg, Int.reduceLE, Int.reduceLT, Int.reduceToNat, Int.reduceEq, Int.reduceNe, ↓reduceIte]
      refine ih (i + 1) _ ⟨by omega, ?_⟩ (by omega) ?_
      · rw [hf, drop_nth (by omega), findIx, if_neg (by simpa using hn)]
      set_option maxRecDepth 100000 in simp (maxSteps := 10000000) only [go_sem, Nat.reduceAdd, Nat.reduceSub, Nat.reduceMul, Nat.reduceLT, Nat.reduceLeDiff, Nat.reduceEqDiff, Nat.reduceMod, Nat.reduceDiv, Int.reduceNeg, Int.reduceLE, Int.reduceLT, Int.reduceToNat, Int.reduceEq, Int.reduceNe, ↓reduceIte,  wrap_succ (show i < 9223372036854775807 by omega)]
  · subst hst
    set_option maxRecDepth 100000 in simp (maxSteps := 10000000) only [go_sem, Nat.reduceAdd, Nat.reduceSub, Nat.reduceMul, Nat.reduceLT, Nat.reduceLeDiff, Nat.reduceEqDiff, Nat.reduceMod, Nat.reduceDiv, Int.reduceNeg, Int.reduceLE, Int.reduceLT, Int.reduceToNat, Int.reduceEq, Int.reduceNe, ↓reduceIte]
    rw [hf, List.drop_eq_nil_of_le (by omega)]
    simp [findIx]

/-- The grants so far, the new one at its place. -/
def accG (l : List Grant) (p : Nat) (x : Grant) (i : Nat) : List Grant := if p < i then insG (l.take i) p x else l.take i
theorem takeG_snoc {l : List Grant} {i : Nat} (h : i < l.length) : l.take (i + 1) = l.take i ++ [nth l i] := by
  rw [nth_eq h, List.take_succ_eq_append_getElem h]
theorem accG_lt {l : List Grant} {p : Nat} {x : Grant} {i : Nat} (h : i < l.length) (hp : i < p) : accG l p x (i + 1) = accG l p x i ++ [nth l i] := by
  rw [accG, accG, if_neg (by omega), if_neg (by omega), takeG_snoc h]
theorem accG_eq {l : List Grant} {x : Grant} {i : Nat} (h : i < l.length) : accG l i x (i + 1) = accG l i x i ++ [x] ++ [nth l i] := by
  have ht : (l.take i).length = i := by rw [List.length_take]; omega
  rw [accG, accG, if_pos (by omega), if_neg (by omega), takeG_snoc h, insG, List.take_left' ht, List.drop_left' ht, List.append_assoc]; rfl
theorem accG_gt {l : List Grant} {p : Nat} {x : Grant} {i : Nat} (h : i < l.length) (hp : p < i) : accG l p x (i + 1) = accG l p x i ++ [nth l i] := by
  have ht : (l.take i).length = i := by rw [List.length_take]; omega
  rw [accG, accG, if_pos (by omega), if_pos hp, takeG_snoc h, insG, insG, List.take_append_of_le_length (by omega), List.drop_append_of_le_length (by omega), List.append_assoc]; rfl
theorem accG_len (l : List Grant) (p : Nat) (x : Grant) (i : Nat) : (accG l p x i).length ≤ i + 1 := by
  rw [accG]; split
  · rw [insG, List.length_append, List.length_cons, List.length_take, List.length_drop, List.length_take]; omega
  · rw [List.length_take]; omega
theorem sLt_irr (a : ByteArray) : sLt a a = false := by
  unfold sLt
  rw [bytesLess_eq, decide_eq_false_iff_not]
  exact List.lt_irrefl _
theorem no_user {l : List Grant} {u : ByteArray} (h : ¬ 0 ≤ grantIx l u) {i : Nat} (hi : i < l.length) : ¬ (nth l i).user = u := fun e => by
  have := findIx_any (fun p : Grant => decide (p.user = u)) l 0
  rw [show (l.any fun p => decide (p.user = u)) = true from List.any_eq_true.2 ⟨nth l i, nth_mem hi, by simpa using e⟩, decide_eq_true_eq] at this
  exact h this
theorem lt_new {l : List Grant} {u : ByteArray} (hs : SortedG l) (h : ¬ 0 ≤ grantIx l u) {i : Nat} (hi : i < l.length) : sLt u (nth l i).user = decide (¬ i < posG l u) := by
  have hp := pos_iff (u := u) hs hi
  have hn := no_user h hi
  by_cases q : i < posG l u
  · have h1 := hp.1 q
    rw [decide_eq_false (not_not_intro q), Bool.eq_false_iff]
    intro h2
    have := sLt_trans h1 h2
    rw [sLt_irr] at this; cases this
  · have h1 : sLt (nth l i).user u = false := Bool.eq_false_iff.2 fun z => q (hp.2 z)
    rw [decide_eq_true q]
    have h2 := lt_trich (nth l i).user.toList u.toList
    have h3 : Go.Op.bytesLess (nth l i).user.toList u.toList = false := h1
    rw [h3, Bool.not_false, eq_comm, Bool.or_eq_true] at h2
    rcases h2 with h2 | h2
    · exact h2
    · exfalso
      apply hn
      have e := eq_of_beq h2
      rw [ByteArray.toList_eq, ByteArray.toList_eq] at e
      exact (ByteArray.ext (Array.ext' e)).symm

theorem fitG {A j : Nat} (h : A ≤ j + 1) (hj : j ≤ 1000) : (A + 1) * 24 ≤ 140737488355328 ∧ A + 1 ≤ maxLen ∧ (A + 1 + 1) * 24 ≤ 140737488355328 ∧ A + 1 + 1 ≤ maxLen := by
  unfold maxLen; omega
set_option maxHeartbeats 16000000 in
theorem Granted_good (s : Sec) (g : GReq) (hs : Fit s) (i1 : 0 ≤ g.object) (i2 : g.object < (s.objects.length : Int)) (i3 : g.object.toNat < s.objects.length) (hl : (nth s.objects g.object.toNat).grants.length ≤ 1000) (hso : SortedG (nth s.objects g.object.toNat).grants) :
    Ans Try.prog 55 [.agg (encSec s), .agg (encGReq g)] (.agg (encSec (addS s g.object.toNat g.user g.auth))) := by
  obtain ⟨u, i, a⟩ := g
  show Ans Try.prog 55 [.agg (encSec s), .agg [.str u, .int .i64 i, .int .i64 a]] (.agg (encSec (addS s i.toNat u a)))
  simp only at i1 i2 i3 hl hso
  have hO := hs.objects
  have hg := hs.ogrants _ (nth_mem i3)
  have hset : ∀ r, ((List.map encSecured s.objects).set i.toNat r)[i.toNat]? = some r := fun r => by rw [List.getElem?_set_self (by simpa using i3)]
  have hren : ∀ m, List.map (fun x => List.map (ren1 m) x) ((List.map encSecured s.objects).set i.toNat (refRow (nth s.objects i.toNat) 0 1)) = (List.map encSecured s.objects).set i.toNat ((refRow (nth s.objects i.toNat) 0 1).map (ren1 m)) := fun m => by
    rw [List.map_set, List.map_map]
    congr 1
  have hgm := PrivateM (nth s.objects i.toNat).grants u hg
  have hP := rowsP_secured (addS s i.toNat u a).objects
  have hA : (addS s i.toNat u a).objects = s.objects.set i.toNat (addO (nth s.objects i.toNat) u a) := rfl
  have hge := findIx_ge (fun p : Grant => decide (p.user = u)) (nth s.objects i.toNat).grants 0
  have hge : grantIx (nth s.objects i.toNat).grants u = -1 ∨ (0 ≤ grantIx (nth s.objects i.toNat).grants u ∧ grantIx (nth s.objects i.toNat).grants u < ((nth s.objects i.toNat).grants.length : Int)) := by
    unfold grantIx; omega
  have hown := OwnKM s hs i.toNat i3
  simp only [refRow] at hown hren
  refine Classical.byCases (fun h : 0 ≤ grantIx (nth s.objects i.toNat).grants u => ?_) fun h => ?_
  · obtain ⟨k, hk⟩ : ∃ k : Nat, grantIx (nth s.objects i.toNat).grants u = (k : Int) := ⟨_, (Int.toNat_of_nonneg h).symm⟩
    have hkl : k < (nth s.objects i.toNat).grants.length := by omega
    have hki : (k : Int) < ((nth s.objects i.toNat).grants.length : Int) := by omega
    have hk1 : ¬ (k : Int) = -1 := by omega
    have hgk : (List.map encGrant (nth s.objects i.toNat).grants)[k]? = some (encGrant (nth (nth s.objects i.toNat).grants k)) := at_map hkl
    rw [hk] at hgm
    have hE : (List.map encSecured s.objects).set i.toNat [.str (nth s.objects i.toNat).name.lib, .str (nth s.objects i.toNat).name.name, .int .i64 (nth s.objects i.toNat).name.type, .str (nth s.objects i.toNat).owner, .sl ((List.map encGrant (nth s.objects i.toNat).grants).set k [.str (nth (nth s.objects i.toNat).grants k).user, .int .i64 (Go.bits .or .i64 (nth (nth s.objects i.toNat).grants k).auth a)]), .str (nth s.objects i.toNat).list, .int .i64 (nth s.objects i.toNat).pub, .bool (nth s.objects i.toNat).byList] = List.map encSecured (addS s i.toNat u a).objects := by
      rw [hA, List.map_set, addO, addG, if_pos h, hk, Int.toNat_natCast]
      simp only [encSecured, List.map_set, encGrant]
    have hun := Union_good (nth (nth s.objects i.toNat).grants k).auth a
    refine good_run [(3000006, [], [100000000004016013]), (3000018, [], [100000000004016013]), (10, [46, 47, 48, 49, 50, 51, 52, 53, 54, 55, 56, 57, 58, 59, 60, 61, 62, 63, 64, 65, 66, 67, 68, 69, 70, 71, 72, 73, 74, 75, 76, 77, 78, 79, 80, 81, 82, 83, 84, 85, 86, 87], [1802065087, 76, 77, 86])] mixed Try.func55 rfl Try.ntmps55 (rs := [.cell 4 26]) rfl (by decide +kernel) (by kernel_rfl) rfl ?_
    rw [startE_eq 103 _ _ _ rfl rfl]
    set_option maxRecDepth 100000 in simp (maxSteps := 10000000) only [go_sem, Nat.reduceAdd, Nat.reduceSub, Nat.reduceMul, Nat.reduceLT, Nat.reduceLeDiff, Nat.reduceEqDiff, Nat.reduceMod, Nat.reduceDiv, Int.reduceNeg, Int.reduceLE, Int.reduceLT, Int.reduceToNat, Int.reduceEq, Int.reduceNe, ↓reduceIte]
    refine callM_of [] [0, 1, 13, 18] (hown) ⟨rfl, rfl, rfl, by simp, by simp, by simp, by simp, rfl, rfl, rfl, onodup_of (l := [31, 53, 75, 0]) rfl (by decide)⟩ ?_
    set_option maxRecDepth 100000 in simp (maxSteps := 10000000) only [go_sem, Nat.reduceAdd, Nat.reduceSub, Nat.reduceMul, Nat.reduceLT, Nat.reduceLeDiff, Nat.reduceEqDiff, Nat.reduceMod, Nat.reduceDiv, Int.reduceNeg, Int.reduceLE, Int.reduceLT, Int.reduceToNat, Int.reduceEq, Int.reduceNe, ↓reduceIte]
    set_option maxRecDepth 100000 in simp (maxSteps := 10000000) only [go_sem, Nat.reduceAdd, Nat.reduceSub, Nat.reduceMul, Nat.reduceLT, Nat.reduceLeDiff, Nat.reduceEqDiff, Nat.reduceMod, Nat.reduceDiv, Int.reduceNeg, Int.reduceLE, Int.reduceLT, Int.reduceToNat, Int.reduceEq, Int.reduceNe, ↓reduceIte,  i1, i2, i3, hset, hren, List.map_set, List.length_set, List.length_map, Option.map_some]
    refine callMD_of [18] [18] (hgm) ⟨by simp [renA, ren1, invM, posOf, verOf, AV.cellP, Env.go], rfl, rfl, by simp, by simp [ment, ment1], by simp, by simp, rfl, rfl, rfl, onodup_of (l := [20]) rfl (by decide)⟩ ?_
    set_option maxRecDepth 100000 in simp (maxSteps := 10000000) only [go_sem, Nat.reduceAdd, Nat.reduceSub, Nat.reduceMul, Nat.reduceLT, Nat.reduceLeDiff, Nat.reduceEqDiff, Nat.reduceMod, Nat.reduceDiv, Int.reduceNeg, Int.reduceLE, Int.reduceLT, Int.reduceToNat, Int.reduceEq, Int.reduceNe, ↓reduceIte,  i1, i2, i3, hset, List.length_set, List.length_map, Option.map_some, List.set_set]
    refine ⟨by decide +kernel, ?_⟩
    set_option maxRecDepth 100000 in simp (maxSteps := 10000000) only [go_sem, Nat.reduceAdd, Nat.reduceSub, Nat.reduceMul, Nat.reduceLT, Nat.reduceLeDiff, Nat.reduceEqDiff, Nat.reduceMod, Nat.reduceDiv, Int.reduceNeg, Int.reduceLE, Int.reduceLT, Int.reduceToNat, Int.reduceEq, Int.reduceNe, ↓reduceIte,  hk1, not_false_eq_true, decide_true, hkl, hki, hgk, i1, i2, i3, hset, List.length_set, List.length_map, Option.map_some, List.set_set]
    refine callD_of (hun) ?_
    set_option maxRecDepth 100000 in simp (maxSteps := 10000000) only [go_sem, Nat.reduceAdd, Nat.reduceSub, Nat.reduceMul, Nat.reduceLT, Nat.reduceLeDiff, Nat.reduceEqDiff, Nat.reduceMod, Nat.reduceDiv, Int.reduceNeg, Int.reduceLE, Int.reduceLT, Int.reduceToNat, Int.reduceEq, Int.reduceNe, ↓reduceIte,  hkl, hki, hgk, i1, i2, i3, hset, List.length_set, List.length_map, Option.map_some, List.set_set, hE, hP]
    exact ⟨by decide +kernel, rfl, rfl⟩
  · have hF : grantIx (nth s.objects i.toNat).grants u = -1 := by omega
    rw [hF] at hgm
    obtain ⟨p, hp⟩ : ∃ p, p = posG (nth s.objects i.toNat).grants u := ⟨_, rfl⟩
    have hple := posG_le (nth s.objects i.toNat).grants u
    rw [← hp] at hple
    have hlt_new := fun (j : Nat) (hj : j < (nth s.objects i.toNat).grants.length) => lt_new hso h hj
    rw [← hp] at hlt_new
    have hE : ∀ l', l' = insG (nth s.objects i.toNat).grants p ⟨u, a⟩ → (List.map encSecured s.objects).set i.toNat [.str (nth s.objects i.toNat).name.lib, .str (nth s.objects i.toNat).name.name, .int .i64 (nth s.objects i.toNat).name.type, .str (nth s.objects i.toNat).owner, .sl (List.map encGrant l'), .str (nth s.objects i.toNat).list, .int .i64 (nth s.objects i.toNat).pub, .bool (nth s.objects i.toNat).byList] = List.map encSecured (addS s i.toNat u a).objects := fun l' hl' => by
      rw [hA, List.map_set, addO, addG, if_neg h, hl', hp]
      simp only [encSecured]
    refine good_run [(3000006, [], [100000000004016013]), (3000018, [], [100000000004016013]), (10, [46, 47, 48, 49, 50, 51, 52, 53, 54, 55, 56, 57, 58, 59, 60, 61, 62, 63, 64, 65, 66, 67, 68, 69, 70, 71, 72, 73, 74, 75, 76, 77, 78, 79, 80, 81, 82, 83, 84, 85, 86, 87], [1802065087, 76, 77, 86])] mixed Try.func55 rfl Try.ntmps55 (rs := [.cell 4 26]) rfl (by decide +kernel) (by kernel_rfl) rfl ?_
    rw [startE_eq 103 _ _ _ rfl rfl]
    set_option maxRecDepth 100000 in simp (maxSteps := 10000000) only [go_sem, Nat.reduceAdd, Nat.reduceSub, Nat.reduceMul, Nat.reduceLT, Nat.reduceLeDiff, Nat.reduceEqDiff, Nat.reduceMod, Nat.reduceDiv, Int.reduceNeg, Int.reduceLE, Int.reduceLT, Int.reduceToNat, Int.reduceEq, Int.reduceNe, ↓reduceIte]
    refine callM_of [] [0, 1, 13, 18] (hown) ⟨rfl, rfl, rfl, by simp, by simp, by simp, by simp, rfl, rfl, rfl, onodup_of (l := [31, 53, 75, 0]) rfl (by decide)⟩ ?_
    set_option maxRecDepth 100000 in simp (maxSteps := 10000000) only [go_sem, Nat.reduceAdd, Nat.reduceSub, Nat.reduceMul, Nat.reduceLT, Nat.reduceLeDiff, Nat.reduceEqDiff, Nat.reduceMod, Nat.reduceDiv, Int.reduceNeg, Int.reduceLE, Int.reduceLT, Int.reduceToNat, Int.reduceEq, Int.reduceNe, ↓reduceIte]
    set_option maxRecDepth 100000 in simp (maxSteps := 10000000) only [go_sem, Nat.reduceAdd, Nat.reduceSub, Nat.reduceMul, Nat.reduceLT, Nat.reduceLeDiff, Nat.reduceEqDiff, Nat.reduceMod, Nat.reduceDiv, Int.reduceNeg, Int.reduceLE, Int.reduceLT, Int.reduceToNat, Int.reduceEq, Int.reduceNe, ↓reduceIte,  i1, i2, i3, hset, hren, List.map_set, List.length_set, List.length_map, Option.map_some]
    refine callMD_of [18] [18] (hgm) ⟨by simp [renA, ren1, invM, posOf, verOf, AV.cellP, Env.go], rfl, rfl, by simp, by simp [ment, ment1], by simp, by simp, rfl, rfl, rfl, onodup_of (l := [20]) rfl (by decide)⟩ ?_
    set_option maxRecDepth 100000 in simp (maxSteps := 10000000) only [go_sem, Nat.reduceAdd, Nat.reduceSub, Nat.reduceMul, Nat.reduceLT, Nat.reduceLeDiff, Nat.reduceEqDiff, Nat.reduceMod, Nat.reduceDiv, Int.reduceNeg, Int.reduceLE, Int.reduceLT, Int.reduceToNat, Int.reduceEq, Int.reduceNe, ↓reduceIte,  i1, i2, i3, hset, List.length_set, List.length_map, Option.map_some, List.set_set]
    refine ⟨by decide +kernel, ?_⟩
    refine loop_by ([46, 47, 48, 49, 50, 51, 52, 53, 54, 55, 56, 57, 58, 59, 60, 61, 62, 63, 64, 65, 66, 67, 68, 69, 70, 71, 72, 73, 74, 75, 76, 77, 78, 79, 80, 81, 82, 83, 84, 85, 86, 87], [1802065087, 76, 77, 86]) (fun x : Nat × Nat × Bool => [(.s 8, .ref 87 (x.1 + 1)), (.s 9, .bool x.2.2), (.s 10, .int .i64 (x.1 : Int)), (.o 76, deadV x.2.1), (.o 77, deadV x.2.1), (.o 86, deadV x.1), (.o 87, .obj (x.1 + 1) 65 2 false true ((accG (nth s.objects i.toNat).grants p ⟨u, a⟩ x.1).map encGrant))]) (fun x => (nth s.objects i.toNat).grants.length - x.1) (fun x => x.1 ≤ (nth s.objects i.toNat).grants.length ∧ ((p < x.1 ∧ x.2.1 = 1 ∧ x.2.2 = true) ∨ (¬ p < x.1 ∧ x.2.1 = 0 ∧ x.2.2 = false))) (0, 0, false) rfl ⟨Nat.zero_le _, .inr ⟨Nat.not_lt_zero _, rfl, rfl⟩⟩ ?_ ?_
    · set_option maxRecDepth 100000 in simp (maxSteps := 10000000) only [go_sem, Nat.reduceAdd, Nat.reduceSub, Nat.reduceMul, Nat.reduceLT, Nat.reduceLeDiff, Nat.reduceEqDiff, Nat.reduceMod, Nat.reduceDiv, Int.reduceNeg, Int.reduceLE, Int.reduceLT, Int.reduceToNat, Int.reduceEq, Int.reduceNe, ↓reduceIte,  show accG (nth s.objects i.toNat).grants p ⟨u, a⟩ 0 = [] from rfl]
    rintro c' st' hst ⟨j, d, dn⟩ ⟨hj, hd⟩ ih
    simp only at hj hd
    set_option maxRecDepth 100000 in simp (maxSteps := 10000000) only [go_sem, Nat.reduceAdd, Nat.reduceSub, Nat.reduceMul, Nat.reduceLT, Nat.reduceLeDiff, Nat.reduceEqDiff, Nat.reduceMod, Nat.reduceDiv, Int.reduceNeg, Int.reduceLE, Int.reduceLT, Int.reduceToNat, Int.reduceEq, Int.reduceNe, ↓reduceIte,  hset, Option.map_some]
    have hal := accG_len (nth s.objects i.toNat).grants p ⟨u, a⟩ j
    refine ifI (fun hlt => ?_) fun hlt => ?_
    · have hq2 : (List.map encGrant (nth s.objects i.toNat).grants)[j]? = some (encGrant (nth (nth s.objects i.toNat).grants j)) := at_map hlt
      have hln : Go.Op.bytesLess u.toList (nth (nth s.objects i.toNat).grants j).user.toList = decide (¬ j < p) := hlt_new j hlt
      have hji : (j : Int) < ((nth s.objects i.toNat).grants.length : Int) := by omega
      have hw := wrap_succ (show j < 9223372036854775807 by omega)
      have ff := fitG hal (Nat.le_trans hj hl)
      have f1 := ff.1
      have f2 := ff.2.1
      have f3 := ff.2.2.1
      have f4 := ff.2.2.2
      have enc_snoc : ∀ (m : List Grant) (x : Grant), List.map encGrant (m ++ [x]) = List.map encGrant m ++ [[.str x.user, .int .i64 x.auth]] := fun m x => by rw [List.map_append]; rfl
      refine Classical.byCases (fun q : j < p => ?_) fun q => ?_
      · have hd2 := hd.resolve_left fun z => by omega
        have d1 := hd2.2.1
        have d2 := hd2.2.2
        rw [decide_eq_false (not_not_intro q)] at hln
        set_option maxRecDepth 100000 in simp (maxSteps := 10000000) only [go_sem, Nat.reduceAdd, Nat.reduceSub, Nat.reduceMul, Nat.reduceLT, Nat.reduceLeDiff, Nat.reduceEqDiff, Nat.reduceMod, Nat.reduceDiv, Int.reduceNeg, Int.reduceLE, Int.reduceLT, Int.reduceToNat, Int.reduceEq, Int.reduceNe, ↓reduceIte,  d1, d2, Bool.not_false, Bool.not_true, hset, Option.map_some, hlt, hji, hq2, hln, f1, f2, f3, f4]
        refine ⟨by decide +kernel, ?_⟩
        refine ih (j + 1, 0, false) _ ⟨by omega, .inr ⟨by simp only; omega, rfl, rfl⟩⟩ (by simp only; omega) ?_
        set_option maxRecDepth 100000 in simp (maxSteps := 10000000) only [go_sem, Nat.reduceAdd, Nat.reduceSub, Nat.reduceMul, Nat.reduceLT, Nat.reduceLeDiff, Nat.reduceEqDiff, Nat.reduceMod, Nat.reduceDiv, Int.reduceNeg, Int.reduceLE, Int.reduceLT, Int.reduceToNat, Int.reduceEq, Int.reduceNe, ↓reduceIte,  hw, accG_lt hlt q, enc_snoc]
      refine Classical.byCases (fun q2 : j = p => ?_) fun q2 => ?_
      · have hd2 := hd.resolve_left fun z => by omega
        have d1 := hd2.2.1
        have d2 := hd2.2.2
        have ha := accG_eq (x := ⟨u, a⟩) hlt
        rw [q2] at ha hw
        rw [decide_eq_true q] at hln
        set_option maxRecDepth 100000 in simp (maxSteps := 10000000) only [go_sem, Nat.reduceAdd, Nat.reduceSub, Nat.reduceMul, Nat.reduceLT, Nat.reduceLeDiff, Nat.reduceEqDiff, Nat.reduceMod, Nat.reduceDiv, Int.reduceNeg, Int.reduceLE, Int.reduceLT, Int.reduceToNat, Int.reduceEq, Int.reduceNe, ↓reduceIte,  d1, d2, Bool.not_false, Bool.not_true, hset, Option.map_some, hlt, hji, hq2, hln, f1, f2, f3, f4]
        refine ⟨by decide +kernel, ?_⟩
        set_option maxRecDepth 100000 in simp (maxSteps := 10000000) only [go_sem, Nat.reduceAdd, Nat.reduceSub, Nat.reduceMul, Nat.reduceLT, Nat.reduceLeDiff, Nat.reduceEqDiff, Nat.reduceMod, Nat.reduceDiv, Int.reduceNeg, Int.reduceLE, Int.reduceLT, Int.reduceToNat, Int.reduceEq, Int.reduceNe, ↓reduceIte,  hset, Option.map_some, hlt, hji, hq2, f1, f2, f3, f4, List.length_append]
        refine ih (j + 1, 1, true) _ ⟨by omega, .inl ⟨by simp only; omega, rfl, rfl⟩⟩ (by simp only; omega) ?_
        set_option maxRecDepth 100000 in simp (maxSteps := 10000000) only [go_sem, Nat.reduceAdd, Nat.reduceSub, Nat.reduceMul, Nat.reduceLT, Nat.reduceLeDiff, Nat.reduceEqDiff, Nat.reduceMod, Nat.reduceDiv, Int.reduceNeg, Int.reduceLE, Int.reduceLT, Int.reduceToNat, Int.reduceEq, Int.reduceNe, ↓reduceIte,  hw, q2, ha, enc_snoc]
      · have hd2 := hd.resolve_right fun z => by omega
        have d1 := hd2.2.1
        have d2 := hd2.2.2
        set_option maxRecDepth 100000 in simp (maxSteps := 10000000) only [go_sem, Nat.reduceAdd, Nat.reduceSub, Nat.reduceMul, Nat.reduceLT, Nat.reduceLeDiff, Nat.reduceEqDiff, Nat.reduceMod, Nat.reduceDiv, Int.reduceNeg, Int.reduceLE, Int.reduceLT, Int.reduceToNat, Int.reduceEq, Int.reduceNe, ↓reduceIte,  d1, d2, Bool.not_false, Bool.not_true, hset, Option.map_some, hlt, hji, hq2, f1, f2, f3, f4]
        refine ⟨by decide +kernel, ?_⟩
        refine ih (j + 1, 1, true) _ ⟨by omega, .inl ⟨by simp only; omega, rfl, rfl⟩⟩ (by simp only; omega) ?_
        set_option maxRecDepth 100000 in simp (maxSteps := 10000000) only [go_sem, Nat.reduceAdd, Nat.reduceSub, Nat.reduceMul, Nat.reduceLT, Nat.reduceLeDiff, Nat.reduceEqDiff, Nat.reduceMod, Nat.reduceDiv, Int.reduceNeg, Int.reduceLE, Int.reduceLT, Int.reduceToNat, Int.reduceEq, Int.reduceNe, ↓reduceIte,  hw, accG_gt hlt (show p < j by omega), enc_snoc]
    have hjn : j = (nth s.objects i.toNat).grants.length := by omega
    subst hst
    have f5 := fitG hal (Nat.le_trans hj hl)
    have f1 := f5.1
    have f2 := f5.2.1
    have htk : List.take j (nth s.objects i.toNat).grants = (nth s.objects i.toNat).grants := List.take_of_length_le (Nat.le_of_eq hjn.symm)
    refine Classical.byCases (fun q : p < j => ?_) fun q => ?_
    · have hd2 := hd.resolve_right fun z => z.1 q
      have d2 := hd2.2.2
      have ha : accG (nth s.objects i.toNat).grants p ⟨u, a⟩ j = insG (nth s.objects i.toNat).grants p ⟨u, a⟩ := by rw [accG, if_pos q, htk]
      have hE2 := hE _ ha
      set_option maxRecDepth 100000 in simp (maxSteps := 10000000) only [go_sem, Nat.reduceAdd, Nat.reduceSub, Nat.reduceMul, Nat.reduceLT, Nat.reduceLeDiff, Nat.reduceEqDiff, Nat.reduceMod, Nat.reduceDiv, Int.reduceNeg, Int.reduceLE, Int.reduceLT, Int.reduceToNat, Int.reduceEq, Int.reduceNe, ↓reduceIte,  d2, Bool.not_true, hset, Option.map_some, List.set_set, hE2, hP]
      simp [addS]
    · have hd2 := hd.resolve_left fun z => q z.1
      have d2 := hd2.2.2
      have hpn : p = (nth s.objects i.toNat).grants.length := by omega
      have ha : accG (nth s.objects i.toNat).grants p ⟨u, a⟩ j ++ [⟨u, a⟩] = insG (nth s.objects i.toNat).grants p ⟨u, a⟩ := by
        rw [accG, if_neg q, htk, insG, hpn, List.take_of_length_le (Nat.le_refl _), List.drop_eq_nil_of_le (Nat.le_refl _)]
      have hE2 := hE _ ha
      rw [List.map_append] at hE2
      simp only [List.map_cons, List.map_nil, encGrant] at hE2
      set_option maxRecDepth 100000 in simp (maxSteps := 10000000) only [go_sem, Nat.reduceAdd, Nat.reduceSub, Nat.reduceMul, Nat.reduceLT, Nat.reduceLeDiff, Nat.reduceEqDiff, Nat.reduceMod, Nat.reduceDiv, Int.reduceNeg, Int.reduceLE, Int.reduceLT, Int.reduceToNat, Int.reduceEq, Int.reduceNe, ↓reduceIte,  d2, Bool.not_false, hset, Option.map_some, List.set_set, hE2, hP, f1, f2]
      simp [addS]
end Go.Proofs.Ytdmcmfdmnlckdaa.C10
