/- Chapter 8: renaming. -/
import Derived.Test.YtcmnbfpcomcejaaC19
import Derived.Test.YtcmnbfpcomcejaaP9
namespace Go.Proofs.Ytcmnbfpcomcejaa.C08
open Go Go.Proofs Go.Proofs.Ytcmnbfpcomcejaa.Ab
set_option linter.unusedSimpArgs false
attribute [local congr] ite_ctx

def renameE2 (d : Dir) (n : OName) (s : ByteArray) : Int := if ¬ errName (toN n s) = 0 then errName (toN n s) else if 0 ≤ placeIx d.objects (toN n s) then 12 else 0
def renameE (d : Dir) (n : OName) (s : ByteArray) : Int := if ¬ foundE d n 0 = 0 then foundE d n 0 else renameE2 d n s
def renameP (d : Dir) (n : OName) (s : ByteArray) : Dir := if renameE d n s = 0 then ⟨sortO (d.objects.map (renM n s)), d.next⟩ else noDir
theorem renameE2_ok {d : Dir} {n : OName} {s : ByteArray} (h : renameE2 d n s = 0) : errName (toN n s) = 0 ∧ ¬ 0 ≤ placeIx d.objects (toN n s) := by
  rw [renameE2] at h
  by_cases h1 : errName (toN n s) = 0
  · rw [if_neg (not_not_intro h1)] at h
    by_cases h2 : 0 ≤ placeIx d.objects (toN n s)
    · rw [if_pos h2] at h; cases h
    · exact ⟨h1, h2⟩
  · rw [if_pos h1] at h; exact absurd h h1
theorem renameE_ok {d : Dir} {n : OName} {s : ByteArray} (h : renameE d n s = 0) : foundE d n 0 = 0 ∧ renameE2 d n s = 0 := by
  rw [renameE] at h
  by_cases h1 : foundE d n 0 = 0
  · rw [if_neg (not_not_intro h1)] at h; exact ⟨h1, h⟩
  · rw [if_pos h1] at h; exact absurd h h1

theorem set_name (l : List Obj) (i : Nat) (n : OName) (s : ByteArray) : (List.map encObj l).set i [.str n.lib, .str s, .int .i64 n.type, .str (nth l i).owner, .int .i64 (nth l i).seg, .str (nth l i).text, .str (nth l i).content] = List.map encObj (l.set i { nth l i with name := toN n s }) := by
  rw [List.map_set]; rfl
theorem libO_t {n : OName} {s : ByteArray} {o : Obj} (h : n.type = 0) (h2 : o.name.lib = n.name) : libO n s o = { o with name := { o.name with lib := s } } := if_pos ⟨h, h2⟩
theorem libO_f {n : OName} {s : ByteArray} {o : Obj} (h : ¬ (n.type = 0 ∧ o.name.lib = n.name)) : libO n s o = o := if_neg h
theorem set_lib {n : OName} {s : ByteArray} {l : List Obj} {k : Nat} (hk : k < l.length) (h : n.type = 0) (h2 : (nth l k).name.lib = n.name) : (List.map encObj (renL n s l k)).set k [.str s, .str (nth l k).name.name, .int .i64 (nth l k).name.type, .str (nth l k).owner, .int .i64 (nth l k).seg, .str (nth l k).text, .str (nth l k).content] = List.map encObj (renL n s l (k + 1)) := by
  rw [← renL_set hk, List.map_set, libO_t h h2]; rfl

set_option maxHeartbeats 8000000 in
theorem Rename_good (d : Dir) (n : OName) (s : ByteArray) (h : d.objects.length ≤ 1000000) : Ans Try.prog 43 [.agg (encDir d), .agg (encOName n), .str s] (.tup [.agg (encDir (renameP d n s)), .int .i64 (renameE d n s)]) := by
  have r1 := found_good d n 0 (by decide) h
  refine Classical.byCases (fun h1 : foundE d n 0 = 0 => ?_) fun h1 => ?_
  case refine_2 =>
    have he : renameE d n s = foundE d n 0 := by rw [renameE, if_pos h1]
    rw [renameP, if_neg (by rw [he]; exact h1), he]
    refine Ans.le (r := .tup [.agg [.nils, .int .i64 0], .int .i64 (foundE d n 0)]) ?_ (le_noDir _) rfl
    refine good_run [(14, [13, 49, 50, 51, 52, 53, 54, 55, 56, 57, 58, 59, 60, 61, 62, 63, 64, 65, 66, 67, 68, 69, 70, 71], [])] mixed Try.func43 rfl Try.ntmps43 (rs := [.cell 6 37, .tmp 7]) rfl (by decide +kernel) (by kernel_rfl) rfl ?_
    rw [startE_eq 76 _ _ _ rfl rfl]
    set_option maxRecDepth 100000 in simp (maxSteps := 10000000) only [go_sem, Nat.reduceAdd, Nat.reduceSub, Nat.reduceMul, Nat.reduceLT, Nat.reduceLeDiff, Nat.reduceEqDiff, Nat.reduceMod, Nat.reduceDiv, Int.reduceNeg, Int.reduceLE, Int.reduceLT, Int.reduceToNat, Int.reduceEq, Int.reduceNe, ↓reduceIte]
    refine call_of (r1) ?_
    set_option maxRecDepth 100000 in simp (maxSteps := 10000000) only [go_sem, Nat.reduceAdd, Nat.reduceSub, Nat.reduceMul, Nat.reduceLT, Nat.reduceLeDiff, Nat.reduceEqDiff, Nat.reduceMod, Nat.reduceDiv, Int.reduceNeg, Int.reduceLE, Int.reduceLT, Int.reduceToNat, Int.reduceEq, Int.reduceNe, ↓reduceIte,  h1, decide_true, not_false_eq_true]
  have hE : renameE d n s = renameE2 d n s := by rw [renameE, if_neg (not_not_intro h1)]
  rw [h1] at r1
  have r2 : Ans Try.prog 17 [.agg [.str n.lib, .str s, .int .i64 n.type]] (.int .i64 (errName (toN n s))) := CheckName_good (toN n s)
  have r3 : Ans Try.prog 68 [.agg (encDir d), .agg [.str n.lib, .str s, .int .i64 n.type]] (.int .i64 (placeIx d.objects (toN n s))) := at_good d (toN n s) h
  refine Classical.byCases (fun h2 : errName (toN n s) = 0 => ?_) fun h2 => ?_
  case refine_2 =>
    have he : renameE d n s = errName (toN n s) := by rw [hE, renameE2, if_pos h2]
    rw [renameP, if_neg (by rw [he]; exact h2), he]
    refine Ans.le (r := .tup [.agg [.nils, .int .i64 0], .int .i64 (errName (toN n s))]) ?_ (le_noDir _) rfl
    refine good_run [(14, [13, 49, 50, 51, 52, 53, 54, 55, 56, 57, 58, 59, 60, 61, 62, 63, 64, 65, 66, 67, 68, 69, 70, 71], [])] mixed Try.func43 rfl Try.ntmps43 (rs := [.cell 6 37, .tmp 7]) rfl (by decide +kernel) (by kernel_rfl) rfl ?_
    rw [startE_eq 76 _ _ _ rfl rfl]
    set_option maxRecDepth 100000 in simp (maxSteps := 10000000) only [go_sem, Nat.reduceAdd, Nat.reduceSub, Nat.reduceMul, Nat.reduceLT, Nat.reduceLeDiff, Nat.reduceEqDiff, Nat.reduceMod, Nat.reduceDiv, Int.reduceNeg, Int.reduceLE, Int.reduceLT, Int.reduceToNat, Int.reduceEq, Int.reduceNe, ↓reduceIte]
    refine call_of (r1) ?_
    set_option maxRecDepth 100000 in simp (maxSteps := 10000000) only [go_sem, Nat.reduceAdd, Nat.reduceSub, Nat.reduceMul, Nat.reduceLT, Nat.reduceLeDiff, Nat.reduceEqDiff, Nat.reduceMod, Nat.reduceDiv, Int.reduceNeg, Int.reduceLE, Int.reduceLT, Int.reduceToNat, Int.reduceEq, Int.reduceNe, ↓reduceIte]
    refine call_of (r2) ?_
    set_option maxRecDepth 100000 in simp (maxSteps := 10000000) only [go_sem, Nat.reduceAdd, Nat.reduceSub, Nat.reduceMul, Nat.reduceLT, Nat.reduceLeDiff, Nat.reduceEqDiff, Nat.reduceMod, Nat.reduceDiv, Int.reduceNeg, Int.reduceLE, Int.reduceLT, Int.reduceToNat, Int.reduceEq, Int.reduceNe, ↓reduceIte,  h2, decide_true, not_false_eq_true]
  rw [h2] at r2
  refine Classical.byCases (fun h3 : 0 ≤ placeIx d.objects (toN n s) => ?_) fun h3 => ?_
  · have he : renameE d n s = 12 := by rw [hE, renameE2, if_neg (not_not_intro h2), if_pos h3]
    rw [renameP, if_neg (by rw [he]; decide), he]
    refine Ans.le (r := .tup [.agg [.nils, .int .i64 0], .int .i64 12]) ?_ (le_noDir _) rfl
    refine good_run [(14, [13, 49, 50, 51, 52, 53, 54, 55, 56, 57, 58, 59, 60, 61, 62, 63, 64, 65, 66, 67, 68, 69, 70, 71], [])] mixed Try.func43 rfl Try.ntmps43 (rs := [.cell 6 37, .tmp 7]) rfl (by decide +kernel) (by kernel_rfl) rfl ?_
    rw [startE_eq 76 _ _ _ rfl rfl]
    set_option maxRecDepth 100000 in simp (maxSteps := 10000000) only [go_sem, Nat.reduceAdd, Nat.reduceSub, Nat.reduceMul, Nat.reduceLT, Nat.reduceLeDiff, Nat.reduceEqDiff, Nat.reduceMod, Nat.reduceDiv, Int.reduceNeg, Int.reduceLE, Int.reduceLT, Int.reduceToNat, Int.reduceEq, Int.reduceNe, ↓reduceIte]
    refine call_of (r1) ?_
    set_option maxRecDepth 100000 in simp (maxSteps := 10000000) only [go_sem, Nat.reduceAdd, Nat.reduceSub, Nat.reduceMul, Nat.reduceLT, Nat.reduceLeDiff, Nat.reduceEqDiff, Nat.reduceMod, Nat.reduceDiv, Int.reduceNeg, Int.reduceLE, Int.reduceLT, Int.reduceToNat, Int.reduceEq, Int.reduceNe, ↓reduceIte]
    refine call_of (r2) ?_
    set_option maxRecDepth 100000 in simp (maxSteps := 10000000) only [go_sem, Nat.reduceAdd, Nat.reduceSub, Nat.reduceMul, Nat.reduceLT, Nat.reduceLeDiff, Nat.reduceEqDiff, Nat.reduceMod, Nat.reduceDiv, Int.reduceNeg, Int.reduceLE, Int.reduceLT, Int.reduceToNat, Int.reduceEq, Int.reduceNe, ↓reduceIte]
    refine call_of (r3) ?_
    set_option maxRecDepth 100000 in simp (maxSteps := 10000000) only [go_sem, Nat.reduceAdd, Nat.reduceSub, Nat.reduceMul, Nat.reduceLT, Nat.reduceLeDiff, Nat.reduceEqDiff, Nat.reduceMod, Nat.reduceDiv, Int.reduceNeg, Int.reduceLE, Int.reduceLT, Int.reduceToNat, Int.reduceEq, Int.reduceNe, ↓reduceIte,  h3, decide_true]
  have he : renameE d n s = 0 := by rw [hE, renameE2, if_neg (not_not_intro h2), if_neg h3]
  have hfo := (foundE_ok h1).1
  obtain ⟨i, hx, hi, hp⟩ := findP_ok hfo
  have hrow := ren_row (s := s) (findE_dir hfo) (findE_ok hfo).2.1 hx hi
  rw [renameP, if_pos he, he, ← hrow]
  rw [hp] at r1
  have hq := map_at (f := encObj) hi
  have q1 : (0 : Int) ≤ (i : Int) := by omega
  have q2 : (i : Int) < (d.objects.length : Int) := by omega
  have hset := set_name d.objects i n s
  have hlen : (d.objects.set i { nth d.objects i with name := toN n s }).length = d.objects.length := List.length_set
  generalize d.objects.set i { nth d.objects i with name := toN n s } = L at *
  refine good_run [(14, [13, 49, 50, 51, 52, 53, 54, 55, 56, 57, 58, 59, 60, 61, 62, 63, 64, 65, 66, 67, 68, 69, 70, 71], [])] mixed Try.func43 rfl Try.ntmps43 (rs := [.cell 6 37, .tmp 7]) rfl (by decide +kernel) (by kernel_rfl) rfl ?_
  rw [startE_eq 76 _ _ _ rfl rfl]
  set_option maxRecDepth 100000 in simp (maxSteps := 10000000) only [go_sem, Nat.reduceAdd, Nat.reduceSub, Nat.reduceMul, Nat.reduceLT, Nat.reduceLeDiff, Nat.reduceEqDiff, Nat.reduceMod, Nat.reduceDiv, Int.reduceNeg, Int.reduceLE, Int.reduceLT, Int.reduceToNat, Int.reduceEq, Int.reduceNe, ↓reduceIte]
  refine call_of (r1) ?_
  set_option maxRecDepth 100000 in simp (maxSteps := 10000000) only [go_sem, Nat.reduceAdd, Nat.reduceSub, Nat.reduceMul, Nat.reduceLT, Nat.reduceLeDiff, Nat.reduceEqDiff, Nat.reduceMod, Nat.reduceDiv, Int.reduceNeg, Int.reduceLE, Int.reduceLT, Int.reduceToNat, Int.reduceEq, Int.reduceNe, ↓reduceIte]
  refine call_of (r2) ?_
  set_option maxRecDepth 100000 in simp (maxSteps := 10000000) only [go_sem, Nat.reduceAdd, Nat.reduceSub, Nat.reduceMul, Nat.reduceLT, Nat.reduceLeDiff, Nat.reduceEqDiff, Nat.reduceMod, Nat.reduceDiv, Int.reduceNeg, Int.reduceLE, Int.reduceLT, Int.reduceToNat, Int.reduceEq, Int.reduceNe, ↓reduceIte]
  refine call_of (r3) ?_
  set_option maxRecDepth 100000 in simp (maxSteps := 10000000) only [go_sem, Nat.reduceAdd, Nat.reduceSub, Nat.reduceMul, Nat.reduceLT, Nat.reduceLeDiff, Nat.reduceEqDiff, Nat.reduceMod, Nat.reduceDiv, Int.reduceNeg, Int.reduceLE, Int.reduceLT, Int.reduceToNat, Int.reduceEq, Int.reduceNe, ↓reduceIte,  h3, decide_false]
  refine callM_of [] [45] (CloneM d.objects h) ⟨rfl, rfl, rfl, by simp, by simp, by simp, by simp, rfl, rfl, rfl, onodup_of (l := [7]) rfl (by decide)⟩ ?_
  set_option maxRecDepth 100000 in simp (maxSteps := 10000000) only [go_sem, Nat.reduceAdd, Nat.reduceSub, Nat.reduceMul, Nat.reduceLT, Nat.reduceLeDiff, Nat.reduceEqDiff, Nat.reduceMod, Nat.reduceDiv, Int.reduceNeg, Int.reduceLE, Int.reduceLT, Int.reduceToNat, Int.reduceEq, Int.reduceNe, ↓reduceIte,  hq, hi, q1, q2, Option.map_some, Int.toNat_natCast, List.length_map, hset, hlen]
  refine loop_by ([13, 49, 50, 51, 52, 53, 54, 55, 56, 57, 58, 59, 60, 61, 62, 63, 64, 65, 66, 67, 68, 69, 70, 71], []) (fun k : Nat => [(.s 48, .int .i64 (k : Int)), (.o 45, .obj 1 25 7 false true ((renL n s L k).map encObj))]) (fun k => d.objects.length - k) (fun k => k ≤ d.objects.length) 0 rfl (Nat.zero_le _) ?_ ?_
  · set_option maxRecDepth 100000 in simp (maxSteps := 10000000) only [go_sem, Nat.reduceAdd, Nat.reduceSub, Nat.reduceMul, Nat.reduceLT, Nat.reduceLeDiff, Nat.reduceEqDiff, Nat.reduceMod, Nat.reduceDiv, Int.reduceNeg, Int.reduceLE, Int.reduceLT, Int.reduceToNat, Int.reduceEq, Int.reduceNe, ↓reduceIte,  renL_zero]
  rintro c' st' hst k hk ih
  set_option maxRecDepth 100000 in simp (maxSteps := 10000000) only [go_sem, Nat.reduceAdd, Nat.reduceSub, Nat.reduceMul, Nat.reduceLT, Nat.reduceLeDiff, Nat.reduceEqDiff, Nat.reduceMod, Nat.reduceDiv, Int.reduceNeg, Int.reduceLE, Int.reduceLT, Int.reduceToNat, Int.reduceEq, Int.reduceNe, ↓reduceIte]
  refine ifI (fun hlt => ?_) fun hlt => ?_
  · have hkl : k < L.length := by omega
    have hq : (List.map encObj (renL n s L k))[k]? = some (encObj (nth L k)) := by rw [List.getElem?_map, renL_get hkl]; rfl
    have hll := renL_len n s L k
    have w1 : (0 : Int) ≤ (k : Int) := by omega
    refine Classical.byCases (fun ht : n.type = 0 => ?_) fun ht => ?_
    · refine Classical.byCases (fun hl : (nth L k).name.lib = n.name => ?_) fun hl => ?_
      · have hs2 := set_lib (s := s) hkl ht hl
        set_option maxRecDepth 100000 in simp (maxSteps := 10000000) only [go_sem, Nat.reduceAdd, Nat.reduceSub, Nat.reduceMul, Nat.reduceLT, Nat.reduceLeDiff, Nat.reduceEqDiff, Nat.reduceMod, Nat.reduceDiv, Int.reduceNeg, Int.reduceLE, Int.reduceLT, Int.reduceToNat, Int.reduceEq, Int.reduceNe, ↓reduceIte,  hlt, ht, hq, hl, hs2, w1, hlen, hll, hkl, List.length_map, Int.toNat_natCast, Option.map_some]
        refine ⟨by decide +kernel, ?_⟩
        refine ih (k + 1) _ (by omega) (by omega) ?_
        set_option maxRecDepth 100000 in simp (maxSteps := 10000000) only [go_sem, Nat.reduceAdd, Nat.reduceSub, Nat.reduceMul, Nat.reduceLT, Nat.reduceLeDiff, Nat.reduceEqDiff, Nat.reduceMod, Nat.reduceDiv, Int.reduceNeg, Int.reduceLE, Int.reduceLT, Int.reduceToNat, Int.reduceEq, Int.reduceNe, ↓reduceIte,  ht, wrap_succ (show k < 9223372036854775807 by omega)]
      · have hsm := renL_same (s := s) hkl (libO_f (n := n) (s := s) (fun q => hl q.2))
        set_option maxRecDepth 100000 in simp (maxSteps := 10000000) only [go_sem, Nat.reduceAdd, Nat.reduceSub, Nat.reduceMul, Nat.reduceLT, Nat.reduceLeDiff, Nat.reduceEqDiff, Nat.reduceMod, Nat.reduceDiv, Int.reduceNeg, Int.reduceLE, Int.reduceLT, Int.reduceToNat, Int.reduceEq, Int.reduceNe, ↓reduceIte,  hlt, ht, hq, hl, w1, hlen, hll, hkl, List.length_map, Int.toNat_natCast, Option.map_some]
        refine ⟨by decide +kernel, ?_⟩
        refine ih (k + 1) _ (by omega) (by omega) ?_
        set_option maxRecDepth 100000 in simp (maxSteps := 10000000) only [go_sem, Nat.reduceAdd, Nat.reduceSub, Nat.reduceMul, Nat.reduceLT, Nat.reduceLeDiff, Nat.reduceEqDiff, Nat.reduceMod, Nat.reduceDiv, Int.reduceNeg, Int.reduceLE, Int.reduceLT, Int.reduceToNat, Int.reduceEq, Int.reduceNe, ↓reduceIte,  ht, hsm, wrap_succ (show k < 9223372036854775807 by omega)]
    · have hsm := renL_same (s := s) hkl (libO_f (n := n) (s := s) (fun q => ht q.1))
      set_option maxRecDepth 100000 in simp (maxSteps := 10000000) only [go_sem, Nat.reduceAdd, Nat.reduceSub, Nat.reduceMul, Nat.reduceLT, Nat.reduceLeDiff, Nat.reduceEqDiff, Nat.reduceMod, Nat.reduceDiv, Int.reduceNeg, Int.reduceLE, Int.reduceLT, Int.reduceToNat, Int.reduceEq, Int.reduceNe, ↓reduceIte,  hlt, ht, w1, hlen, hll, hkl, List.length_map, Int.toNat_natCast, Option.map_some]
      refine ⟨by decide +kernel, ?_⟩
      refine ih (k + 1) _ (by omega) (by omega) ?_
      set_option maxRecDepth 100000 in simp (maxSteps := 10000000) only [go_sem, Nat.reduceAdd, Nat.reduceSub, Nat.reduceMul, Nat.reduceLT, Nat.reduceLeDiff, Nat.reduceEqDiff, Nat.reduceMod, Nat.reduceDiv, Int.reduceNeg, Int.reduceLE, Int.reduceLT, Int.reduceToNat, Int.reduceEq, Int.reduceNe, ↓reduceIte,  hsm, wrap_succ (show k < 9223372036854775807 by omega)]
  · have hke : k = L.length := by omega
    subst hst
    have hmp : 0 < (List.map (libO n s) L).length := by rw [List.length_map, hlen]; omega
    have hmp2 : (List.map (libO n s) L).length ≤ 1000000 := by rw [List.length_map, hlen]; exact h
    set_option maxRecDepth 100000 in simp (maxSteps := 10000000) only [go_sem, Nat.reduceAdd, Nat.reduceSub, Nat.reduceMul, Nat.reduceLT, Nat.reduceLeDiff, Nat.reduceEqDiff, Nat.reduceMod, Nat.reduceDiv, Int.reduceNeg, Int.reduceLE, Int.reduceLT, Int.reduceToNat, Int.reduceEq, Int.reduceNe, ↓reduceIte,  hke, renL_all]
    refine callM_of [45] [45] (sortedM (List.map (libO n s) L) d.next hmp hmp2) ⟨by simp [renA, ren1, invM, posOf, verOf, AV.cellP, Env.go], rfl, rfl, by simp, by simp, by simp, by simp, rfl, rfl, rfl, onodup_of (l := [10]) rfl (by decide)⟩ ?_
    set_option maxRecDepth 100000 in simp (maxSteps := 10000000) only [go_sem, Nat.reduceAdd, Nat.reduceSub, Nat.reduceMul, Nat.reduceLT, Nat.reduceLeDiff, Nat.reduceEqDiff, Nat.reduceMod, Nat.reduceDiv, Int.reduceNeg, Int.reduceLE, Int.reduceLT, Int.reduceToNat, Int.reduceEq, Int.reduceNe, ↓reduceIte]
end Go.Proofs.Ytcmnbfpcomcejaa.C08
