/- Chapter 8: what a permitted operation finds; contents. -/
import Derived.Test.YtcmnbfpcomcejaaC17
namespace Go.Proofs.Ytcmnbfpcomcejaa.C08
open Go Go.Proofs Go.Proofs.Ytcmnbfpcomcejaa.Ab
set_option linter.unusedSimpArgs false
attribute [local congr] ite_ctx

theorem errName_type {n : OName} (h : errName n = 0) : ∃ t : Nat, t < 30 ∧ n.type = (t : Int) := by
  rw [errName] at h
  split at h
  · cases h
  · rename_i q
    have : inB n.type 0 29 = true := by simpa using q
    rw [inB, decide_eq_true_eq] at this
    exact ⟨n.type.toNat, by omega, by omega⟩

def foundE (d : Dir) (n : OName) (k : Nat) : Int := if ¬ findE d n = 0 then findE d n else if permR n.type.toNat k = false then 39 else 0
set_option maxHeartbeats 4000000 in
theorem found_good (d : Dir) (n : OName) (k : Nat) (hk : k < 9) (h : d.objects.length ≤ 1000000) : Ans Try.prog 86 [.agg (encDir d), .agg (encOName n), .int .i64 (k : Int)] (.tup [.int .i64 (findP d n), .int .i64 (foundE d n k)]) := by
  have r1 := Find_good d n h
  refine Classical.byCases (fun h1 : findE d n = 0 => ?_) fun h1 => ?_
  · obtain ⟨t, ht, htt⟩ := errName_type (findE_ok h1).2.1
    have hp := permits_good t k ht hk
    refine Classical.byCases (fun h2 : permR t k = true => ?_) fun h2 => ?_
    · have he : foundE d n k = 0 := by rw [foundE, if_neg (not_not_intro h1), htt, Int.toNat_natCast, if_neg (by rw [h2]; decide)]
      rw [h1] at r1
      rw [h2] at hp
      rw [he]
      refine good_run [] mixed Try.func86 rfl Try.ntmps86 (rs := [.tmp 6, .tmp 7]) rfl (by decide +kernel) (by kernel_rfl) rfl ?_
      rw [startE_eq 27 _ _ _ rfl rfl]
      set_option maxRecDepth 100000 in simp (maxSteps := 10000000) only [go_sem, Nat.reduceAdd, Nat.reduceSub, Nat.reduceMul, Nat.reduceLT, Nat.reduceLeDiff, Nat.reduceEqDiff, Nat.reduceMod, Nat.reduceDiv, Int.reduceNeg, Int.reduceLE, Int.reduceLT, Int.reduceToNat, Int.reduceEq, Int.reduceNe, ↓reduceIte]
      refine call_of (r1) ?_
      set_option maxRecDepth 100000 in simp (maxSteps := 10000000) only [go_sem, Nat.reduceAdd, Nat.reduceSub, Nat.reduceMul, Nat.reduceLT, Nat.reduceLeDiff, Nat.reduceEqDiff, Nat.reduceMod, Nat.reduceDiv, Int.reduceNeg, Int.reduceLE, Int.reduceLT, Int.reduceToNat, Int.reduceEq, Int.reduceNe, ↓reduceIte]
      set_option maxRecDepth 100000 in simp (maxSteps := 10000000) only [go_sem, Nat.reduceAdd, Nat.reduceSub, Nat.reduceMul, Nat.reduceLT, Nat.reduceLeDiff, Nat.reduceEqDiff, Nat.reduceMod, Nat.reduceDiv, Int.reduceNeg, Int.reduceLE, Int.reduceLT, Int.reduceToNat, Int.reduceEq, Int.reduceNe, ↓reduceIte,  htt]
      refine call_of (hp) ?_
      set_option maxRecDepth 100000 in simp (maxSteps := 10000000) only [go_sem, Nat.reduceAdd, Nat.reduceSub, Nat.reduceMul, Nat.reduceLT, Nat.reduceLeDiff, Nat.reduceEqDiff, Nat.reduceMod, Nat.reduceDiv, Int.reduceNeg, Int.reduceLE, Int.reduceLT, Int.reduceToNat, Int.reduceEq, Int.reduceNe, ↓reduceIte,  Bool.not_true]
    · have h2' := Bool.eq_false_iff.2 h2
      have he : foundE d n k = 39 := by rw [foundE, if_neg (not_not_intro h1), htt, Int.toNat_natCast, if_pos h2']
      rw [h1] at r1
      rw [h2'] at hp
      rw [he]
      refine good_run [] mixed Try.func86 rfl Try.ntmps86 (rs := [.tmp 6, .tmp 7]) rfl (by decide +kernel) (by kernel_rfl) rfl ?_
      rw [startE_eq 27 _ _ _ rfl rfl]
      set_option maxRecDepth 100000 in simp (maxSteps := 10000000) only [go_sem, Nat.reduceAdd, Nat.reduceSub, Nat.reduceMul, Nat.reduceLT, Nat.reduceLeDiff, Nat.reduceEqDiff, Nat.reduceMod, Nat.reduceDiv, Int.reduceNeg, Int.reduceLE, Int.reduceLT, Int.reduceToNat, Int.reduceEq, Int.reduceNe, ↓reduceIte]
      refine call_of (r1) ?_
      set_option maxRecDepth 100000 in simp (maxSteps := 10000000) only [go_sem, Nat.reduceAdd, Nat.reduceSub, Nat.reduceMul, Nat.reduceLT, Nat.reduceLeDiff, Nat.reduceEqDiff, Nat.reduceMod, Nat.reduceDiv, Int.reduceNeg, Int.reduceLE, Int.reduceLT, Int.reduceToNat, Int.reduceEq, Int.reduceNe, ↓reduceIte]
      set_option maxRecDepth 100000 in simp (maxSteps := 10000000) only [go_sem, Nat.reduceAdd, Nat.reduceSub, Nat.reduceMul, Nat.reduceLT, Nat.reduceLeDiff, Nat.reduceEqDiff, Nat.reduceMod, Nat.reduceDiv, Int.reduceNeg, Int.reduceLE, Int.reduceLT, Int.reduceToNat, Int.reduceEq, Int.reduceNe, ↓reduceIte,  htt]
      refine call_of (hp) ?_
      set_option maxRecDepth 100000 in simp (maxSteps := 10000000) only [go_sem, Nat.reduceAdd, Nat.reduceSub, Nat.reduceMul, Nat.reduceLT, Nat.reduceLeDiff, Nat.reduceEqDiff, Nat.reduceMod, Nat.reduceDiv, Int.reduceNeg, Int.reduceLE, Int.reduceLT, Int.reduceToNat, Int.reduceEq, Int.reduceNe, ↓reduceIte,  Bool.not_false]
  · have he : foundE d n k = findE d n := by rw [foundE, if_pos h1]
    rw [he]
    refine good_run [] mixed Try.func86 rfl Try.ntmps86 (rs := [.tmp 6, .tmp 7]) rfl (by decide +kernel) (by kernel_rfl) rfl ?_
    rw [startE_eq 27 _ _ _ rfl rfl]
    set_option maxRecDepth 100000 in simp (maxSteps := 10000000) only [go_sem, Nat.reduceAdd, Nat.reduceSub, Nat.reduceMul, Nat.reduceLT, Nat.reduceLeDiff, Nat.reduceEqDiff, Nat.reduceMod, Nat.reduceDiv, Int.reduceNeg, Int.reduceLE, Int.reduceLT, Int.reduceToNat, Int.reduceEq, Int.reduceNe, ↓reduceIte]
    refine call_of (r1) ?_
    set_option maxRecDepth 100000 in simp (maxSteps := 10000000) only [go_sem, Nat.reduceAdd, Nat.reduceSub, Nat.reduceMul, Nat.reduceLT, Nat.reduceLeDiff, Nat.reduceEqDiff, Nat.reduceMod, Nat.reduceDiv, Int.reduceNeg, Int.reduceLE, Int.reduceLT, Int.reduceToNat, Int.reduceEq, Int.reduceNe, ↓reduceIte,  h1, decide_false]

def setC (l : List Obj) (i : Nat) (s : ByteArray) : List Obj := l.set i { nth l i with content := s }
theorem map_at {α : Type} [Inhabited α] {f : α → List AV} {l : List α} {i : Nat} (h : i < l.length) : (l.map f)[i]? = some (f (nth l i)) := by
  rw [List.getElem?_map, List.getElem?_eq_getElem h, nth_eq h]; rfl
theorem setC_enc (l : List Obj) (i : Nat) (s : ByteArray) : (List.map encObj l).set i [.str (nth l i).name.lib, .str (nth l i).name.name, .int .i64 (nth l i).name.type, .str (nth l i).owner, .int .i64 (nth l i).seg, .str (nth l i).text, .str s] = List.map encObj (setC l i s) := by
  rw [setC, List.map_set]; rfl

set_option maxHeartbeats 4000000 in
theorem contented_good (d : Dir) (i : Nat) (s : ByteArray) (h : d.objects.length ≤ 1000000) (hi : i < d.objects.length) : Ans Try.prog 87 [.agg (encDir d), .int .i64 (i : Int), .str s] (.agg (encDir ⟨setC d.objects i s, d.next⟩)) := by
  have hq := map_at (f := encObj) hi
  have q1 : (0 : Int) ≤ (i : Int) := by omega
  have q2 : (i : Int) < (d.objects.length : Int) := by omega
  have hE := setC_enc d.objects i s
  refine good_run [] mixed Try.func87 rfl Try.ntmps87 (rs := [.cell 6 37]) rfl (by decide +kernel) (by kernel_rfl) rfl ?_
  rw [startE_eq 20 _ _ _ rfl rfl]
  set_option maxRecDepth 100000 in simp (maxSteps := 10000000) only [go_sem, Nat.reduceAdd, Nat.reduceSub, Nat.reduceMul, Nat.reduceLT, Nat.reduceLeDiff, Nat.reduceEqDiff, Nat.reduceMod, Nat.reduceDiv, Int.reduceNeg, Int.reduceLE, Int.reduceLT, Int.reduceToNat, Int.reduceEq, Int.reduceNe, ↓reduceIte]
  refine callM_of [] [8] (CloneM d.objects h) ⟨rfl, rfl, rfl, by simp, by simp, by simp, by simp, rfl, rfl, rfl, onodup_of (l := [7]) rfl (by decide)⟩ ?_
  set_option maxRecDepth 100000 in simp (maxSteps := 10000000) only [go_sem, Nat.reduceAdd, Nat.reduceSub, Nat.reduceMul, Nat.reduceLT, Nat.reduceLeDiff, Nat.reduceEqDiff, Nat.reduceMod, Nat.reduceDiv, Int.reduceNeg, Int.reduceLE, Int.reduceLT, Int.reduceToNat, Int.reduceEq, Int.reduceNe, ↓reduceIte,  hq, hi, q1, q2, Option.map_some, Int.toNat_natCast, List.length_map, hE]
  done

theorem OwnM (d : Dir) (h0 : 0 < d.objects.length) (h : d.objects.length ≤ 1000000) : AnsM Try.prog 23 9 [] [.agg (encDir d)] (.agg [.ref 5 1, .int .i64 d.next]) [(5, .obj 1 25 7 false true (d.objects.map encObj))] := by
  have hz : ¬ d.objects.length = 0 := by omega
  refine goodM_run [] mixed Try.func23 rfl Try.ntmps23 (rs := [.cell 2 37]) rfl (by decide +kernel) (by kernel_rfl) ?_
  rw [startM_eq 9 _ _ _ _ rfl rfl]
  set_option maxRecDepth 100000 in simp (maxSteps := 10000000) only [go_sem, Nat.reduceAdd, Nat.reduceSub, Nat.reduceMul, Nat.reduceLT, Nat.reduceLeDiff, Nat.reduceEqDiff, Nat.reduceMod, Nat.reduceDiv, Int.reduceNeg, Int.reduceLE, Int.reduceLT, Int.reduceToNat, Int.reduceEq, Int.reduceNe, ↓reduceIte,  List.length_map, h0, hz, show (d.objects.length) * 96 ≤ 140737488355328 by omega, show d.objects.length ≤ maxLen by unfold maxLen; omega]
  refine ⟨by decide +kernel, ?_⟩
  simp

set_option maxHeartbeats 4000000 in
theorem Changed_good (d : Dir) (n : OName) (i : Nat) (s : ByteArray) (h : d.objects.length ≤ 1000000) (hi : i < d.objects.length) (hx : placeIx d.objects n = (i : Int)) : Ans Try.prog 79 [.agg (encDir d), .agg (encOName n), .str s] (.agg (encDir ⟨setC d.objects i s, d.next⟩)) := by
  have hq := map_at (f := encObj) hi
  have q1 : (0 : Int) ≤ (i : Int) := by omega
  have q2 : (i : Int) < (d.objects.length : Int) := by omega
  have hE := setC_enc d.objects i s
  have hp := Place_good d n h
  rw [hx] at hp
  refine good_run [] mixed Try.func79 rfl Try.ntmps79 (rs := [.cell 6 37]) rfl (by decide +kernel) (by kernel_rfl) rfl ?_
  rw [startE_eq 19 _ _ _ rfl rfl]
  set_option maxRecDepth 100000 in simp (maxSteps := 10000000) only [go_sem, Nat.reduceAdd, Nat.reduceSub, Nat.reduceMul, Nat.reduceLT, Nat.reduceLeDiff, Nat.reduceEqDiff, Nat.reduceMod, Nat.reduceDiv, Int.reduceNeg, Int.reduceLE, Int.reduceLT, Int.reduceToNat, Int.reduceEq, Int.reduceNe, ↓reduceIte]
  refine callM_of [] [9] (OwnM d (by omega) h) ⟨rfl, rfl, rfl, by simp, by simp, by simp, by simp, rfl, rfl, rfl, onodup_of (l := [5]) rfl (by decide)⟩ ?_
  set_option maxRecDepth 100000 in simp (maxSteps := 10000000) only [go_sem, Nat.reduceAdd, Nat.reduceSub, Nat.reduceMul, Nat.reduceLT, Nat.reduceLeDiff, Nat.reduceEqDiff, Nat.reduceMod, Nat.reduceDiv, Int.reduceNeg, Int.reduceLE, Int.reduceLT, Int.reduceToNat, Int.reduceEq, Int.reduceNe, ↓reduceIte]
  refine callD_of (hp) ?_
  set_option maxRecDepth 100000 in simp (maxSteps := 10000000) only [go_sem, Nat.reduceAdd, Nat.reduceSub, Nat.reduceMul, Nat.reduceLT, Nat.reduceLeDiff, Nat.reduceEqDiff, Nat.reduceMod, Nat.reduceDiv, Int.reduceNeg, Int.reduceLE, Int.reduceLT, Int.reduceToNat, Int.reduceEq, Int.reduceNe, ↓reduceIte,  hq, hi, q1, q2, Option.map_some, Int.toNat_natCast, List.length_map, hE]
  decide +kernel

theorem ChangeErr_good (n : OName) (t : Nat) (ht : t < 30) (htt : n.type = (t : Int)) (s : ByteArray) : Ans Try.prog 78 [.agg (encOName n), .str s] (.int .i64 (if permR t 5 = false then 39 else if 120 < s.size then 2 else 0)) := by
  have hp := Permits_good t 5 ht (by decide)
  refine Classical.byCases (fun h2 : permR t 5 = true => ?_) fun h2 => ?_
  · rw [if_neg (by rw [h2]; decide)]
    rw [h2] at hp
    refine good_run [] mixed Try.func78 rfl Try.ntmps78 (rs := [.tmp 4]) rfl (by decide +kernel) (by kernel_rfl) rfl ?_
    rw [startE_eq 12 _ _ _ rfl rfl]
    set_option maxRecDepth 100000 in simp (maxSteps := 10000000) only [go_sem, Nat.reduceAdd, Nat.reduceSub, Nat.reduceMul, Nat.reduceLT, Nat.reduceLeDiff, Nat.reduceEqDiff, Nat.reduceMod, Nat.reduceDiv, Int.reduceNeg, Int.reduceLE, Int.reduceLT, Int.reduceToNat, Int.reduceEq, Int.reduceNe, ↓reduceIte,  htt]
    refine call_of (hp) ?_
    set_option maxRecDepth 100000 in simp (maxSteps := 10000000) only [go_sem, Nat.reduceAdd, Nat.reduceSub, Nat.reduceMul, Nat.reduceLT, Nat.reduceLeDiff, Nat.reduceEqDiff, Nat.reduceMod, Nat.reduceDiv, Int.reduceNeg, Int.reduceLE, Int.reduceLT, Int.reduceToNat, Int.reduceEq, Int.reduceNe, ↓reduceIte,  Bool.not_true]
    refine ifI (fun h3 => ?_) fun h3 => ?_
    · set_option maxRecDepth 100000 in simp (maxSteps := 10000000) only [go_sem, Nat.reduceAdd, Nat.reduceSub, Nat.reduceMul, Nat.reduceLT, Nat.reduceLeDiff, Nat.reduceEqDiff, Nat.reduceMod, Nat.reduceDiv, Int.reduceNeg, Int.reduceLE, Int.reduceLT, Int.reduceToNat, Int.reduceEq, Int.reduceNe, ↓reduceIte]
      rw [if_pos (by omega)]
    · set_option maxRecDepth 100000 in simp (maxSteps := 10000000) only [go_sem, Nat.reduceAdd, Nat.reduceSub, Nat.reduceMul, Nat.reduceLT, Nat.reduceLeDiff, Nat.reduceEqDiff, Nat.reduceMod, Nat.reduceDiv, Int.reduceNeg, Int.reduceLE, Int.reduceLT, Int.reduceToNat, Int.reduceEq, Int.reduceNe, ↓reduceIte]
      rw [if_neg (by omega)]
  · have h2' := Bool.eq_false_iff.2 h2
    rw [if_pos h2']
    rw [h2'] at hp
    refine good_run [] mixed Try.func78 rfl Try.ntmps78 (rs := [.tmp 4]) rfl (by decide +kernel) (by kernel_rfl) rfl ?_
    rw [startE_eq 12 _ _ _ rfl rfl]
    set_option maxRecDepth 100000 in simp (maxSteps := 10000000) only [go_sem, Nat.reduceAdd, Nat.reduceSub, Nat.reduceMul, Nat.reduceLT, Nat.reduceLeDiff, Nat.reduceEqDiff, Nat.reduceMod, Nat.reduceDiv, Int.reduceNeg, Int.reduceLE, Int.reduceLT, Int.reduceToNat, Int.reduceEq, Int.reduceNe, ↓reduceIte,  htt]
    refine call_of (hp) ?_
    set_option maxRecDepth 100000 in simp (maxSteps := 10000000) only [go_sem, Nat.reduceAdd, Nat.reduceSub, Nat.reduceMul, Nat.reduceLT, Nat.reduceLeDiff, Nat.reduceEqDiff, Nat.reduceMod, Nat.reduceDiv, Int.reduceNeg, Int.reduceLE, Int.reduceLT, Int.reduceToNat, Int.reduceEq, Int.reduceNe, ↓reduceIte,  Bool.not_false]

/-- The changed, the cleared directory; a content. -/
def changeE (d : Dir) (n : OName) (s : ByteArray) : Int := if ¬ foundE d n 5 = 0 then foundE d n 5 else if 120 < s.size then 2 else 0
def changeP (d : Dir) (n : OName) (s : ByteArray) : Dir := if changeE d n s = 0 then ⟨setC d.objects (placeIx d.objects n).toNat s, d.next⟩ else noDir
def clearP (d : Dir) (n : OName) : Dir := if foundE d n 7 = 0 then ⟨setC d.objects (placeIx d.objects n).toNat ⟨#[]⟩, d.next⟩ else noDir
def contentP (d : Dir) (n : OName) : ByteArray := if foundE d n 4 = 0 then (nth d.objects (placeIx d.objects n).toNat).content else ⟨#[]⟩
theorem foundE_ok {d : Dir} {n : OName} {k : Nat} (h : foundE d n k = 0) : findE d n = 0 ∧ permR n.type.toNat k = true := by
  rw [foundE] at h
  by_cases h1 : findE d n = 0
  · rw [if_neg (not_not_intro h1)] at h
    refine ⟨h1, ?_⟩
    by_cases h2 : permR n.type.toNat k = false
    · rw [if_pos h2] at h; cases h
    · simpa using h2
  · rw [if_pos h1] at h; exact absurd h h1
theorem findP_ok {d : Dir} {n : OName} (h : findE d n = 0) : ∃ i : Nat, placeIx d.objects n = (i : Int) ∧ i < d.objects.length ∧ findP d n = (i : Int) := by
  have hk := findE_ok h
  exact ⟨(placeIx d.objects n).toNat, by omega, by omega, by rw [findP, if_pos h]; omega⟩

set_option maxHeartbeats 4000000 in
theorem Change_good (d : Dir) (n : OName) (s : ByteArray) (h : d.objects.length ≤ 1000000) : Ans Try.prog 44 [.agg (encDir d), .agg (encOName n), .str s] (.tup [.agg (encDir (changeP d n s)), .int .i64 (changeE d n s)]) := by
  have r1 := found_good d n 5 (by decide) h
  refine Classical.byCases (fun h1 : foundE d n 5 = 0 => ?_) fun h1 => ?_
  case refine_2 =>
    have he : changeE d n s = foundE d n 5 := by rw [changeE, if_pos h1]
    rw [changeP, if_neg (by rw [he]; exact h1), he]
    refine Ans.le (r := .tup [.agg [.nils, .int .i64 0], .int .i64 (foundE d n 5)]) ?_ (le_noDir _) rfl
    refine good_run [] mixed Try.func44 rfl Try.ntmps44 (rs := [.cell 6 37, .tmp 7]) rfl (by decide +kernel) (by kernel_rfl) rfl ?_
    rw [startE_eq 31 _ _ _ rfl rfl]
    set_option maxRecDepth 100000 in simp (maxSteps := 10000000) only [go_sem, Nat.reduceAdd, Nat.reduceSub, Nat.reduceMul, Nat.reduceLT, Nat.reduceLeDiff, Nat.reduceEqDiff, Nat.reduceMod, Nat.reduceDiv, Int.reduceNeg, Int.reduceLE, Int.reduceLT, Int.reduceToNat, Int.reduceEq, Int.reduceNe, ↓reduceIte]
    refine call_of (r1) ?_
    set_option maxRecDepth 100000 in simp (maxSteps := 10000000) only [go_sem, Nat.reduceAdd, Nat.reduceSub, Nat.reduceMul, Nat.reduceLT, Nat.reduceLeDiff, Nat.reduceEqDiff, Nat.reduceMod, Nat.reduceDiv, Int.reduceNeg, Int.reduceLE, Int.reduceLT, Int.reduceToNat, Int.reduceEq, Int.reduceNe, ↓reduceIte,  h1, decide_false, decide_true, not_false_eq_true]
  rw [h1] at r1
  refine Classical.byCases (fun h2 : 120 < s.size => ?_) fun h2 => ?_
  · have he : changeE d n s = 2 := by rw [changeE, if_neg (not_not_intro h1), if_pos h2]
    rw [changeP, if_neg (by rw [he]; decide), he]
    refine Ans.le (r := .tup [.agg [.nils, .int .i64 0], .int .i64 2]) ?_ (le_noDir _) rfl
    refine good_run [] mixed Try.func44 rfl Try.ntmps44 (rs := [.cell 6 37, .tmp 7]) rfl (by decide +kernel) (by kernel_rfl) rfl ?_
    rw [startE_eq 31 _ _ _ rfl rfl]
    set_option maxRecDepth 100000 in simp (maxSteps := 10000000) only [go_sem, Nat.reduceAdd, Nat.reduceSub, Nat.reduceMul, Nat.reduceLT, Nat.reduceLeDiff, Nat.reduceEqDiff, Nat.reduceMod, Nat.reduceDiv, Int.reduceNeg, Int.reduceLE, Int.reduceLT, Int.reduceToNat, Int.reduceEq, Int.reduceNe, ↓reduceIte]
    refine call_of (r1) ?_
    set_option maxRecDepth 100000 in simp (maxSteps := 10000000) only [go_sem, Nat.reduceAdd, Nat.reduceSub, Nat.reduceMul, Nat.reduceLT, Nat.reduceLeDiff, Nat.reduceEqDiff, Nat.reduceMod, Nat.reduceDiv, Int.reduceNeg, Int.reduceLE, Int.reduceLT, Int.reduceToNat, Int.reduceEq, Int.reduceNe, ↓reduceIte,  show (120 : Int) < (s.size : Int) by omega, decide_false, decide_true, not_false_eq_true]
  have he : changeE d n s = 0 := by rw [changeE, if_neg (not_not_intro h1), if_neg h2]
  obtain ⟨i, hx, hi, hp⟩ := findP_ok (foundE_ok h1).1
  rw [changeP, if_pos he, he, hx, Int.toNat_natCast]
  rw [hp] at r1
  refine good_run [] mixed Try.func44 rfl Try.ntmps44 (rs := [.cell 6 37, .tmp 7]) rfl (by decide +kernel) (by kernel_rfl) rfl ?_
  rw [startE_eq 31 _ _ _ rfl rfl]
  set_option maxRecDepth 100000 in simp (maxSteps := 10000000) only [go_sem, Nat.reduceAdd, Nat.reduceSub, Nat.reduceMul, Nat.reduceLT, Nat.reduceLeDiff, Nat.reduceEqDiff, Nat.reduceMod, Nat.reduceDiv, Int.reduceNeg, Int.reduceLE, Int.reduceLT, Int.reduceToNat, Int.reduceEq, Int.reduceNe, ↓reduceIte]
  refine call_of (r1) ?_
  set_option maxRecDepth 100000 in simp (maxSteps := 10000000) only [go_sem, Nat.reduceAdd, Nat.reduceSub, Nat.reduceMul, Nat.reduceLT, Nat.reduceLeDiff, Nat.reduceEqDiff, Nat.reduceMod, Nat.reduceDiv, Int.reduceNeg, Int.reduceLE, Int.reduceLT, Int.reduceToNat, Int.reduceEq, Int.reduceNe, ↓reduceIte,  show ¬ (120 : Int) < (s.size : Int) by omega, decide_false, decide_true, not_false_eq_true]
  refine call_of (contented_good d i s h hi) ?_
  set_option maxRecDepth 100000 in simp (maxSteps := 10000000) only [go_sem, Nat.reduceAdd, Nat.reduceSub, Nat.reduceMul, Nat.reduceLT, Nat.reduceLeDiff, Nat.reduceEqDiff, Nat.reduceMod, Nat.reduceDiv, Int.reduceNeg, Int.reduceLE, Int.reduceLT, Int.reduceToNat, Int.reduceEq, Int.reduceNe, ↓reduceIte]

set_option maxHeartbeats 4000000 in
theorem Clear_good (d : Dir) (n : OName) (h : d.objects.length ≤ 1000000) : Ans Try.prog 45 [.agg (encDir d), .agg (encOName n)] (.tup [.agg (encDir (clearP d n)), .int .i64 (foundE d n 7)]) := by
  have r1 := found_good d n 7 (by decide) h
  refine Classical.byCases (fun h1 : foundE d n 7 = 0 => ?_) fun h1 => ?_
  case refine_2 =>
    rw [clearP, if_neg h1]
    refine Ans.le (r := .tup [.agg [.nils, .int .i64 0], .int .i64 (foundE d n 7)]) ?_ (le_noDir _) rfl
    refine good_run [] mixed Try.func45 rfl Try.ntmps45 (rs := [.cell 4 37, .tmp 5]) rfl (by decide +kernel) (by kernel_rfl) rfl ?_
    rw [startE_eq 21 _ _ _ rfl rfl]
    set_option maxRecDepth 100000 in simp (maxSteps := 10000000) only [go_sem, Nat.reduceAdd, Nat.reduceSub, Nat.reduceMul, Nat.reduceLT, Nat.reduceLeDiff, Nat.reduceEqDiff, Nat.reduceMod, Nat.reduceDiv, Int.reduceNeg, Int.reduceLE, Int.reduceLT, Int.reduceToNat, Int.reduceEq, Int.reduceNe, ↓reduceIte]
    refine call_of (r1) ?_
    set_option maxRecDepth 100000 in simp (maxSteps := 10000000) only [go_sem, Nat.reduceAdd, Nat.reduceSub, Nat.reduceMul, Nat.reduceLT, Nat.reduceLeDiff, Nat.reduceEqDiff, Nat.reduceMod, Nat.reduceDiv, Int.reduceNeg, Int.reduceLE, Int.reduceLT, Int.reduceToNat, Int.reduceEq, Int.reduceNe, ↓reduceIte,  h1, decide_false, decide_true, not_false_eq_true]
  rw [clearP, if_pos h1, h1]
  rw [h1] at r1
  obtain ⟨i, hx, hi, hp⟩ := findP_ok (foundE_ok h1).1
  rw [hx, Int.toNat_natCast]
  rw [hp] at r1
  refine good_run [] mixed Try.func45 rfl Try.ntmps45 (rs := [.cell 4 37, .tmp 5]) rfl (by decide +kernel) (by kernel_rfl) rfl ?_
  rw [startE_eq 21 _ _ _ rfl rfl]
  set_option maxRecDepth 100000 in simp (maxSteps := 10000000) only [go_sem, Nat.reduceAdd, Nat.reduceSub, Nat.reduceMul, Nat.reduceLT, Nat.reduceLeDiff, Nat.reduceEqDiff, Nat.reduceMod, Nat.reduceDiv, Int.reduceNeg, Int.reduceLE, Int.reduceLT, Int.reduceToNat, Int.reduceEq, Int.reduceNe, ↓reduceIte]
  refine call_of (r1) ?_
  set_option maxRecDepth 100000 in simp (maxSteps := 10000000) only [go_sem, Nat.reduceAdd, Nat.reduceSub, Nat.reduceMul, Nat.reduceLT, Nat.reduceLeDiff, Nat.reduceEqDiff, Nat.reduceMod, Nat.reduceDiv, Int.reduceNeg, Int.reduceLE, Int.reduceLT, Int.reduceToNat, Int.reduceEq, Int.reduceNe, ↓reduceIte]
  refine call_of (contented_good d i ⟨#[]⟩ h hi) ?_
  set_option maxRecDepth 100000 in simp (maxSteps := 10000000) only [go_sem, Nat.reduceAdd, Nat.reduceSub, Nat.reduceMul, Nat.reduceLT, Nat.reduceLeDiff, Nat.reduceEqDiff, Nat.reduceMod, Nat.reduceDiv, Int.reduceNeg, Int.reduceLE, Int.reduceLT, Int.reduceToNat, Int.reduceEq, Int.reduceNe, ↓reduceIte]

set_option maxHeartbeats 4000000 in
theorem ContentOf_good (d : Dir) (n : OName) (h : d.objects.length ≤ 1000000) : Ans Try.prog 46 [.agg (encDir d), .agg (encOName n)] (.tup [.str (contentP d n), .int .i64 (foundE d n 4)]) := by
  have r1 := found_good d n 4 (by decide) h
  refine Classical.byCases (fun h1 : foundE d n 4 = 0 => ?_) fun h1 => ?_
  case refine_2 =>
    rw [contentP, if_neg h1]
    refine good_run [] mixed Try.func46 rfl Try.ntmps46 (rs := [.tmp 4, .tmp 5]) rfl (by decide +kernel) (by kernel_rfl) rfl ?_
    rw [startE_eq 23 _ _ _ rfl rfl]
    set_option maxRecDepth 100000 in simp (maxSteps := 10000000) only [go_sem, Nat.reduceAdd, Nat.reduceSub, Nat.reduceMul, Nat.reduceLT, Nat.reduceLeDiff, Nat.reduceEqDiff, Nat.reduceMod, Nat.reduceDiv, Int.reduceNeg, Int.reduceLE, Int.reduceLT, Int.reduceToNat, Int.reduceEq, Int.reduceNe, ↓reduceIte]
    refine call_of (r1) ?_
    set_option maxRecDepth 100000 in simp (maxSteps := 10000000) only [go_sem, Nat.reduceAdd, Nat.reduceSub, Nat.reduceMul, Nat.reduceLT, Nat.reduceLeDiff, Nat.reduceEqDiff, Nat.reduceMod, Nat.reduceDiv, Int.reduceNeg, Int.reduceLE, Int.reduceLT, Int.reduceToNat, Int.reduceEq, Int.reduceNe, ↓reduceIte,  h1, decide_false, decide_true, not_false_eq_true]
  rw [contentP, if_pos h1, h1]
  rw [h1] at r1
  obtain ⟨i, hx, hi, hp⟩ := findP_ok (foundE_ok h1).1
  rw [hx, Int.toNat_natCast]
  rw [hp] at r1
  refine good_run [] mixed Try.func46 rfl Try.ntmps46 (rs := [.tmp 4, .tmp 5]) rfl (by decide +kernel) (by kernel_rfl) rfl ?_
  rw [startE_eq 23 _ _ _ rfl rfl]
  set_option maxRecDepth 100000 in simp (maxSteps := 10000000) only [go_sem, Nat.reduceAdd, Nat.reduceSub, Nat.reduceMul, Nat.reduceLT, Nat.reduceLeDiff, Nat.reduceEqDiff, Nat.reduceMod, Nat.reduceDiv, Int.reduceNeg, Int.reduceLE, Int.reduceLT, Int.reduceToNat, Int.reduceEq, Int.reduceNe, ↓reduceIte]
  refine call_of (r1) ?_
  set_option maxRecDepth 100000 in simp (maxSteps := 10000000) only [go_sem, Nat.reduceAdd, Nat.reduceSub, Nat.reduceMul, Nat.reduceLT, Nat.reduceLeDiff, Nat.reduceEqDiff, Nat.reduceMod, Nat.reduceDiv, Int.reduceNeg, Int.reduceLE, Int.reduceLT, Int.reduceToNat, Int.reduceEq, Int.reduceNe, ↓reduceIte,  hi, show (i : Int) < (d.objects.length : Int) by omega]
end Go.Proofs.Ytcmnbfpcomcejaa.C08
