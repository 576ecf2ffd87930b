/- Chapter 9: copies; the law of copies. -/
import Derived.Test.YtppjmigiogddpaaGreatE22
namespace Go.Proofs.YtppjmigiogddpaaGreat.C08
open Go Go.Proofs Go.Proofs.YtppjmigiogddpaaGreat.Ab
set_option linter.unusedSimpArgs false
set_option linter.unusedVariables false
attribute [local congr] ite_ctx

def copyO (d : Dir) (n m : OName) : Obj := { nth d.objects (placeIx d.objects n).toNat with name := m, seg := 0 }
def dupE (d : Dir) (n m : OName) : Int := if ¬ foundE d n 2 = 0 then foundE d n 2 else if ¬ errName m = 0 then errName m else if ¬ m.type = n.type then 17 else createE d (copyO d n m)
def dupP (d : Dir) (n m : OName) : Dir := if dupE d n m = 0 then createP d (copyO d n m) else noDir

set_option maxHeartbeats 8000000 in
theorem Duplicate_good (d : Dir) (n m : OName) (h : d.objects.length ≤ 1000000) : Ans Tryz.prog 17 [.agg (encDir d), .agg (encOName n), .agg (encOName m)] (.tup [.agg (encDir (dupP d n m)), .int .i64 (dupE d n m)]) := by
  have r1 := permitted_good d n 2 (by decide) h
  refine Classical.byCases (fun h1 : foundE d n 2 = 0 => ?_) fun h1 => ?_
  case refine_2 =>
    have he : dupE d n m = foundE d n 2 := by rw [dupE, if_pos h1]
    rw [dupP, if_neg (by rw [he]; exact h1), he]
    refine Ans.le (r := .tup [.agg [.nils, .int .i64 0], .int .i64 (foundE d n 2)]) ?_ (le_noDir _) rfl
    refine good_run [] mixed Tryz.func17 rfl Tryz.ntmps17 (rs := [.cell 6 24, .tmp 7]) rfl (by decide +kernel) (by kernel_rfl) rfl ?_
    rw [startE_eq 47 _ _ _ rfl rfl]
    set_option maxRecDepth 100000 in simp (maxSteps := 10000000) only [go_sem, Nat.reduceAdd, Nat.reduceSub, Nat.reduceMul, Nat.reduceLT, Nat.reduceLeDiff, Nat.reduceEqDiff, Nat.reduceMod, Nat.reduceDiv, Int.reduceNeg, Int.reduceLE, Int.reduceLT, Int.reduceToNat, Int.reduceEq, Int.reduceNe, ↓reduceIte]
    refine call_of (r1) ?_
    set_option maxRecDepth 100000 in simp (maxSteps := 10000000) only [go_sem, Nat.reduceAdd, Nat.reduceSub, Nat.reduceMul, Nat.reduceLT, Nat.reduceLeDiff, Nat.reduceEqDiff, Nat.reduceMod, Nat.reduceDiv, Int.reduceNeg, Int.reduceLE, Int.reduceLT, Int.reduceToNat, Int.reduceEq, Int.reduceNe, ↓reduceIte,  h1, decide_true, decide_false, not_false_eq_true]
  have r2 := CheckName_good m
  rw [if_pos h1, h1] at r1
  refine Classical.byCases (fun h2 : errName m = 0 => ?_) fun h2 => ?_
  case refine_2 =>
    have he : dupE d n m = errName m := by rw [dupE, if_neg (not_not_intro h1), if_pos h2]
    rw [dupP, if_neg (by rw [he]; exact h2), he]
    refine Ans.le (r := .tup [.agg [.nils, .int .i64 0], .int .i64 (errName m)]) ?_ (le_noDir _) rfl
    refine good_run [] mixed Tryz.func17 rfl Tryz.ntmps17 (rs := [.cell 6 24, .tmp 7]) rfl (by decide +kernel) (by kernel_rfl) rfl ?_
    rw [startE_eq 47 _ _ _ rfl rfl]
    set_option maxRecDepth 100000 in simp (maxSteps := 10000000) only [go_sem, Nat.reduceAdd, Nat.reduceSub, Nat.reduceMul, Nat.reduceLT, Nat.reduceLeDiff, Nat.reduceEqDiff, Nat.reduceMod, Nat.reduceDiv, Int.reduceNeg, Int.reduceLE, Int.reduceLT, Int.reduceToNat, Int.reduceEq, Int.reduceNe, ↓reduceIte]
    refine call_of (r1) ?_
    set_option maxRecDepth 100000 in simp (maxSteps := 10000000) only [go_sem, Nat.reduceAdd, Nat.reduceSub, Nat.reduceMul, Nat.reduceLT, Nat.reduceLeDiff, Nat.reduceEqDiff, Nat.reduceMod, Nat.reduceDiv, Int.reduceNeg, Int.reduceLE, Int.reduceLT, Int.reduceToNat, Int.reduceEq, Int.reduceNe, ↓reduceIte,  decide_true, eq_self]
    refine call_of (r2) ?_
    set_option maxRecDepth 100000 in simp (maxSteps := 10000000) only [go_sem, Nat.reduceAdd, Nat.reduceSub, Nat.reduceMul, Nat.reduceLT, Nat.reduceLeDiff, Nat.reduceEqDiff, Nat.reduceMod, Nat.reduceDiv, Int.reduceNeg, Int.reduceLE, Int.reduceLT, Int.reduceToNat, Int.reduceEq, Int.reduceNe, ↓reduceIte,  h2, decide_true, decide_false, not_false_eq_true]
  rw [h2] at r2
  refine Classical.byCases (fun h3 : m.type = n.type => ?_) fun h3 => ?_
  case refine_2 =>
    have he : dupE d n m = 17 := by rw [dupE, if_neg (not_not_intro h1), if_neg (not_not_intro h2), if_pos h3]
    rw [dupP, if_neg (by rw [he]; decide), he]
    refine Ans.le (r := .tup [.agg [.nils, .int .i64 0], .int .i64 17]) ?_ (le_noDir _) rfl
    refine good_run [] mixed Tryz.func17 rfl Tryz.ntmps17 (rs := [.cell 6 24, .tmp 7]) rfl (by decide +kernel) (by kernel_rfl) rfl ?_
    rw [startE_eq 47 _ _ _ rfl rfl]
    set_option maxRecDepth 100000 in simp (maxSteps := 10000000) only [go_sem, Nat.reduceAdd, Nat.reduceSub, Nat.reduceMul, Nat.reduceLT, Nat.reduceLeDiff, Nat.reduceEqDiff, Nat.reduceMod, Nat.reduceDiv, Int.reduceNeg, Int.reduceLE, Int.reduceLT, Int.reduceToNat, Int.reduceEq, Int.reduceNe, ↓reduceIte]
    refine call_of (r1) ?_
    set_option maxRecDepth 100000 in simp (maxSteps := 10000000) only [go_sem, Nat.reduceAdd, Nat.reduceSub, Nat.reduceMul, Nat.reduceLT, Nat.reduceLeDiff, Nat.reduceEqDiff, Nat.reduceMod, Nat.reduceDiv, Int.reduceNeg, Int.reduceLE, Int.reduceLT, Int.reduceToNat, Int.reduceEq, Int.reduceNe, ↓reduceIte,  decide_true, eq_self]
    refine call_of (r2) ?_
    set_option maxRecDepth 100000 in simp (maxSteps := 10000000) only [go_sem, Nat.reduceAdd, Nat.reduceSub, Nat.reduceMul, Nat.reduceLT, Nat.reduceLeDiff, Nat.reduceEqDiff, Nat.reduceMod, Nat.reduceDiv, Int.reduceNeg, Int.reduceLE, Int.reduceLT, Int.reduceToNat, Int.reduceEq, Int.reduceNe, ↓reduceIte,  eq_false h3, decide_true, decide_false, not_false_eq_true, eq_self]
  have he : dupE d n m = createE d (copyO d n m) := by rw [dupE, if_neg (not_not_intro h1), if_neg (not_not_intro h2), if_neg (not_not_intro h3)]
  have hp : dupP d n m = createP d (copyO d n m) := by
    rw [dupP, he]
    by_cases q : createE d (copyO d n m) = 0
    · rw [if_pos q]
    · rw [if_neg q, createP, if_neg q]
  have hfo := (foundE_ok h1).1
  obtain ⟨i, hx, hi⟩ := findP_ok hfo
  have r3 := Create_good d (copyO d n m) h
  rw [hp, he]
  generalize createP d (copyO d n m) = P at *
  generalize createE d (copyO d n m) = E at *
  unfold copyO at r3
  rw [hx] at r1
  rw [hx, Int.toNat_natCast] at r3
  have hq := map_at encObj hi
  have q1 : (0 : Int) ≤ (i : Int) := by omega
  have q2 : (i : Int) < (d.objects.length : Int) := by omega
  refine good_run [] mixed Tryz.func17 rfl Tryz.ntmps17 (rs := [.cell 6 24, .tmp 7]) rfl (by decide +kernel) (by kernel_rfl) rfl ?_
  rw [startE_eq 47 _ _ _ rfl rfl]
  set_option maxRecDepth 100000 in simp (maxSteps := 10000000) only [go_sem, Nat.reduceAdd, Nat.reduceSub, Nat.reduceMul, Nat.reduceLT, Nat.reduceLeDiff, Nat.reduceEqDiff, Nat.reduceMod, Nat.reduceDiv, Int.reduceNeg, Int.reduceLE, Int.reduceLT, Int.reduceToNat, Int.reduceEq, Int.reduceNe, ↓reduceIte]
  refine call_of (r1) ?_
  set_option maxRecDepth 100000 in simp (maxSteps := 10000000) only [go_sem, Nat.reduceAdd, Nat.reduceSub, Nat.reduceMul, Nat.reduceLT, Nat.reduceLeDiff, Nat.reduceEqDiff, Nat.reduceMod, Nat.reduceDiv, Int.reduceNeg, Int.reduceLE, Int.reduceLT, Int.reduceToNat, Int.reduceEq, Int.reduceNe, ↓reduceIte,  decide_true, eq_self]
  refine call_of (r2) ?_
  set_option maxRecDepth 100000 in simp (maxSteps := 10000000) only [go_sem, Nat.reduceAdd, Nat.reduceSub, Nat.reduceMul, Nat.reduceLT, Nat.reduceLeDiff, Nat.reduceEqDiff, Nat.reduceMod, Nat.reduceDiv, Int.reduceNeg, Int.reduceLE, Int.reduceLT, Int.reduceToNat, Int.reduceEq, Int.reduceNe, ↓reduceIte,  eq_true h3, decide_true, decide_false, not_true_eq_false, eq_self, hq, hi, q1, q2, Option.map_some, Int.toNat_natCast, List.length_map]
  refine call_of (r3) ?_
  set_option maxRecDepth 100000 in simp (maxSteps := 10000000) only [go_sem, Nat.reduceAdd, Nat.reduceSub, Nat.reduceMul, Nat.reduceLT, Nat.reduceLeDiff, Nat.reduceEqDiff, Nat.reduceMod, Nat.reduceDiv, Int.reduceNeg, Int.reduceLE, Int.reduceLT, Int.reduceToNat, Int.reduceEq, Int.reduceNe, ↓reduceIte]
  done

def zeroO : Obj := ⟨⟨⟨#[]⟩, ⟨#[]⟩, 0⟩, ⟨#[]⟩, 0, ⟨#[]⟩, ⟨#[]⟩⟩
def copyE2 (d : Dir) (n m : OName) : Int := if permR n.type.toNat 2 = false then 39 else if ¬ errName m = 0 then errName m else if ¬ n.type = m.type then 17 else createE2 d (copyO d n m)
def copyR (d : Dir) (n m : OName) : Obj := if permR n.type.toNat 2 = false ∨ ¬ errName m = 0 ∨ ¬ n.type = m.type then zeroO else copyO d n m
set_option maxHeartbeats 8000000 in
theorem CopyOf_good (d : Dir) (n m : OName) (h : d.objects.length ≤ 1000000) (t : Nat) (ht : t < 30) (htt : n.type = (t : Int)) (i : Nat) (hx : placeIx d.objects n = (i : Int)) (hi : i < d.objects.length) :
    Ans Tryz.prog 18 [.agg (encDir d), .agg (encOName n), .agg (encOName m)] (.tup [.agg (encObj (copyR d n m)), .int .i64 (copyE2 d n m)]) := by
  have r1 := Permits_good t 2 ht (by decide)
  rw [← htt] at r1
  have r2 := NameErr_good m
  have r3 := Place_good d n h
  have hnt : n.type.toNat = t := by rw [htt, Int.toNat_natCast]
  cases h1 : permR t 2 with
  | false =>
    rw [h1] at r1
    rw [copyR, copyE2, hnt, if_pos (.inl h1), if_pos h1]
    refine good_run [] mixed Tryz.func18 rfl Tryz.ntmps18 (rs := [.cell 6 41, .tmp 7]) rfl (by decide +kernel) (by kernel_rfl) rfl ?_
    rw [startE_eq 41 _ _ _ rfl rfl]
    set_option maxRecDepth 100000 in simp (maxSteps := 10000000) only [go_sem, Nat.reduceAdd, Nat.reduceSub, Nat.reduceMul, Nat.reduceLT, Nat.reduceLeDiff, Nat.reduceEqDiff, Nat.reduceMod, Nat.reduceDiv, Int.reduceNeg, Int.reduceLE, Int.reduceLT, Int.reduceToNat, Int.reduceEq, Int.reduceNe, ↓reduceIte]
    refine call_of (r1) ?_
    set_option maxRecDepth 100000 in simp (maxSteps := 10000000) only [go_sem, Nat.reduceAdd, Nat.reduceSub, Nat.reduceMul, Nat.reduceLT, Nat.reduceLeDiff, Nat.reduceEqDiff, Nat.reduceMod, Nat.reduceDiv, Int.reduceNeg, Int.reduceLE, Int.reduceLT, Int.reduceToNat, Int.reduceEq, Int.reduceNe, ↓reduceIte,  Bool.not_false]
    exact ⟨rfl, rfl, rfl, rfl, rfl, rfl, rfl⟩
  | true =>
  rw [h1] at r1
  refine Classical.byCases (fun h2 : errName m = 0 => ?_) fun h2 => ?_
  case refine_2 =>
    rw [copyR, copyE2, hnt, if_pos (.inr (.inl h2)), if_neg (by rw [h1]; decide), if_pos h2]
    refine good_run [] mixed Tryz.func18 rfl Tryz.ntmps18 (rs := [.cell 6 41, .tmp 7]) rfl (by decide +kernel) (by kernel_rfl) rfl ?_
    rw [startE_eq 41 _ _ _ rfl rfl]
    set_option maxRecDepth 100000 in simp (maxSteps := 10000000) only [go_sem, Nat.reduceAdd, Nat.reduceSub, Nat.reduceMul, Nat.reduceLT, Nat.reduceLeDiff, Nat.reduceEqDiff, Nat.reduceMod, Nat.reduceDiv, Int.reduceNeg, Int.reduceLE, Int.reduceLT, Int.reduceToNat, Int.reduceEq, Int.reduceNe, ↓reduceIte]
    refine call_of (r1) ?_
    set_option maxRecDepth 100000 in simp (maxSteps := 10000000) only [go_sem, Nat.reduceAdd, Nat.reduceSub, Nat.reduceMul, Nat.reduceLT, Nat.reduceLeDiff, Nat.reduceEqDiff, Nat.reduceMod, Nat.reduceDiv, Int.reduceNeg, Int.reduceLE, Int.reduceLT, Int.reduceToNat, Int.reduceEq, Int.reduceNe, ↓reduceIte,  Bool.not_true]
    refine call_of (r2) ?_
    set_option maxRecDepth 100000 in simp (maxSteps := 10000000) only [go_sem, Nat.reduceAdd, Nat.reduceSub, Nat.reduceMul, Nat.reduceLT, Nat.reduceLeDiff, Nat.reduceEqDiff, Nat.reduceMod, Nat.reduceDiv, Int.reduceNeg, Int.reduceLE, Int.reduceLT, Int.reduceToNat, Int.reduceEq, Int.reduceNe, ↓reduceIte,  h2, decide_true, decide_false, not_false_eq_true]
    exact ⟨rfl, rfl, rfl, rfl, rfl, rfl, rfl⟩
  rw [h2] at r2
  refine Classical.byCases (fun h3 : n.type = m.type => ?_) fun h3 => ?_
  case refine_2 =>
    rw [copyR, copyE2, hnt, if_pos (.inr (.inr h3)), if_neg (by rw [h1]; decide), if_neg (not_not_intro h2), if_pos h3]
    refine good_run [] mixed Tryz.func18 rfl Tryz.ntmps18 (rs := [.cell 6 41, .tmp 7]) rfl (by decide +kernel) (by kernel_rfl) rfl ?_
    rw [startE_eq 41 _ _ _ rfl rfl]
    set_option maxRecDepth 100000 in simp (maxSteps := 10000000) only [go_sem, Nat.reduceAdd, Nat.reduceSub, Nat.reduceMul, Nat.reduceLT, Nat.reduceLeDiff, Nat.reduceEqDiff, Nat.reduceMod, Nat.reduceDiv, Int.reduceNeg, Int.reduceLE, Int.reduceLT, Int.reduceToNat, Int.reduceEq, Int.reduceNe, ↓reduceIte]
    refine call_of (r1) ?_
    set_option maxRecDepth 100000 in simp (maxSteps := 10000000) only [go_sem, Nat.reduceAdd, Nat.reduceSub, Nat.reduceMul, Nat.reduceLT, Nat.reduceLeDiff, Nat.reduceEqDiff, Nat.reduceMod, Nat.reduceDiv, Int.reduceNeg, Int.reduceLE, Int.reduceLT, Int.reduceToNat, Int.reduceEq, Int.reduceNe, ↓reduceIte,  Bool.not_true]
    refine call_of (r2) ?_
    set_option maxRecDepth 100000 in simp (maxSteps := 10000000) only [go_sem, Nat.reduceAdd, Nat.reduceSub, Nat.reduceMul, Nat.reduceLT, Nat.reduceLeDiff, Nat.reduceEqDiff, Nat.reduceMod, Nat.reduceDiv, Int.reduceNeg, Int.reduceLE, Int.reduceLT, Int.reduceToNat, Int.reduceEq, Int.reduceNe, ↓reduceIte,  eq_false h3, decide_true, decide_false, not_false_eq_true, not_true_eq_false, eq_self]
    exact ⟨rfl, rfl, rfl, rfl, rfl, rfl, rfl⟩
  rw [copyR, copyE2, hnt, if_neg (by rw [h1]; rintro (q | q | q); cases q; exact q h2; exact q h3), if_neg (by rw [h1]; decide), if_neg (not_not_intro h2), if_neg (not_not_intro h3)]
  have r4 := CreateErr_good d (copyO d n m) h
  generalize createE2 d (copyO d n m) = E at *
  unfold copyO at r4 ⊢
  rw [hx] at r3
  rw [hx, Int.toNat_natCast] at r4 ⊢
  have hq := map_at encObj hi
  have q1 : (0 : Int) ≤ (i : Int) := by omega
  have q2 : (i : Int) < (d.objects.length : Int) := by omega
  refine good_run [] mixed Tryz.func18 rfl Tryz.ntmps18 (rs := [.cell 6 41, .tmp 7]) rfl (by decide +kernel) (by kernel_rfl) rfl ?_
  rw [startE_eq 41 _ _ _ rfl rfl]
  set_option maxRecDepth 100000 in simp (maxSteps := 10000000) only [go_sem, Nat.reduceAdd, Nat.reduceSub, Nat.reduceMul, Nat.reduceLT, Nat.reduceLeDiff, Nat.reduceEqDiff, Nat.reduceMod, Nat.reduceDiv, Int.reduceNeg, Int.reduceLE, Int.reduceLT, Int.reduceToNat, Int.reduceEq, Int.reduceNe, ↓reduceIte]
  refine call_of (r1) ?_
  set_option maxRecDepth 100000 in simp (maxSteps := 10000000) only [go_sem, Nat.reduceAdd, Nat.reduceSub, Nat.reduceMul, Nat.reduceLT, Nat.reduceLeDiff, Nat.reduceEqDiff, Nat.reduceMod, Nat.reduceDiv, Int.reduceNeg, Int.reduceLE, Int.reduceLT, Int.reduceToNat, Int.reduceEq, Int.reduceNe, ↓reduceIte,  Bool.not_true]
  refine call_of (r2) ?_
  set_option maxRecDepth 100000 in simp (maxSteps := 10000000) only [go_sem, Nat.reduceAdd, Nat.reduceSub, Nat.reduceMul, Nat.reduceLT, Nat.reduceLeDiff, Nat.reduceEqDiff, Nat.reduceMod, Nat.reduceDiv, Int.reduceNeg, Int.reduceLE, Int.reduceLT, Int.reduceToNat, Int.reduceEq, Int.reduceNe, ↓reduceIte,  eq_true h3, decide_true, decide_false, not_true_eq_false, eq_self]
  refine callD_of (r3) ?_
  set_option maxRecDepth 100000 in simp (maxSteps := 10000000) only [go_sem, Nat.reduceAdd, Nat.reduceSub, Nat.reduceMul, Nat.reduceLT, Nat.reduceLeDiff, Nat.reduceEqDiff, Nat.reduceMod, Nat.reduceDiv, Int.reduceNeg, Int.reduceLE, Int.reduceLT, Int.reduceToNat, Int.reduceEq, Int.reduceNe, ↓reduceIte,  hq, hi, q1, q2, Option.map_some, Int.toNat_natCast, List.length_map]
  refine ⟨by decide +kernel, ?_⟩
  refine callD_of (r4) ?_
  set_option maxRecDepth 100000 in simp (maxSteps := 10000000) only [go_sem, Nat.reduceAdd, Nat.reduceSub, Nat.reduceMul, Nat.reduceLT, Nat.reduceLeDiff, Nat.reduceEqDiff, Nat.reduceMod, Nat.reduceDiv, Int.reduceNeg, Int.reduceLE, Int.reduceLT, Int.reduceToNat, Int.reduceEq, Int.reduceNe, ↓reduceIte]
  decide +kernel
theorem dupE_eq {d : Dir} {n m : OName} (hd : (dirE d).2 = 0) : dupE d n m = if ¬ findE d n = 0 then findE d n else copyE2 d n m := by
  rw [dupE, copyE2, foundE, createE_eq, if_neg (not_not_intro hd)]
  by_cases h1 : findE d n = 0
  · rw [if_neg (not_not_intro h1), if_neg (not_not_intro h1)]
    by_cases h2 : permR n.type.toNat 2 = false
    · rw [if_pos h2, if_pos h2, if_pos (by decide)]
    · rw [if_neg h2, if_neg h2]
      rw [if_neg (show ¬ ¬ (0 : Int) = 0 by decide)]
      by_cases h4 : errName m = 0
      · rw [if_neg (not_not_intro h4), if_neg (not_not_intro h4)]
        by_cases h3 : m.type = n.type
        · rw [if_neg (not_not_intro h3), if_neg (not_not_intro h3.symm)]
        · rw [if_pos h3, if_pos (fun q => h3 q.symm)]
      · rw [if_pos h4, if_pos h4]
  · rw [if_pos h1, if_pos h1, if_pos h1]
theorem dupE_find {d : Dir} {n m : OName} (h1 : ¬ findE d n = 0) : dupE d n m = findE d n := by
  have : foundE d n 2 = findE d n := by rw [foundE, if_pos h1]
  rw [dupE, this, if_pos h1]
theorem createE_ok {d : Dir} {o : Obj} (hE : createE d o = 0) : (dirE d).2 = 0 ∧ ¬ 0 ≤ placeIx d.objects o.name ∧ d.next ≤ 9999 := by
  unfold createE at hE
  by_cases h1 : (dirE d).2 = 0
  · rw [if_neg (not_not_intro h1)] at hE
    by_cases h2 : errObj o = 0
    · rw [if_neg (not_not_intro h2)] at hE
      by_cases h3 : o.seg = 0
      · rw [if_neg (not_not_intro h3)] at hE
        by_cases h4 : hasLib d.objects o.name.lib = false
        · rw [if_pos h4] at hE; cases hE
        · rw [if_neg h4] at hE
          by_cases h5 : 0 ≤ placeIx d.objects o.name
          · rw [if_pos h5] at hE; cases hE
          · rw [if_neg h5] at hE
            by_cases h6 : d.objects.length = 40 ∨ 9999 < d.next
            · rw [if_pos h6] at hE; cases hE
            · exact ⟨h1, h5, by omega⟩
      · rw [if_pos h3] at hE; cases hE
    · rw [if_pos h2] at hE; exact absurd hE h2
  · rw [if_pos h1] at hE; exact absurd hE h1

set_option maxHeartbeats 8000000 in
theorem LibraryCopies_good (d : Dir) (n m : OName) : Ans Tryz.prog 4 [.agg (encDir d), .agg (encOName n), .agg (encOName m)] (.bool true) := by
  have fd := fewDirectory_good d
  have fn := fewName_good n
  have fm := fewName_good m
  cases hd : fewD d with
  | false =>
    rw [hd] at fd
    refine good_run [] mixed Tryz.func4 rfl Tryz.ntmps4 (rs := [.tmp 6]) rfl (by decide +kernel) (by kernel_rfl) rfl ?_
    rw [startE_eq 72 _ _ _ rfl rfl]
    set_option maxRecDepth 100000 in simp (maxSteps := 10000000) only [go_sem, Nat.reduceAdd, Nat.reduceSub, Nat.reduceMul, Nat.reduceLT, Nat.reduceLeDiff, Nat.reduceEqDiff, Nat.reduceMod, Nat.reduceDiv, Int.reduceNeg, Int.reduceLE, Int.reduceLT, Int.reduceToNat, Int.reduceEq, Int.reduceNe, ↓reduceIte]
    refine call_of (awake_good) ?_
    set_option maxRecDepth 100000 in simp (maxSteps := 10000000) only [go_sem, Nat.reduceAdd, Nat.reduceSub, Nat.reduceMul, Nat.reduceLT, Nat.reduceLeDiff, Nat.reduceEqDiff, Nat.reduceMod, Nat.reduceDiv, Int.reduceNeg, Int.reduceLE, Int.reduceLT, Int.reduceToNat, Int.reduceEq, Int.reduceNe, ↓reduceIte,  Bool.not_true]
    refine call_of (fd) ?_
    set_option maxRecDepth 100000 in simp (maxSteps := 10000000) only [go_sem, Nat.reduceAdd, Nat.reduceSub, Nat.reduceMul, Nat.reduceLT, Nat.reduceLeDiff, Nat.reduceEqDiff, Nat.reduceMod, Nat.reduceDiv, Int.reduceNeg, Int.reduceLE, Int.reduceLT, Int.reduceToNat, Int.reduceEq, Int.reduceNe, ↓reduceIte,  Bool.not_false]
  | true =>
  rw [hd] at fd
  have hl : d.objects.length ≤ 1000000 := fewD_len hd
  cases hn : fewN n with
  | false =>
    rw [hn] at fn
    refine good_run [] mixed Tryz.func4 rfl Tryz.ntmps4 (rs := [.tmp 6]) rfl (by decide +kernel) (by kernel_rfl) rfl ?_
    rw [startE_eq 72 _ _ _ rfl rfl]
    set_option maxRecDepth 100000 in simp (maxSteps := 10000000) only [go_sem, Nat.reduceAdd, Nat.reduceSub, Nat.reduceMul, Nat.reduceLT, Nat.reduceLeDiff, Nat.reduceEqDiff, Nat.reduceMod, Nat.reduceDiv, Int.reduceNeg, Int.reduceLE, Int.reduceLT, Int.reduceToNat, Int.reduceEq, Int.reduceNe, ↓reduceIte]
    refine call_of (awake_good) ?_
    set_option maxRecDepth 100000 in simp (maxSteps := 10000000) only [go_sem, Nat.reduceAdd, Nat.reduceSub, Nat.reduceMul, Nat.reduceLT, Nat.reduceLeDiff, Nat.reduceEqDiff, Nat.reduceMod, Nat.reduceDiv, Int.reduceNeg, Int.reduceLE, Int.reduceLT, Int.reduceToNat, Int.reduceEq, Int.reduceNe, ↓reduceIte,  Bool.not_true]
    refine call_of (fd) ?_
    set_option maxRecDepth 100000 in simp (maxSteps := 10000000) only [go_sem, Nat.reduceAdd, Nat.reduceSub, Nat.reduceMul, Nat.reduceLT, Nat.reduceLeDiff, Nat.reduceEqDiff, Nat.reduceMod, Nat.reduceDiv, Int.reduceNeg, Int.reduceLE, Int.reduceLT, Int.reduceToNat, Int.reduceEq, Int.reduceNe, ↓reduceIte,  Bool.not_true]
    refine call_of (fn) ?_
    set_option maxRecDepth 100000 in simp (maxSteps := 10000000) only [go_sem, Nat.reduceAdd, Nat.reduceSub, Nat.reduceMul, Nat.reduceLT, Nat.reduceLeDiff, Nat.reduceEqDiff, Nat.reduceMod, Nat.reduceDiv, Int.reduceNeg, Int.reduceLE, Int.reduceLT, Int.reduceToNat, Int.reduceEq, Int.reduceNe, ↓reduceIte,  Bool.not_false]
  | true =>
  rw [hn] at fn
  cases hm : fewN m with
  | false =>
    rw [hm] at fm
    refine good_run [] mixed Tryz.func4 rfl Tryz.ntmps4 (rs := [.tmp 6]) rfl (by decide +kernel) (by kernel_rfl) rfl ?_
    rw [startE_eq 72 _ _ _ rfl rfl]
    set_option maxRecDepth 100000 in simp (maxSteps := 10000000) only [go_sem, Nat.reduceAdd, Nat.reduceSub, Nat.reduceMul, Nat.reduceLT, Nat.reduceLeDiff, Nat.reduceEqDiff, Nat.reduceMod, Nat.reduceDiv, Int.reduceNeg, Int.reduceLE, Int.reduceLT, Int.reduceToNat, Int.reduceEq, Int.reduceNe, ↓reduceIte]
    refine call_of (awake_good) ?_
    set_option maxRecDepth 100000 in simp (maxSteps := 10000000) only [go_sem, Nat.reduceAdd, Nat.reduceSub, Nat.reduceMul, Nat.reduceLT, Nat.reduceLeDiff, Nat.reduceEqDiff, Nat.reduceMod, Nat.reduceDiv, Int.reduceNeg, Int.reduceLE, Int.reduceLT, Int.reduceToNat, Int.reduceEq, Int.reduceNe, ↓reduceIte,  Bool.not_true]
    refine call_of (fd) ?_
    set_option maxRecDepth 100000 in simp (maxSteps := 10000000) only [go_sem, Nat.reduceAdd, Nat.reduceSub, Nat.reduceMul, Nat.reduceLT, Nat.reduceLeDiff, Nat.reduceEqDiff, Nat.reduceMod, Nat.reduceDiv, Int.reduceNeg, Int.reduceLE, Int.reduceLT, Int.reduceToNat, Int.reduceEq, Int.reduceNe, ↓reduceIte,  Bool.not_true]
    refine call_of (fn) ?_
    set_option maxRecDepth 100000 in simp (maxSteps := 10000000) only [go_sem, Nat.reduceAdd, Nat.reduceSub, Nat.reduceMul, Nat.reduceLT, Nat.reduceLeDiff, Nat.reduceEqDiff, Nat.reduceMod, Nat.reduceDiv, Int.reduceNeg, Int.reduceLE, Int.reduceLT, Int.reduceToNat, Int.reduceEq, Int.reduceNe, ↓reduceIte,  Bool.not_true]
    refine call_of (fm) ?_
    set_option maxRecDepth 100000 in simp (maxSteps := 10000000) only [go_sem, Nat.reduceAdd, Nat.reduceSub, Nat.reduceMul, Nat.reduceLT, Nat.reduceLeDiff, Nat.reduceEqDiff, Nat.reduceMod, Nat.reduceDiv, Int.reduceNeg, Int.reduceLE, Int.reduceLT, Int.reduceToNat, Int.reduceEq, Int.reduceNe, ↓reduceIte,  Bool.not_false]
  | true =>
  rw [hm] at fm
  have c1 := Own_good d (by omega)
  have c2 := Duplicate_good d n m (by omega)
  have c3 := FindErr_good d n (by omega)
  refine Classical.byCases (fun h1 : findE d n = 0 => ?_) fun h1 => ?_
  case refine_2 =>
    have he := dupE_find (m := m) h1
    have c4 := none_good noDir
    rw [dupP, if_neg (by rw [he]; exact h1), he] at c2
    refine good_run [] mixed Tryz.func4 rfl Tryz.ntmps4 (rs := [.tmp 6]) rfl (by decide +kernel) (by kernel_rfl) rfl ?_
    rw [startE_eq 72 _ _ _ rfl rfl]
    set_option maxRecDepth 100000 in simp (maxSteps := 10000000) only [go_sem, Nat.reduceAdd, Nat.reduceSub, Nat.reduceMul, Nat.reduceLT, Nat.reduceLeDiff, Nat.reduceEqDiff, Nat.reduceMod, Nat.reduceDiv, Int.reduceNeg, Int.reduceLE, Int.reduceLT, Int.reduceToNat, Int.reduceEq, Int.reduceNe, ↓reduceIte]
    refine call_of (awake_good) ?_
    set_option maxRecDepth 100000 in simp (maxSteps := 10000000) only [go_sem, Nat.reduceAdd, Nat.reduceSub, Nat.reduceMul, Nat.reduceLT, Nat.reduceLeDiff, Nat.reduceEqDiff, Nat.reduceMod, Nat.reduceDiv, Int.reduceNeg, Int.reduceLE, Int.reduceLT, Int.reduceToNat, Int.reduceEq, Int.reduceNe, ↓reduceIte,  Bool.not_true]
    refine call_of (fd) ?_
    set_option maxRecDepth 100000 in simp (maxSteps := 10000000) only [go_sem, Nat.reduceAdd, Nat.reduceSub, Nat.reduceMul, Nat.reduceLT, Nat.reduceLeDiff, Nat.reduceEqDiff, Nat.reduceMod, Nat.reduceDiv, Int.reduceNeg, Int.reduceLE, Int.reduceLT, Int.reduceToNat, Int.reduceEq, Int.reduceNe, ↓reduceIte,  Bool.not_true]
    refine call_of (fn) ?_
    set_option maxRecDepth 100000 in simp (maxSteps := 10000000) only [go_sem, Nat.reduceAdd, Nat.reduceSub, Nat.reduceMul, Nat.reduceLT, Nat.reduceLeDiff, Nat.reduceEqDiff, Nat.reduceMod, Nat.reduceDiv, Int.reduceNeg, Int.reduceLE, Int.reduceLT, Int.reduceToNat, Int.reduceEq, Int.reduceNe, ↓reduceIte,  Bool.not_true]
    refine call_of (fm) ?_
    set_option maxRecDepth 100000 in simp (maxSteps := 10000000) only [go_sem, Nat.reduceAdd, Nat.reduceSub, Nat.reduceMul, Nat.reduceLT, Nat.reduceLeDiff, Nat.reduceEqDiff, Nat.reduceMod, Nat.reduceDiv, Int.reduceNeg, Int.reduceLE, Int.reduceLT, Int.reduceToNat, Int.reduceEq, Int.reduceNe, ↓reduceIte,  Bool.not_true]
    refine callD_of (c1) ?_
    set_option maxRecDepth 100000 in simp (maxSteps := 10000000) only [go_sem, Nat.reduceAdd, Nat.reduceSub, Nat.reduceMul, Nat.reduceLT, Nat.reduceLeDiff, Nat.reduceEqDiff, Nat.reduceMod, Nat.reduceDiv, Int.reduceNeg, Int.reduceLE, Int.reduceLT, Int.reduceToNat, Int.reduceEq, Int.reduceNe, ↓reduceIte]
    refine callD_of (c2) ?_
    set_option maxRecDepth 100000 in simp (maxSteps := 10000000) only [go_sem, Nat.reduceAdd, Nat.reduceSub, Nat.reduceMul, Nat.reduceLT, Nat.reduceLeDiff, Nat.reduceEqDiff, Nat.reduceMod, Nat.reduceDiv, Int.reduceNeg, Int.reduceLE, Int.reduceLT, Int.reduceToNat, Int.reduceEq, Int.reduceNe, ↓reduceIte]
    refine ⟨by decide +kernel, ?_⟩
    refine call_of (c3) ?_
    set_option maxRecDepth 100000 in simp (maxSteps := 10000000) only [go_sem, Nat.reduceAdd, Nat.reduceSub, Nat.reduceMul, Nat.reduceLT, Nat.reduceLeDiff, Nat.reduceEqDiff, Nat.reduceMod, Nat.reduceDiv, Int.reduceNeg, Int.reduceLE, Int.reduceLT, Int.reduceToNat, Int.reduceEq, Int.reduceNe, ↓reduceIte,  h1, decide_true, decide_false, not_false_eq_true]
    refine call_of (c4) ?_
    set_option maxRecDepth 100000 in simp (maxSteps := 10000000) only [go_sem, Nat.reduceAdd, Nat.reduceSub, Nat.reduceMul, Nat.reduceLT, Nat.reduceLeDiff, Nat.reduceEqDiff, Nat.reduceMod, Nat.reduceDiv, Int.reduceNeg, Int.reduceLE, Int.reduceLT, Int.reduceToNat, Int.reduceEq, Int.reduceNe, ↓reduceIte,  decide_true, eq_self]
  have hk := findE_ok h1
  have he := dupE_eq (n := n) (m := m) hk.1
  rw [if_neg (not_not_intro h1)] at he
  rw [h1] at c3
  obtain ⟨i, hx, hi⟩ := findP_ok h1
  obtain ⟨t, ht, htt⟩ := errName_type hk.2.1
  have c5 := CopyOf_good d n m (by omega) t ht htt i hx hi
  rw [← he] at c5
  refine Classical.byCases (fun h2 : dupE d n m = 0 => ?_) fun h2 => ?_
  case refine_2 =>
    have c4 := none_good noDir
    rw [dupP, if_neg h2] at c2
    generalize copyR d n m = R at *
    refine good_run [] mixed Tryz.func4 rfl Tryz.ntmps4 (rs := [.tmp 6]) rfl (by decide +kernel) (by kernel_rfl) rfl ?_
    rw [startE_eq 72 _ _ _ rfl rfl]
    set_option maxRecDepth 100000 in simp (maxSteps := 10000000) only [go_sem, Nat.reduceAdd, Nat.reduceSub, Nat.reduceMul, Nat.reduceLT, Nat.reduceLeDiff, Nat.reduceEqDiff, Nat.reduceMod, Nat.reduceDiv, Int.reduceNeg, Int.reduceLE, Int.reduceLT, Int.reduceToNat, Int.reduceEq, Int.reduceNe, ↓reduceIte]
    refine call_of (awake_good) ?_
    set_option maxRecDepth 100000 in simp (maxSteps := 10000000) only [go_sem, Nat.reduceAdd, Nat.reduceSub, Nat.reduceMul, Nat.reduceLT, Nat.reduceLeDiff, Nat.reduceEqDiff, Nat.reduceMod, Nat.reduceDiv, Int.reduceNeg, Int.reduceLE, Int.reduceLT, Int.reduceToNat, Int.reduceEq, Int.reduceNe, ↓reduceIte,  Bool.not_true]
    refine call_of (fd) ?_
    set_option maxRecDepth 100000 in simp (maxSteps := 10000000) only [go_sem, Nat.reduceAdd, Nat.reduceSub, Nat.reduceMul, Nat.reduceLT, Nat.reduceLeDiff, Nat.reduceEqDiff, Nat.reduceMod, Nat.reduceDiv, Int.reduceNeg, Int.reduceLE, Int.reduceLT, Int.reduceToNat, Int.reduceEq, Int.reduceNe, ↓reduceIte,  Bool.not_true]
    refine call_of (fn) ?_
    set_option maxRecDepth 100000 in simp (maxSteps := 10000000) only [go_sem, Nat.reduceAdd, Nat.reduceSub, Nat.reduceMul, Nat.reduceLT, Nat.reduceLeDiff, Nat.reduceEqDiff, Nat.reduceMod, Nat.reduceDiv, Int.reduceNeg, Int.reduceLE, Int.reduceLT, Int.reduceToNat, Int.reduceEq, Int.reduceNe, ↓reduceIte,  Bool.not_true]
    refine call_of (fm) ?_
    set_option maxRecDepth 100000 in simp (maxSteps := 10000000) only [go_sem, Nat.reduceAdd, Nat.reduceSub, Nat.reduceMul, Nat.reduceLT, Nat.reduceLeDiff, Nat.reduceEqDiff, Nat.reduceMod, Nat.reduceDiv, Int.reduceNeg, Int.reduceLE, Int.reduceLT, Int.reduceToNat, Int.reduceEq, Int.reduceNe, ↓reduceIte,  Bool.not_true]
    refine callD_of (c1) ?_
    set_option maxRecDepth 100000 in simp (maxSteps := 10000000) only [go_sem, Nat.reduceAdd, Nat.reduceSub, Nat.reduceMul, Nat.reduceLT, Nat.reduceLeDiff, Nat.reduceEqDiff, Nat.reduceMod, Nat.reduceDiv, Int.reduceNeg, Int.reduceLE, Int.reduceLT, Int.reduceToNat, Int.reduceEq, Int.reduceNe, ↓reduceIte]
    refine callD_of (c2) ?_
    set_option maxRecDepth 100000 in simp (maxSteps := 10000000) only [go_sem, Nat.reduceAdd, Nat.reduceSub, Nat.reduceMul, Nat.reduceLT, Nat.reduceLeDiff, Nat.reduceEqDiff, Nat.reduceMod, Nat.reduceDiv, Int.reduceNeg, Int.reduceLE, Int.reduceLT, Int.reduceToNat, Int.reduceEq, Int.reduceNe, ↓reduceIte]
    refine ⟨by decide +kernel, ?_⟩
    refine call_of (c3) ?_
    set_option maxRecDepth 100000 in simp (maxSteps := 10000000) only [go_sem, Nat.reduceAdd, Nat.reduceSub, Nat.reduceMul, Nat.reduceLT, Nat.reduceLeDiff, Nat.reduceEqDiff, Nat.reduceMod, Nat.reduceDiv, Int.reduceNeg, Int.reduceLE, Int.reduceLT, Int.reduceToNat, Int.reduceEq, Int.reduceNe, ↓reduceIte,  decide_true, eq_self]
    refine call_of (c5) ?_
    set_option maxRecDepth 100000 in simp (maxSteps := 10000000) only [go_sem, Nat.reduceAdd, Nat.reduceSub, Nat.reduceMul, Nat.reduceLT, Nat.reduceLeDiff, Nat.reduceEqDiff, Nat.reduceMod, Nat.reduceDiv, Int.reduceNeg, Int.reduceLE, Int.reduceLT, Int.reduceToNat, Int.reduceEq, Int.reduceNe, ↓reduceIte,  h2, decide_true, decide_false, not_false_eq_true]
    refine call_of (c4) ?_
    set_option maxRecDepth 100000 in simp (maxSteps := 10000000) only [go_sem, Nat.reduceAdd, Nat.reduceSub, Nat.reduceMul, Nat.reduceLT, Nat.reduceLeDiff, Nat.reduceEqDiff, Nat.reduceMod, Nat.reduceDiv, Int.reduceNeg, Int.reduceLE, Int.reduceLT, Int.reduceToNat, Int.reduceEq, Int.reduceNe, ↓reduceIte,  decide_true, eq_self]
  have hcr : createE d (copyO d n m) = 0 ∧ copyR d n m = copyO d n m := by
    have q := h2
    rw [he, copyE2] at q
    have q1 : ¬ permR n.type.toNat 2 = false := fun z => by rw [if_pos z] at q; cases q
    rw [if_neg q1] at q
    have q2 : errName m = 0 := Classical.byContradiction fun z => by rw [if_pos z] at q; exact z q
    rw [if_neg (not_not_intro q2)] at q
    have q3 : n.type = m.type := Classical.byContradiction fun z => by rw [if_pos z] at q; cases q
    rw [if_neg (not_not_intro q3)] at q
    exact ⟨by rw [createE_eq, if_neg (not_not_intro hk.1)]; exact q, by rw [copyR, if_neg]; rintro (z | z | z); exact q1 z; exact z q2; exact z q3⟩
  have hok := createE_ok hcr.1
  have hcp : createP d (copyO d n m) = ⟨insO { copyO d n m with seg := d.next } d.objects, d.next + 1⟩ := by
    rw [createP, if_pos hcr.1, sortO_ins (o := { copyO d n m with seg := d.next }) (dir_sorted hk.1) (place_no hok.2.1)]
  rw [dupP, if_pos h2, h2, hcp] at c2
  rw [h2, hcr.2] at c5
  have c6 := Created_good d (copyO d n m) (by omega) ⟨(dirE_ok hk.1).2.1, hok.2.2⟩
  have hlen := (dirE_ok hk.1).1
  have c7 := Same_good ⟨insO { copyO d n m with seg := d.next } d.objects, d.next + 1⟩ ⟨insO { copyO d n m with seg := d.next } d.objects, d.next + 1⟩ (by
    show (insO _ d.objects).length ≤ _
    rw [insO_len]; omega)
  generalize insO { copyO d n m with seg := d.next } d.objects = I at *
  generalize copyO d n m = R at *
  refine good_run [] mixed Tryz.func4 rfl Tryz.ntmps4 (rs := [.tmp 6]) rfl (by decide +kernel) (by kernel_rfl) rfl ?_
  rw [startE_eq 72 _ _ _ rfl rfl]
  set_option maxRecDepth 100000 in simp (maxSteps := 10000000) only [go_sem, Nat.reduceAdd, Nat.reduceSub, Nat.reduceMul, Nat.reduceLT, Nat.reduceLeDiff, Nat.reduceEqDiff, Nat.reduceMod, Nat.reduceDiv, Int.reduceNeg, Int.reduceLE, Int.reduceLT, Int.reduceToNat, Int.reduceEq, Int.reduceNe, ↓reduceIte]
  refine call_of (awake_good) ?_
  set_option maxRecDepth 100000 in simp (maxSteps := 10000000) only [go_sem, Nat.reduceAdd, Nat.reduceSub, Nat.reduceMul, Nat.reduceLT, Nat.reduceLeDiff, Nat.reduceEqDiff, Nat.reduceMod, Nat.reduceDiv, Int.reduceNeg, Int.reduceLE, Int.reduceLT, Int.reduceToNat, Int.reduceEq, Int.reduceNe, ↓reduceIte,  Bool.not_true]
  refine call_of (fd) ?_
  set_option maxRecDepth 100000 in simp (maxSteps := 10000000) only [go_sem, Nat.reduceAdd, Nat.reduceSub, Nat.reduceMul, Nat.reduceLT, Nat.reduceLeDiff, Nat.reduceEqDiff, Nat.reduceMod, Nat.reduceDiv, Int.reduceNeg, Int.reduceLE, Int.reduceLT, Int.reduceToNat, Int.reduceEq, Int.reduceNe, ↓reduceIte,  Bool.not_true]
  refine call_of (fn) ?_
  set_option maxRecDepth 100000 in simp (maxSteps := 10000000) only [go_sem, Nat.reduceAdd, Nat.reduceSub, Nat.reduceMul, Nat.reduceLT, Nat.reduceLeDiff, Nat.reduceEqDiff, Nat.reduceMod, Nat.reduceDiv, Int.reduceNeg, Int.reduceLE, Int.reduceLT, Int.reduceToNat, Int.reduceEq, Int.reduceNe, ↓reduceIte,  Bool.not_true]
  refine call_of (fm) ?_
  set_option maxRecDepth 100000 in simp (maxSteps := 10000000) only [go_sem, Nat.reduceAdd, Nat.reduceSub, Nat.reduceMul, Nat.reduceLT, Nat.reduceLeDiff, Nat.reduceEqDiff, Nat.reduceMod, Nat.reduceDiv, Int.reduceNeg, Int.reduceLE, Int.reduceLT, Int.reduceToNat, Int.reduceEq, Int.reduceNe, ↓reduceIte,  Bool.not_true]
  refine callD_of (c1) ?_
  set_option maxRecDepth 100000 in simp (maxSteps := 10000000) only [go_sem, Nat.reduceAdd, Nat.reduceSub, Nat.reduceMul, Nat.reduceLT, Nat.reduceLeDiff, Nat.reduceEqDiff, Nat.reduceMod, Nat.reduceDiv, Int.reduceNeg, Int.reduceLE, Int.reduceLT, Int.reduceToNat, Int.reduceEq, Int.reduceNe, ↓reduceIte]
  refine callD_of (c2) ?_
  set_option maxRecDepth 100000 in simp (maxSteps := 10000000) only [go_sem, Nat.reduceAdd, Nat.reduceSub, Nat.reduceMul, Nat.reduceLT, Nat.reduceLeDiff, Nat.reduceEqDiff, Nat.reduceMod, Nat.reduceDiv, Int.reduceNeg, Int.reduceLE, Int.reduceLT, Int.reduceToNat, Int.reduceEq, Int.reduceNe, ↓reduceIte]
  refine ⟨by decide +kernel, ?_⟩
  refine call_of (c3) ?_
  set_option maxRecDepth 100000 in simp (maxSteps := 10000000) only [go_sem, Nat.reduceAdd, Nat.reduceSub, Nat.reduceMul, Nat.reduceLT, Nat.reduceLeDiff, Nat.reduceEqDiff, Nat.reduceMod, Nat.reduceDiv, Int.reduceNeg, Int.reduceLE, Int.reduceLT, Int.reduceToNat, Int.reduceEq, Int.reduceNe, ↓reduceIte,  decide_true, eq_self]
  refine call_of (c5) ?_
  set_option maxRecDepth 100000 in simp (maxSteps := 10000000) only [go_sem, Nat.reduceAdd, Nat.reduceSub, Nat.reduceMul, Nat.reduceLT, Nat.reduceLeDiff, Nat.reduceEqDiff, Nat.reduceMod, Nat.reduceDiv, Int.reduceNeg, Int.reduceLE, Int.reduceLT, Int.reduceToNat, Int.reduceEq, Int.reduceNe, ↓reduceIte,  not_true_eq_false, decide_false]
  refine callD_of (c6) ?_
  set_option maxRecDepth 100000 in simp (maxSteps := 10000000) only [go_sem, Nat.reduceAdd, Nat.reduceSub, Nat.reduceMul, Nat.reduceLT, Nat.reduceLeDiff, Nat.reduceEqDiff, Nat.reduceMod, Nat.reduceDiv, Int.reduceNeg, Int.reduceLE, Int.reduceLT, Int.reduceToNat, Int.reduceEq, Int.reduceNe, ↓reduceIte]
  refine callD_of (c7) ?_
  set_option maxRecDepth 100000 in simp (maxSteps := 10000000) only [go_sem, Nat.reduceAdd, Nat.reduceSub, Nat.reduceMul, Nat.reduceLT, Nat.reduceLeDiff, Nat.reduceEqDiff, Nat.reduceMod, Nat.reduceDiv, Int.reduceNeg, Int.reduceLE, Int.reduceLT, Int.reduceToNat, Int.reduceEq, Int.reduceNe, ↓reduceIte]
  decide +kernel
end Go.Proofs.YtppjmigiogddpaaGreat.C08
