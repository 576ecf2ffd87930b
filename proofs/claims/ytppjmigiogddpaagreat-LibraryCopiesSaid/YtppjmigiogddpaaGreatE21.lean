/- Chapter 9: moving. -/
import Derived.Test.YtppjmigiogddpaaGreatP11
import Derived.Test.YtppjmigiogddpaaGreatE20
namespace Go.Proofs.YtppjmigiogddpaaGreat.C08
open Go Go.Proofs Go.Proofs.YtppjmigiogddpaaGreat.Ab
set_option linter.unusedSimpArgs false
set_option linter.unusedVariables false
attribute [local congr] ite_ctx

theorem findP_ok {d : Dir} {n : OName} (h : findE d n = 0) : ∃ i : Nat, placeIx d.objects n = (i : Int) ∧ i < d.objects.length := by
  have hk := findE_ok h
  exact ⟨(placeIx d.objects n).toNat, by omega, by omega⟩
theorem le_noDir (e : Int) : AVle (.tup [.agg [.nils, .int .i64 0], .int .i64 e]) (.tup [.agg (encDir noDir), .int .i64 e]) := .tup' (.cons (.agg' (.cons .nils (.cons (.refl _) .nil))) (.cons (.refl _) .nil))

theorem mv1_good (n : OName) (o : Obj) : Ans Tryz.prog 39 [.agg (encObj o), .ptr (encOName n)] (.bool (decide (o.name = n))) := by
  refine good_run [] mixed Tryz.func39 rfl Tryz.ntmps39 (rs := [.tmp 3]) rfl (by decide +kernel) (by kernel_rfl) rfl ?_
  rw [startE_eq 8 _ _ _ rfl rfl]
  set_option maxRecDepth 100000 in simp (maxSteps := 10000000) only [go_sem, Nat.reduceAdd, Nat.reduceSub, Nat.reduceMul, Nat.reduceLT, Nat.reduceLeDiff, Nat.reduceEqDiff, Nat.reduceMod, Nat.reduceDiv, Int.reduceNeg, Int.reduceLE, Int.reduceLT, Int.reduceToNat, Int.reduceEq, Int.reduceNe, ↓reduceIte]
  rw [← name_eq]
set_option maxHeartbeats 4000000 in
theorem mv2_good (a b : OT) : Ans Tryz.prog 42 [.agg (encObj a.1), .agg (encObj b.1)] (.int .i64 (cfM a b)) := by
  obtain ⟨a, ha1, ha2⟩ := a
  obtain ⟨b, hb1, hb2⟩ := b
  show Ans Tryz.prog 42 [.agg (encObj a), .agg (encObj b)] (.int .i64 (cmpM a.name b.name))
  have c1 := Compare_good a.name.lib b.name.lib
  have c2 := Compare_good a.name.name b.name.name
  refine Classical.byCases (fun h1 : a.name.lib = b.name.lib => ?_) fun h1 => ?_
  case refine_2 =>
    rw [cmpM, if_pos h1]
    refine good_run [] mixed Tryz.func42 rfl Tryz.ntmps42 (rs := [.tmp 4]) rfl (by decide +kernel) (by kernel_rfl) rfl ?_
    rw [startE_eq 38 _ _ _ rfl rfl]
    set_option maxRecDepth 100000 in simp (maxSteps := 10000000) only [go_sem, Nat.reduceAdd, Nat.reduceSub, Nat.reduceMul, Nat.reduceLT, Nat.reduceLeDiff, Nat.reduceEqDiff, Nat.reduceMod, Nat.reduceDiv, Int.reduceNeg, Int.reduceLE, Int.reduceLT, Int.reduceToNat, Int.reduceEq, Int.reduceNe, ↓reduceIte,  eq_false h1, decide_false, not_false_eq_true, decide_true, Bool.not_false]
    refine ⟨by decide +kernel, ?_⟩
    refine call_of (c1) ?_
    set_option maxRecDepth 100000 in simp (maxSteps := 10000000) only [go_sem, Nat.reduceAdd, Nat.reduceSub, Nat.reduceMul, Nat.reduceLT, Nat.reduceLeDiff, Nat.reduceEqDiff, Nat.reduceMod, Nat.reduceDiv, Int.reduceNeg, Int.reduceLE, Int.reduceLT, Int.reduceToNat, Int.reduceEq, Int.reduceNe, ↓reduceIte]
  rw [cmpM, if_neg (not_not_intro h1)]
  refine Classical.byCases (fun h2 : a.name.name = b.name.name => ?_) fun h2 => ?_
  case refine_2 =>
    rw [if_pos h2]
    refine good_run [] mixed Tryz.func42 rfl Tryz.ntmps42 (rs := [.tmp 4]) rfl (by decide +kernel) (by kernel_rfl) rfl ?_
    rw [startE_eq 38 _ _ _ rfl rfl]
    set_option maxRecDepth 100000 in simp (maxSteps := 10000000) only [go_sem, Nat.reduceAdd, Nat.reduceSub, Nat.reduceMul, Nat.reduceLT, Nat.reduceLeDiff, Nat.reduceEqDiff, Nat.reduceMod, Nat.reduceDiv, Int.reduceNeg, Int.reduceLE, Int.reduceLT, Int.reduceToNat, Int.reduceEq, Int.reduceNe, ↓reduceIte,  eq_true h1, eq_false h2, decide_false, not_false_eq_true, decide_true, Bool.not_false, Bool.not_true, not_true_eq_false]
    refine ⟨by decide +kernel, ?_⟩
    refine call_of (c2) ?_
    set_option maxRecDepth 100000 in simp (maxSteps := 10000000) only [go_sem, Nat.reduceAdd, Nat.reduceSub, Nat.reduceMul, Nat.reduceLT, Nat.reduceLeDiff, Nat.reduceEqDiff, Nat.reduceMod, Nat.reduceDiv, Int.reduceNeg, Int.reduceLE, Int.reduceLT, Int.reduceToNat, Int.reduceEq, Int.reduceNe, ↓reduceIte]
  rw [if_neg (not_not_intro h2)]
  refine good_run [] mixed Tryz.func42 rfl Tryz.ntmps42 (rs := [.tmp 4]) rfl (by decide +kernel) (by kernel_rfl) rfl ?_
  rw [startE_eq 38 _ _ _ rfl rfl]
  set_option maxRecDepth 100000 in simp (maxSteps := 10000000) only [go_sem, Nat.reduceAdd, Nat.reduceSub, Nat.reduceMul, Nat.reduceLT, Nat.reduceLeDiff, Nat.reduceEqDiff, Nat.reduceMod, Nat.reduceDiv, Int.reduceNeg, Int.reduceLE, Int.reduceLT, Int.reduceToNat, Int.reduceEq, Int.reduceNe, ↓reduceIte,  eq_true h1, eq_true h2, decide_false, not_false_eq_true, decide_true, Bool.not_false, Bool.not_true, not_true_eq_false, wrap_small (show -1000000 ≤ a.name.type - b.name.type by omega) (show a.name.type - b.name.type ≤ 1000000 by omega)]
  decide +kernel

def moveE (d : Dir) (n : OName) (s : ByteArray) : Int := if ¬ foundE d n 1 = 0 then foundE d n 1 else if ¬ libE d.objects s = 0 then libE d.objects s else if 0 ≤ placeIx d.objects ⟨s, n.name, n.type⟩ then 12 else 0
def movedD (d : Dir) (n : OName) (s : ByteArray) : Dir := ⟨insO { nth d.objects (placeIx d.objects n).toNat with name := ⟨s, n.name, n.type⟩ } (withoutL d.objects (placeIx d.objects n).toNat), d.next⟩
def moveP (d : Dir) (n : OName) (s : ByteArray) : Dir := if moveE d n s = 0 then movedD d n s else noDir
theorem moveE_eq (d : Dir) (n : OName) (s : ByteArray) : moveE d n s = if ¬ findE d n = 0 then findE d n else moveE2 d n s := by
  rw [moveE, moveE2, foundE]
  by_cases h1 : findE d n = 0
  · rw [if_neg (not_not_intro h1), if_neg (not_not_intro h1)]
    by_cases h2 : permR n.type.toNat 1 = false
    · rw [if_pos h2, if_pos h2, if_pos (by decide)]
    · rw [if_neg h2, if_neg h2, if_neg (by decide)]
  · rw [if_pos h1, if_pos h1, if_pos h1]

set_option maxHeartbeats 8000000 in
theorem Move_good (d : Dir) (n : OName) (s : ByteArray) (h : d.objects.length ≤ 1000000) : Ans Tryz.prog 10 [.agg (encDir d), .agg (encOName n), .str s] (.tup [.agg (encDir (moveP d n s)), .int .i64 (moveE d n s)]) := by
  have r1 := permitted_good d n 1 (by decide) h
  refine Classical.byCases (fun h1 : foundE d n 1 = 0 => ?_) fun h1 => ?_
  case refine_2 =>
    have he : moveE d n s = foundE d n 1 := by rw [moveE, if_pos h1]
    rw [moveP, if_neg (by rw [he]; exact h1), he]
    refine Ans.le (r := .tup [.agg [.nils, .int .i64 0], .int .i64 (foundE d n 1)]) ?_ (le_noDir _) rfl
    refine good_run [] mixed Tryz.func10 rfl Tryz.ntmps10 (rs := [.cell 6 24, .tmp 7]) rfl (by decide +kernel) (by kernel_rfl) rfl ?_
    rw [startE_eq 49 _ _ _ rfl rfl]
    set_option maxRecDepth 100000 in simp (maxSteps := 10000000) only [go_sem, Nat.reduceAdd, Nat.reduceSub, Nat.reduceMul, Nat.reduceLT, Nat.reduceLeDiff, Nat.reduceEqDiff, Nat.reduceMod, Nat.reduceDiv, Int.reduceNeg, Int.reduceLE, Int.reduceLT, Int.reduceToNat, Int.reduceEq, Int.reduceNe, ↓reduceIte]
    refine call_of (r1) ?_
    set_option maxRecDepth 100000 in simp (maxSteps := 10000000) only [go_sem, Nat.reduceAdd, Nat.reduceSub, Nat.reduceMul, Nat.reduceLT, Nat.reduceLeDiff, Nat.reduceEqDiff, Nat.reduceMod, Nat.reduceDiv, Int.reduceNeg, Int.reduceLE, Int.reduceLT, Int.reduceToNat, Int.reduceEq, Int.reduceNe, ↓reduceIte,  h1, decide_true, decide_false, not_false_eq_true]
  have r2 := known_good d s h
  rw [if_pos h1, h1] at r1
  refine Classical.byCases (fun h2 : libE d.objects s = 0 => ?_) fun h2 => ?_
  case refine_2 =>
    have he : moveE d n s = libE d.objects s := by rw [moveE, if_neg (not_not_intro h1), if_pos h2]
    rw [moveP, if_neg (by rw [he]; exact h2), he]
    refine Ans.le (r := .tup [.agg [.nils, .int .i64 0], .int .i64 (libE d.objects s)]) ?_ (le_noDir _) rfl
    refine good_run [] mixed Tryz.func10 rfl Tryz.ntmps10 (rs := [.cell 6 24, .tmp 7]) rfl (by decide +kernel) (by kernel_rfl) rfl ?_
    rw [startE_eq 49 _ _ _ rfl rfl]
    set_option maxRecDepth 100000 in simp (maxSteps := 10000000) only [go_sem, Nat.reduceAdd, Nat.reduceSub, Nat.reduceMul, Nat.reduceLT, Nat.reduceLeDiff, Nat.reduceEqDiff, Nat.reduceMod, Nat.reduceDiv, Int.reduceNeg, Int.reduceLE, Int.reduceLT, Int.reduceToNat, Int.reduceEq, Int.reduceNe, ↓reduceIte]
    refine call_of (r1) ?_
    set_option maxRecDepth 100000 in simp (maxSteps := 10000000) only [go_sem, Nat.reduceAdd, Nat.reduceSub, Nat.reduceMul, Nat.reduceLT, Nat.reduceLeDiff, Nat.reduceEqDiff, Nat.reduceMod, Nat.reduceDiv, Int.reduceNeg, Int.reduceLE, Int.reduceLT, Int.reduceToNat, Int.reduceEq, Int.reduceNe, ↓reduceIte,  decide_true, eq_self]
    refine call_of (r2) ?_
    set_option maxRecDepth 100000 in simp (maxSteps := 10000000) only [go_sem, Nat.reduceAdd, Nat.reduceSub, Nat.reduceMul, Nat.reduceLT, Nat.reduceLeDiff, Nat.reduceEqDiff, Nat.reduceMod, Nat.reduceDiv, Int.reduceNeg, Int.reduceLE, Int.reduceLT, Int.reduceToNat, Int.reduceEq, Int.reduceNe, ↓reduceIte,  h2, decide_true, not_false_eq_true]
  rw [h2] at r2
  have r3 := ContainsO_good (mv1_good ⟨s, n.name, n.type⟩) d.objects h
  rw [← findIx_any (fun o : Obj => decide (o.name = (⟨s, n.name, n.type⟩ : OName))) d.objects 0] at r3
  change Ans Tryz.prog 38 [.sl (d.objects.map encObj), .fn 39 [.ptr [.str s, .str n.name, .int .i64 n.type]]] (.bool (decide (0 ≤ placeIx d.objects ⟨s, n.name, n.type⟩))) at r3
  refine Classical.byCases (fun h3 : 0 ≤ placeIx d.objects ⟨s, n.name, n.type⟩ => ?_) fun h3 => ?_
  · have he : moveE d n s = 12 := by rw [moveE, if_neg (not_not_intro h1), if_neg (not_not_intro h2), if_pos h3]
    rw [moveP, if_neg (by rw [he]; decide), he]
    rw [decide_eq_true h3] at r3
    refine Ans.le (r := .tup [.agg [.nils, .int .i64 0], .int .i64 12]) ?_ (le_noDir _) rfl
    refine good_run [] mixed Tryz.func10 rfl Tryz.ntmps10 (rs := [.cell 6 24, .tmp 7]) rfl (by decide +kernel) (by kernel_rfl) rfl ?_
    rw [startE_eq 49 _ _ _ rfl rfl]
    set_option maxRecDepth 100000 in simp (maxSteps := 10000000) only [go_sem, Nat.reduceAdd, Nat.reduceSub, Nat.reduceMul, Nat.reduceLT, Nat.reduceLeDiff, Nat.reduceEqDiff, Nat.reduceMod, Nat.reduceDiv, Int.reduceNeg, Int.reduceLE, Int.reduceLT, Int.reduceToNat, Int.reduceEq, Int.reduceNe, ↓reduceIte]
    refine call_of (r1) ?_
    set_option maxRecDepth 100000 in simp (maxSteps := 10000000) only [go_sem, Nat.reduceAdd, Nat.reduceSub, Nat.reduceMul, Nat.reduceLT, Nat.reduceLeDiff, Nat.reduceEqDiff, Nat.reduceMod, Nat.reduceDiv, Int.reduceNeg, Int.reduceLE, Int.reduceLT, Int.reduceToNat, Int.reduceEq, Int.reduceNe, ↓reduceIte,  decide_true, eq_self]
    refine call_of (r2) ?_
    set_option maxRecDepth 100000 in simp (maxSteps := 10000000) only [go_sem, Nat.reduceAdd, Nat.reduceSub, Nat.reduceMul, Nat.reduceLT, Nat.reduceLeDiff, Nat.reduceEqDiff, Nat.reduceMod, Nat.reduceDiv, Int.reduceNeg, Int.reduceLE, Int.reduceLT, Int.reduceToNat, Int.reduceEq, Int.reduceNe, ↓reduceIte,  not_true_eq_false, decide_false]
    refine call_of (r3) ?_
    set_option maxRecDepth 100000 in simp (maxSteps := 10000000) only [go_sem, Nat.reduceAdd, Nat.reduceSub, Nat.reduceMul, Nat.reduceLT, Nat.reduceLeDiff, Nat.reduceEqDiff, Nat.reduceMod, Nat.reduceDiv, Int.reduceNeg, Int.reduceLE, Int.reduceLT, Int.reduceToNat, Int.reduceEq, Int.reduceNe, ↓reduceIte]
  have he : moveE d n s = 0 := by rw [moveE, if_neg (not_not_intro h1), if_neg (not_not_intro h2), if_neg h3]
  rw [decide_eq_false h3] at r3
  have hfo := (foundE_ok h1).1
  obtain ⟨i, hx, hi⟩ := findP_ok hfo
  have hd := (findE_ok hfo).1
  rw [moveP, if_pos he, he, movedD, hx, Int.toNat_natCast]
  rw [hx] at r1
  have hty := obj_type hd (List.getElem_mem hi)
  rw [← nth_eq hi, place_name hx] at hty
  have hP : ∀ o ∈ d.objects.set i { nth d.objects i with name := (⟨s, n.name, n.type⟩ : OName) }, 0 ≤ o.name.type ∧ o.name.type ≤ 29 := fun o ho => by
    rcases List.mem_or_eq_of_mem_set ho with q | rfl
    · exact obj_type hd q
    · exact hty
  have hL := List.attachWith_map_subtype_val hP
  generalize List.attachWith _ _ hP = L at hL
  have hsrt := mv_sort hi (dir_sorted hd) (o := { nth d.objects i with name := (⟨s, n.name, n.type⟩ : OName) }) (place_no h3) L hL
  have hset : (List.map encObj d.objects).set i [.str s, .str n.name, .int .i64 n.type, .str (nth d.objects i).owner, .int .i64 (nth d.objects i).seg, .str (nth d.objects i).text, .str (nth d.objects i).content] = L.map fun x => encObj x.1 := by
    have : (L.map fun x => encObj x.1) = (L.map (·.1)).map encObj := by rw [List.map_map]; rfl
    rw [this, hL, List.map_set]; rfl
  have hres : ((sortG cfM L).map fun x => encObj x.1) = List.map encObj (insO { nth d.objects i with name := (⟨s, n.name, n.type⟩ : OName) } (withoutL d.objects i)) := by
    rw [← hsrt, List.map_map]; rfl
  have hlen : L.length = d.objects.length := by
    have := congrArg List.length hL
    rwa [List.length_map, List.length_set] at this
  have r4 := SortFuncG (fun x : OT => x.1) cfM swoM 42 mv2_good (enters_of Tryz.func42 (by kernel_rfl) rfl) L (by omega) (by omega)
  rw [hres] at r4
  have hq := map_at encObj hi
  have q1 : (0 : Int) ≤ (i : Int) := by omega
  have q2 : (i : Int) < (d.objects.length : Int) := by omega
  refine good_run [] mixed Tryz.func10 rfl Tryz.ntmps10 (rs := [.cell 6 24, .tmp 7]) rfl (by decide +kernel) (by kernel_rfl) rfl ?_
  rw [startE_eq 49 _ _ _ rfl rfl]
  set_option maxRecDepth 100000 in simp (maxSteps := 10000000) only [go_sem, Nat.reduceAdd, Nat.reduceSub, Nat.reduceMul, Nat.reduceLT, Nat.reduceLeDiff, Nat.reduceEqDiff, Nat.reduceMod, Nat.reduceDiv, Int.reduceNeg, Int.reduceLE, Int.reduceLT, Int.reduceToNat, Int.reduceEq, Int.reduceNe, ↓reduceIte]
  refine call_of (r1) ?_
  set_option maxRecDepth 100000 in simp (maxSteps := 10000000) only [go_sem, Nat.reduceAdd, Nat.reduceSub, Nat.reduceMul, Nat.reduceLT, Nat.reduceLeDiff, Nat.reduceEqDiff, Nat.reduceMod, Nat.reduceDiv, Int.reduceNeg, Int.reduceLE, Int.reduceLT, Int.reduceToNat, Int.reduceEq, Int.reduceNe, ↓reduceIte,  decide_true, eq_self]
  refine call_of (r2) ?_
  set_option maxRecDepth 100000 in simp (maxSteps := 10000000) only [go_sem, Nat.reduceAdd, Nat.reduceSub, Nat.reduceMul, Nat.reduceLT, Nat.reduceLeDiff, Nat.reduceEqDiff, Nat.reduceMod, Nat.reduceDiv, Int.reduceNeg, Int.reduceLE, Int.reduceLT, Int.reduceToNat, Int.reduceEq, Int.reduceNe, ↓reduceIte,  not_true_eq_false, decide_false]
  refine call_of (r3) ?_
  set_option maxRecDepth 100000 in simp (maxSteps := 10000000) only [go_sem, Nat.reduceAdd, Nat.reduceSub, Nat.reduceMul, Nat.reduceLT, Nat.reduceLeDiff, Nat.reduceEqDiff, Nat.reduceMod, Nat.reduceDiv, Int.reduceNeg, Int.reduceLE, Int.reduceLT, Int.reduceToNat, Int.reduceEq, Int.reduceNe, ↓reduceIte]
  refine callM_of [] [37] (CloneM d.objects h) ⟨rfl, rfl, rfl, by simp, by simp, by simp, by simp, rfl, rfl, rfl, onodup_of (l := [7]) rfl (by decide)⟩ ?_
  set_option maxRecDepth 100000 in simp (maxSteps := 10000000) only [go_sem, Nat.reduceAdd, Nat.reduceSub, Nat.reduceMul, Nat.reduceLT, Nat.reduceLeDiff, Nat.reduceEqDiff, Nat.reduceMod, Nat.reduceDiv, Int.reduceNeg, Int.reduceLE, Int.reduceLT, Int.reduceToNat, Int.reduceEq, Int.reduceNe, ↓reduceIte,  hq, hi, q1, q2, Option.map_some, Int.toNat_natCast, List.length_map, hset]
  refine callM_of [37] [37] (r4) ⟨by simp [renA, ren1, invM, posOf, verOf, AV.cellP, Env.go], rfl, rfl, by simp, by simp, by simp, by simp, rfl, rfl, rfl, onodup_of (l := [2]) rfl (by decide)⟩ ?_
  set_option maxRecDepth 100000 in simp (maxSteps := 10000000) only [go_sem, Nat.reduceAdd, Nat.reduceSub, Nat.reduceMul, Nat.reduceLT, Nat.reduceLeDiff, Nat.reduceEqDiff, Nat.reduceMod, Nat.reduceDiv, Int.reduceNeg, Int.reduceLE, Int.reduceLT, Int.reduceToNat, Int.reduceEq, Int.reduceNe, ↓reduceIte]
  done
end Go.Proofs.YtppjmigiogddpaaGreat.C08
