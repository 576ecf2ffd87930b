/- Chapter 9: the check of library lists. -/
import Derived.Test.YtppjmigiogddpaaE6
namespace Go.Proofs.Ytppjmigiogddpaa.C08
open Go Go.Proofs Go.Proofs.Ytppjmigiogddpaa.Ab
set_option linter.unusedSimpArgs false
set_option linter.unusedVariables false
attribute [local congr] ite_ctx

def listI (d : Dir) (all : List ByteArray) (i : Nat) : Int := if ¬ libE d.objects (nth all i) = 0 then libE d.objects (nth all i) else if ((all.take i).any fun p => decide (p = nth all i)) = true then 13 else 0
def curE (d : Dir) (s : ByteArray) : Int := if s = ⟨#[]⟩ then 0 else libE d.objects s
def listE (d : Dir) (l : LList) : Int × Int := if ¬ (dirE d).2 = 0 then (0, (dirE d).2) else if 5 < l.system.length ∨ 8 < l.user.length then (0, 2) else
  if (scanI (listI d (l.system ++ l.user)) (l.system ++ l.user).length 0).2 = 0 then (((l.system ++ l.user).length : Int), curE d l.current) else scanI (listI d (l.system ++ l.user)) (l.system ++ l.user).length 0
theorem ixS_self (l : List ByteArray) {i : Nat} (h : i < l.length) : 0 ≤ ixS l (nth l i) := by
  have := ixS_any l (nth l i)
  rw [show (l.any fun p => decide (p = nth l i)) = true from List.any_eq_true.2 ⟨nth l i, nth_mem h, by simp⟩, decide_eq_true_eq] at this
  exact this
theorem ixS_lt (l : List ByteArray) {i : Nat} (h : i < l.length) : (ixS l (nth l i) < (i : Int)) ↔ ((l.take i).any fun p => decide (p = nth l i)) = true := by
  have := findIx_take (fun p : ByteArray => decide (p = nth l i)) l 0 i (ixS_self l h)
  rw [Nat.zero_add] at this
  exact this

set_option maxHeartbeats 4000000 in
theorem CheckList_good (d : Dir) (l : LList) (h : d.objects.length ≤ 1000000) (h1 : l.system.length ≤ 1000) (h2 : l.user.length ≤ 1000) : Ans Try.prog 18 [.agg (encDir d), .agg (encLL l)] (.tup [.int .i64 (listE d l).1, .int .i64 (listE d l).2]) := by
  have cd := CheckDirectory_good d h
  refine Classical.byCases (fun hd : (dirE d).2 = 0 => ?_) fun hd => ?_
  case refine_2 =>
    have he : listE d l = (0, (dirE d).2) := by rw [listE, if_pos hd]
    rw [he]
    refine good_run [(8, [4, 5, 9, 10, 11, 39, 40, 41, 42, 43, 44, 45, 46, 47, 48, 49, 50, 51, 52, 53, 54, 55, 56, 57, 58, 59], [])] mixed Try.func18 rfl Try.ntmps18 (rs := [.tmp 4, .tmp 5]) rfl (by decide +kernel) (by kernel_rfl) rfl ?_
    rw [startE_eq 71 _ _ _ rfl rfl]
    set_option maxRecDepth 100000 in simp (maxSteps := 10000000) only [go_sem, Nat.reduceAdd, Nat.reduceSub, Nat.reduceMul, Nat.reduceLT, Nat.reduceLeDiff, Nat.reduceEqDiff, Nat.reduceMod, Nat.reduceDiv, Int.reduceNeg, Int.reduceLE, Int.reduceLT, Int.reduceToNat, Int.reduceEq, Int.reduceNe, ↓reduceIte]
    refine call_of (cd) ?_
    set_option maxRecDepth 100000 in simp (maxSteps := 10000000) only [go_sem, Nat.reduceAdd, Nat.reduceSub, Nat.reduceMul, Nat.reduceLT, Nat.reduceLeDiff, Nat.reduceEqDiff, Nat.reduceMod, Nat.reduceDiv, Int.reduceNeg, Int.reduceLE, Int.reduceLT, Int.reduceToNat, Int.reduceEq, Int.reduceNe, ↓reduceIte,  hd, not_false_eq_true, decide_true]
  refine Classical.byCases (fun hl : 5 < l.system.length ∨ 8 < l.user.length => ?_) fun hl => ?_
  · have he : listE d l = (0, 2) := by rw [listE, if_neg (not_not_intro hd), if_pos hl]
    rw [he]
    refine good_run [(8, [4, 5, 9, 10, 11, 39, 40, 41, 42, 43, 44, 45, 46, 47, 48, 49, 50, 51, 52, 53, 54, 55, 56, 57, 58, 59], [])] mixed Try.func18 rfl Try.ntmps18 (rs := [.tmp 4, .tmp 5]) rfl (by decide +kernel) (by kernel_rfl) rfl ?_
    rw [startE_eq 71 _ _ _ rfl rfl]
    set_option maxRecDepth 100000 in simp (maxSteps := 10000000) only [go_sem, Nat.reduceAdd, Nat.reduceSub, Nat.reduceMul, Nat.reduceLT, Nat.reduceLeDiff, Nat.reduceEqDiff, Nat.reduceMod, Nat.reduceDiv, Int.reduceNeg, Int.reduceLE, Int.reduceLT, Int.reduceToNat, Int.reduceEq, Int.reduceNe, ↓reduceIte]
    refine call_of (cd) ?_
    set_option maxRecDepth 100000 in simp (maxSteps := 10000000) only [go_sem, Nat.reduceAdd, Nat.reduceSub, Nat.reduceMul, Nat.reduceLT, Nat.reduceLeDiff, Nat.reduceEqDiff, Nat.reduceMod, Nat.reduceDiv, Int.reduceNeg, Int.reduceLE, Int.reduceLT, Int.reduceToNat, Int.reduceEq, Int.reduceNe, ↓reduceIte,  hd, not_true_eq_false, decide_false]
    refine ifI (fun q => ?_) fun q => ?_
    · have q2 : (8 : Int) < (l.user.length : Int) := by simp only [decide_eq_false_iff_not] at q; omega
      set_option maxRecDepth 100000 in simp (maxSteps := 10000000) only [go_sem, Nat.reduceAdd, Nat.reduceSub, Nat.reduceMul, Nat.reduceLT, Nat.reduceLeDiff, Nat.reduceEqDiff, Nat.reduceMod, Nat.reduceDiv, Int.reduceNeg, Int.reduceLE, Int.reduceLT, Int.reduceToNat, Int.reduceEq, Int.reduceNe, ↓reduceIte,  q, q2, decide_true]
    · simp only [Bool.not_eq_false, decide_eq_true_eq] at q
      set_option maxRecDepth 100000 in simp (maxSteps := 10000000) only [go_sem, Nat.reduceAdd, Nat.reduceSub, Nat.reduceMul, Nat.reduceLT, Nat.reduceLeDiff, Nat.reduceEqDiff, Nat.reduceMod, Nat.reduceDiv, Int.reduceNeg, Int.reduceLE, Int.reduceLT, Int.reduceToNat, Int.reduceEq, Int.reduceNe, ↓reduceIte,  q, decide_true]
  have he : listE d l = if (scanI (listI d (l.system ++ l.user)) (l.system ++ l.user).length 0).2 = 0 then (((l.system ++ l.user).length : Int), curE d l.current) else scanI (listI d (l.system ++ l.user)) (l.system ++ l.user).length 0 := by rw [listE, if_neg (not_not_intro hd), if_neg hl]
  have n1 : ¬ (5 : Int) < (l.system.length : Int) := by omega
  have n2 : ¬ (8 : Int) < (l.user.length : Int) := by omega
  have cc := Concat_good l.system l.user (by omega) (by omega)
  have hal : (l.system ++ l.user).length ≤ 1000000 := by rw [List.length_append]; omega
  generalize l.system ++ l.user = all at *
  refine good_run [(8, [4, 5, 9, 10, 11, 39, 40, 41, 42, 43, 44, 45, 46, 47, 48, 49, 50, 51, 52, 53, 54, 55, 56, 57, 58, 59], [])] mixed Try.func18 rfl Try.ntmps18 (rs := [.tmp 4, .tmp 5]) rfl (by decide +kernel) (by kernel_rfl) rfl ?_
  rw [startE_eq 71 _ _ _ rfl rfl]
  set_option maxRecDepth 100000 in simp (maxSteps := 10000000) only [go_sem, Nat.reduceAdd, Nat.reduceSub, Nat.reduceMul, Nat.reduceLT, Nat.reduceLeDiff, Nat.reduceEqDiff, Nat.reduceMod, Nat.reduceDiv, Int.reduceNeg, Int.reduceLE, Int.reduceLT, Int.reduceToNat, Int.reduceEq, Int.reduceNe, ↓reduceIte]
  refine call_of (cd) ?_
  set_option maxRecDepth 100000 in simp (maxSteps := 10000000) only [go_sem, Nat.reduceAdd, Nat.reduceSub, Nat.reduceMul, Nat.reduceLT, Nat.reduceLeDiff, Nat.reduceEqDiff, Nat.reduceMod, Nat.reduceDiv, Int.reduceNeg, Int.reduceLE, Int.reduceLT, Int.reduceToNat, Int.reduceEq, Int.reduceNe, ↓reduceIte,  hd, not_true_eq_false, decide_false, n1, n2]
  refine call_of (cc) ?_
  set_option maxRecDepth 100000 in simp (maxSteps := 10000000) only [go_sem, Nat.reduceAdd, Nat.reduceSub, Nat.reduceMul, Nat.reduceLT, Nat.reduceLeDiff, Nat.reduceEqDiff, Nat.reduceMod, Nat.reduceDiv, Int.reduceNeg, Int.reduceLE, Int.reduceLT, Int.reduceToNat, Int.reduceEq, Int.reduceNe, ↓reduceIte]
  refine loop_by ([4, 5, 9, 10, 11, 39, 40, 41, 42, 43, 44, 45, 46, 47, 48, 49, 50, 51, 52, 53, 54, 55, 56, 57, 58, 59], []) (fun i : Nat => [(.s 38, .int .i64 (i : Int))]) (fun i => all.length - i) (fun i => i ≤ all.length ∧ scanI (listI d all) all.length 0 = scanI (listI d all) (all.length - i) i) 0 rfl ⟨Nat.zero_le _, rfl⟩ rfl ?_
  rintro c' st' hst i ⟨hi, hf⟩ ih
  set_option maxRecDepth 100000 in simp (maxSteps := 10000000) only [go_sem, Nat.reduceAdd, Nat.reduceSub, Nat.reduceMul, Nat.reduceLT, Nat.reduceLeDiff, Nat.reduceEqDiff, Nat.reduceMod, Nat.reduceDiv, Int.reduceNeg, Int.reduceLE, Int.reduceLT, Int.reduceToNat, Int.reduceEq, Int.reduceNe, ↓reduceIte]
  refine ifI (fun hlt => ?_) fun hlt => ?_
  case refine_2 =>
    have hke : scanI (listI d all) all.length 0 = (0, 0) := by rw [hf, show all.length - i = 0 by omega]; rfl
    rw [he, hke, if_pos rfl]
    subst hst
    have kc := known_good d l.current h
    refine Classical.byCases (fun hc : l.current = ⟨#[]⟩ => ?_) fun hc => ?_
    · set_option maxRecDepth 100000 in simp (maxSteps := 10000000) only [go_sem, Nat.reduceAdd, Nat.reduceSub, Nat.reduceMul, Nat.reduceLT, Nat.reduceLeDiff, Nat.reduceEqDiff, Nat.reduceMod, Nat.reduceDiv, Int.reduceNeg, Int.reduceLE, Int.reduceLT, Int.reduceToNat, Int.reduceEq, Int.reduceNe, ↓reduceIte,  hlt, hc, not_true_eq_false, decide_false, curE]
    · have hce : curE d l.current = libE d.objects l.current := by rw [curE, if_neg hc]
      set_option maxRecDepth 100000 in simp (maxSteps := 10000000) only [go_sem, Nat.reduceAdd, Nat.reduceSub, Nat.reduceMul, Nat.reduceLT, Nat.reduceLeDiff, Nat.reduceEqDiff, Nat.reduceMod, Nat.reduceDiv, Int.reduceNeg, Int.reduceLE, Int.reduceLT, Int.reduceToNat, Int.reduceEq, Int.reduceNe, ↓reduceIte,  hlt, hc, not_false_eq_true, decide_true]
      refine call_of (kc) ?_
      set_option maxRecDepth 100000 in simp (maxSteps := 10000000) only [go_sem, Nat.reduceAdd, Nat.reduceSub, Nat.reduceMul, Nat.reduceLT, Nat.reduceLeDiff, Nat.reduceEqDiff, Nat.reduceMod, Nat.reduceDiv, Int.reduceNeg, Int.reduceLE, Int.reduceLT, Int.reduceToNat, Int.reduceEq, Int.reduceNe, ↓reduceIte]
      rw [hce]
  have hw : i < 9223372036854775807 := by omega
  have done : ∀ {e : Int}, listI d all i = e → e ≠ 0 → listE d l = ((i : Int), e) := fun {e} h1 h2 => by
    have := hf.trans (scanI_hit hlt h1 h2)
    rw [he, this, if_neg h2]
  have next : listI d all i = 0 → scanI (listI d all) all.length 0 = scanI (listI d all) (all.length - (i + 1)) (i + 1) := fun h1 => hf.trans (scanI_skip hlt h1)
  have k1 := known_good d (nth all i) h
  have c1 := ContainsS_good (all.take i) (nth all i) (by rw [List.length_take]; omega)
  set_option maxRecDepth 100000 in simp (maxSteps := 10000000) only [go_sem, Nat.reduceAdd, Nat.reduceSub, Nat.reduceMul, Nat.reduceLT, Nat.reduceLeDiff, Nat.reduceEqDiff, Nat.reduceMod, Nat.reduceDiv, Int.reduceNeg, Int.reduceLE, Int.reduceLT, Int.reduceToNat, Int.reduceEq, Int.reduceNe, ↓reduceIte,  hlt]
  refine call_of (k1) ?_
  set_option maxRecDepth 100000 in simp (maxSteps := 10000000) only [go_sem, Nat.reduceAdd, Nat.reduceSub, Nat.reduceMul, Nat.reduceLT, Nat.reduceLeDiff, Nat.reduceEqDiff, Nat.reduceMod, Nat.reduceDiv, Int.reduceNeg, Int.reduceLE, Int.reduceLT, Int.reduceToNat, Int.reduceEq, Int.reduceNe, ↓reduceIte]
  refine ifI (fun h3 => ?_) fun h3 => ?_
  case refine_2 =>
    have ho : listI d all i = libE d.objects (nth all i) := by rw [listI, if_pos (by simpa using h3)]
    have h3' : ¬ libE d.objects (nth all i) = 0 := by simpa using h3
    set_option maxRecDepth 100000 in simp (maxSteps := 10000000) only [go_sem, Nat.reduceAdd, Nat.reduceSub, Nat.reduceMul, Nat.reduceLT, Nat.reduceLeDiff, Nat.reduceEqDiff, Nat.reduceMod, Nat.reduceDiv, Int.reduceNeg, Int.reduceLE, Int.reduceLT, Int.reduceToNat, Int.reduceEq, Int.reduceNe, ↓reduceIte,  h3', not_false_eq_true, decide_true, decide_false]
    rw [done ho h3']
    exact ⟨rfl, rfl⟩
  have h3' : libE d.objects (nth all i) = 0 := by simpa using h3
  set_option maxRecDepth 100000 in simp (maxSteps := 10000000) only [go_sem, Nat.reduceAdd, Nat.reduceSub, Nat.reduceMul, Nat.reduceLT, Nat.reduceLeDiff, Nat.reduceEqDiff, Nat.reduceMod, Nat.reduceDiv, Int.reduceNeg, Int.reduceLE, Int.reduceLT, Int.reduceToNat, Int.reduceEq, Int.reduceNe, ↓reduceIte,  h3', decide_true, show (i : Int) ≤ (all.length : Int) by omega, show (0 : Int) ≤ (i : Int) by omega, Int.toNat_natCast, Int.toNat_zero]
  refine call_of (c1) ?_
  set_option maxRecDepth 100000 in simp (maxSteps := 10000000) only [go_sem, Nat.reduceAdd, Nat.reduceSub, Nat.reduceMul, Nat.reduceLT, Nat.reduceLeDiff, Nat.reduceEqDiff, Nat.reduceMod, Nat.reduceDiv, Int.reduceNeg, Int.reduceLE, Int.reduceLT, Int.reduceToNat, Int.reduceEq, Int.reduceNe, ↓reduceIte]
  refine ifI (fun s4 => ?_) fun s4 => ?_
  · have ho : listI d all i = 13 := by rw [listI, if_neg (not_not_intro h3'), if_pos s4]
    set_option maxRecDepth 100000 in simp (maxSteps := 10000000) only [go_sem, Nat.reduceAdd, Nat.reduceSub, Nat.reduceMul, Nat.reduceLT, Nat.reduceLeDiff, Nat.reduceEqDiff, Nat.reduceMod, Nat.reduceDiv, Int.reduceNeg, Int.reduceLE, Int.reduceLT, Int.reduceToNat, Int.reduceEq, Int.reduceNe, ↓reduceIte]
    rw [done ho (by decide)]
    exact ⟨rfl, rfl⟩
  have ho : listI d all i = 0 := by rw [listI, if_neg (not_not_intro h3'), if_neg s4]
  set_option maxRecDepth 100000 in simp (maxSteps := 10000000) only [go_sem, Nat.reduceAdd, Nat.reduceSub, Nat.reduceMul, Nat.reduceLT, Nat.reduceLeDiff, Nat.reduceEqDiff, Nat.reduceMod, Nat.reduceDiv, Int.reduceNeg, Int.reduceLE, Int.reduceLT, Int.reduceToNat, Int.reduceEq, Int.reduceNe, ↓reduceIte,  h3', not_true_eq_false, decide_false]
  refine ih (i + 1) _ ⟨by omega, next ho⟩ (by omega) ?_
  set_option maxRecDepth 100000 in simp (maxSteps := 10000000) only [go_sem, Nat.reduceAdd, Nat.reduceSub, Nat.reduceMul, Nat.reduceLT, Nat.reduceLeDiff, Nat.reduceEqDiff, Nat.reduceMod, Nat.reduceDiv, Int.reduceNeg, Int.reduceLE, Int.reduceLT, Int.reduceToNat, Int.reduceEq, Int.reduceNe, ↓reduceIte,  wrap_succ hw]

theorem map_at {α : Type} [Inhabited α] (enc : α → List AV) {l : List α} {i : Nat} (h : i < l.length) : (List.map enc l)[i]? = some (enc (nth l i)) := by
  rw [List.getElem?_map, List.getElem?_eq_getElem h, nth_eq h]; rfl
set_option maxHeartbeats 4000000 in
theorem RefCheck_good (d : Dir) (l : LList) (h : d.objects.length ≤ 1000000) (h1 : l.system.length ≤ 1000) (h2 : l.user.length ≤ 1000) : Ans Try.prog 21 [.agg (encDir d), .agg (encLL l)] (.tup [.int .i64 (listE d l).1, .int .i64 (listE d l).2]) := by
  have cd := Err_good d h
  refine Classical.byCases (fun hd : (dirE d).2 = 0 => ?_) fun hd => ?_
  case refine_2 =>
    have he : listE d l = (0, (dirE d).2) := by rw [listE, if_pos hd]
    rw [he]
    refine good_run [(8, [4, 5, 9, 32, 33, 34, 35, 36, 37, 38, 39, 40, 41, 42, 43, 44, 45, 46, 47, 48, 49, 50, 51, 52, 53, 54, 55, 56], [])] mixed Try.func21 rfl Try.ntmps21 (rs := [.tmp 4, .tmp 5]) rfl (by decide +kernel) (by kernel_rfl) rfl ?_
    rw [startE_eq 71 _ _ _ rfl rfl]
    set_option maxRecDepth 100000 in simp (maxSteps := 10000000) only [go_sem, Nat.reduceAdd, Nat.reduceSub, Nat.reduceMul, Nat.reduceLT, Nat.reduceLeDiff, Nat.reduceEqDiff, Nat.reduceMod, Nat.reduceDiv, Int.reduceNeg, Int.reduceLE, Int.reduceLT, Int.reduceToNat, Int.reduceEq, Int.reduceNe, ↓reduceIte]
    refine call_of (cd) ?_
    set_option maxRecDepth 100000 in simp (maxSteps := 10000000) only [go_sem, Nat.reduceAdd, Nat.reduceSub, Nat.reduceMul, Nat.reduceLT, Nat.reduceLeDiff, Nat.reduceEqDiff, Nat.reduceMod, Nat.reduceDiv, Int.reduceNeg, Int.reduceLE, Int.reduceLT, Int.reduceToNat, Int.reduceEq, Int.reduceNe, ↓reduceIte,  hd, not_false_eq_true, decide_true]
  refine Classical.byCases (fun hl : 5 < l.system.length ∨ 8 < l.user.length => ?_) fun hl => ?_
  · have he : listE d l = (0, 2) := by rw [listE, if_neg (not_not_intro hd), if_pos hl]
    rw [he]
    refine good_run [(8, [4, 5, 9, 32, 33, 34, 35, 36, 37, 38, 39, 40, 41, 42, 43, 44, 45, 46, 47, 48, 49, 50, 51, 52, 53, 54, 55, 56], [])] mixed Try.func21 rfl Try.ntmps21 (rs := [.tmp 4, .tmp 5]) rfl (by decide +kernel) (by kernel_rfl) rfl ?_
    rw [startE_eq 71 _ _ _ rfl rfl]
    set_option maxRecDepth 100000 in simp (maxSteps := 10000000) only [go_sem, Nat.reduceAdd, Nat.reduceSub, Nat.reduceMul, Nat.reduceLT, Nat.reduceLeDiff, Nat.reduceEqDiff, Nat.reduceMod, Nat.reduceDiv, Int.reduceNeg, Int.reduceLE, Int.reduceLT, Int.reduceToNat, Int.reduceEq, Int.reduceNe, ↓reduceIte]
    refine call_of (cd) ?_
    set_option maxRecDepth 100000 in simp (maxSteps := 10000000) only [go_sem, Nat.reduceAdd, Nat.reduceSub, Nat.reduceMul, Nat.reduceLT, Nat.reduceLeDiff, Nat.reduceEqDiff, Nat.reduceMod, Nat.reduceDiv, Int.reduceNeg, Int.reduceLE, Int.reduceLT, Int.reduceToNat, Int.reduceEq, Int.reduceNe, ↓reduceIte,  hd, not_true_eq_false, decide_false]
    refine ifI (fun q => ?_) fun q => ?_
    · have q2 : (8 : Int) < (l.user.length : Int) := by simp only [decide_eq_false_iff_not] at q; omega
      set_option maxRecDepth 100000 in simp (maxSteps := 10000000) only [go_sem, Nat.reduceAdd, Nat.reduceSub, Nat.reduceMul, Nat.reduceLT, Nat.reduceLeDiff, Nat.reduceEqDiff, Nat.reduceMod, Nat.reduceDiv, Int.reduceNeg, Int.reduceLE, Int.reduceLT, Int.reduceToNat, Int.reduceEq, Int.reduceNe, ↓reduceIte,  q, q2, decide_true]
    · simp only [Bool.not_eq_false, decide_eq_true_eq] at q
      set_option maxRecDepth 100000 in simp (maxSteps := 10000000) only [go_sem, Nat.reduceAdd, Nat.reduceSub, Nat.reduceMul, Nat.reduceLT, Nat.reduceLeDiff, Nat.reduceEqDiff, Nat.reduceMod, Nat.reduceDiv, Int.reduceNeg, Int.reduceLE, Int.reduceLT, Int.reduceToNat, Int.reduceEq, Int.reduceNe, ↓reduceIte,  q, decide_true]
  have he : listE d l = if (scanI (listI d (l.system ++ l.user)) (l.system ++ l.user).length 0).2 = 0 then (((l.system ++ l.user).length : Int), curE d l.current) else scanI (listI d (l.system ++ l.user)) (l.system ++ l.user).length 0 := by rw [listE, if_neg (not_not_intro hd), if_neg hl]
  have n1 : ¬ (5 : Int) < (l.system.length : Int) := by omega
  have n2 : ¬ (8 : Int) < (l.user.length : Int) := by omega
  have hr : List.map encStr l.system ++ List.map encStr l.user = List.map encStr (l.system ++ l.user) := by rw [List.map_append]
  have hal : (l.system ++ l.user).length ≤ 1000000 := by rw [List.length_append]; omega
  refine good_run [(8, [4, 5, 9, 32, 33, 34, 35, 36, 37, 38, 39, 40, 41, 42, 43, 44, 45, 46, 47, 48, 49, 50, 51, 52, 53, 54, 55, 56], [])] mixed Try.func21 rfl Try.ntmps21 (rs := [.tmp 4, .tmp 5]) rfl (by decide +kernel) (by kernel_rfl) rfl ?_
  rw [startE_eq 71 _ _ _ rfl rfl]
  set_option maxRecDepth 100000 in simp (maxSteps := 10000000) only [go_sem, Nat.reduceAdd, Nat.reduceSub, Nat.reduceMul, Nat.reduceLT, Nat.reduceLeDiff, Nat.reduceEqDiff, Nat.reduceMod, Nat.reduceDiv, Int.reduceNeg, Int.reduceLE, Int.reduceLT, Int.reduceToNat, Int.reduceEq, Int.reduceNe, ↓reduceIte]
  refine call_of (cd) ?_
  set_option maxRecDepth 100000 in simp (maxSteps := 10000000) only [go_sem, Nat.reduceAdd, Nat.reduceSub, Nat.reduceMul, Nat.reduceLT, Nat.reduceLeDiff, Nat.reduceEqDiff, Nat.reduceMod, Nat.reduceDiv, Int.reduceNeg, Int.reduceLE, Int.reduceLT, Int.reduceToNat, Int.reduceEq, Int.reduceNe, ↓reduceIte,  hd, not_true_eq_false, decide_false, n1, n2]
  refine callMD_of [] [28] (CopyM l.system (by omega)) ⟨rfl, rfl, rfl, by simp, by simp, by simp, by simp, rfl, rfl, rfl, onodup_of (l := [4]) rfl (by decide)⟩ ?_
  set_option maxRecDepth 100000 in simp (maxSteps := 10000000) only [go_sem, Nat.reduceAdd, Nat.reduceSub, Nat.reduceMul, Nat.reduceLT, Nat.reduceLeDiff, Nat.reduceEqDiff, Nat.reduceMod, Nat.reduceDiv, Int.reduceNeg, Int.reduceLE, Int.reduceLT, Int.reduceToNat, Int.reduceEq, Int.reduceNe, ↓reduceIte,  show (l.system.length + l.user.length) * 16 ≤ 140737488355328 by omega, show l.system.length + l.user.length ≤ maxLen by unfold maxLen; omega, hr]
  refine ⟨by decide +kernel, ?_⟩
  generalize l.system ++ l.user = all at *
  refine loop_by ([4, 5, 9, 32, 33, 34, 35, 36, 37, 38, 39, 40, 41, 42, 43, 44, 45, 46, 47, 48, 49, 50, 51, 52, 53, 54, 55, 56], []) (fun i : Nat => [(.s 8, .int .i64 (i : Int)), (.o 31, .obj 1 9 1 false true (all.map encStr))]) (fun i => all.length - i) (fun i => i ≤ all.length ∧ scanI (listI d all) all.length 0 = scanI (listI d all) (all.length - i) i) 0 rfl ⟨Nat.zero_le _, rfl⟩ rfl ?_
  rintro c' st' hst i ⟨hi, hf⟩ ih
  set_option maxRecDepth 100000 in simp (maxSteps := 10000000) only [go_sem, Nat.reduceAdd, Nat.reduceSub, Nat.reduceMul, Nat.reduceLT, Nat.reduceLeDiff, Nat.reduceEqDiff, Nat.reduceMod, Nat.reduceDiv, Int.reduceNeg, Int.reduceLE, Int.reduceLT, Int.reduceToNat, Int.reduceEq, Int.reduceNe, ↓reduceIte]
  refine ifI (fun hlt => ?_) fun hlt => ?_
  case refine_2 =>
    have hke : scanI (listI d all) all.length 0 = (0, 0) := by rw [hf, show all.length - i = 0 by omega]; rfl
    rw [he, hke, if_pos rfl]
    subst hst
    have kc := RefLib_good d l.current h
    refine Classical.byCases (fun hc : l.current = ⟨#[]⟩ => ?_) fun hc => ?_
    · set_option maxRecDepth 100000 in simp (maxSteps := 10000000) only [go_sem, Nat.reduceAdd, Nat.reduceSub, Nat.reduceMul, Nat.reduceLT, Nat.reduceLeDiff, Nat.reduceEqDiff, Nat.reduceMod, Nat.reduceDiv, Int.reduceNeg, Int.reduceLE, Int.reduceLT, Int.reduceToNat, Int.reduceEq, Int.reduceNe, ↓reduceIte,  hlt, hc, not_true_eq_false, decide_false, curE]
    · have hce : curE d l.current = libE d.objects l.current := by rw [curE, if_neg hc]
      set_option maxRecDepth 100000 in simp (maxSteps := 10000000) only [go_sem, Nat.reduceAdd, Nat.reduceSub, Nat.reduceMul, Nat.reduceLT, Nat.reduceLeDiff, Nat.reduceEqDiff, Nat.reduceMod, Nat.reduceDiv, Int.reduceNeg, Int.reduceLE, Int.reduceLT, Int.reduceToNat, Int.reduceEq, Int.reduceNe, ↓reduceIte,  hlt, hc, not_false_eq_true, decide_true]
      refine call_of (kc) ?_
      set_option maxRecDepth 100000 in simp (maxSteps := 10000000) only [go_sem, Nat.reduceAdd, Nat.reduceSub, Nat.reduceMul, Nat.reduceLT, Nat.reduceLeDiff, Nat.reduceEqDiff, Nat.reduceMod, Nat.reduceDiv, Int.reduceNeg, Int.reduceLE, Int.reduceLT, Int.reduceToNat, Int.reduceEq, Int.reduceNe, ↓reduceIte]
      rw [hce]
      refine ifI (fun q => ?_) fun q => ?_
      · set_option maxRecDepth 100000 in simp (maxSteps := 10000000) only [go_sem, Nat.reduceAdd, Nat.reduceSub, Nat.reduceMul, Nat.reduceLT, Nat.reduceLeDiff, Nat.reduceEqDiff, Nat.reduceMod, Nat.reduceDiv, Int.reduceNeg, Int.reduceLE, Int.reduceLT, Int.reduceToNat, Int.reduceEq, Int.reduceNe, ↓reduceIte]
      · simp only [decide_eq_true_eq, Classical.not_not] at q
        set_option maxRecDepth 100000 in simp (maxSteps := 10000000) only [go_sem, Nat.reduceAdd, Nat.reduceSub, Nat.reduceMul, Nat.reduceLT, Nat.reduceLeDiff, Nat.reduceEqDiff, Nat.reduceMod, Nat.reduceDiv, Int.reduceNeg, Int.reduceLE, Int.reduceLT, Int.reduceToNat, Int.reduceEq, Int.reduceNe, ↓reduceIte,  q]
  have hw : i < 9223372036854775807 := by omega
  have done : ∀ {e : Int}, listI d all i = e → e ≠ 0 → listE d l = ((i : Int), e) := fun {e} h1 h2 => by
    have := hf.trans (scanI_hit hlt h1 h2)
    rw [he, this, if_neg h2]
  have next : listI d all i = 0 → scanI (listI d all) all.length 0 = scanI (listI d all) (all.length - (i + 1)) (i + 1) := fun h1 => hf.trans (scanI_skip hlt h1)
  have k1 := RefLib_good d (nth all i) h
  have c1 := IndexOf_good all (nth all i) (by omega)
  have hat : (List.map encStr all)[i]? = some (encStr (nth all i)) := map_at _ hlt
  set_option maxRecDepth 100000 in simp (maxSteps := 10000000) only [go_sem, Nat.reduceAdd, Nat.reduceSub, Nat.reduceMul, Nat.reduceLT, Nat.reduceLeDiff, Nat.reduceEqDiff, Nat.reduceMod, Nat.reduceDiv, Int.reduceNeg, Int.reduceLE, Int.reduceLT, Int.reduceToNat, Int.reduceEq, Int.reduceNe, ↓reduceIte,  hlt, hat]
  refine callD_of (k1) ?_
  set_option maxRecDepth 100000 in simp (maxSteps := 10000000) only [go_sem, Nat.reduceAdd, Nat.reduceSub, Nat.reduceMul, Nat.reduceLT, Nat.reduceLeDiff, Nat.reduceEqDiff, Nat.reduceMod, Nat.reduceDiv, Int.reduceNeg, Int.reduceLE, Int.reduceLT, Int.reduceToNat, Int.reduceEq, Int.reduceNe, ↓reduceIte,  hlt, hat]
  refine ⟨by decide +kernel, ?_⟩
  refine ifI (fun h3 => ?_) fun h3 => ?_
  · have ho : listI d all i = libE d.objects (nth all i) := by rw [listI, if_pos h3]
    set_option maxRecDepth 100000 in simp (maxSteps := 10000000) only [go_sem, Nat.reduceAdd, Nat.reduceSub, Nat.reduceMul, Nat.reduceLT, Nat.reduceLeDiff, Nat.reduceEqDiff, Nat.reduceMod, Nat.reduceDiv, Int.reduceNeg, Int.reduceLE, Int.reduceLT, Int.reduceToNat, Int.reduceEq, Int.reduceNe, ↓reduceIte]
    rw [done ho h3]
    exact ⟨rfl, rfl⟩
  have h3' : libE d.objects (nth all i) = 0 := Classical.not_not.1 h3
  set_option maxRecDepth 100000 in simp (maxSteps := 10000000) only [go_sem, Nat.reduceAdd, Nat.reduceSub, Nat.reduceMul, Nat.reduceLT, Nat.reduceLeDiff, Nat.reduceEqDiff, Nat.reduceMod, Nat.reduceDiv, Int.reduceNeg, Int.reduceLE, Int.reduceLT, Int.reduceToNat, Int.reduceEq, Int.reduceNe, ↓reduceIte,  hlt, hat]
  refine call_of (c1) ?_
  set_option maxRecDepth 100000 in simp (maxSteps := 10000000) only [go_sem, Nat.reduceAdd, Nat.reduceSub, Nat.reduceMul, Nat.reduceLT, Nat.reduceLeDiff, Nat.reduceEqDiff, Nat.reduceMod, Nat.reduceDiv, Int.reduceNeg, Int.reduceLE, Int.reduceLT, Int.reduceToNat, Int.reduceEq, Int.reduceNe, ↓reduceIte]
  refine ifI (fun s4 => ?_) fun s4 => ?_
  · have ho : listI d all i = 13 := by rw [listI, if_neg (not_not_intro h3'), if_pos ((ixS_lt all hlt).1 s4)]
    set_option maxRecDepth 100000 in simp (maxSteps := 10000000) only [go_sem, Nat.reduceAdd, Nat.reduceSub, Nat.reduceMul, Nat.reduceLT, Nat.reduceLeDiff, Nat.reduceEqDiff, Nat.reduceMod, Nat.reduceDiv, Int.reduceNeg, Int.reduceLE, Int.reduceLT, Int.reduceToNat, Int.reduceEq, Int.reduceNe, ↓reduceIte]
    rw [done ho (by decide)]
    exact ⟨rfl, rfl⟩
  have ho : listI d all i = 0 := by rw [listI, if_neg (not_not_intro h3'), if_neg (fun q => s4 ((ixS_lt all hlt).2 q))]
  set_option maxRecDepth 100000 in simp (maxSteps := 10000000) only [go_sem, Nat.reduceAdd, Nat.reduceSub, Nat.reduceMul, Nat.reduceLT, Nat.reduceLeDiff, Nat.reduceEqDiff, Nat.reduceMod, Nat.reduceDiv, Int.reduceNeg, Int.reduceLE, Int.reduceLT, Int.reduceToNat, Int.reduceEq, Int.reduceNe, ↓reduceIte]
  refine ih (i + 1) _ ⟨by omega, next ho⟩ (by omega) ?_
  set_option maxRecDepth 100000 in simp (maxSteps := 10000000) only [go_sem, Nat.reduceAdd, Nat.reduceSub, Nat.reduceMul, Nat.reduceLT, Nat.reduceLeDiff, Nat.reduceEqDiff, Nat.reduceMod, Nat.reduceDiv, Int.reduceNeg, Int.reduceLE, Int.reduceLT, Int.reduceToNat, Int.reduceEq, Int.reduceNe, ↓reduceIte,  wrap_succ hw]
theorem RefErr_good (d : Dir) (l : LList) (h : d.objects.length ≤ 1000000) (h1 : l.system.length ≤ 1000) (h2 : l.user.length ≤ 1000) : Ans Try.prog 31 [.agg (encDir d), .agg (encLL l)] (.int .i64 (listE d l).2) := by
  refine good_run [] mixed Try.func31 rfl Try.ntmps31 (rs := [.tmp 4]) rfl (by decide +kernel) (by kernel_rfl) rfl ?_
  rw [startE_eq 14 _ _ _ rfl rfl]
  set_option maxRecDepth 100000 in simp (maxSteps := 10000000) only [go_sem, Nat.reduceAdd, Nat.reduceSub, Nat.reduceMul, Nat.reduceLT, Nat.reduceLeDiff, Nat.reduceEqDiff, Nat.reduceMod, Nat.reduceDiv, Int.reduceNeg, Int.reduceLE, Int.reduceLT, Int.reduceToNat, Int.reduceEq, Int.reduceNe, ↓reduceIte]
  refine call_of (RefCheck_good d l h h1 h2) ?_
  set_option maxRecDepth 100000 in simp (maxSteps := 10000000) only [go_sem, Nat.reduceAdd, Nat.reduceSub, Nat.reduceMul, Nat.reduceLT, Nat.reduceLeDiff, Nat.reduceEqDiff, Nat.reduceMod, Nat.reduceDiv, Int.reduceNeg, Int.reduceLE, Int.reduceLT, Int.reduceToNat, Int.reduceEq, Int.reduceNe, ↓reduceIte]
end Go.Proofs.Ytppjmigiogddpaa.C08
