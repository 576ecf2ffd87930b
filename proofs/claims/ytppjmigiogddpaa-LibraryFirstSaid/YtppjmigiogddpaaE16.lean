/- Chapter 9: the first match. -/
import Derived.Test.YtppjmigiogddpaaE15
namespace Go.Proofs.Ytppjmigiogddpaa.C08
open Go Go.Proofs Go.Proofs.Ytppjmigiogddpaa.Ab
set_option linter.unusedSimpArgs false
set_option linter.unusedVariables false
attribute [local congr] ite_ctx

theorem dirE_all {d : Dir} (h : (dirE d).2 = 0) {i : Nat} (hi : i < d.objects.length) : objE d i = 0 := by
  rw [dirE] at h
  split at h
  · cases h
  split at h
  · cases h
  split at h
  · rename_i q
    exact scanI_all _ 0 q i (Nat.zero_le _) (by omega)
  · rename_i q; exact absurd h q
theorem objE_seg {d : Dir} {i : Nat} (h : objE d i = 0) : ((d.objects.take i).any fun o => decide (o.seg = (nth d.objects i).seg)) = false := by
  rw [objE] at h
  split at h
  · rename_i q; exact absurd h q
  split at h
  · cases h
  split at h
  · cases h
  split at h
  · cases h
  · rename_i q; simpa using q
theorem findIx_le {α : Type} [Inhabited α] (p : α → Bool) : ∀ (l : List α) (j i : Nat), i < l.length → p (nth l i) = true → 0 ≤ findIx p l j ∧ findIx p l j ≤ ((j + i : Nat) : Int)
  | [], j, i, h, _ => by cases h
  | a :: l, j, 0, h, hp => by rw [findIx, if_pos (show p a = true from hp)]; omega
  | a :: l, j, i + 1, h, hp => by
    rw [findIx]
    by_cases ha : p a = true
    · rw [if_pos ha]; omega
    · rw [if_neg ha]
      have := findIx_le p l (j + 1) i (by simpa using h) hp
      omega
/-- In a right directory a segment stands where its object stands. -/
theorem segIx_self {d : Dir} (h : (dirE d).2 = 0) {i : Nat} (hi : i < d.objects.length) : segIx d.objects (nth d.objects i).seg = (i : Int) := by
  have h1 := objE_seg (dirE_all h hi)
  have h2 := seg_lt d.objects hi
  have h3 := findIx_le (fun o : Obj => decide (o.seg = (nth d.objects i).seg)) d.objects 0 i hi (by simp)
  have h4 : ¬ segIx d.objects (nth d.objects i).seg < (i : Int) := fun q => by rw [h2.1 q] at h1; cases h1
  have h5 : segIx d.objects (nth d.objects i).seg = findIx (fun o : Obj => decide (o.seg = (nth d.objects i).seg)) d.objects 0 := rfl
  omega
theorem listE_dir {d : Dir} {l : LList} (h : (listE d l).2 = 0) : (dirE d).2 = 0 := by
  rw [listE] at h
  split at h
  · rename_i q; exact absurd h q
  · rename_i q; exact Classical.not_not.1 q
theorem libsE_list {d : Dir} {l : LList} {q : QName} (h : libsE d l q = 0) : (listE d l).2 = 0 := by
  rw [libsE] at h
  split at h
  · rename_i z; exact absurd h z
  · rename_i z; exact Classical.not_not.1 z

set_option maxHeartbeats 16000000 in
theorem LibraryFirst_good (d : Dir) (l : LList) (r : Reso) : Ans Try.prog 8 [.agg (encDir d), .agg (encLL l), .agg (encReso r)] (.bool true) := by
  have fw := few_good d l
  have fr := fewRequest_good r.name
  cases hf : fewDL d l with
  | false =>
    rw [hf] at fw
    refine good_run [(14, [6, 122, 123, 124, 125, 126, 127, 128, 129, 130, 131, 132, 133, 134, 135, 136, 137, 138, 139, 140, 141, 142, 143, 144, 145, 146, 147, 148, 149], [])] mixed Try.func8 rfl Try.ntmps8 (rs := [.tmp 6]) rfl (by decide +kernel) (by kernel_rfl) rfl ?_
    rw [startE_eq 150 _ _ _ rfl rfl]
    set_option maxRecDepth 100000 in simp (maxSteps := 10000000) only [go_sem, Nat.reduceAdd, Nat.reduceSub, Nat.reduceMul, Nat.reduceLT, Nat.reduceLeDiff, Nat.reduceEqDiff, Nat.reduceMod, Nat.reduceDiv, Int.reduceNeg, Int.reduceLE, Int.reduceLT, Int.reduceToNat, Int.reduceEq, Int.reduceNe, ↓reduceIte]
    refine call_of (awake_good) ?_
    set_option maxRecDepth 100000 in simp (maxSteps := 10000000) only [go_sem, Nat.reduceAdd, Nat.reduceSub, Nat.reduceMul, Nat.reduceLT, Nat.reduceLeDiff, Nat.reduceEqDiff, Nat.reduceMod, Nat.reduceDiv, Int.reduceNeg, Int.reduceLE, Int.reduceLT, Int.reduceToNat, Int.reduceEq, Int.reduceNe, ↓reduceIte,  Bool.not_true]
    refine call_of (fw) ?_
    set_option maxRecDepth 100000 in simp (maxSteps := 10000000) only [go_sem, Nat.reduceAdd, Nat.reduceSub, Nat.reduceMul, Nat.reduceLT, Nat.reduceLeDiff, Nat.reduceEqDiff, Nat.reduceMod, Nat.reduceDiv, Int.reduceNeg, Int.reduceLE, Int.reduceLT, Int.reduceToNat, Int.reduceEq, Int.reduceNe, ↓reduceIte,  Bool.not_false]
  | true =>
  rw [hf] at fw
  have y44 := fewDL_44 hf
  obtain ⟨y1, y2, y3, y4⟩ := fewDL_iff hf
  cases hq : fewQ r.name with
  | false =>
    rw [hq] at fr
    refine good_run [(14, [6, 122, 123, 124, 125, 126, 127, 128, 129, 130, 131, 132, 133, 134, 135, 136, 137, 138, 139, 140, 141, 142, 143, 144, 145, 146, 147, 148, 149], [])] mixed Try.func8 rfl Try.ntmps8 (rs := [.tmp 6]) rfl (by decide +kernel) (by kernel_rfl) rfl ?_
    rw [startE_eq 150 _ _ _ rfl rfl]
    set_option maxRecDepth 100000 in simp (maxSteps := 10000000) only [go_sem, Nat.reduceAdd, Nat.reduceSub, Nat.reduceMul, Nat.reduceLT, Nat.reduceLeDiff, Nat.reduceEqDiff, Nat.reduceMod, Nat.reduceDiv, Int.reduceNeg, Int.reduceLE, Int.reduceLT, Int.reduceToNat, Int.reduceEq, Int.reduceNe, ↓reduceIte]
    refine call_of (awake_good) ?_
    set_option maxRecDepth 100000 in simp (maxSteps := 10000000) only [go_sem, Nat.reduceAdd, Nat.reduceSub, Nat.reduceMul, Nat.reduceLT, Nat.reduceLeDiff, Nat.reduceEqDiff, Nat.reduceMod, Nat.reduceDiv, Int.reduceNeg, Int.reduceLE, Int.reduceLT, Int.reduceToNat, Int.reduceEq, Int.reduceNe, ↓reduceIte,  Bool.not_true]
    refine call_of (fw) ?_
    set_option maxRecDepth 100000 in simp (maxSteps := 10000000) only [go_sem, Nat.reduceAdd, Nat.reduceSub, Nat.reduceMul, Nat.reduceLT, Nat.reduceLeDiff, Nat.reduceEqDiff, Nat.reduceMod, Nat.reduceDiv, Int.reduceNeg, Int.reduceLE, Int.reduceLT, Int.reduceToNat, Int.reduceEq, Int.reduceNe, ↓reduceIte,  Bool.not_true]
    refine call_of (fr) ?_
    set_option maxRecDepth 100000 in simp (maxSteps := 10000000) only [go_sem, Nat.reduceAdd, Nat.reduceSub, Nat.reduceMul, Nat.reduceLT, Nat.reduceLeDiff, Nat.reduceEqDiff, Nat.reduceMod, Nat.reduceDiv, Int.reduceNeg, Int.reduceLE, Int.reduceLT, Int.reduceToNat, Int.reduceEq, Int.reduceNe, ↓reduceIte,  Bool.not_false]
  | true =>
  rw [hq] at fr
  obtain ⟨z1, z2⟩ := fewQ_sz hq
  have hll := libs_len2 (d := d) (q := r.name) y2 y3
  have o1 := Own_good d y1
  have o2 := OwnL_good l (by omega) (by omega)
  have c1 := Resolve_good d l r y1 (by omega) (by omega) (by omega) (by omega) (by omega)
  have no : ∀ {e : Int}, ¬ e = 0 → resoR d l r = (0, e) → Ans Try.prog 8 [.agg (encDir d), .agg (encLL l), .agg (encReso r)] (.bool true) := fun {e} h1 h2 => by
    rw [h2] at c1
    have _ := h1
    refine good_run [(14, [6, 122, 123, 124, 125, 126, 127, 128, 129, 130, 131, 132, 133, 134, 135, 136, 137, 138, 139, 140, 141, 142, 143, 144, 145, 146, 147, 148, 149], [])] mixed Try.func8 rfl Try.ntmps8 (rs := [.tmp 6]) rfl (by decide +kernel) (by kernel_rfl) rfl ?_
    rw [startE_eq 150 _ _ _ rfl rfl]
    set_option maxRecDepth 100000 in simp (maxSteps := 10000000) only [go_sem, Nat.reduceAdd, Nat.reduceSub, Nat.reduceMul, Nat.reduceLT, Nat.reduceLeDiff, Nat.reduceEqDiff, Nat.reduceMod, Nat.reduceDiv, Int.reduceNeg, Int.reduceLE, Int.reduceLT, Int.reduceToNat, Int.reduceEq, Int.reduceNe, ↓reduceIte]
    refine call_of (awake_good) ?_
    set_option maxRecDepth 100000 in simp (maxSteps := 10000000) only [go_sem, Nat.reduceAdd, Nat.reduceSub, Nat.reduceMul, Nat.reduceLT, Nat.reduceLeDiff, Nat.reduceEqDiff, Nat.reduceMod, Nat.reduceDiv, Int.reduceNeg, Int.reduceLE, Int.reduceLT, Int.reduceToNat, Int.reduceEq, Int.reduceNe, ↓reduceIte,  Bool.not_true]
    refine call_of (fw) ?_
    set_option maxRecDepth 100000 in simp (maxSteps := 10000000) only [go_sem, Nat.reduceAdd, Nat.reduceSub, Nat.reduceMul, Nat.reduceLT, Nat.reduceLeDiff, Nat.reduceEqDiff, Nat.reduceMod, Nat.reduceDiv, Int.reduceNeg, Int.reduceLE, Int.reduceLT, Int.reduceToNat, Int.reduceEq, Int.reduceNe, ↓reduceIte,  Bool.not_true]
    refine call_of (fr) ?_
    set_option maxRecDepth 100000 in simp (maxSteps := 10000000) only [go_sem, Nat.reduceAdd, Nat.reduceSub, Nat.reduceMul, Nat.reduceLT, Nat.reduceLeDiff, Nat.reduceEqDiff, Nat.reduceMod, Nat.reduceDiv, Int.reduceNeg, Int.reduceLE, Int.reduceLT, Int.reduceToNat, Int.reduceEq, Int.reduceNe, ↓reduceIte,  Bool.not_true]
    refine callD_of (o1) ?_
    set_option maxRecDepth 100000 in simp (maxSteps := 10000000) only [go_sem, Nat.reduceAdd, Nat.reduceSub, Nat.reduceMul, Nat.reduceLT, Nat.reduceLeDiff, Nat.reduceEqDiff, Nat.reduceMod, Nat.reduceDiv, Int.reduceNeg, Int.reduceLE, Int.reduceLT, Int.reduceToNat, Int.reduceEq, Int.reduceNe, ↓reduceIte]
    refine callD_of (o2) ?_
    set_option maxRecDepth 100000 in simp (maxSteps := 10000000) only [go_sem, Nat.reduceAdd, Nat.reduceSub, Nat.reduceMul, Nat.reduceLT, Nat.reduceLeDiff, Nat.reduceEqDiff, Nat.reduceMod, Nat.reduceDiv, Int.reduceNeg, Int.reduceLE, Int.reduceLT, Int.reduceToNat, Int.reduceEq, Int.reduceNe, ↓reduceIte]
    refine callD_of (c1) ?_
    set_option maxRecDepth 100000 in simp (maxSteps := 10000000) only [go_sem, Nat.reduceAdd, Nat.reduceSub, Nat.reduceMul, Nat.reduceLT, Nat.reduceLeDiff, Nat.reduceEqDiff, Nat.reduceMod, Nat.reduceDiv, Int.reduceNeg, Int.reduceLE, Int.reduceLT, Int.reduceToNat, Int.reduceEq, Int.reduceNe, ↓reduceIte,  h1, not_false_eq_true, decide_true]
    decide +kernel
  by_cases k1 : libsE d l r.name = 0
  case neg => exact no k1 (by rw [resoR, if_pos k1])
  cases k2 : r.name.generic with
  | true => exact no (e := 5) (by decide) (by rw [resoR, if_neg (not_not_intro k1), if_pos k2])
  | false =>
  cases k3 : inB r.type 0 29 with
  | false => exact no (e := 4) (by decide) (by rw [resoR, if_neg (not_not_intro k1), if_neg (by rw [k2]; decide), if_pos k3])
  | true =>
  have hty : ¬ r.type = -1 := fun z => by have := (inB_iff r.type).1 k3; omega
  rcases res_match k2 hty d.objects (libsP d l r.name) with ⟨a, b⟩ | ⟨s, pre, post, t, a, b, c, e, f⟩
  · exact no (e := 11) (by decide) (resoR_none k1 k2 k3 b)
  rw [resoR_some k1 k2 k3 e] at c1
  have c2 := LibrariesFor_good d l r.name y1 (by omega) (by omega) (by omega) (by omega)
  rw [k1] at c2
  have c3 := Matching_good d l r y44 (by omega) (by omega) (by omega) (by omega) hll
  have hme : matE d l r = 0 := by rw [matE, if_neg (not_not_intro k1), if_neg (fun q => by rw [k3] at q; cases q.2)]
  rw [matP, if_pos hme, hme, b] at c3
  have hlt : placeIx d.objects ⟨s, r.name.name, r.type⟩ < (d.objects.length : Int) := by
    have := findIx_ge (fun o : Obj => decide (o.name = ⟨s, r.name.name, r.type⟩)) d.objects 0
    unfold placeIx at c ⊢; omega
  have hnm : (nth d.objects (placeIx d.objects ⟨s, r.name.name, r.type⟩).toNat).name = ⟨s, r.name.name, r.type⟩ := by
    have h7 := of_decide_eq_true (findIx_nth (fun o : Obj => decide (o.name = ⟨s, r.name.name, r.type⟩)) d.objects 0 c).2.2
    simp only [Int.natCast_zero, Int.ofNat_zero, Int.sub_zero] at h7
    exact h7
  have hde := listE_dir (libsE_list k1)
  have hpl : ∀ u : ByteArray, Ans Try.prog 28 [.agg (encDir d), .agg (encOName ⟨u, r.name.name, r.type⟩)] (.int .i64 (placeIx d.objects ⟨u, r.name.name, r.type⟩)) := fun u => Place_good d ⟨u, r.name.name, r.type⟩ y1
  have hpm : ∀ i, i < pre.length → placeIx d.objects ⟨nth pre i, r.name.name, r.type⟩ = -1 := fun i hi => by
    have h1 := f _ (nth_mem hi)
    have h2 := findIx_ge (fun o : Obj => decide (o.name = ⟨nth pre i, r.name.name, r.type⟩)) d.objects 0
    unfold placeIx at h1 ⊢; omega
  rw [a] at c2
  generalize hx : placeIx d.objects ⟨s, r.name.name, r.type⟩ = x at *
  obtain ⟨p, rfl⟩ : ∃ p : Nat, x = (p : Int) := ⟨x.toNat, by omega⟩
  rw [Int.toNat_natCast] at c1 hnm
  have hp : p < d.objects.length := by omega
  have hsg := segIx_self hde hp
  have c4 := FindSegment_good d (nth d.objects p).seg y1
  have hsp : segP d (nth d.objects p).seg = (p : Int) ∧ segE d (nth d.objects p).seg = 0 := by
    constructor
    · rw [segP]; simp [segE, hde, hsg]
    · rw [segE]; simp [hde, hsg]
  rw [hsp.1, hsp.2] at c4
  have wi := Within_good (p : Int) 0 ((d.objects.length : Int) - 1)
  have hwi : inB (p : Int) 0 ((d.objects.length : Int) - 1) = true := by rw [inB]; simp; omega
  rw [hwi] at wi
  have hn1 : (nth d.objects p).name.lib = s := by rw [hnm]
  have hn2 : (nth d.objects p).name.name = r.name.name := by rw [hnm]
  have hn3 : (nth d.objects p).name.type = r.type := by rw [hnm]
  have hz : ¬ (((t.length + 1 : Nat) : Int) = 0) := by omega
  have hz3 : (0 : Int) < ((t.length + 1 : Nat) : Int) := by omega
  have hwp : IntKind.wrap .i64 ((d.objects.length : Int) - 1) = (d.objects.length : Int) - 1 := wrap_i64 (by omega) (by omega)
  have hlen : (pre ++ s :: post).length = pre.length + (post.length + 1) := by rw [List.length_append]; rfl
  have hps : ∀ i, i < pre.length → nth (pre ++ s :: post) i = nth pre i := fun i hi => by
    rw [nth_eq (by omega), nth_eq hi, List.getElem_append_left hi]
  have hpe : nth (pre ++ s :: post) pre.length = s := by
    rw [nth_eq (by omega), List.getElem_append_right (Nat.le_refl _)]; simp
  have hbn : pre.length + (post.length + 1) ≤ 2001 := by rw [← hlen, ← a]; exact hll
  generalize pre ++ s :: post = libs at *
  refine good_run [(14, [6, 122, 123, 124, 125, 126, 127, 128, 129, 130, 131, 132, 133, 134, 135, 136, 137, 138, 139, 140, 141, 142, 143, 144, 145, 146, 147, 148, 149], [])] mixed Try.func8 rfl Try.ntmps8 (rs := [.tmp 6]) rfl (by decide +kernel) (by kernel_rfl) rfl ?_
  rw [startE_eq 150 _ _ _ rfl rfl]
  set_option maxRecDepth 100000 in simp (maxSteps := 10000000) only [go_sem, Nat.reduceAdd, Nat.reduceSub, Nat.reduceMul, Nat.reduceLT, Nat.reduceLeDiff, Nat.reduceEqDiff, Nat.reduceMod, Nat.reduceDiv, Int.reduceNeg, Int.reduceLE, Int.reduceLT, Int.reduceToNat, Int.reduceEq, Int.reduceNe, ↓reduceIte]
  refine call_of (awake_good) ?_
  set_option maxRecDepth 100000 in simp (maxSteps := 10000000) only [go_sem, Nat.reduceAdd, Nat.reduceSub, Nat.reduceMul, Nat.reduceLT, Nat.reduceLeDiff, Nat.reduceEqDiff, Nat.reduceMod, Nat.reduceDiv, Int.reduceNeg, Int.reduceLE, Int.reduceLT, Int.reduceToNat, Int.reduceEq, Int.reduceNe, ↓reduceIte,  Bool.not_true]
  refine call_of (fw) ?_
  set_option maxRecDepth 100000 in simp (maxSteps := 10000000) only [go_sem, Nat.reduceAdd, Nat.reduceSub, Nat.reduceMul, Nat.reduceLT, Nat.reduceLeDiff, Nat.reduceEqDiff, Nat.reduceMod, Nat.reduceDiv, Int.reduceNeg, Int.reduceLE, Int.reduceLT, Int.reduceToNat, Int.reduceEq, Int.reduceNe, ↓reduceIte,  Bool.not_true]
  refine call_of (fr) ?_
  set_option maxRecDepth 100000 in simp (maxSteps := 10000000) only [go_sem, Nat.reduceAdd, Nat.reduceSub, Nat.reduceMul, Nat.reduceLT, Nat.reduceLeDiff, Nat.reduceEqDiff, Nat.reduceMod, Nat.reduceDiv, Int.reduceNeg, Int.reduceLE, Int.reduceLT, Int.reduceToNat, Int.reduceEq, Int.reduceNe, ↓reduceIte,  Bool.not_true]
  refine callD_of (o1) ?_
  set_option maxRecDepth 100000 in simp (maxSteps := 10000000) only [go_sem, Nat.reduceAdd, Nat.reduceSub, Nat.reduceMul, Nat.reduceLT, Nat.reduceLeDiff, Nat.reduceEqDiff, Nat.reduceMod, Nat.reduceDiv, Int.reduceNeg, Int.reduceLE, Int.reduceLT, Int.reduceToNat, Int.reduceEq, Int.reduceNe, ↓reduceIte]
  refine callD_of (o2) ?_
  set_option maxRecDepth 100000 in simp (maxSteps := 10000000) only [go_sem, Nat.reduceAdd, Nat.reduceSub, Nat.reduceMul, Nat.reduceLT, Nat.reduceLeDiff, Nat.reduceEqDiff, Nat.reduceMod, Nat.reduceDiv, Int.reduceNeg, Int.reduceLE, Int.reduceLT, Int.reduceToNat, Int.reduceEq, Int.reduceNe, ↓reduceIte]
  refine callD_of (c1) ?_
  set_option maxRecDepth 100000 in simp (maxSteps := 10000000) only [go_sem, Nat.reduceAdd, Nat.reduceSub, Nat.reduceMul, Nat.reduceLT, Nat.reduceLeDiff, Nat.reduceEqDiff, Nat.reduceMod, Nat.reduceDiv, Int.reduceNeg, Int.reduceLE, Int.reduceLT, Int.reduceToNat, Int.reduceEq, Int.reduceNe, ↓reduceIte,  not_true_eq_false, decide_false]
  refine ⟨by decide +kernel, ?_⟩
  refine callD_of (o1) ?_
  set_option maxRecDepth 100000 in simp (maxSteps := 10000000) only [go_sem, Nat.reduceAdd, Nat.reduceSub, Nat.reduceMul, Nat.reduceLT, Nat.reduceLeDiff, Nat.reduceEqDiff, Nat.reduceMod, Nat.reduceDiv, Int.reduceNeg, Int.reduceLE, Int.reduceLT, Int.reduceToNat, Int.reduceEq, Int.reduceNe, ↓reduceIte]
  refine callD_of (o2) ?_
  set_option maxRecDepth 100000 in simp (maxSteps := 10000000) only [go_sem, Nat.reduceAdd, Nat.reduceSub, Nat.reduceMul, Nat.reduceLT, Nat.reduceLeDiff, Nat.reduceEqDiff, Nat.reduceMod, Nat.reduceDiv, Int.reduceNeg, Int.reduceLE, Int.reduceLT, Int.reduceToNat, Int.reduceEq, Int.reduceNe, ↓reduceIte]
  refine callD_of (c2) ?_
  set_option maxRecDepth 100000 in simp (maxSteps := 10000000) only [go_sem, Nat.reduceAdd, Nat.reduceSub, Nat.reduceMul, Nat.reduceLT, Nat.reduceLeDiff, Nat.reduceEqDiff, Nat.reduceMod, Nat.reduceDiv, Int.reduceNeg, Int.reduceLE, Int.reduceLT, Int.reduceToNat, Int.reduceEq, Int.reduceNe, ↓reduceIte]
  refine ⟨by decide +kernel, ?_⟩
  refine callD_of (o1) ?_
  set_option maxRecDepth 100000 in simp (maxSteps := 10000000) only [go_sem, Nat.reduceAdd, Nat.reduceSub, Nat.reduceMul, Nat.reduceLT, Nat.reduceLeDiff, Nat.reduceEqDiff, Nat.reduceMod, Nat.reduceDiv, Int.reduceNeg, Int.reduceLE, Int.reduceLT, Int.reduceToNat, Int.reduceEq, Int.reduceNe, ↓reduceIte]
  refine callD_of (o2) ?_
  set_option maxRecDepth 100000 in simp (maxSteps := 10000000) only [go_sem, Nat.reduceAdd, Nat.reduceSub, Nat.reduceMul, Nat.reduceLT, Nat.reduceLeDiff, Nat.reduceEqDiff, Nat.reduceMod, Nat.reduceDiv, Int.reduceNeg, Int.reduceLE, Int.reduceLT, Int.reduceToNat, Int.reduceEq, Int.reduceNe, ↓reduceIte]
  refine callD_of (c3) ?_
  set_option maxRecDepth 100000 in simp (maxSteps := 10000000) only [go_sem, Nat.reduceAdd, Nat.reduceSub, Nat.reduceMul, Nat.reduceLT, Nat.reduceLeDiff, Nat.reduceEqDiff, Nat.reduceMod, Nat.reduceDiv, Int.reduceNeg, Int.reduceLE, Int.reduceLT, Int.reduceToNat, Int.reduceEq, Int.reduceNe, ↓reduceIte]
  refine ⟨by decide +kernel, ?_⟩
  refine call_of (o1) ?_
  set_option maxRecDepth 100000 in simp (maxSteps := 10000000) only [go_sem, Nat.reduceAdd, Nat.reduceSub, Nat.reduceMul, Nat.reduceLT, Nat.reduceLeDiff, Nat.reduceEqDiff, Nat.reduceMod, Nat.reduceDiv, Int.reduceNeg, Int.reduceLE, Int.reduceLT, Int.reduceToNat, Int.reduceEq, Int.reduceNe, ↓reduceIte]
  refine call_of (c4) ?_
  set_option maxRecDepth 100000 in simp (maxSteps := 10000000) only [go_sem, Nat.reduceAdd, Nat.reduceSub, Nat.reduceMul, Nat.reduceLT, Nat.reduceLeDiff, Nat.reduceEqDiff, Nat.reduceMod, Nat.reduceDiv, Int.reduceNeg, Int.reduceLE, Int.reduceLT, Int.reduceToNat, Int.reduceEq, Int.reduceNe, ↓reduceIte,  not_true_eq_false, decide_false, hz, hz3, List.map_cons, List.length_cons, List.length_map, hwp]
  refine callD_of (wi) ?_
  set_option maxRecDepth 100000 in simp (maxSteps := 10000000) only [go_sem, Nat.reduceAdd, Nat.reduceSub, Nat.reduceMul, Nat.reduceLT, Nat.reduceLeDiff, Nat.reduceEqDiff, Nat.reduceMod, Nat.reduceDiv, Int.reduceNeg, Int.reduceLE, Int.reduceLT, Int.reduceToNat, Int.reduceEq, Int.reduceNe, ↓reduceIte,  Bool.not_true, hz3, hp, hn1, hn2, hn3, eq_self, decide_true, not_true_eq_false, decide_false, Int.natCast_nonneg, Int.toNat_natCast, Bool.and_true]
  refine ⟨by decide +kernel, ?_⟩
  refine loop_by ([6, 122, 123, 124, 125, 126, 127, 128, 129, 130, 131, 132, 133, 134, 135, 136, 137, 138, 139, 140, 141, 142, 143, 144, 145, 146, 147, 148, 149], []) (fun i : Nat => [(.s 15, .int .i64 (i : Int))]) (fun i => libs.length - i) (fun i => i ≤ pre.length) 0 rfl (Nat.zero_le _) rfl ?_
  rintro c' st' hst i hi ih
  have hlt2 : i < libs.length := by omega
  have hlt3 : (i : Int) < (libs.length : Int) := by omega
  set_option maxRecDepth 100000 in simp (maxSteps := 10000000) only [go_sem, Nat.reduceAdd, Nat.reduceSub, Nat.reduceMul, Nat.reduceLT, Nat.reduceLeDiff, Nat.reduceEqDiff, Nat.reduceMod, Nat.reduceDiv, Int.reduceNeg, Int.reduceLE, Int.reduceLT, Int.reduceToNat, Int.reduceEq, Int.reduceNe, ↓reduceIte,  hlt3, hlt2, hz3]
  refine ⟨by decide +kernel, ?_⟩
  refine ifI (fun h1 => ?_) fun h1 => ?_
  · set_option maxRecDepth 100000 in simp (maxSteps := 10000000) only [go_sem, Nat.reduceAdd, Nat.reduceSub, Nat.reduceMul, Nat.reduceLT, Nat.reduceLeDiff, Nat.reduceEqDiff, Nat.reduceMod, Nat.reduceDiv, Int.reduceNeg, Int.reduceLE, Int.reduceLT, Int.reduceToNat, Int.reduceEq, Int.reduceNe, ↓reduceIte]
  have h1' : ¬ nth libs i = s := by simpa using h1
  have hip : i < pre.length := by
    rcases Nat.lt_or_ge i pre.length with q | q
    · exact q
    · have : i = pre.length := by omega
      subst this; exact absurd hpe h1'
  have pl := hpl (nth libs i)
  rw [hps i hip, hpm i hip] at pl
  have hpsi := hps i hip
  set_option maxRecDepth 100000 in simp (maxSteps := 10000000) only [go_sem, Nat.reduceAdd, Nat.reduceSub, Nat.reduceMul, Nat.reduceLT, Nat.reduceLeDiff, Nat.reduceEqDiff, Nat.reduceMod, Nat.reduceDiv, Int.reduceNeg, Int.reduceLE, Int.reduceLT, Int.reduceToNat, Int.reduceEq, Int.reduceNe, ↓reduceIte,  hlt3, hlt2]
  rw [hpsi]
  refine callD_of (pl) ?_
  set_option maxRecDepth 100000 in simp (maxSteps := 10000000) only [go_sem, Nat.reduceAdd, Nat.reduceSub, Nat.reduceMul, Nat.reduceLT, Nat.reduceLeDiff, Nat.reduceEqDiff, Nat.reduceMod, Nat.reduceDiv, Int.reduceNeg, Int.reduceLE, Int.reduceLT, Int.reduceToNat, Int.reduceEq, Int.reduceNe, ↓reduceIte,  not_true_eq_false, decide_false]
  refine ⟨by decide +kernel, ?_⟩
  refine ih (i + 1) _ (by omega) (by omega) ?_
  set_option maxRecDepth 100000 in simp (maxSteps := 10000000) only [go_sem, Nat.reduceAdd, Nat.reduceSub, Nat.reduceMul, Nat.reduceLT, Nat.reduceLeDiff, Nat.reduceEqDiff, Nat.reduceMod, Nat.reduceDiv, Int.reduceNeg, Int.reduceLE, Int.reduceLT, Int.reduceToNat, Int.reduceEq, Int.reduceNe, ↓reduceIte,  wrap_succ (show i < 9223372036854775807 by omega)]
end Go.Proofs.Ytppjmigiogddpaa.C08
