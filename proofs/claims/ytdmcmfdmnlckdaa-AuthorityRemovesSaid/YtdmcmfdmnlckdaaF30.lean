/- Chapter 10: the law of superfluous entries that are removed. -/
import Derived.Test.YtdmcmfdmnlckdaaF29
import Derived.Test.YtdmcmfdmnlckdaaF17
namespace Go.Proofs.Ytdmcmfdmnlckdaa.C10
open Go Go.Proofs Go.Proofs.Ytdmcmfdmnlckdaa.Ab
set_option linter.unusedSimpArgs false
attribute [local congr] ite_ctx

theorem superOf_mem {s : Sec} {k : Nat} {x : Int} : ∀ {n : Nat}, x ∈ superOf s k n → ∃ j, j < n ∧ x = (j : Int) ∧ superB s k j = true
  | 0, h => by cases h
  | n + 1, h => by
    rw [superOf] at h
    rcases List.mem_append.1 h with h | h
    · obtain ⟨j, h1, h2, h3⟩ := superOf_mem h
      exact ⟨j, by omega, h2, h3⟩
    · split at h
      · rename_i hb
        exact ⟨n, by omega, by simpa using h, hb⟩
      · cases h

theorem authOf_is {s : Sec} {u : ByteArray} {i : Int} (h1 : (secE s).2 = 0) (hu : 0 ≤ profIx s u) (h3 : ixE s i = 0) : AuthorityOfP s u i = (authorityP s u (nth s.objects i.toNat), 0) := by
  have h2 : userE s u = 0 := if_neg (by omega)
  have hE : authErr s u i = 0 := by rw [authErr, h1, h2, h3]; rfl
  rw [AuthorityOfP, hE, if_neg (by decide)]
  rfl

theorem sLt_irrefl (a : ByteArray) : sLt a a = false := by
  unfold sLt
  rw [bytesLess_eq, decide_eq_false_iff_not]
  exact List.lt_irrefl _
theorem names_lt {s : Sec} (hS : Sound s) {a : Nat} : ∀ {b : Nat}, a < b → b < s.profiles.length → sLt (nth s.profiles a).name (nth s.profiles b).name = true
  | 0, h, _ => absurd h (Nat.not_lt_zero _)
  | b + 1, h, hb => by
    have z := hS.profs (b + 1) hb
    rw [profE_def] at z
    have hz := firstE_zero z
    simp only [List.mem_cons, List.not_mem_nil, or_false, forall_eq_or_imp, forall_eq] at hz
    have h1 := ite_zero (by decide) hz.2.1
    have h2 : sLt (nth s.profiles b).name (nth s.profiles (b + 1)).name = true := by simpa using h1
    by_cases hab : a = b
    · rw [hab]; exact h2
    · exact sLt_trans (names_lt hS (b := b) (by omega) (by omega)) h2
theorem prof_is {s : Sec} (hS : Sound s) {k : Nat} (hk : k < s.profiles.length) : profOf s (nth s.profiles k).name = nth s.profiles k := by
  have hu : 0 ≤ profIx s (nth s.profiles k).name := prof_self hk
  have h1 := (prof_hit hu).1
  have h2 := (ix_facts hu).2
  have h0 : profOf s (nth s.profiles k).name = nth s.profiles (profIx s (nth s.profiles k).name).toNat := rfl
  rw [h0] at h1 ⊢
  have h2' : (profIx s (nth s.profiles k).name).toNat < s.profiles.length := h2
  clear h2
  generalize (profIx s (nth s.profiles k).name).toNat = f at h1 h2' ⊢
  rcases Nat.lt_trichotomy f k with h | h | h
  · have := names_lt hS h hk
    rw [h1, sLt_irrefl] at this; cases this
  · rw [h]
  · have := names_lt hS h h2'
    rw [h1, sLt_irrefl] at this; cases this

theorem removes_eq {s : Sec} {k i : Nat} {u : ByteArray} (hk : k < s.objects.length) (hi : i < (nth s.objects k).grants.length) (hb : superB s k i = true) (hg : findIx (fun g => decide (g = (nth (nth s.objects k).grants i).user)) (profOf s u).groups 0 = -1) :
    (authorityP s u (nth s.objects k)).auth = (authorityP (cutG s k i) u (nth (cutG s k i).objects k)).auth := by
  by_cases hu : (nth (nth s.objects k).grants i).user = u
  · rw [superB, decide_eq_true_eq, hu] at hb
    exact hb.symm
  · rw [removes_law hk hi hu fun hm => ?_]
    have := findIx_any (fun g => decide (g = (nth (nth s.objects k).grants i).user)) (profOf s u).groups 0
    rw [hg, show ((profOf s u).groups.any fun g => decide (g = (nth (nth s.objects k).grants i).user)) = true from List.any_eq_true.2 ⟨_, hm, by simp⟩] at this
    simp at this

set_option maxHeartbeats 8000000 in
theorem AuthorityRemoves_good (s : Sec) (i : Int) : Ans Try.prog 10 [.agg (encSec s), .int .i64 i] (.bool true) := by
  refine good_run [(15, [4, 10, 11, 12, 13, 14, 80, 81, 82, 83, 84, 85, 86, 87, 88, 89, 90, 91, 92, 93, 94, 95, 96, 97, 98, 99, 100, 101, 102, 103, 104, 105, 106, 107, 108, 109, 110, 111, 112, 113, 114, 115, 116, 117, 118, 119, 120, 121, 122, 123, 124, 125, 126, 127, 128, 129, 130, 131, 132], [11, 13, 10]), (9, [4, 8, 9, 10, 11, 12, 13, 14, 47, 48, 49, 50, 51, 52, 53, 54, 55, 56, 57, 58, 59, 60, 61, 62, 63, 64, 65, 66, 67, 68, 69, 70, 71, 72, 73, 74, 75, 76, 77, 78, 79, 80, 81, 82, 83, 84, 85, 86, 87, 88, 89, 90, 91, 92, 93, 94, 95, 96, 97, 98, 99, 100, 101, 102, 103, 104, 105, 106, 107, 108, 109, 110, 111, 112, 113, 114, 115, 116, 117, 118, 119, 120, 121, 122, 123, 124, 125, 126, 127, 128, 129, 130, 131, 132], [11, 13, 10])] mixed Try.func10 rfl Try.ntmps10 (rs := [.tmp 4]) rfl (by decide +kernel) (by kernel_rfl) rfl ?_
  rw [startE_eq 133 _ _ _ rfl rfl]
  set_option maxRecDepth 100000 in simp (maxSteps := 10000000) only [go_sem, Nat.reduceAdd, Nat.reduceSub, Nat.reduceMul, Nat.reduceLT, Nat.reduceLeDiff, Nat.reduceEqDiff, Nat.reduceMod, Nat.reduceDiv, Int.reduceNeg, Int.reduceLE, Int.reduceLT, Int.reduceToNat, Int.reduceEq, Int.reduceNe, ↓reduceIte]
  refine call_of (awake_good) ?_
  set_option maxRecDepth 100000 in simp (maxSteps := 10000000) only [go_sem, Nat.reduceAdd, Nat.reduceSub, Nat.reduceMul, Nat.reduceLT, Nat.reduceLeDiff, Nat.reduceEqDiff, Nat.reduceMod, Nat.reduceDiv, Int.reduceNeg, Int.reduceLE, Int.reduceLT, Int.reduceToNat, Int.reduceEq, Int.reduceNe, ↓reduceIte,  Bool.not_true]
  refine call_of (Few_good s) ?_
  set_option maxRecDepth 100000 in simp (maxSteps := 10000000) only [go_sem, Nat.reduceAdd, Nat.reduceSub, Nat.reduceMul, Nat.reduceLT, Nat.reduceLeDiff, Nat.reduceEqDiff, Nat.reduceMod, Nat.reduceDiv, Int.reduceNeg, Int.reduceLE, Int.reduceLT, Int.reduceToNat, Int.reduceEq, Int.reduceNe, ↓reduceIte]
  refine ifI (fun h => ?_) fun h => ?_
  case refine_2 => set_option maxRecDepth 100000 in simp (maxSteps := 10000000) only [go_sem, Nat.reduceAdd, Nat.reduceSub, Nat.reduceMul, Nat.reduceLT, Nat.reduceLeDiff, Nat.reduceEqDiff, Nat.reduceMod, Nat.reduceDiv, Int.reduceNeg, Int.reduceLE, Int.reduceLT, Int.reduceToNat, Int.reduceEq, Int.reduceNe, ↓reduceIte,  h]
  have hs : Fit s := few_fit (by simpa using h)
  set_option maxRecDepth 100000 in simp (maxSteps := 10000000) only [go_sem, Nat.reduceAdd, Nat.reduceSub, Nat.reduceMul, Nat.reduceLT, Nat.reduceLeDiff, Nat.reduceEqDiff, Nat.reduceMod, Nat.reduceDiv, Int.reduceNeg, Int.reduceLE, Int.reduceLT, Int.reduceToNat, Int.reduceEq, Int.reduceNe, ↓reduceIte,  h]
  refine Classical.byCases (fun h1 : (secE s).2 = 0 => ?_) fun h1 => ?_
  case refine_2 =>
    have ho := ObjectErr_good s i hs
    rw [if_pos h1] at ho
    refine call_of (ho) ?_
    set_option maxRecDepth 100000 in simp (maxSteps := 10000000) only [go_sem, Nat.reduceAdd, Nat.reduceSub, Nat.reduceMul, Nat.reduceLT, Nat.reduceLeDiff, Nat.reduceEqDiff, Nat.reduceMod, Nat.reduceDiv, Int.reduceNeg, Int.reduceLE, Int.reduceLT, Int.reduceToNat, Int.reduceEq, Int.reduceNe, ↓reduceIte,  h1, not_false_eq_true, decide_true]
  have ho := ObjectErr_good s i hs
  rw [h1, if_neg (by decide)] at ho
  refine Classical.byCases (fun h3 : ixE s i = 0 => ?_) fun h3 => ?_
  case refine_2 =>
    refine call_of (ho) ?_
    set_option maxRecDepth 100000 in simp (maxSteps := 10000000) only [go_sem, Nat.reduceAdd, Nat.reduceSub, Nat.reduceMul, Nat.reduceLT, Nat.reduceLeDiff, Nat.reduceEqDiff, Nat.reduceMod, Nat.reduceDiv, Int.reduceNeg, Int.reduceLE, Int.reduceLT, Int.reduceToNat, Int.reduceEq, Int.reduceNe, ↓reduceIte,  h3, not_false_eq_true, decide_true]
  have hE : superErr s i = 0 := by rw [superErr, h1, h3]; rfl
  have hU : SuperP s i = superOf s i.toNat (nth s.objects i.toNat).grants.length := by rw [SuperP, hE, if_neg (not_not_intro rfl)]
  have hw := Superfluous_good s i hs
  rw [hE, hU] at hw
  rw [h3] at ho
  have hS := sound_of hs h1
  have hix := ixE_zero h3
  have i1 := hix.1; have i2 := hix.2.1; have i3 := hix.2.2
  have hl := superOf_len s i.toNat (nth s.objects i.toNat).grants.length
  have hg := hs.ogrants _ (nth_mem i3)
  have hnl : ¬ (nth s.objects i.toNat).grants.length < (superOf s i.toNat (nth s.objects i.toNat).grants.length).length := by omega
  generalize hL : superOf s i.toNat (nth s.objects i.toNat).grants.length = L at *
  refine call_of (ho) ?_
  set_option maxRecDepth 100000 in simp (maxSteps := 10000000) only [go_sem, Nat.reduceAdd, Nat.reduceSub, Nat.reduceMul, Nat.reduceLT, Nat.reduceLeDiff, Nat.reduceEqDiff, Nat.reduceMod, Nat.reduceDiv, Int.reduceNeg, Int.reduceLE, Int.reduceLT, Int.reduceToNat, Int.reduceEq, Int.reduceNe, ↓reduceIte,  eq_self, decide_true, not_true_eq_false, decide_false]
  refine call_of (Own_good s hs) ?_
  set_option maxRecDepth 100000 in simp (maxSteps := 10000000) only [go_sem, Nat.reduceAdd, Nat.reduceSub, Nat.reduceMul, Nat.reduceLT, Nat.reduceLeDiff, Nat.reduceEqDiff, Nat.reduceMod, Nat.reduceDiv, Int.reduceNeg, Int.reduceLE, Int.reduceLT, Int.reduceToNat, Int.reduceEq, Int.reduceNe, ↓reduceIte]
  refine call_of (hw) ?_
  set_option maxRecDepth 100000 in simp (maxSteps := 10000000) only [go_sem, Nat.reduceAdd, Nat.reduceSub, Nat.reduceMul, Nat.reduceLT, Nat.reduceLeDiff, Nat.reduceEqDiff, Nat.reduceMod, Nat.reduceDiv, Int.reduceNeg, Int.reduceLE, Int.reduceLT, Int.reduceToNat, Int.reduceEq, Int.reduceNe, ↓reduceIte,  eq_self, not_true_eq_false, decide_false, i1, i2, i3, hnl]
  have hmem : ∀ j, j < L.length → ∃ q, q < (nth s.objects i.toNat).grants.length ∧ nth L j = (q : Int) ∧ superB s i.toNat q = true := fun j hj => by
    have hm : nth L j ∈ L := nth_mem hj
    rw [← hL] at hm ⊢
    exact superOf_mem hm
  have hP := hs.profiles
  refine loop_by ([4, 8, 9, 10, 11, 12, 13, 14, 47, 48, 49, 50, 51, 52, 53, 54, 55, 56, 57, 58, 59, 60, 61, 62, 63, 64, 65, 66, 67, 68, 69, 70, 71, 72, 73, 74, 75, 76, 77, 78, 79, 80, 81, 82, 83, 84, 85, 86, 87, 88, 89, 90, 91, 92, 93, 94, 95, 96, 97, 98, 99, 100, 101, 102, 103, 104, 105, 106, 107, 108, 109, 110, 111, 112, 113, 114, 115, 116, 117, 118, 119, 120, 121, 122, 123, 124, 125, 126, 127, 128, 129, 130, 131, 132], [11, 13, 10]) (fun x : Nat × Nat × Nat => [(.s 7, .int .i64 (x.1 : Int)), (.o 10, deadV x.2.1), (.o 11, deadV x.2.2), (.o 13, deadV x.2.2)])
    (fun x => L.length - x.1) (fun x => x.1 ≤ L.length) (0, 0, 0) rfl (Nat.zero_le _) ?_ ?_
  · set_option maxRecDepth 100000 in simp (maxSteps := 10000000) only [go_sem, Nat.reduceAdd, Nat.reduceSub, Nat.reduceMul, Nat.reduceLT, Nat.reduceLeDiff, Nat.reduceEqDiff, Nat.reduceMod, Nat.reduceDiv, Int.reduceNeg, Int.reduceLE, Int.reduceLT, Int.reduceToNat, Int.reduceEq, Int.reduceNe, ↓reduceIte]
  rintro c' st' hst ⟨j, p, n⟩ hi ih
  simp only at hi
  set_option maxRecDepth 100000 in simp (maxSteps := 10000000) only [go_sem, Nat.reduceAdd, Nat.reduceSub, Nat.reduceMul, Nat.reduceLT, Nat.reduceLeDiff, Nat.reduceEqDiff, Nat.reduceMod, Nat.reduceDiv, Int.reduceNeg, Int.reduceLE, Int.reduceLT, Int.reduceToNat, Int.reduceEq, Int.reduceNe, ↓reduceIte]
  refine ifI (fun hlt => ?_) fun hlt => ?_
  case refine_2 =>
    subst hst
    set_option maxRecDepth 100000 in simp (maxSteps := 10000000) only [go_sem, Nat.reduceAdd, Nat.reduceSub, Nat.reduceMul, Nat.reduceLT, Nat.reduceLeDiff, Nat.reduceEqDiff, Nat.reduceMod, Nat.reduceDiv, Int.reduceNeg, Int.reduceLE, Int.reduceLT, Int.reduceToNat, Int.reduceEq, Int.reduceNe, ↓reduceIte]
  obtain ⟨q, hq, hx, hb⟩ := hmem j hlt
  have q1 : (q : Int) < ((nth s.objects i.toNat).grants.length : Int) := by omega
  have q2 : (0 : Int) ≤ (q : Int) := by omega
  have q3 : inB (q : Int) 0 (((nth s.objects i.toNat).grants.length - 1 : Nat) : Int) = true := by rw [inB, decide_eq_true_eq]; omega
  set_option maxRecDepth 100000 in simp (maxSteps := 10000000) only [go_sem, Nat.reduceAdd, Nat.reduceSub, Nat.reduceMul, Nat.reduceLT, Nat.reduceLeDiff, Nat.reduceEqDiff, Nat.reduceMod, Nat.reduceDiv, Int.reduceNeg, Int.reduceLE, Int.reduceLT, Int.reduceToNat, Int.reduceEq, Int.reduceNe, ↓reduceIte,  hlt, i1, i2, i3, hx, wrap_pred (show 0 < (nth s.objects i.toNat).grants.length by omega) (show (nth s.objects i.toNat).grants.length ≤ 9223372036854775807 by omega)]
  refine callD_of (Within_good _ _ _) ?_
  set_option maxRecDepth 100000 in simp (maxSteps := 10000000) only [go_sem, Nat.reduceAdd, Nat.reduceSub, Nat.reduceMul, Nat.reduceLT, Nat.reduceLeDiff, Nat.reduceEqDiff, Nat.reduceMod, Nat.reduceDiv, Int.reduceNeg, Int.reduceLE, Int.reduceLT, Int.reduceToNat, Int.reduceEq, Int.reduceNe, ↓reduceIte,  q3, Bool.not_true]
  refine ⟨by decide +kernel, ?_⟩
  set_option maxRecDepth 100000 in simp (maxSteps := 10000000) only [go_sem, Nat.reduceAdd, Nat.reduceSub, Nat.reduceMul, Nat.reduceLT, Nat.reduceLeDiff, Nat.reduceEqDiff, Nat.reduceMod, Nat.reduceDiv, Int.reduceNeg, Int.reduceLE, Int.reduceLT, Int.reduceToNat, Int.reduceEq, Int.reduceNe, ↓reduceIte,  hlt, i1, i2, i3, hx, hq, q1, q2, Int.toNat_natCast]
  refine ⟨by decide +kernel, ?_⟩
  have hLk := like_cut i3 hq
  have hF := fit_cut hs i3 hq
  have z2 := hLk.secE h1
  have hix2 : ixE (cutG s i.toNat q) i = 0 := by rw [ixE, hLk.ol]; exact h3
  refine loop_by ([4, 10, 11, 12, 13, 14, 80, 81, 82, 83, 84, 85, 86, 87, 88, 89, 90, 91, 92, 93, 94, 95, 96, 97, 98, 99, 100, 101, 102, 103, 104, 105, 106, 107, 108, 109, 110, 111, 112, 113, 114, 115, 116, 117, 118, 119, 120, 121, 122, 123, 124, 125, 126, 127, 128, 129, 130, 131, 132], [11, 13, 10]) (fun x : Nat × Nat × Nat => [(.s 9, .int .i64 (x.1 : Int)), (.o 10, deadV x.2.1), (.o 11, deadV x.2.2), (.o 13, deadV x.2.2)])
    (fun x => s.profiles.length - x.1) (fun x => x.1 ≤ s.profiles.length) (0, p, n) rfl (Nat.zero_le _) ?_ ?_
  · set_option maxRecDepth 100000 in simp (maxSteps := 10000000) only [go_sem, Nat.reduceAdd, Nat.reduceSub, Nat.reduceMul, Nat.reduceLT, Nat.reduceLeDiff, Nat.reduceEqDiff, Nat.reduceMod, Nat.reduceDiv, Int.reduceNeg, Int.reduceLE, Int.reduceLT, Int.reduceToNat, Int.reduceEq, Int.reduceNe, ↓reduceIte]
  rintro c2 st2 hst2 ⟨k, p, n⟩ hi2 ih2
  simp only at hi2
  set_option maxRecDepth 100000 in simp (maxSteps := 10000000) only [go_sem, Nat.reduceAdd, Nat.reduceSub, Nat.reduceMul, Nat.reduceLT, Nat.reduceLeDiff, Nat.reduceEqDiff, Nat.reduceMod, Nat.reduceDiv, Int.reduceNeg, Int.reduceLE, Int.reduceLT, Int.reduceToNat, Int.reduceEq, Int.reduceNe, ↓reduceIte]
  refine ifI (fun hk => ?_) fun hk => ?_
  case refine_2 =>
    subst hst2
    set_option maxRecDepth 100000 in simp (maxSteps := 10000000) only [go_sem, Nat.reduceAdd, Nat.reduceSub, Nat.reduceMul, Nat.reduceLT, Nat.reduceLeDiff, Nat.reduceEqDiff, Nat.reduceMod, Nat.reduceDiv, Int.reduceNeg, Int.reduceLE, Int.reduceLT, Int.reduceToNat, Int.reduceEq, Int.reduceNe, ↓reduceIte]
    refine ih (j + 1, p, n) _ (by simp only; omega) (by simp only; omega) ?_
    set_option maxRecDepth 100000 in simp (maxSteps := 10000000) only [go_sem, Nat.reduceAdd, Nat.reduceSub, Nat.reduceMul, Nat.reduceLT, Nat.reduceLeDiff, Nat.reduceEqDiff, Nat.reduceMod, Nat.reduceDiv, Int.reduceNeg, Int.reduceLE, Int.reduceLT, Int.reduceToNat, Int.reduceEq, Int.reduceNe, ↓reduceIte,  wrap_succ (show j < 9223372036854775807 by omega)]
  have hgl := hs.groups _ (nth_mem hk)
  set_option maxRecDepth 100000 in simp (maxSteps := 10000000) only [go_sem, Nat.reduceAdd, Nat.reduceSub, Nat.reduceMul, Nat.reduceLT, Nat.reduceLeDiff, Nat.reduceEqDiff, Nat.reduceMod, Nat.reduceDiv, Int.reduceNeg, Int.reduceLE, Int.reduceLT, Int.reduceToNat, Int.reduceEq, Int.reduceNe, ↓reduceIte,  hk]
  refine call_of (IndexOfString_good (nth s.profiles k).groups _ hgl) ?_
  set_option maxRecDepth 100000 in simp (maxSteps := 10000000) only [go_sem, Nat.reduceAdd, Nat.reduceSub, Nat.reduceMul, Nat.reduceLT, Nat.reduceLeDiff, Nat.reduceEqDiff, Nat.reduceMod, Nat.reduceDiv, Int.reduceNeg, Int.reduceLE, Int.reduceLT, Int.reduceToNat, Int.reduceEq, Int.reduceNe, ↓reduceIte]
  refine ifI (fun hf => ?_) fun hf => ?_
  · set_option maxRecDepth 100000 in simp (maxSteps := 10000000) only [go_sem, Nat.reduceAdd, Nat.reduceSub, Nat.reduceMul, Nat.reduceLT, Nat.reduceLeDiff, Nat.reduceEqDiff, Nat.reduceMod, Nat.reduceDiv, Int.reduceNeg, Int.reduceLE, Int.reduceLT, Int.reduceToNat, Int.reduceEq, Int.reduceNe, ↓reduceIte]
    refine ih2 (k + 1, p + 1, n) _ (by simp only; omega) (by simp only; omega) ?_
    set_option maxRecDepth 100000 in simp (maxSteps := 10000000) only [go_sem, Nat.reduceAdd, Nat.reduceSub, Nat.reduceMul, Nat.reduceLT, Nat.reduceLeDiff, Nat.reduceEqDiff, Nat.reduceMod, Nat.reduceDiv, Int.reduceNeg, Int.reduceLE, Int.reduceLT, Int.reduceToNat, Int.reduceEq, Int.reduceNe, ↓reduceIte,  wrap_succ (show k < 9223372036854775807 by omega)]
  have hu : 0 ≤ profIx s (nth s.profiles k).name := prof_self hk
  have hu2 : 0 ≤ profIx (cutG s i.toNat q) (nth s.profiles k).name := by rw [hLk.ix]; exact hu
  have hpo : (profOf s (nth s.profiles k).name).groups = (nth s.profiles k).groups := by rw [prof_is hS hk]
  have he := removes_eq (u := (nth s.profiles k).name) i3 hq hb (by rw [hpo]; exact Classical.not_not.1 hf)
  have ha1 := AuthorityOf_good s (nth s.profiles k).name i hs
  rw [authOf_is h1 hu h3] at ha1
  have ha2 := AuthorityOf_good (cutG s i.toNat q) (nth s.profiles k).name i hF
  rw [authOf_is z2 hu2 hix2] at ha2
  have hW := Without_good s i.toNat q hs i3 hq
  rw [Int.toNat_of_nonneg i1] at hW
  set_option maxRecDepth 100000 in simp (maxSteps := 10000000) only [go_sem, Nat.reduceAdd, Nat.reduceSub, Nat.reduceMul, Nat.reduceLT, Nat.reduceLeDiff, Nat.reduceEqDiff, Nat.reduceMod, Nat.reduceDiv, Int.reduceNeg, Int.reduceLE, Int.reduceLT, Int.reduceToNat, Int.reduceEq, Int.reduceNe, ↓reduceIte]
  refine callD_of (Own_good s hs) ?_
  set_option maxRecDepth 100000 in simp (maxSteps := 10000000) only [go_sem, Nat.reduceAdd, Nat.reduceSub, Nat.reduceMul, Nat.reduceLT, Nat.reduceLeDiff, Nat.reduceEqDiff, Nat.reduceMod, Nat.reduceDiv, Int.reduceNeg, Int.reduceLE, Int.reduceLT, Int.reduceToNat, Int.reduceEq, Int.reduceNe, ↓reduceIte]
  refine callD_of (ha1) ?_
  set_option maxRecDepth 100000 in simp (maxSteps := 10000000) only [go_sem, Nat.reduceAdd, Nat.reduceSub, Nat.reduceMul, Nat.reduceLT, Nat.reduceLeDiff, Nat.reduceEqDiff, Nat.reduceMod, Nat.reduceDiv, Int.reduceNeg, Int.reduceLE, Int.reduceLT, Int.reduceToNat, Int.reduceEq, Int.reduceNe, ↓reduceIte]
  refine ⟨by decide +kernel, ?_⟩
  set_option maxRecDepth 100000 in simp (maxSteps := 10000000) only [go_sem, Nat.reduceAdd, Nat.reduceSub, Nat.reduceMul, Nat.reduceLT, Nat.reduceLeDiff, Nat.reduceEqDiff, Nat.reduceMod, Nat.reduceDiv, Int.reduceNeg, Int.reduceLE, Int.reduceLT, Int.reduceToNat, Int.reduceEq, Int.reduceNe, ↓reduceIte,  hlt, hx]
  refine callD_of (hW) ?_
  set_option maxRecDepth 100000 in simp (maxSteps := 10000000) only [go_sem, Nat.reduceAdd, Nat.reduceSub, Nat.reduceMul, Nat.reduceLT, Nat.reduceLeDiff, Nat.reduceEqDiff, Nat.reduceMod, Nat.reduceDiv, Int.reduceNeg, Int.reduceLE, Int.reduceLT, Int.reduceToNat, Int.reduceEq, Int.reduceNe, ↓reduceIte]
  refine callD_of (ha2) ?_
  set_option maxRecDepth 100000 in simp (maxSteps := 10000000) only [go_sem, Nat.reduceAdd, Nat.reduceSub, Nat.reduceMul, Nat.reduceLT, Nat.reduceLeDiff, Nat.reduceEqDiff, Nat.reduceMod, Nat.reduceDiv, Int.reduceNeg, Int.reduceLE, Int.reduceLT, Int.reduceToNat, Int.reduceEq, Int.reduceNe, ↓reduceIte,  he, eq_self, not_true_eq_false, decide_false]
  refine ⟨by decide +kernel, ?_⟩
  refine ih2 (k + 1, p + 1, n + 1) _ (by simp only; omega) (by simp only; omega) ?_
  set_option maxRecDepth 100000 in simp (maxSteps := 10000000) only [go_sem, Nat.reduceAdd, Nat.reduceSub, Nat.reduceMul, Nat.reduceLT, Nat.reduceLeDiff, Nat.reduceEqDiff, Nat.reduceMod, Nat.reduceDiv, Int.reduceNeg, Int.reduceLE, Int.reduceLT, Int.reduceToNat, Int.reduceEq, Int.reduceNe, ↓reduceIte,  wrap_succ (show k < 9223372036854775807 by omega)]
end Go.Proofs.Ytdmcmfdmnlckdaa.C10
