/- Chapter 10: the superfluous private authorities. -/
import Derived.Test.YtdmcmfdmnlckdaaF15
import Derived.Test.YtdmcmfdmnlckdaaF26
import Derived.Test.YtdmcmfdmnlckdaaP7
namespace Go.Proofs.Ytdmcmfdmnlckdaa.C10
open Go Go.Proofs Go.Proofs.Ytdmcmfdmnlckdaa.Ab
set_option linter.unusedSimpArgs false
attribute [local congr] ite_ctx

theorem fit_cut {s : Sec} {k i : Nat} (hs : Fit s) (hk : k < s.objects.length) (hi : i < (nth s.objects k).grants.length) : Fit (cutG s k i) := by
  refine (like_cut hk hi).fit hs fun o ho => ?_
  rcases List.mem_or_eq_of_mem_set ho with h | h
  · exact hs.ogrants o h
  · subst h
    have := hs.ogrants _ (nth_mem hk)
    have := cutL_len hi
    show (cutL _ _).length ≤ _
    omega

theorem rowsP_secured (l : List Secured) : rowsP (l.map encSecured) = true := by
  unfold rowsP
  rw [List.all_map, List.all_eq_true]
  intro o _; rfl

/-- Whether an object's private authority is superfluous; the indexes of those that are, up to one. -/
def superB (s : Sec) (k i : Nat) : Bool := decide ((authorityP (cutG s k i) (nth (nth s.objects k).grants i).user (nth (cutG s k i).objects k)).auth = (authorityP s (nth (nth s.objects k).grants i).user (nth s.objects k)).auth)
def superOf (s : Sec) (k : Nat) : Nat → List Int
  | 0 => []
  | i + 1 => superOf s k i ++ if superB s k i = true then [(i : Int)] else []
theorem superOf_len (s : Sec) (k i : Nat) : (superOf s k i).length ≤ i := by
  induction i with
  | zero => simp [superOf]
  | succ i ih => rw [superOf, List.length_append]; split <;> simp <;> omega
def superErr (s : Sec) (i : Int) : Int := firstE [(secE s).2, ixE s i]
def SuperP (s : Sec) (i : Int) : List Int := if ¬ superErr s i = 0 then [] else superOf s i.toNat (nth s.objects i.toNat).grants.length

set_option maxHeartbeats 8000000 in
theorem Superfluous_good (s : Sec) (i : Int) (hs : Fit s) : Ans Try.prog 36 [.agg (encSec s), .int .i64 i] (.tup [.sl ((SuperP s i).map encInt), .int .i64 (superErr s i)]) := by
  have hE : superErr s i = firstE [(secE s).2, ixE s i] := rfl
  refine Classical.byCases (fun h0 : superErr s i = 0 => ?_) fun h0 => ?_
  · have hz := firstE_zero h0
    simp only [List.mem_cons, List.not_mem_nil, or_false, forall_eq_or_imp, forall_eq] at hz
    have hS := sound_of hs hz.1
    have hix := ixE_zero hz.2
    have i1 := hix.1; have i2 := hix.2.1; have i3 := hix.2.2
    have hg := hs.ogrants _ (nth_mem i3)
    have hq : (List.map encSecured s.objects)[i.toNat]? = some (encSecured (nth s.objects i.toNat)) := at_map i3
    have hset : ∀ r, ((List.map encSecured s.objects).set i.toNat r)[i.toNat]? = some r := fun r => by rw [List.getElem?_set_self (by simpa using i3)]
    have hren : ∀ m, List.map (fun x => List.map (ren1 m) x) (List.map encSecured s.objects) = List.map encSecured s.objects := fun m => by
      rw [List.map_map]; exact List.map_congr_left fun o _ => rfl
    have hU : SuperP s i = superOf s i.toNat (nth s.objects i.toNat).grants.length := by rw [SuperP, if_neg (not_not_intro h0)]
    rw [h0] at hE
    rw [hU, h0]
    refine good_run [(3000010, [], [100000000004001000]), (6, [8, 9, 10, 29, 30, 31, 32, 33, 34, 35, 36, 37, 38, 39, 40, 41, 42, 43, 44, 45, 46, 47, 48, 49, 50, 51, 52, 53, 54, 55, 56, 57, 58, 59, 60, 61, 62, 63, 64, 65, 66, 67, 68, 69, 70, 71, 72, 73, 74, 75, 76], [9, 0, 1, 10, 74, 1701003075])] mixed Try.func36 rfl Try.ntmps36 (rs := [.tmp 4, .tmp 5]) rfl (by decide +kernel) (by kernel_rfl) rfl ?_
    rw [startE_eq 78 _ _ _ rfl rfl]
    set_option maxRecDepth 100000 in simp (maxSteps := 10000000) only [go_sem, Nat.reduceAdd, Nat.reduceSub, Nat.reduceMul, Nat.reduceLT, Nat.reduceLeDiff, Nat.reduceEqDiff, Nat.reduceMod, Nat.reduceDiv, Int.reduceNeg, Int.reduceLE, Int.reduceLT, Int.reduceToNat, Int.reduceEq, Int.reduceNe, ↓reduceIte]
    refine callD_of (securityErr_good s hs) ?_
    set_option maxRecDepth 100000 in simp (maxSteps := 10000000) only [go_sem, Nat.reduceAdd, Nat.reduceSub, Nat.reduceMul, Nat.reduceLT, Nat.reduceLeDiff, Nat.reduceEqDiff, Nat.reduceMod, Nat.reduceDiv, Int.reduceNeg, Int.reduceLE, Int.reduceLT, Int.reduceToNat, Int.reduceEq, Int.reduceNe, ↓reduceIte]
    refine callD_of (objectErr_good s i hs) ?_
    set_option maxRecDepth 100000 in simp (maxSteps := 10000000) only [go_sem, Nat.reduceAdd, Nat.reduceSub, Nat.reduceMul, Nat.reduceLT, Nat.reduceLeDiff, Nat.reduceEqDiff, Nat.reduceMod, Nat.reduceDiv, Int.reduceNeg, Int.reduceLE, Int.reduceLT, Int.reduceToNat, Int.reduceEq, Int.reduceNe, ↓reduceIte]
    refine callD_of (first2_good _ _) ?_
    set_option maxRecDepth 100000 in simp (maxSteps := 10000000) only [go_sem, Nat.reduceAdd, Nat.reduceSub, Nat.reduceMul, Nat.reduceLT, Nat.reduceLeDiff, Nat.reduceEqDiff, Nat.reduceMod, Nat.reduceDiv, Int.reduceNeg, Int.reduceLE, Int.reduceLT, Int.reduceToNat, Int.reduceEq, Int.reduceNe, ↓reduceIte,  ← hE, eq_self, not_true_eq_false]
    refine ⟨by decide +kernel, ?_⟩
    set_option maxRecDepth 100000 in simp (maxSteps := 10000000) only [go_sem, Nat.reduceAdd, Nat.reduceSub, Nat.reduceMul, Nat.reduceLT, Nat.reduceLeDiff, Nat.reduceEqDiff, Nat.reduceMod, Nat.reduceDiv, Int.reduceNeg, Int.reduceLE, Int.reduceLT, Int.reduceToNat, Int.reduceEq, Int.reduceNe, ↓reduceIte,  hq, i1, i2, i3, List.length_map, Option.map_some]
    refine loop_by ([8, 9, 10, 29, 30, 31, 32, 33, 34, 35, 36, 37, 38, 39, 40, 41, 42, 43, 44, 45, 46, 47, 48, 49, 50, 51, 52, 53, 54, 55, 56, 57, 58, 59, 60, 61, 62, 63, 64, 65, 66, 67, 68, 69, 70, 71, 72, 73, 74, 75, 76], [9, 0, 1, 10, 74, 1701003075]) (fun x : Nat × Nat × Nat => [(.s 28, .int .i64 (x.1 : Int)), (.s 7, .ref 75 (x.2.1 + 1)), (.o 9, deadV x.1), (.o 10, deadV x.1), (.o 0, deadV x.1), (.o 1, deadV x.2.2), (.o 74, deadV x.2.1), (.o 75, .obj (x.2.1 + 1) 3 1 false true ((superOf s i.toNat x.1).map encInt))])
      (fun x => (nth s.objects i.toNat).grants.length - x.1) (fun x => x.1 ≤ (nth s.objects i.toNat).grants.length) (0, 0, 0) rfl (Nat.zero_le _) ?_ ?_
    · set_option maxRecDepth 100000 in simp (maxSteps := 10000000) only [go_sem, Nat.reduceAdd, Nat.reduceSub, Nat.reduceMul, Nat.reduceLT, Nat.reduceLeDiff, Nat.reduceEqDiff, Nat.reduceMod, Nat.reduceDiv, Int.reduceNeg, Int.reduceLE, Int.reduceLT, Int.reduceToNat, Int.reduceEq, Int.reduceNe, ↓reduceIte,  show superOf s i.toNat 0 = [] from rfl]
    rintro c' st' hst ⟨k, m, n⟩ hi ih
    simp only at hi
    set_option maxRecDepth 100000 in simp (maxSteps := 10000000) only [go_sem, Nat.reduceAdd, Nat.reduceSub, Nat.reduceMul, Nat.reduceLT, Nat.reduceLeDiff, Nat.reduceEqDiff, Nat.reduceMod, Nat.reduceDiv, Int.reduceNeg, Int.reduceLE, Int.reduceLT, Int.reduceToNat, Int.reduceEq, Int.reduceNe, ↓reduceIte]
    refine ifI (fun hlt => ?_) fun hlt => ?_
    · have hO := hs.objects
      set_option maxRecDepth 100000 in simp (maxSteps := 10000000) only [go_sem, Nat.reduceAdd, Nat.reduceSub, Nat.reduceMul, Nat.reduceLT, Nat.reduceLeDiff, Nat.reduceEqDiff, Nat.reduceMod, Nat.reduceDiv, Int.reduceNeg, Int.reduceLE, Int.reduceLT, Int.reduceToNat, Int.reduceEq, Int.reduceNe, ↓reduceIte,  hlt]
      refine callM_of [] [0, 1] (own81M s i hO hg i1 i2 i3) ⟨rfl, rfl, rfl, by simp, by simp, by simp, by simp, rfl, rfl, rfl, onodup_of (l := [0, 18]) rfl (by decide)⟩ ?_
      set_option maxRecDepth 100000 in simp (maxSteps := 10000000) only [go_sem, Nat.reduceAdd, Nat.reduceSub, Nat.reduceMul, Nat.reduceLT, Nat.reduceLeDiff, Nat.reduceEqDiff, Nat.reduceMod, Nat.reduceDiv, Int.reduceNeg, Int.reduceLE, Int.reduceLT, Int.reduceToNat, Int.reduceEq, Int.reduceNe, ↓reduceIte]
      have hL := like_cut i3 hlt
      have hn : nth (cutG s i.toNat k).objects i.toNat = cutO (nth s.objects i.toNat) k := by
        show nth (s.objects.set i.toNat _) i.toNat = _
        rw [nth_set i3, if_pos rfl]
      have hol : (cutG s i.toNat k).objects.length = s.objects.length := hL.ol
      have hq2 : (List.map encSecured (cutG s i.toNat k).objects)[i.toNat]? = some (encSecured (nth (cutG s i.toNat k).objects i.toNat)) := at_map (hol ▸ i3)
      have hE : (List.map encSecured s.objects).set i.toNat [.str (nth s.objects i.toNat).name.lib, .str (nth s.objects i.toNat).name.name, .int .i64 (nth s.objects i.toNat).name.type, .str (nth s.objects i.toNat).owner, .sl (List.map encGrant (List.take k (nth s.objects i.toNat).grants ++ List.drop (k + 1) (nth s.objects i.toNat).grants)), .str (nth s.objects i.toNat).list, .int .i64 (nth s.objects i.toNat).pub, .bool (nth s.objects i.toNat).byList] = List.map encSecured (cutG s i.toNat k).objects := by
        rw [cutG, List.map_set]; rfl
      have hP := rowsP_secured (cutG s i.toNat k).objects
      have hF := fit_cut hs i3 hlt
      have hu : 0 ≤ profIx s (nth (nth s.objects i.toNat).grants k).user := by
        have z := hS.pgrants _ (nth_mem i3)
        rw [grantsE] at z
        split at z
        · cases z
        · exact Int.not_lt.1 (grantE_ok.1 (scan_zero _ _ z k (Nat.zero_le _) (by omega))).1
      have hu2 : 0 ≤ profIx (cutG s i.toNat k) (nth (nth s.objects i.toNat).grants k).user := by rw [hL.ix]; exact hu
      have hcut := cutL_len hlt
      have hli : Listed (cutG s i.toNat k) (nth (cutG s i.toNat k).objects i.toNat) := by
        have := hS.listed _ (nth_mem i3)
        rw [hn]; exact ⟨by show (cutL _ _).length ≤ _; omega, this.2⟩
      have hby : (nth (cutG s i.toNat k).objects i.toNat).byList = true → ¬ (nth (cutG s i.toNat k).objects i.toNat).list = ⟨#[]⟩ := by
        rw [hn]; exact hS.byList (nth s.objects i.toNat) (nth_mem i3)
      have hlt2 : k + 1 ≤ (nth s.objects i.toNat).grants.length := hlt
      set_option maxRecDepth 100000 in simp (maxSteps := 10000000) only [go_sem, Nat.reduceAdd, Nat.reduceSub, Nat.reduceMul, Nat.reduceLT, Nat.reduceLeDiff, Nat.reduceEqDiff, Nat.reduceMod, Nat.reduceDiv, Int.reduceNeg, Int.reduceLE, Int.reduceLT, Int.reduceToNat, Int.reduceEq, Int.reduceNe, ↓reduceIte,  i1, i2, i3, hset, hren, hq, List.map_set, List.length_set, List.length_map, Option.map_some, wrap_succ (show k < 9223372036854775807 by omega)]
      refine callMD_of [1] [1] (DeleteG (nth s.objects i.toNat).grants k (k + 1) (Nat.lt_succ_self k) hlt2) ⟨by simp [renA, ren1, invM, posOf, verOf, AV.cellP, Env.go], rfl, rfl, by simp, by simp [ment, ment1], by simp, by simp, rfl, rfl, rfl, onodup_of (l := [33]) rfl (by decide)⟩ ?_
      set_option maxRecDepth 100000 in simp (maxSteps := 10000000) only [go_sem, Nat.reduceAdd, Nat.reduceSub, Nat.reduceMul, Nat.reduceLT, Nat.reduceLeDiff, Nat.reduceEqDiff, Nat.reduceMod, Nat.reduceDiv, Int.reduceNeg, Int.reduceLE, Int.reduceLT, Int.reduceToNat, Int.reduceEq, Int.reduceNe, ↓reduceIte,  i1, i2, i3, hset, hq, List.length_set, List.length_map, Option.map_some, List.set_set, hE, hP]
      refine ⟨by decide +kernel, ?_⟩
      set_option maxRecDepth 100000 in simp (maxSteps := 10000000) only [go_sem, Nat.reduceAdd, Nat.reduceSub, Nat.reduceMul, Nat.reduceLT, Nat.reduceLeDiff, Nat.reduceEqDiff, Nat.reduceMod, Nat.reduceDiv, Int.reduceNeg, Int.reduceLE, Int.reduceLT, Int.reduceToNat, Int.reduceEq, Int.reduceNe, ↓reduceIte,  i1, i2, i3, hq2, hol, List.length_map, Option.map_some]
      refine callD_of (authority_good (cutG s i.toNat k) _ (nth (cutG s i.toNat k).objects i.toNat) hF (hL.grouped hS.grouped) hu2 hli hby) ?_
      set_option maxRecDepth 100000 in simp (maxSteps := 10000000) only [go_sem, Nat.reduceAdd, Nat.reduceSub, Nat.reduceMul, Nat.reduceLT, Nat.reduceLeDiff, Nat.reduceEqDiff, Nat.reduceMod, Nat.reduceDiv, Int.reduceNeg, Int.reduceLE, Int.reduceLT, Int.reduceToNat, Int.reduceEq, Int.reduceNe, ↓reduceIte,  i1, i2, i3, hq, List.length_map, Option.map_some]
      refine callD_of (authority_good s _ (nth s.objects i.toNat) hs hS.grouped hu (hS.listed _ (nth_mem i3)) (hS.byList _ (nth_mem i3))) ?_
      set_option maxRecDepth 100000 in simp (maxSteps := 10000000) only [go_sem, Nat.reduceAdd, Nat.reduceSub, Nat.reduceMul, Nat.reduceLT, Nat.reduceLeDiff, Nat.reduceEqDiff, Nat.reduceMod, Nat.reduceDiv, Int.reduceNeg, Int.reduceLE, Int.reduceLT, Int.reduceToNat, Int.reduceEq, Int.reduceNe, ↓reduceIte]
      refine ⟨by decide +kernel, ifI (fun h1 => ?_) fun h1 => ?_⟩
      · have hy : List.map encInt (superOf s i.toNat (k + 1)) = List.map encInt (superOf s i.toNat k) ++ [[.int .i64 (k : Int)]] := by
          rw [superOf, if_pos (show superB s i.toNat k = true from decide_eq_true h1), List.map_append]; rfl
        have hf := superOf_len s i.toNat k
        set_option maxRecDepth 100000 in simp (maxSteps := 10000000) only [go_sem, Nat.reduceAdd, Nat.reduceSub, Nat.reduceMul, Nat.reduceLT, Nat.reduceLeDiff, Nat.reduceEqDiff, Nat.reduceMod, Nat.reduceDiv, Int.reduceNeg, Int.reduceLE, Int.reduceLT, Int.reduceToNat, Int.reduceEq, Int.reduceNe, ↓reduceIte,  show ((superOf s i.toNat k).length + 1) * 8 ≤ 140737488355328 by omega, show (superOf s i.toNat k).length + 1 ≤ maxLen by unfold maxLen; omega, List.length_map]
        refine ih (k + 1, m + 1, n + 1 + 1) _ (by simp only; omega) (by simp only; omega) ?_
        set_option maxRecDepth 100000 in simp (maxSteps := 10000000) only [go_sem, Nat.reduceAdd, Nat.reduceSub, Nat.reduceMul, Nat.reduceLT, Nat.reduceLeDiff, Nat.reduceEqDiff, Nat.reduceMod, Nat.reduceDiv, Int.reduceNeg, Int.reduceLE, Int.reduceLT, Int.reduceToNat, Int.reduceEq, Int.reduceNe, ↓reduceIte,  wrap_succ (show k < 9223372036854775807 by omega), hy]
      · have hy : superOf s i.toNat (k + 1) = superOf s i.toNat k := by
          rw [superOf, if_neg (show ¬ superB s i.toNat k = true by rw [superB, decide_eq_true_eq]; exact h1), List.append_nil]
        set_option maxRecDepth 100000 in simp (maxSteps := 10000000) only [go_sem, Nat.reduceAdd, Nat.reduceSub, Nat.reduceMul, Nat.reduceLT, Nat.reduceLeDiff, Nat.reduceEqDiff, Nat.reduceMod, Nat.reduceDiv, Int.reduceNeg, Int.reduceLE, Int.reduceLT, Int.reduceToNat, Int.reduceEq, Int.reduceNe, ↓reduceIte]
        refine ih (k + 1, m, n + 1 + 1) _ (by simp only; omega) (by simp only; omega) ?_
        set_option maxRecDepth 100000 in simp (maxSteps := 10000000) only [go_sem, Nat.reduceAdd, Nat.reduceSub, Nat.reduceMul, Nat.reduceLT, Nat.reduceLeDiff, Nat.reduceEqDiff, Nat.reduceMod, Nat.reduceDiv, Int.reduceNeg, Int.reduceLE, Int.reduceLT, Int.reduceToNat, Int.reduceEq, Int.reduceNe, ↓reduceIte,  wrap_succ (show k < 9223372036854775807 by omega), hy]
    · have hke : k = (nth s.objects i.toNat).grants.length := by omega
      subst hst
      set_option maxRecDepth 100000 in simp (maxSteps := 10000000) only [go_sem, Nat.reduceAdd, Nat.reduceSub, Nat.reduceMul, Nat.reduceLT, Nat.reduceLeDiff, Nat.reduceEqDiff, Nat.reduceMod, Nat.reduceDiv, Int.reduceNeg, Int.reduceLE, Int.reduceLT, Int.reduceToNat, Int.reduceEq, Int.reduceNe, ↓reduceIte,  hke]
  · have hU : SuperP s i = [] := by rw [SuperP, if_pos h0]
    rw [hU]
    refine Ans.le (r := .tup [.nils, .int .i64 (superErr s i)]) ?_ (.tup' (.cons .nils (.cons (.refl _) .nil))) rfl
    refine good_run [(3000010, [], [100000000004001000]), (6, [8, 9, 10, 29, 30, 31, 32, 33, 34, 35, 36, 37, 38, 39, 40, 41, 42, 43, 44, 45, 46, 47, 48, 49, 50, 51, 52, 53, 54, 55, 56, 57, 58, 59, 60, 61, 62, 63, 64, 65, 66, 67, 68, 69, 70, 71, 72, 73, 74, 75, 76], [9, 0, 1, 10, 74, 1701003075])] mixed Try.func36 rfl Try.ntmps36 (rs := [.tmp 4, .tmp 5]) rfl (by decide +kernel) (by kernel_rfl) rfl ?_
    rw [startE_eq 78 _ _ _ rfl rfl]
    set_option maxRecDepth 100000 in simp (maxSteps := 10000000) only [go_sem, Nat.reduceAdd, Nat.reduceSub, Nat.reduceMul, Nat.reduceLT, Nat.reduceLeDiff, Nat.reduceEqDiff, Nat.reduceMod, Nat.reduceDiv, Int.reduceNeg, Int.reduceLE, Int.reduceLT, Int.reduceToNat, Int.reduceEq, Int.reduceNe, ↓reduceIte]
    refine callD_of (securityErr_good s hs) ?_
    set_option maxRecDepth 100000 in simp (maxSteps := 10000000) only [go_sem, Nat.reduceAdd, Nat.reduceSub, Nat.reduceMul, Nat.reduceLT, Nat.reduceLeDiff, Nat.reduceEqDiff, Nat.reduceMod, Nat.reduceDiv, Int.reduceNeg, Int.reduceLE, Int.reduceLT, Int.reduceToNat, Int.reduceEq, Int.reduceNe, ↓reduceIte]
    refine callD_of (objectErr_good s i hs) ?_
    set_option maxRecDepth 100000 in simp (maxSteps := 10000000) only [go_sem, Nat.reduceAdd, Nat.reduceSub, Nat.reduceMul, Nat.reduceLT, Nat.reduceLeDiff, Nat.reduceEqDiff, Nat.reduceMod, Nat.reduceDiv, Int.reduceNeg, Int.reduceLE, Int.reduceLT, Int.reduceToNat, Int.reduceEq, Int.reduceNe, ↓reduceIte]
    rw [hE] at h0
    refine callD_of (first2_good _ _) ?_
    set_option maxRecDepth 100000 in simp (maxSteps := 10000000) only [go_sem, Nat.reduceAdd, Nat.reduceSub, Nat.reduceMul, Nat.reduceLT, Nat.reduceLeDiff, Nat.reduceEqDiff, Nat.reduceMod, Nat.reduceDiv, Int.reduceNeg, Int.reduceLE, Int.reduceLT, Int.reduceToNat, Int.reduceEq, Int.reduceNe, ↓reduceIte,  h0, not_false_eq_true]
    refine ⟨by decide +kernel, ?_⟩
    rw [hE]
end Go.Proofs.Ytdmcmfdmnlckdaa.C10
