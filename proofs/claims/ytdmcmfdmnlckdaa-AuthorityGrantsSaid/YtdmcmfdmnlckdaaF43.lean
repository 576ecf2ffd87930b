/- Chapter 10: revoking. -/
import Derived.Test.YtdmcmfdmnlckdaaF40
namespace Go.Proofs.Ytdmcmfdmnlckdaa.C10
open Go Go.Proofs Go.Proofs.Ytdmcmfdmnlckdaa.Ab
set_option linter.unusedSimpArgs false
set_option linter.unusedVariables false
attribute [local congr] ite_ctx

def oldA (s : Sec) (k i : Nat) : Int := (nth (nth s.objects k).grants i).auth
def leftA (s : Sec) (k i : Nat) (a : Int) : Int := Go.bits .andNot .i64 (oldA s k i) a
def revS (s : Sec) (k i : Nat) (a : Int) : Sec := if ¬ oldA s k i = 0 ∧ leftA s k i a = 0 then cutG s k i else lowS s k i (leftA s k i a)

set_option maxHeartbeats 4000000 in
theorem RevokeFrom_err (s : Sec) (b : ByteArray) (g : GReq) (hs : Fit s) (h : ¬ chE s b g = 0) : Ans Try.prog 51 [.agg (encSec s), .str b, .agg (encGReq g)] (.tup [.agg [.nils, .nils, .nils], .int .i64 (chE s b g)]) := by
  refine good_run [(3000013, [], [100000000004040000])] mixed Try.func51 rfl Try.ntmps51 (rs := [.cell 6 26, .tmp 7]) rfl (by decide +kernel) (by kernel_rfl) rfl ?_
  rw [startE_eq 88 _ _ _ rfl rfl]
  set_option maxRecDepth 100000 in simp (maxSteps := 10000000) only [go_sem, Nat.reduceAdd, Nat.reduceSub, Nat.reduceMul, Nat.reduceLT, Nat.reduceLeDiff, Nat.reduceEqDiff, Nat.reduceMod, Nat.reduceDiv, Int.reduceNeg, Int.reduceLE, Int.reduceLT, Int.reduceToNat, Int.reduceEq, Int.reduceNe, ↓reduceIte]
  refine call_of (changeErr_good s b g hs) ?_
  set_option maxRecDepth 100000 in simp (maxSteps := 10000000) only [go_sem, Nat.reduceAdd, Nat.reduceSub, Nat.reduceMul, Nat.reduceLT, Nat.reduceLeDiff, Nat.reduceEqDiff, Nat.reduceMod, Nat.reduceDiv, Int.reduceNeg, Int.reduceLE, Int.reduceLT, Int.reduceToNat, Int.reduceEq, Int.reduceNe, ↓reduceIte,  h, not_false_eq_true, decide_true]

set_option maxHeartbeats 4000000 in
theorem RevokeFrom_none (s : Sec) (b : ByteArray) (g : GReq) (hs : Fit s) (h : chE s b g = 0) (hf : ¬ 0 ≤ grantIx (nth s.objects g.object.toNat).grants g.user) : Ans Try.prog 51 [.agg (encSec s), .str b, .agg (encGReq g)] (.tup [.agg [.nils, .nils, .nils], .int .i64 40]) := by
  obtain ⟨hS, z0, zb, zu, ⟨i1, i2, i3⟩, za⟩ := ch_facts hs h
  have hq : (List.map encSecured s.objects)[g.object.toNat]? = some (encSecured (nth s.objects g.object.toNat)) := at_map i3
  have hgg := grant_good (nth s.objects g.object.toNat).grants g.user (hs.ogrants _ (nth_mem i3))
  have hg1 : findIx (fun p : Grant => decide (p.user = g.user)) (nth s.objects g.object.toNat).grants 0 < 0 := Int.not_le.1 hf
  refine good_run [(3000013, [], [100000000004040000])] mixed Try.func51 rfl Try.ntmps51 (rs := [.cell 6 26, .tmp 7]) rfl (by decide +kernel) (by kernel_rfl) rfl ?_
  rw [startE_eq 88 _ _ _ rfl rfl]
  set_option maxRecDepth 100000 in simp (maxSteps := 10000000) only [go_sem, Nat.reduceAdd, Nat.reduceSub, Nat.reduceMul, Nat.reduceLT, Nat.reduceLeDiff, Nat.reduceEqDiff, Nat.reduceMod, Nat.reduceDiv, Int.reduceNeg, Int.reduceLE, Int.reduceLT, Int.reduceToNat, Int.reduceEq, Int.reduceNe, ↓reduceIte]
  refine call_of (changeErr_good s b g hs) ?_
  set_option maxRecDepth 100000 in simp (maxSteps := 10000000) only [go_sem, Nat.reduceAdd, Nat.reduceSub, Nat.reduceMul, Nat.reduceLT, Nat.reduceLeDiff, Nat.reduceEqDiff, Nat.reduceMod, Nat.reduceDiv, Int.reduceNeg, Int.reduceLE, Int.reduceLT, Int.reduceToNat, Int.reduceEq, Int.reduceNe, ↓reduceIte,  h, not_true_eq_false, decide_false, i1, i2, i3, hq, Option.map_some]
  refine callD_of (hgg) ?_
  set_option maxRecDepth 100000 in simp (maxSteps := 10000000) only [go_sem, Nat.reduceAdd, Nat.reduceSub, Nat.reduceMul, Nat.reduceLT, Nat.reduceLeDiff, Nat.reduceEqDiff, Nat.reduceMod, Nat.reduceDiv, Int.reduceNeg, Int.reduceLE, Int.reduceLT, Int.reduceToNat, Int.reduceEq, Int.reduceNe, ↓reduceIte,  hg1, decide_true]
  exact (by decide +kernel)

theorem set_cut {l : List Grant} {i : Nat} {x : Grant} (hi : i < l.length) : (l.set i x).take i ++ (l.set i x).drop (i + 1) = cutL l i := by
  rw [cutL, List.take_set_of_le (Nat.le_refl _), List.drop_set_of_lt (Nat.lt_succ_self _)]

set_option maxHeartbeats 8000000 in
theorem RevokeFrom_ok (s : Sec) (b : ByteArray) (g : GReq) (hs : Fit s) (h : chE s b g = 0) (hf : 0 ≤ grantIx (nth s.objects g.object.toNat).grants g.user) :
    Ans Try.prog 51 [.agg (encSec s), .str b, .agg (encGReq g)] (.tup [.agg (encSec (revS s g.object.toNat (grantIx (nth s.objects g.object.toNat).grants g.user).toNat g.auth)), .int .i64 0]) := by
  obtain ⟨hS, z0, zb, zu, ⟨i1, i2, i3⟩, za⟩ := ch_facts hs h
  have hce := changeErr_good s b g hs
  rw [h] at hce
  obtain ⟨u, i, a⟩ := g
  simp only at i1 i2 i3 zu za hf
  show Ans Try.prog 51 [.agg (encSec s), .str b, .agg [.str u, .int .i64 i, .int .i64 a]] (.tup [.agg (encSec (revS s i.toNat (grantIx (nth s.objects i.toNat).grants u).toNat a)), .int .i64 0])
  have hce : Ans Try.prog 87 [.agg (encSec s), .str b, .agg [.str u, .int .i64 i, .int .i64 a]] (.int .i64 0) := hce
  have hO := hs.objects
  have hg := hs.ogrants _ (nth_mem i3)
  have hq : (List.map encSecured s.objects)[i.toNat]? = some (encSecured (nth s.objects i.toNat)) := at_map i3
  have hset : ∀ r, ((List.map encSecured s.objects).set i.toNat r)[i.toNat]? = some r := fun r => by rw [List.getElem?_set_self (by simpa using i3)]
  have hren : ∀ m, List.map (fun x => List.map (ren1 m) x) (List.map encSecured s.objects) = List.map encSecured s.objects := fun m => by
    rw [List.map_map]; exact List.map_congr_left fun o _ => rfl
  have hgg := grant_good (nth s.objects i.toNat).grants u hg
  have hm := grant_hit hf
  obtain ⟨k, hk⟩ : ∃ k : Nat, grantIx (nth s.objects i.toNat).grants u = (k : Int) := ⟨_, (Int.toNat_of_nonneg hf).symm⟩
  rw [hk, Int.toNat_natCast] at hm ⊢
  have hkl := hm.2
  have hki : (k : Int) < ((nth s.objects i.toNat).grants.length : Int) := by omega
  have hk0 : ¬ (k : Int) < 0 := by omega
  have hgk : (List.map encGrant (nth s.objects i.toNat).grants)[k]? = some (encGrant (nth (nth s.objects i.toNat).grants k)) := at_map hkl
  have hgg : Ans Try.prog 88 [.sl (List.map encGrant (nth s.objects i.toNat).grants), .str u] (.int .i64 (k : Int)) := hk ▸ hgg
  have hold : (nth (nth s.objects i.toNat).grants k).auth = oldA s i.toNat k := rfl
  have hleft : Go.bits .andNot .i64 (oldA s i.toNat k) a = leftA s i.toNat k a := rfl
  refine good_run [(3000013, [], [100000000004040000])] mixed Try.func51 rfl Try.ntmps51 (rs := [.cell 6 26, .tmp 7]) rfl (by decide +kernel) (by kernel_rfl) rfl ?_
  rw [startE_eq 88 _ _ _ rfl rfl]
  set_option maxRecDepth 100000 in simp (maxSteps := 10000000) only [go_sem, Nat.reduceAdd, Nat.reduceSub, Nat.reduceMul, Nat.reduceLT, Nat.reduceLeDiff, Nat.reduceEqDiff, Nat.reduceMod, Nat.reduceDiv, Int.reduceNeg, Int.reduceLE, Int.reduceLT, Int.reduceToNat, Int.reduceEq, Int.reduceNe, ↓reduceIte]
  refine call_of (hce) ?_
  set_option maxRecDepth 100000 in simp (maxSteps := 10000000) only [go_sem, Nat.reduceAdd, Nat.reduceSub, Nat.reduceMul, Nat.reduceLT, Nat.reduceLeDiff, Nat.reduceEqDiff, Nat.reduceMod, Nat.reduceDiv, Int.reduceNeg, Int.reduceLE, Int.reduceLT, Int.reduceToNat, Int.reduceEq, Int.reduceNe, ↓reduceIte,  not_true_eq_false, decide_false, i1, i2, i3, hq, Option.map_some]
  refine callD_of (hgg) ?_
  set_option maxRecDepth 100000 in simp (maxSteps := 10000000) only [go_sem, Nat.reduceAdd, Nat.reduceSub, Nat.reduceMul, Nat.reduceLT, Nat.reduceLeDiff, Nat.reduceEqDiff, Nat.reduceMod, Nat.reduceDiv, Int.reduceNeg, Int.reduceLE, Int.reduceLT, Int.reduceToNat, Int.reduceEq, Int.reduceNe, ↓reduceIte,  hk0, decide_false, i1, i2, i3, hq, Option.map_some]
  refine ⟨by decide +kernel, ?_⟩
  refine callM_of [] [0, 1] (own81M s i hO hg i1 i2 i3) ⟨rfl, rfl, rfl, by simp, by simp, by simp, by simp, rfl, rfl, rfl, onodup_of (l := [0, 18]) rfl (by decide)⟩ ?_
  set_option maxRecDepth 100000 in simp (maxSteps := 10000000) only [go_sem, Nat.reduceAdd, Nat.reduceSub, Nat.reduceMul, Nat.reduceLT, Nat.reduceLeDiff, Nat.reduceEqDiff, Nat.reduceMod, Nat.reduceDiv, Int.reduceNeg, Int.reduceLE, Int.reduceLT, Int.reduceToNat, Int.reduceEq, Int.reduceNe, ↓reduceIte]
  set_option maxRecDepth 100000 in simp (maxSteps := 10000000) only [go_sem, Nat.reduceAdd, Nat.reduceSub, Nat.reduceMul, Nat.reduceLT, Nat.reduceLeDiff, Nat.reduceEqDiff, Nat.reduceMod, Nat.reduceDiv, Int.reduceNeg, Int.reduceLE, Int.reduceLT, Int.reduceToNat, Int.reduceEq, Int.reduceNe, ↓reduceIte,  i1, i2, i3, hset, hren, hq, List.map_set, List.length_set, List.length_map, Option.map_some, Int.natCast_nonneg, decide_true, hkl, hki, hgk, List.set_set, hold, hleft]
  refine ⟨by decide +kernel, ?_⟩
  have hrow : (List.map encGrant (nth s.objects i.toNat).grants).set k [.str (nth (nth s.objects i.toNat).grants k).user, .int .i64 (leftA s i.toNat k a)] = List.map encGrant ((nth s.objects i.toNat).grants.set k ⟨(nth (nth s.objects i.toNat).grants k).user, leftA s i.toNat k a⟩) := by
    rw [List.map_set]; rfl
  have hgk2 : (List.map encGrant ((nth s.objects i.toNat).grants.set k ⟨(nth (nth s.objects i.toNat).grants k).user, leftA s i.toNat k a⟩))[k]? = some [.str (nth (nth s.objects i.toNat).grants k).user, .int .i64 (leftA s i.toNat k a)] := by
    rw [← hrow, List.getElem?_set_self (by simpa using hkl)]
  have hwk := wrap_succ (show k < 9223372036854775807 by omega)
  have hlow : ¬ (¬ oldA s i.toNat k = 0 ∧ leftA s i.toNat k a = 0) → (List.map encSecured s.objects).set i.toNat [.str (nth s.objects i.toNat).name.lib, .str (nth s.objects i.toNat).name.name, .int .i64 (nth s.objects i.toNat).name.type, .str (nth s.objects i.toNat).owner, .sl (List.map encGrant ((nth s.objects i.toNat).grants.set k ⟨(nth (nth s.objects i.toNat).grants k).user, leftA s i.toNat k a⟩)), .str (nth s.objects i.toNat).list, .int .i64 (nth s.objects i.toNat).pub, .bool (nth s.objects i.toNat).byList] = List.map encSecured (revS s i.toNat k a).objects := fun q => by
    rw [revS, if_neg q]; exact (List.map_set (f := encSecured) (l := s.objects) (i := i.toNat) (a := lowO (nth s.objects i.toNat) k (leftA s i.toNat k a))).symm.trans rfl
  have hcut : (¬ oldA s i.toNat k = 0 ∧ leftA s i.toNat k a = 0) → (List.map encSecured s.objects).set i.toNat [.str (nth s.objects i.toNat).name.lib, .str (nth s.objects i.toNat).name.name, .int .i64 (nth s.objects i.toNat).name.type, .str (nth s.objects i.toNat).owner, .sl (List.map encGrant (cutL (nth s.objects i.toNat).grants k)), .str (nth s.objects i.toNat).list, .int .i64 (nth s.objects i.toNat).pub, .bool (nth s.objects i.toNat).byList] = List.map encSecured (revS s i.toNat k a).objects := fun q => by
    rw [revS, if_pos q]; exact (List.map_set (f := encSecured) (l := s.objects) (i := i.toNat) (a := cutO (nth s.objects i.toNat) k)).symm.trans rfl
  have hP := rowsP_secured (revS s i.toNat k a).objects
  have hps : (revS s i.toNat k a).profiles = s.profiles := by rw [revS]; split <;> rfl
  have hls : (revS s i.toNat k a).lists = s.lists := by rw [revS]; split <;> rfl
  refine Classical.byCases (fun q1 : oldA s i.toNat k = 0 => ?_) fun q1 => ?_
  · have hE := hlow fun q => q.1 q1
    set_option maxRecDepth 100000 in simp (maxSteps := 10000000) only [go_sem, Nat.reduceAdd, Nat.reduceSub, Nat.reduceMul, Nat.reduceLT, Nat.reduceLeDiff, Nat.reduceEqDiff, Nat.reduceMod, Nat.reduceDiv, Int.reduceNeg, Int.reduceLE, Int.reduceLT, Int.reduceToNat, Int.reduceEq, Int.reduceNe, ↓reduceIte,  q1, not_true_eq_false, decide_false, hset, Option.map_some, hrow, List.set_set, i1, i2, i3, List.length_set, List.length_map, hE, hP, hps, hls]
    done
  refine Classical.byCases (fun q2 : leftA s i.toNat k a = 0 => ?_) fun q2 => ?_
  case refine_2 =>
    have hE := hlow fun q => q2 q.2
    set_option maxRecDepth 100000 in simp (maxSteps := 10000000) only [go_sem, Nat.reduceAdd, Nat.reduceSub, Nat.reduceMul, Nat.reduceLT, Nat.reduceLeDiff, Nat.reduceEqDiff, Nat.reduceMod, Nat.reduceDiv, Int.reduceNeg, Int.reduceLE, Int.reduceLT, Int.reduceToNat, Int.reduceEq, Int.reduceNe, ↓reduceIte,  q1, not_false_eq_true, decide_true, hset, Option.map_some, hrow, hgk2, q2, decide_false, List.set_set, i1, i2, i3, hkl, hki, Int.natCast_nonneg, List.length_set, List.length_map, hE, hP, hps, hls]
    done
  have hE := hcut ⟨q1, q2⟩
  have q2t : (leftA s i.toNat k a = 0) = True := eq_true q2
  have hdel := DeleteG ((nth s.objects i.toNat).grants.set k ⟨(nth (nth s.objects i.toNat).grants k).user, leftA s i.toNat k a⟩) k (k + 1) (Nat.lt_succ_self _) (by rw [List.length_set]; exact hkl)
  rw [set_cut hkl] at hdel
  obtain ⟨j, hj⟩ : ∃ j, j = k + 1 := ⟨_, rfl⟩
  rw [← hj] at hdel hwk
  set_option maxRecDepth 100000 in simp (maxSteps := 10000000) only [go_sem, Nat.reduceAdd, Nat.reduceSub, Nat.reduceMul, Nat.reduceLT, Nat.reduceLeDiff, Nat.reduceEqDiff, Nat.reduceMod, Nat.reduceDiv, Int.reduceNeg, Int.reduceLE, Int.reduceLT, Int.reduceToNat, Int.reduceEq, Int.reduceNe, ↓reduceIte,  q1, not_false_eq_true, decide_true, hset, Option.map_some, hrow, hgk2, q2t, List.set_set, i1, i2, i3, hkl, hki, Int.natCast_nonneg, List.length_set, List.length_map, hwk]
  refine callM_of [1] [1] (hdel) ⟨by simp [renA, ren1, invM, posOf, verOf, AV.cellP, Env.go], rfl, rfl, by simp, by simp, by simp, by simp, rfl, rfl, rfl, onodup_of (l := [33]) rfl (by decide)⟩ ?_
  set_option maxRecDepth 100000 in simp (maxSteps := 10000000) only [go_sem, Nat.reduceAdd, Nat.reduceSub, Nat.reduceMul, Nat.reduceLT, Nat.reduceLeDiff, Nat.reduceEqDiff, Nat.reduceMod, Nat.reduceDiv, Int.reduceNeg, Int.reduceLE, Int.reduceLT, Int.reduceToNat, Int.reduceEq, Int.reduceNe, ↓reduceIte,  hset, Option.map_some, List.set_set, i1, i2, i3, List.length_set, List.length_map, hE, hP, hps, hls]
  done
end Go.Proofs.Ytdmcmfdmnlckdaa.C10
/- Chapter 10: what the reference makes of revoking, and the law. -/
namespace Go.Proofs.Ytdmcmfdmnlckdaa.C10
open Go Go.Proofs Go.Proofs.Ytdmcmfdmnlckdaa.Ab
set_option linter.unusedSimpArgs false
set_option linter.unusedVariables false
attribute [local congr] ite_ctx

set_option maxHeartbeats 8000000 in
theorem Revoked_good (s : Sec) (g : GReq) (hs : Fit s) (i1 : 0 ≤ g.object) (i2 : g.object < (s.objects.length : Int)) (i3 : g.object.toNat < s.objects.length) (hf : 0 ≤ grantIx (nth s.objects g.object.toNat).grants g.user) :
    Ans Try.prog 56 [.agg (encSec s), .agg (encGReq g)] (.agg (encSec (revS s g.object.toNat (grantIx (nth s.objects g.object.toNat).grants g.user).toNat g.auth))) := by
  obtain ⟨u, i, a⟩ := g
  simp only at i1 i2 i3 hf
  show Ans Try.prog 56 [.agg (encSec s), .agg [.str u, .int .i64 i, .int .i64 a]] (.agg (encSec (revS s i.toNat (grantIx (nth s.objects i.toNat).grants u).toNat a)))
  have hO := hs.objects
  have hg := hs.ogrants _ (nth_mem i3)
  have hq : (List.map encSecured s.objects)[i.toNat]? = some (encSecured (nth s.objects i.toNat)) := at_map i3
  have hset : ∀ r, ((List.map encSecured s.objects).set i.toNat r)[i.toNat]? = some r := fun r => by rw [List.getElem?_set_self (by simpa using i3)]
  have hren : ∀ m, List.map (fun x => List.map (ren1 m) x) ((List.map encSecured s.objects).set i.toNat (refRow (nth s.objects i.toNat) 0 1)) = (List.map encSecured s.objects).set i.toNat ((refRow (nth s.objects i.toNat) 0 1).map (ren1 m)) := fun m => by
    rw [List.map_set, List.map_map]
    congr 1
  have hown := OwnKM s hs i.toNat i3
  simp only [refRow] at hown hren
  have hgg := Private_good (nth s.objects i.toNat).grants u hg
  have hm := grant_hit hf
  obtain ⟨k, hk⟩ : ∃ k : Nat, grantIx (nth s.objects i.toNat).grants u = (k : Int) := ⟨_, (Int.toNat_of_nonneg hf).symm⟩
  rw [hk, Int.toNat_natCast] at hm ⊢
  have hkl := hm.2
  have hki : (k : Int) < ((nth s.objects i.toNat).grants.length : Int) := by omega
  have hgk : (List.map encGrant (nth s.objects i.toNat).grants)[k]? = some (encGrant (nth (nth s.objects i.toNat).grants k)) := at_map hkl
  have hgg : Ans Try.prog 31 [.sl (List.map encGrant (nth s.objects i.toNat).grants), .str u] (.int .i64 (k : Int)) := hk ▸ hgg
  have hold : (nth (nth s.objects i.toNat).grants k).auth = oldA s i.toNat k := rfl
  have hleft : Go.bits .andNot .i64 (oldA s i.toNat k) a = leftA s i.toNat k a := rfl
  have hwo := Without_good s i.toNat k hs i3 hkl
  rw [Int.toNat_of_nonneg i1] at hwo
  have hrow : (List.map encGrant (nth s.objects i.toNat).grants).set k [.str (nth (nth s.objects i.toNat).grants k).user, .int .i64 (leftA s i.toNat k a)] = List.map encGrant ((nth s.objects i.toNat).grants.set k ⟨(nth (nth s.objects i.toNat).grants k).user, leftA s i.toNat k a⟩) := by
    rw [List.map_set]; rfl
  have hlow : ¬ (¬ oldA s i.toNat k = 0 ∧ leftA s i.toNat k a = 0) → (List.map encSecured s.objects).set i.toNat [.str (nth s.objects i.toNat).name.lib, .str (nth s.objects i.toNat).name.name, .int .i64 (nth s.objects i.toNat).name.type, .str (nth s.objects i.toNat).owner, .sl (List.map encGrant ((nth s.objects i.toNat).grants.set k ⟨(nth (nth s.objects i.toNat).grants k).user, leftA s i.toNat k a⟩)), .str (nth s.objects i.toNat).list, .int .i64 (nth s.objects i.toNat).pub, .bool (nth s.objects i.toNat).byList] = List.map encSecured (revS s i.toNat k a).objects := fun q => by
    rw [revS, if_neg q]; exact (List.map_set (f := encSecured) (l := s.objects) (i := i.toNat) (a := lowO (nth s.objects i.toNat) k (leftA s i.toNat k a))).symm.trans rfl
  have hP := rowsP_secured (revS s i.toNat k a).objects
  have hps : (revS s i.toNat k a).profiles = s.profiles := by rw [revS]; split <;> rfl
  have hls : (revS s i.toNat k a).lists = s.lists := by rw [revS]; split <;> rfl
  refine Classical.byCases (fun q : ¬ oldA s i.toNat k = 0 ∧ leftA s i.toNat k a = 0 => ?_) fun q => ?_
  · have hcg : revS s i.toNat k a = cutG s i.toNat k := by rw [revS, if_pos q]
    have q1 := q.1
    have q2 : (leftA s i.toNat k a = 0) = True := eq_true q.2
    rw [hcg]
    refine good_run [(3000008, [], [100000000004050005])] mixed Try.func56 rfl Try.ntmps56 (rs := [.cell 4 26]) rfl (by decide +kernel) (by kernel_rfl) rfl ?_
    rw [startE_eq 59 _ _ _ rfl rfl]
    set_option maxRecDepth 100000 in simp (maxSteps := 10000000) only [go_sem, Nat.reduceAdd, Nat.reduceSub, Nat.reduceMul, Nat.reduceLT, Nat.reduceLeDiff, Nat.reduceEqDiff, Nat.reduceMod, Nat.reduceDiv, Int.reduceNeg, Int.reduceLE, Int.reduceLT, Int.reduceToNat, Int.reduceEq, Int.reduceNe, ↓reduceIte,  i1, i2, i3, hq, Option.map_some]
    refine callD_of (hgg) ?_
    set_option maxRecDepth 100000 in simp (maxSteps := 10000000) only [go_sem, Nat.reduceAdd, Nat.reduceSub, Nat.reduceMul, Nat.reduceLT, Nat.reduceLeDiff, Nat.reduceEqDiff, Nat.reduceMod, Nat.reduceDiv, Int.reduceNeg, Int.reduceLE, Int.reduceLT, Int.reduceToNat, Int.reduceEq, Int.reduceNe, ↓reduceIte,  i1, i2, i3, hq, Option.map_some]
    refine ⟨by decide +kernel, ?_⟩
    set_option maxRecDepth 100000 in simp (maxSteps := 10000000) only [go_sem, Nat.reduceAdd, Nat.reduceSub, Nat.reduceMul, Nat.reduceLT, Nat.reduceLeDiff, Nat.reduceEqDiff, Nat.reduceMod, Nat.reduceDiv, Int.reduceNeg, Int.reduceLE, Int.reduceLT, Int.reduceToNat, Int.reduceEq, Int.reduceNe, ↓reduceIte,  i1, i2, i3, hq, Option.map_some, Int.natCast_nonneg, hkl, hki, hgk, hold, hleft, q1, q2, not_false_eq_true, decide_true]
    refine call_of (hwo) ?_
    set_option maxRecDepth 100000 in simp (maxSteps := 10000000) only [go_sem, Nat.reduceAdd, Nat.reduceSub, Nat.reduceMul, Nat.reduceLT, Nat.reduceLeDiff, Nat.reduceEqDiff, Nat.reduceMod, Nat.reduceDiv, Int.reduceNeg, Int.reduceLE, Int.reduceLT, Int.reduceToNat, Int.reduceEq, Int.reduceNe, ↓reduceIte]
  have hE := hlow q
  refine Classical.byCases (fun q1 : oldA s i.toNat k = 0 => ?_) fun q1 => ?_
  · have q1t : (oldA s i.toNat k = 0) = True := eq_true q1
    refine good_run [(3000008, [], [100000000004050005])] mixed Try.func56 rfl Try.ntmps56 (rs := [.cell 4 26]) rfl (by decide +kernel) (by kernel_rfl) rfl ?_
    rw [startE_eq 59 _ _ _ rfl rfl]
    set_option maxRecDepth 100000 in simp (maxSteps := 10000000) only [go_sem, Nat.reduceAdd, Nat.reduceSub, Nat.reduceMul, Nat.reduceLT, Nat.reduceLeDiff, Nat.reduceEqDiff, Nat.reduceMod, Nat.reduceDiv, Int.reduceNeg, Int.reduceLE, Int.reduceLT, Int.reduceToNat, Int.reduceEq, Int.reduceNe, ↓reduceIte,  i1, i2, i3, hq, Option.map_some]
    refine callD_of (hgg) ?_
    set_option maxRecDepth 100000 in simp (maxSteps := 10000000) only [go_sem, Nat.reduceAdd, Nat.reduceSub, Nat.reduceMul, Nat.reduceLT, Nat.reduceLeDiff, Nat.reduceEqDiff, Nat.reduceMod, Nat.reduceDiv, Int.reduceNeg, Int.reduceLE, Int.reduceLT, Int.reduceToNat, Int.reduceEq, Int.reduceNe, ↓reduceIte,  i1, i2, i3, hq, Option.map_some]
    refine ⟨by decide +kernel, ?_⟩
    set_option maxRecDepth 100000 in simp (maxSteps := 10000000) only [go_sem, Nat.reduceAdd, Nat.reduceSub, Nat.reduceMul, Nat.reduceLT, Nat.reduceLeDiff, Nat.reduceEqDiff, Nat.reduceMod, Nat.reduceDiv, Int.reduceNeg, Int.reduceLE, Int.reduceLT, Int.reduceToNat, Int.reduceEq, Int.reduceNe, ↓reduceIte,  i1, i2, i3, hq, Option.map_some, Int.natCast_nonneg, hkl, hki, hgk, hold, hleft, q1t, not_true_eq_false, decide_false]
    refine callM_of [] [0, 1, 5, 6] (hown) ⟨rfl, rfl, rfl, by simp, by simp, by simp, by simp, rfl, rfl, rfl, onodup_of (l := [31, 53, 75, 0]) rfl (by decide)⟩ ?_
    set_option maxRecDepth 100000 in simp (maxSteps := 10000000) only [go_sem, Nat.reduceAdd, Nat.reduceSub, Nat.reduceMul, Nat.reduceLT, Nat.reduceLeDiff, Nat.reduceEqDiff, Nat.reduceMod, Nat.reduceDiv, Int.reduceNeg, Int.reduceLE, Int.reduceLT, Int.reduceToNat, Int.reduceEq, Int.reduceNe, ↓reduceIte]
    set_option maxRecDepth 100000 in simp (maxSteps := 10000000) only [go_sem, Nat.reduceAdd, Nat.reduceSub, Nat.reduceMul, Nat.reduceLT, Nat.reduceLeDiff, Nat.reduceEqDiff, Nat.reduceMod, Nat.reduceDiv, Int.reduceNeg, Int.reduceLE, Int.reduceLT, Int.reduceToNat, Int.reduceEq, Int.reduceNe, ↓reduceIte,  i1, i2, i3, hset, hren, List.length_set, List.length_map, Option.map_some, Int.natCast_nonneg, hkl, hki, hgk, hrow, List.set_set, hE, hP, hps, hls]
    done
  have q2 : (leftA s i.toNat k a = 0) = False := eq_false fun e => q ⟨q1, e⟩
  refine good_run [(3000008, [], [100000000004050005])] mixed Try.func56 rfl Try.ntmps56 (rs := [.cell 4 26]) rfl (by decide +kernel) (by kernel_rfl) rfl ?_
  rw [startE_eq 59 _ _ _ rfl rfl]
  set_option maxRecDepth 100000 in simp (maxSteps := 10000000) only [go_sem, Nat.reduceAdd, Nat.reduceSub, Nat.reduceMul, Nat.reduceLT, Nat.reduceLeDiff, Nat.reduceEqDiff, Nat.reduceMod, Nat.reduceDiv, Int.reduceNeg, Int.reduceLE, Int.reduceLT, Int.reduceToNat, Int.reduceEq, Int.reduceNe, ↓reduceIte,  i1, i2, i3, hq, Option.map_some]
  refine callD_of (hgg) ?_
  set_option maxRecDepth 100000 in simp (maxSteps := 10000000) only [go_sem, Nat.reduceAdd, Nat.reduceSub, Nat.reduceMul, Nat.reduceLT, Nat.reduceLeDiff, Nat.reduceEqDiff, Nat.reduceMod, Nat.reduceDiv, Int.reduceNeg, Int.reduceLE, Int.reduceLT, Int.reduceToNat, Int.reduceEq, Int.reduceNe, ↓reduceIte,  i1, i2, i3, hq, Option.map_some]
  refine ⟨by decide +kernel, ?_⟩
  set_option maxRecDepth 100000 in simp (maxSteps := 10000000) only [go_sem, Nat.reduceAdd, Nat.reduceSub, Nat.reduceMul, Nat.reduceLT, Nat.reduceLeDiff, Nat.reduceEqDiff, Nat.reduceMod, Nat.reduceDiv, Int.reduceNeg, Int.reduceLE, Int.reduceLT, Int.reduceToNat, Int.reduceEq, Int.reduceNe, ↓reduceIte,  i1, i2, i3, hq, Option.map_some, Int.natCast_nonneg, hkl, hki, hgk, hold, hleft, q1, q2, not_false_eq_true, decide_true, decide_false]
  refine callM_of [] [0, 1, 5, 6] (hown) ⟨rfl, rfl, rfl, by simp, by simp, by simp, by simp, rfl, rfl, rfl, onodup_of (l := [31, 53, 75, 0]) rfl (by decide)⟩ ?_
  set_option maxRecDepth 100000 in simp (maxSteps := 10000000) only [go_sem, Nat.reduceAdd, Nat.reduceSub, Nat.reduceMul, Nat.reduceLT, Nat.reduceLeDiff, Nat.reduceEqDiff, Nat.reduceMod, Nat.reduceDiv, Int.reduceNeg, Int.reduceLE, Int.reduceLT, Int.reduceToNat, Int.reduceEq, Int.reduceNe, ↓reduceIte]
  set_option maxRecDepth 100000 in simp (maxSteps := 10000000) only [go_sem, Nat.reduceAdd, Nat.reduceSub, Nat.reduceMul, Nat.reduceLT, Nat.reduceLeDiff, Nat.reduceEqDiff, Nat.reduceMod, Nat.reduceDiv, Int.reduceNeg, Int.reduceLE, Int.reduceLT, Int.reduceToNat, Int.reduceEq, Int.reduceNe, ↓reduceIte,  i1, i2, i3, hset, hren, List.length_set, List.length_map, Option.map_some, Int.natCast_nonneg, hkl, hki, hgk, hrow, List.set_set, hE, hP, hps, hls]
  done
end Go.Proofs.Ytdmcmfdmnlckdaa.C10
/- Chapter 10: the law of granting and revoking. -/
namespace Go.Proofs.Ytdmcmfdmnlckdaa.C10
open Go Go.Proofs Go.Proofs.Ytdmcmfdmnlckdaa.Ab
set_option linter.unusedSimpArgs false
set_option linter.unusedVariables false
attribute [local congr] ite_ctx

theorem fit_rev {s : Sec} {k i : Nat} {a : Int} (hs : Fit s) (hk : k < s.objects.length) (hi : i < (nth s.objects k).grants.length) : Fit (revS s k i a) := by
  rw [revS]; split
  · exact fit_cut hs hk hi
  · refine ⟨hs.profiles, hs.lists, by show (List.set _ _ _).length ≤ _; rw [List.length_set]; exact hs.objects, hs.groups, hs.lgrants, fun o ho => ?_⟩
    rcases List.mem_or_eq_of_mem_set ho with q | rfl
    · exact hs.ogrants o q
    · show (List.set _ _ _).length ≤ _
      rw [List.length_set]; exact hs.ogrants _ (nth_mem hk)

set_option maxHeartbeats 8000000 in
theorem AuthorityGrants_good (s : Sec) (b : ByteArray) (g : GReq) : Ans Try.prog 14 [.agg (encSec s), .str b, .agg (encGReq g)] (.bool true) := by
  refine good_run [] mixed Try.func14 rfl Try.ntmps14 (rs := [.tmp 6]) rfl (by decide +kernel) (by kernel_rfl) rfl ?_
  rw [startE_eq 125 _ _ _ rfl rfl]
  set_option maxRecDepth 100000 in simp (maxSteps := 10000000) only [go_sem, Nat.reduceAdd, Nat.reduceSub, Nat.reduceMul, Nat.reduceLT, Nat.reduceLeDiff, Nat.reduceEqDiff, Nat.reduceMod, Nat.reduceDiv, Int.reduceNeg, Int.reduceLE, Int.reduceLT, Int.reduceToNat, Int.reduceEq, Int.reduceNe, ↓reduceIte]
  refine call_of (awake_good) ?_
  set_option maxRecDepth 100000 in simp (maxSteps := 10000000) only [go_sem, Nat.reduceAdd, Nat.reduceSub, Nat.reduceMul, Nat.reduceLT, Nat.reduceLeDiff, Nat.reduceEqDiff, Nat.reduceMod, Nat.reduceDiv, Int.reduceNeg, Int.reduceLE, Int.reduceLT, Int.reduceToNat, Int.reduceEq, Int.reduceNe, ↓reduceIte,  Bool.not_true]
  refine call_of (Few_good s) ?_
  set_option maxRecDepth 100000 in simp (maxSteps := 10000000) only [go_sem, Nat.reduceAdd, Nat.reduceSub, Nat.reduceMul, Nat.reduceLT, Nat.reduceLeDiff, Nat.reduceEqDiff, Nat.reduceMod, Nat.reduceDiv, Int.reduceNeg, Int.reduceLE, Int.reduceLT, Int.reduceToNat, Int.reduceEq, Int.reduceNe, ↓reduceIte]
  refine ifI (fun h => ?_) fun h => ?_
  case refine_2 => set_option maxRecDepth 100000 in simp (maxSteps := 10000000) only [go_sem, Nat.reduceAdd, Nat.reduceSub, Nat.reduceMul, Nat.reduceLT, Nat.reduceLeDiff, Nat.reduceEqDiff, Nat.reduceMod, Nat.reduceDiv, Int.reduceNeg, Int.reduceLE, Int.reduceLT, Int.reduceToNat, Int.reduceEq, Int.reduceNe, ↓reduceIte,  h]
  have hs : Fit s := few_fit (by simpa using h)
  set_option maxRecDepth 100000 in simp (maxSteps := 10000000) only [go_sem, Nat.reduceAdd, Nat.reduceSub, Nat.reduceMul, Nat.reduceLT, Nat.reduceLeDiff, Nat.reduceEqDiff, Nat.reduceMod, Nat.reduceDiv, Int.reduceNeg, Int.reduceLE, Int.reduceLT, Int.reduceToNat, Int.reduceEq, Int.reduceNe, ↓reduceIte,  h]
  refine Classical.byCases (fun hb : (100 : Int) < (b.size : Int) => ?_) fun hb => ?_
  · set_option maxRecDepth 100000 in simp (maxSteps := 10000000) only [go_sem, Nat.reduceAdd, Nat.reduceSub, Nat.reduceMul, Nat.reduceLT, Nat.reduceLeDiff, Nat.reduceEqDiff, Nat.reduceMod, Nat.reduceDiv, Int.reduceNeg, Int.reduceLE, Int.reduceLT, Int.reduceToNat, Int.reduceEq, Int.reduceNe, ↓reduceIte,  hb, decide_true]
  set_option maxRecDepth 100000 in simp (maxSteps := 10000000) only [go_sem, Nat.reduceAdd, Nat.reduceSub, Nat.reduceMul, Nat.reduceLT, Nat.reduceLeDiff, Nat.reduceEqDiff, Nat.reduceMod, Nat.reduceDiv, Int.reduceNeg, Int.reduceLE, Int.reduceLT, Int.reduceToNat, Int.reduceEq, Int.reduceNe, ↓reduceIte,  hb, decide_false]
  refine Classical.byCases (fun hu : (100 : Int) < (g.user.size : Int) => ?_) fun hu => ?_
  · set_option maxRecDepth 100000 in simp (maxSteps := 10000000) only [go_sem, Nat.reduceAdd, Nat.reduceSub, Nat.reduceMul, Nat.reduceLT, Nat.reduceLeDiff, Nat.reduceEqDiff, Nat.reduceMod, Nat.reduceDiv, Int.reduceNeg, Int.reduceLE, Int.reduceLT, Int.reduceToNat, Int.reduceEq, Int.reduceNe, ↓reduceIte,  hu, decide_true]
  set_option maxRecDepth 100000 in simp (maxSteps := 10000000) only [go_sem, Nat.reduceAdd, Nat.reduceSub, Nat.reduceMul, Nat.reduceLT, Nat.reduceLeDiff, Nat.reduceEqDiff, Nat.reduceMod, Nat.reduceDiv, Int.reduceNeg, Int.reduceLE, Int.reduceLT, Int.reduceToNat, Int.reduceEq, Int.reduceNe, ↓reduceIte,  hu, decide_false]
  refine callD_of (Own_good s hs) ?_
  set_option maxRecDepth 100000 in simp (maxSteps := 10000000) only [go_sem, Nat.reduceAdd, Nat.reduceSub, Nat.reduceMul, Nat.reduceLT, Nat.reduceLeDiff, Nat.reduceEqDiff, Nat.reduceMod, Nat.reduceDiv, Int.reduceNeg, Int.reduceLE, Int.reduceLT, Int.reduceToNat, Int.reduceEq, Int.reduceNe, ↓reduceIte]
  refine Classical.byCases (fun hc : chE s b g = 0 => ?_) fun hc => ?_
  case refine_2 =>
    refine callD_of (GrantTo_err s b g hs hc) ?_
    set_option maxRecDepth 100000 in simp (maxSteps := 10000000) only [go_sem, Nat.reduceAdd, Nat.reduceSub, Nat.reduceMul, Nat.reduceLT, Nat.reduceLeDiff, Nat.reduceEqDiff, Nat.reduceMod, Nat.reduceDiv, Int.reduceNeg, Int.reduceLE, Int.reduceLT, Int.reduceToNat, Int.reduceEq, Int.reduceNe, ↓reduceIte]
    refine ⟨by decide +kernel, ?_⟩
    refine callD_of (Own_good s hs) ?_
    set_option maxRecDepth 100000 in simp (maxSteps := 10000000) only [go_sem, Nat.reduceAdd, Nat.reduceSub, Nat.reduceMul, Nat.reduceLT, Nat.reduceLeDiff, Nat.reduceEqDiff, Nat.reduceMod, Nat.reduceDiv, Int.reduceNeg, Int.reduceLE, Int.reduceLT, Int.reduceToNat, Int.reduceEq, Int.reduceNe, ↓reduceIte]
    refine callD_of (RevokeFrom_err s b g hs hc) ?_
    set_option maxRecDepth 100000 in simp (maxSteps := 10000000) only [go_sem, Nat.reduceAdd, Nat.reduceSub, Nat.reduceMul, Nat.reduceLT, Nat.reduceLeDiff, Nat.reduceEqDiff, Nat.reduceMod, Nat.reduceDiv, Int.reduceNeg, Int.reduceLE, Int.reduceLT, Int.reduceToNat, Int.reduceEq, Int.reduceNe, ↓reduceIte]
    refine ⟨by decide +kernel, ?_⟩
    refine call_of (ChangeErr_good s b g hs) ?_
    set_option maxRecDepth 100000 in simp (maxSteps := 10000000) only [go_sem, Nat.reduceAdd, Nat.reduceSub, Nat.reduceMul, Nat.reduceLT, Nat.reduceLeDiff, Nat.reduceEqDiff, Nat.reduceMod, Nat.reduceDiv, Int.reduceNeg, Int.reduceLE, Int.reduceLT, Int.reduceToNat, Int.reduceEq, Int.reduceNe, ↓reduceIte,  hc, not_false_eq_true, decide_true, eq_self]
    refine call_of (none_good) ?_
    set_option maxRecDepth 100000 in simp (maxSteps := 10000000) only [go_sem, Nat.reduceAdd, Nat.reduceSub, Nat.reduceMul, Nat.reduceLT, Nat.reduceLeDiff, Nat.reduceEqDiff, Nat.reduceMod, Nat.reduceDiv, Int.reduceNeg, Int.reduceLE, Int.reduceLT, Int.reduceToNat, Int.reduceEq, Int.reduceNe, ↓reduceIte,  hc, not_false_eq_true, decide_true, eq_self]
    refine call_of (none_good) ?_
    set_option maxRecDepth 100000 in simp (maxSteps := 10000000) only [go_sem, Nat.reduceAdd, Nat.reduceSub, Nat.reduceMul, Nat.reduceLT, Nat.reduceLeDiff, Nat.reduceEqDiff, Nat.reduceMod, Nat.reduceDiv, Int.reduceNeg, Int.reduceLE, Int.reduceLT, Int.reduceToNat, Int.reduceEq, Int.reduceNe, ↓reduceIte,  hc, not_false_eq_true, decide_true, eq_self]
  obtain ⟨hS, z0, zb, zu, ⟨i1, i2, i3⟩, za⟩ := ch_facts hs hc
  have hce := ChangeErr_good s b g hs
  rw [hc] at hce
  have hq : (List.map encSecured s.objects)[g.object.toNat]? = some (encSecured (nth s.objects g.object.toNat)) := at_map i3
  have hpr := Private_good (nth s.objects g.object.toNat).grants g.user (hs.ogrants _ (nth_mem i3))
  have hge := findIx_ge (fun p : Grant => decide (p.user = g.user)) (nth s.objects g.object.toNat).grants 0
  have hso := sortedG_of (hS.pgrants _ (nth_mem i3))
  have hgr := Granted_good s g hs i1 i2 i3 (Nat.le_trans hso.2 (by decide)) hso.1
  have hfa : Fit (addS s g.object.toNat g.user g.auth) := fit_add hs i3 (Nat.le_trans hso.2 (by decide))
  refine Classical.byCases (fun hh : 0 ≤ grantIx (nth s.objects g.object.toNat).grants g.user => ?_) fun hh => ?_
  · have hn1 : ¬ findIx (fun p : Grant => decide (p.user = g.user)) (nth s.objects g.object.toNat).grants 0 = -1 := fun e => by rw [grantIx, e] at hh; exact absurd hh (by decide)
    have hrr := Revoked_good s g hs i1 i2 i3 hh
    have hfr : Fit (revS s g.object.toNat (grantIx (nth s.objects g.object.toNat).grants g.user).toNat g.auth) := fit_rev hs i3 (grant_hit hh).2
    refine callD_of (GrantTo_ok s b g hs hc (fun q => q.1 hh)) ?_
    set_option maxRecDepth 100000 in simp (maxSteps := 10000000) only [go_sem, Nat.reduceAdd, Nat.reduceSub, Nat.reduceMul, Nat.reduceLT, Nat.reduceLeDiff, Nat.reduceEqDiff, Nat.reduceMod, Nat.reduceDiv, Int.reduceNeg, Int.reduceLE, Int.reduceLT, Int.reduceToNat, Int.reduceEq, Int.reduceNe, ↓reduceIte]
    refine ⟨by decide +kernel, ?_⟩
    refine callD_of (Own_good s hs) ?_
    set_option maxRecDepth 100000 in simp (maxSteps := 10000000) only [go_sem, Nat.reduceAdd, Nat.reduceSub, Nat.reduceMul, Nat.reduceLT, Nat.reduceLeDiff, Nat.reduceEqDiff, Nat.reduceMod, Nat.reduceDiv, Int.reduceNeg, Int.reduceLE, Int.reduceLT, Int.reduceToNat, Int.reduceEq, Int.reduceNe, ↓reduceIte]
    refine callD_of (RevokeFrom_ok s b g hs hc hh) ?_
    set_option maxRecDepth 100000 in simp (maxSteps := 10000000) only [go_sem, Nat.reduceAdd, Nat.reduceSub, Nat.reduceMul, Nat.reduceLT, Nat.reduceLeDiff, Nat.reduceEqDiff, Nat.reduceMod, Nat.reduceDiv, Int.reduceNeg, Int.reduceLE, Int.reduceLT, Int.reduceToNat, Int.reduceEq, Int.reduceNe, ↓reduceIte]
    refine ⟨by decide +kernel, ?_⟩
    refine call_of (hce) ?_
    set_option maxRecDepth 100000 in simp (maxSteps := 10000000) only [go_sem, Nat.reduceAdd, Nat.reduceSub, Nat.reduceMul, Nat.reduceLT, Nat.reduceLeDiff, Nat.reduceEqDiff, Nat.reduceMod, Nat.reduceDiv, Int.reduceNeg, Int.reduceLE, Int.reduceLT, Int.reduceToNat, Int.reduceEq, Int.reduceNe, ↓reduceIte,  not_true_eq_false, decide_false, i1, i2, i3, hq, Option.map_some]
    refine callD_of (hpr) ?_
    set_option maxRecDepth 100000 in simp (maxSteps := 10000000) only [go_sem, Nat.reduceAdd, Nat.reduceSub, Nat.reduceMul, Nat.reduceLT, Nat.reduceLeDiff, Nat.reduceEqDiff, Nat.reduceMod, Nat.reduceDiv, Int.reduceNeg, Int.reduceLE, Int.reduceLT, Int.reduceToNat, Int.reduceEq, Int.reduceNe, ↓reduceIte,  hn1, not_false_eq_true, decide_true, Bool.not_true, i1, i2, i3, hq, Option.map_some]
    refine ⟨by decide +kernel, ?_⟩
    refine callD_of (hgr) ?_
    set_option maxRecDepth 100000 in simp (maxSteps := 10000000) only [go_sem, Nat.reduceAdd, Nat.reduceSub, Nat.reduceMul, Nat.reduceLT, Nat.reduceLeDiff, Nat.reduceEqDiff, Nat.reduceMod, Nat.reduceDiv, Int.reduceNeg, Int.reduceLE, Int.reduceLT, Int.reduceToNat, Int.reduceEq, Int.reduceNe, ↓reduceIte]
    refine callD_of (Same_good _ hfa) ?_
    set_option maxRecDepth 100000 in simp (maxSteps := 10000000) only [go_sem, Nat.reduceAdd, Nat.reduceSub, Nat.reduceMul, Nat.reduceLT, Nat.reduceLeDiff, Nat.reduceEqDiff, Nat.reduceMod, Nat.reduceDiv, Int.reduceNeg, Int.reduceLE, Int.reduceLT, Int.reduceToNat, Int.reduceEq, Int.reduceNe, ↓reduceIte,  Bool.not_true, Bool.not_false]
    refine ⟨by decide +kernel, ?_⟩
    refine callD_of (hrr) ?_
    set_option maxRecDepth 100000 in simp (maxSteps := 10000000) only [go_sem, Nat.reduceAdd, Nat.reduceSub, Nat.reduceMul, Nat.reduceLT, Nat.reduceLeDiff, Nat.reduceEqDiff, Nat.reduceMod, Nat.reduceDiv, Int.reduceNeg, Int.reduceLE, Int.reduceLT, Int.reduceToNat, Int.reduceEq, Int.reduceNe, ↓reduceIte]
    refine callD_of (Same_good _ hfr) ?_
    set_option maxRecDepth 100000 in simp (maxSteps := 10000000) only [go_sem, Nat.reduceAdd, Nat.reduceSub, Nat.reduceMul, Nat.reduceLT, Nat.reduceLeDiff, Nat.reduceEqDiff, Nat.reduceMod, Nat.reduceDiv, Int.reduceNeg, Int.reduceLE, Int.reduceLT, Int.reduceToNat, Int.reduceEq, Int.reduceNe, ↓reduceIte,  Bool.not_true]
    exact (by decide +kernel)
  have hm1 : findIx (fun p : Grant => decide (p.user = g.user)) (nth s.objects g.object.toNat).grants 0 = -1 := by
    unfold grantIx at hh; omega
  refine Classical.byCases (fun h8 : (nth s.objects g.object.toNat).grants.length = 8 => ?_) fun h8 => ?_
  · refine callD_of (GrantTo_full s b g hs hc ⟨hh, h8⟩) ?_
    set_option maxRecDepth 100000 in simp (maxSteps := 10000000) only [go_sem, Nat.reduceAdd, Nat.reduceSub, Nat.reduceMul, Nat.reduceLT, Nat.reduceLeDiff, Nat.reduceEqDiff, Nat.reduceMod, Nat.reduceDiv, Int.reduceNeg, Int.reduceLE, Int.reduceLT, Int.reduceToNat, Int.reduceEq, Int.reduceNe, ↓reduceIte]
    refine ⟨by decide +kernel, ?_⟩
    refine callD_of (Own_good s hs) ?_
    set_option maxRecDepth 100000 in simp (maxSteps := 10000000) only [go_sem, Nat.reduceAdd, Nat.reduceSub, Nat.reduceMul, Nat.reduceLT, Nat.reduceLeDiff, Nat.reduceEqDiff, Nat.reduceMod, Nat.reduceDiv, Int.reduceNeg, Int.reduceLE, Int.reduceLT, Int.reduceToNat, Int.reduceEq, Int.reduceNe, ↓reduceIte]
    refine callD_of (RevokeFrom_none s b g hs hc hh) ?_
    set_option maxRecDepth 100000 in simp (maxSteps := 10000000) only [go_sem, Nat.reduceAdd, Nat.reduceSub, Nat.reduceMul, Nat.reduceLT, Nat.reduceLeDiff, Nat.reduceEqDiff, Nat.reduceMod, Nat.reduceDiv, Int.reduceNeg, Int.reduceLE, Int.reduceLT, Int.reduceToNat, Int.reduceEq, Int.reduceNe, ↓reduceIte]
    refine ⟨by decide +kernel, ?_⟩
    refine call_of (hce) ?_
    set_option maxRecDepth 100000 in simp (maxSteps := 10000000) only [go_sem, Nat.reduceAdd, Nat.reduceSub, Nat.reduceMul, Nat.reduceLT, Nat.reduceLeDiff, Nat.reduceEqDiff, Nat.reduceMod, Nat.reduceDiv, Int.reduceNeg, Int.reduceLE, Int.reduceLT, Int.reduceToNat, Int.reduceEq, Int.reduceNe, ↓reduceIte,  not_true_eq_false, decide_false, i1, i2, i3, hq, Option.map_some]
    refine callD_of (hpr) ?_
    set_option maxRecDepth 100000 in simp (maxSteps := 10000000) only [go_sem, Nat.reduceAdd, Nat.reduceSub, Nat.reduceMul, Nat.reduceLT, Nat.reduceLeDiff, Nat.reduceEqDiff, Nat.reduceMod, Nat.reduceDiv, Int.reduceNeg, Int.reduceLE, Int.reduceLT, Int.reduceToNat, Int.reduceEq, Int.reduceNe, ↓reduceIte,  hm1, not_true_eq_false, decide_false, Bool.not_false, i1, i2, i3, hq, Option.map_some, h8]
    refine ⟨by decide +kernel, ?_⟩
    refine call_of (none_good) ?_
    set_option maxRecDepth 100000 in simp (maxSteps := 10000000) only [go_sem, Nat.reduceAdd, Nat.reduceSub, Nat.reduceMul, Nat.reduceLT, Nat.reduceLeDiff, Nat.reduceEqDiff, Nat.reduceMod, Nat.reduceDiv, Int.reduceNeg, Int.reduceLE, Int.reduceLT, Int.reduceToNat, Int.reduceEq, Int.reduceNe, ↓reduceIte,  Bool.not_true, Bool.not_false]
    refine call_of (none_good) ?_
    set_option maxRecDepth 100000 in simp (maxSteps := 10000000) only [go_sem, Nat.reduceAdd, Nat.reduceSub, Nat.reduceMul, Nat.reduceLT, Nat.reduceLeDiff, Nat.reduceEqDiff, Nat.reduceMod, Nat.reduceDiv, Int.reduceNeg, Int.reduceLE, Int.reduceLT, Int.reduceToNat, Int.reduceEq, Int.reduceNe, ↓reduceIte,  Bool.not_true, Bool.not_false]
  have h8i : ¬ ((nth s.objects g.object.toNat).grants.length : Int) = 8 := by omega
  refine callD_of (GrantTo_ok s b g hs hc (fun q => h8 q.2)) ?_
  set_option maxRecDepth 100000 in simp (maxSteps := 10000000) only [go_sem, Nat.reduceAdd, Nat.reduceSub, Nat.reduceMul, Nat.reduceLT, Nat.reduceLeDiff, Nat.reduceEqDiff, Nat.reduceMod, Nat.reduceDiv, Int.reduceNeg, Int.reduceLE, Int.reduceLT, Int.reduceToNat, Int.reduceEq, Int.reduceNe, ↓reduceIte]
  refine ⟨by decide +kernel, ?_⟩
  refine callD_of (Own_good s hs) ?_
  set_option maxRecDepth 100000 in simp (maxSteps := 10000000) only [go_sem, Nat.reduceAdd, Nat.reduceSub, Nat.reduceMul, Nat.reduceLT, Nat.reduceLeDiff, Nat.reduceEqDiff, Nat.reduceMod, Nat.reduceDiv, Int.reduceNeg, Int.reduceLE, Int.reduceLT, Int.reduceToNat, Int.reduceEq, Int.reduceNe, ↓reduceIte]
  refine callD_of (RevokeFrom_none s b g hs hc hh) ?_
  set_option maxRecDepth 100000 in simp (maxSteps := 10000000) only [go_sem, Nat.reduceAdd, Nat.reduceSub, Nat.reduceMul, Nat.reduceLT, Nat.reduceLeDiff, Nat.reduceEqDiff, Nat.reduceMod, Nat.reduceDiv, Int.reduceNeg, Int.reduceLE, Int.reduceLT, Int.reduceToNat, Int.reduceEq, Int.reduceNe, ↓reduceIte]
  refine ⟨by decide +kernel, ?_⟩
  refine call_of (hce) ?_
  set_option maxRecDepth 100000 in simp (maxSteps := 10000000) only [go_sem, Nat.reduceAdd, Nat.reduceSub, Nat.reduceMul, Nat.reduceLT, Nat.reduceLeDiff, Nat.reduceEqDiff, Nat.reduceMod, Nat.reduceDiv, Int.reduceNeg, Int.reduceLE, Int.reduceLT, Int.reduceToNat, Int.reduceEq, Int.reduceNe, ↓reduceIte,  not_true_eq_false, decide_false, i1, i2, i3, hq, Option.map_some]
  refine callD_of (hpr) ?_
  set_option maxRecDepth 100000 in simp (maxSteps := 10000000) only [go_sem, Nat.reduceAdd, Nat.reduceSub, Nat.reduceMul, Nat.reduceLT, Nat.reduceLeDiff, Nat.reduceEqDiff, Nat.reduceMod, Nat.reduceDiv, Int.reduceNeg, Int.reduceLE, Int.reduceLT, Int.reduceToNat, Int.reduceEq, Int.reduceNe, ↓reduceIte,  hm1, not_true_eq_false, decide_false, Bool.not_false, i1, i2, i3, hq, Option.map_some, h8, h8i]
  refine ⟨by decide +kernel, ?_⟩
  refine callD_of (hgr) ?_
  set_option maxRecDepth 100000 in simp (maxSteps := 10000000) only [go_sem, Nat.reduceAdd, Nat.reduceSub, Nat.reduceMul, Nat.reduceLT, Nat.reduceLeDiff, Nat.reduceEqDiff, Nat.reduceMod, Nat.reduceDiv, Int.reduceNeg, Int.reduceLE, Int.reduceLT, Int.reduceToNat, Int.reduceEq, Int.reduceNe, ↓reduceIte]
  refine callD_of (Same_good _ hfa) ?_
  set_option maxRecDepth 100000 in simp (maxSteps := 10000000) only [go_sem, Nat.reduceAdd, Nat.reduceSub, Nat.reduceMul, Nat.reduceLT, Nat.reduceLeDiff, Nat.reduceEqDiff, Nat.reduceMod, Nat.reduceDiv, Int.reduceNeg, Int.reduceLE, Int.reduceLT, Int.reduceToNat, Int.reduceEq, Int.reduceNe, ↓reduceIte,  Bool.not_true, Bool.not_false]
  refine ⟨by decide +kernel, ?_⟩
  refine call_of (none_good) ?_
  set_option maxRecDepth 100000 in simp (maxSteps := 10000000) only [go_sem, Nat.reduceAdd, Nat.reduceSub, Nat.reduceMul, Nat.reduceLT, Nat.reduceLeDiff, Nat.reduceEqDiff, Nat.reduceMod, Nat.reduceDiv, Int.reduceNeg, Int.reduceLE, Int.reduceLT, Int.reduceToNat, Int.reduceEq, Int.reduceNe, ↓reduceIte,  Bool.not_true]
end Go.Proofs.Ytdmcmfdmnlckdaa.C10
