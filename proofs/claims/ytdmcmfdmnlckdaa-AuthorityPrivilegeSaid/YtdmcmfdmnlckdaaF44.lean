/- Chapter 10: the law of the least privilege. -/
import Derived.Test.YtdmcmfdmnlckdaaP19
namespace Go.Proofs.Ytdmcmfdmnlckdaa.C10
open Go Go.Proofs Go.Proofs.Ytdmcmfdmnlckdaa.Ab
set_option linter.unusedSimpArgs false
set_option linter.unusedVariables false
attribute [local congr] ite_ctx

set_option maxHeartbeats 8000000 in
set_option maxRecDepth 100000 in
theorem AuthorityPrivilege_good (s : Sec) (r : Req) (b : ByteArray) : Ans Try.prog 13 [.agg (encSec s), .agg (encReq r), .str b] (.bool true) := by
  refine good_run [(3000026, [], [100000000004147002]), (18, [6, 10, 11, 15, 16, 114, 115, 116, 117, 118, 119, 120, 121, 122, 123, 124, 125, 126, 127, 128, 129, 130, 131, 132, 133, 134, 135, 136, 137, 138, 139, 140, 141, 142, 143, 144, 145, 146, 147, 148, 149, 150, 151, 152, 153, 154, 155, 156, 157, 158, 159, 160, 161, 162, 163, 164, 165, 166, 167, 168, 169, 170, 171], [15, 0, 1, 2, 5])] mixed Try.func13 rfl Try.ntmps13 (rs := [.tmp 6]) rfl (by decide +kernel) (by kernel_rfl) rfl ?_
  rw [startE_eq 172 _ _ _ rfl rfl]
  set_option maxRecDepth 100000 in simp (maxSteps := 10000000) only [go_sem, Nat.reduceAdd, Nat.reduceSub, Nat.reduceMul, Nat.reduceLT, Nat.reduceLeDiff, Nat.reduceEqDiff, Nat.reduceMod, Nat.reduceDiv, Int.reduceNeg, Int.reduceLE, Int.reduceLT, Int.reduceToNat, Int.reduceEq, Int.reduceNe, ↓reduceIte]
  refine call_of (awake_good) ?_
  set_option maxRecDepth 100000 in simp (maxSteps := 10000000) only [go_sem, Nat.reduceAdd, Nat.reduceSub, Nat.reduceMul, Nat.reduceLT, Nat.reduceLeDiff, Nat.reduceEqDiff, Nat.reduceMod, Nat.reduceDiv, Int.reduceNeg, Int.reduceLE, Int.reduceLT, Int.reduceToNat, Int.reduceEq, Int.reduceNe, ↓reduceIte,  Bool.not_true]
  refine call_of (Few_good s) ?_
  set_option maxRecDepth 100000 in simp (maxSteps := 10000000) only [go_sem, Nat.reduceAdd, Nat.reduceSub, Nat.reduceMul, Nat.reduceLT, Nat.reduceLeDiff, Nat.reduceEqDiff, Nat.reduceMod, Nat.reduceDiv, Int.reduceNeg, Int.reduceLE, Int.reduceLT, Int.reduceToNat, Int.reduceEq, Int.reduceNe, ↓reduceIte]
  refine ifI (fun h => ?_) fun h => ?_
  case refine_2 => set_option maxRecDepth 100000 in simp (maxSteps := 10000000) only [go_sem, Nat.reduceAdd, Nat.reduceSub, Nat.reduceMul, Nat.reduceLT, Nat.reduceLeDiff, Nat.reduceEqDiff, Nat.reduceMod, Nat.reduceDiv, Int.reduceNeg, Int.reduceLE, Int.reduceLT, Int.reduceToNat, Int.reduceEq, Int.reduceNe, ↓reduceIte,  h]
  have hfew : fewB s = true := by simpa using h
  have hs : Fit s := few_fit hfew
  set_option maxRecDepth 100000 in simp (maxSteps := 10000000) only [go_sem, Nat.reduceAdd, Nat.reduceSub, Nat.reduceMul, Nat.reduceLT, Nat.reduceLeDiff, Nat.reduceEqDiff, Nat.reduceMod, Nat.reduceDiv, Int.reduceNeg, Int.reduceLE, Int.reduceLT, Int.reduceToNat, Int.reduceEq, Int.reduceNe, ↓reduceIte,  h]
  refine call_of (fewRequest_good r) ?_
  set_option maxRecDepth 100000 in simp (maxSteps := 10000000) only [go_sem, Nat.reduceAdd, Nat.reduceSub, Nat.reduceMul, Nat.reduceLT, Nat.reduceLeDiff, Nat.reduceEqDiff, Nat.reduceMod, Nat.reduceDiv, Int.reduceNeg, Int.reduceLE, Int.reduceLT, Int.reduceToNat, Int.reduceEq, Int.reduceNe, ↓reduceIte]
  refine ifI (fun hr => ?_) fun hr => ?_
  case refine_2 => set_option maxRecDepth 100000 in simp (maxSteps := 10000000) only [go_sem, Nat.reduceAdd, Nat.reduceSub, Nat.reduceMul, Nat.reduceLT, Nat.reduceLeDiff, Nat.reduceEqDiff, Nat.reduceMod, Nat.reduceDiv, Int.reduceNeg, Int.reduceLE, Int.reduceLT, Int.reduceToNat, Int.reduceEq, Int.reduceNe, ↓reduceIte,  hr]
  have hr' : fewRequestB r = true := by simpa using hr
  have hsm : small r.user = true := by
    rw [fewRequestB, Bool.and_eq_true] at hr'; exact hr'.1
  have hrl : r.adopters.length ≤ 1000000 := by
    simp only [fewRequestB, fewNamesB, Bool.and_eq_true, decide_eq_true_eq] at hr'
    omega
  set_option maxRecDepth 100000 in simp (maxSteps := 10000000) only [go_sem, Nat.reduceAdd, Nat.reduceSub, Nat.reduceMul, Nat.reduceLT, Nat.reduceLeDiff, Nat.reduceEqDiff, Nat.reduceMod, Nat.reduceDiv, Int.reduceNeg, Int.reduceLE, Int.reduceLT, Int.reduceToNat, Int.reduceEq, Int.reduceNe, ↓reduceIte,  hr]
  refine Classical.byCases (fun hb : (100 : Int) < (b.size : Int) => ?_) fun hb => ?_
  · set_option maxRecDepth 100000 in simp (maxSteps := 10000000) only [go_sem, Nat.reduceAdd, Nat.reduceSub, Nat.reduceMul, Nat.reduceLT, Nat.reduceLeDiff, Nat.reduceEqDiff, Nat.reduceMod, Nat.reduceDiv, Int.reduceNeg, Int.reduceLE, Int.reduceLT, Int.reduceToNat, Int.reduceEq, Int.reduceNe, ↓reduceIte,  hb, decide_true]
  set_option maxRecDepth 100000 in simp (maxSteps := 10000000) only [go_sem, Nat.reduceAdd, Nat.reduceSub, Nat.reduceMul, Nat.reduceLT, Nat.reduceLeDiff, Nat.reduceEqDiff, Nat.reduceMod, Nat.reduceDiv, Int.reduceNeg, Int.reduceLE, Int.reduceLT, Int.reduceToNat, Int.reduceEq, Int.reduceNe, ↓reduceIte,  hb, decide_false]
  refine call_of (AccessErr_good s r hs hrl) ?_
  set_option maxRecDepth 100000 in simp (maxSteps := 10000000) only [go_sem, Nat.reduceAdd, Nat.reduceSub, Nat.reduceMul, Nat.reduceLT, Nat.reduceLeDiff, Nat.reduceEqDiff, Nat.reduceMod, Nat.reduceDiv, Int.reduceNeg, Int.reduceLE, Int.reduceLT, Int.reduceToNat, Int.reduceEq, Int.reduceNe, ↓reduceIte]
  refine Classical.byCases (fun h0 : accErr s r = 0 => ?_) fun h0 => ?_
  case refine_2 => set_option maxRecDepth 100000 in simp (maxSteps := 10000000) only [go_sem, Nat.reduceAdd, Nat.reduceSub, Nat.reduceMul, Nat.reduceLT, Nat.reduceLeDiff, Nat.reduceEqDiff, Nat.reduceMod, Nat.reduceDiv, Int.reduceNeg, Int.reduceLE, Int.reduceLT, Int.reduceToNat, Int.reduceEq, Int.reduceNe, ↓reduceIte,  h0, not_false_eq_true, decide_true]
  obtain ⟨h2, h3, hS⟩ := acc_facts hs h0
  have z := reqE_zero h3
  obtain ⟨i1, i2, i3⟩ := z.2.1
  have hlg := LeastGrant_good s r hs hrl
  have hac := Access_good s r hs hrl
  rw [h0] at hlg hac
  rw [access_is hs h0] at hac
  set_option maxRecDepth 100000 in simp (maxSteps := 10000000) only [go_sem, Nat.reduceAdd, Nat.reduceSub, Nat.reduceMul, Nat.reduceLT, Nat.reduceLeDiff, Nat.reduceEqDiff, Nat.reduceMod, Nat.reduceDiv, Int.reduceNeg, Int.reduceLE, Int.reduceLT, Int.reduceToNat, Int.reduceEq, Int.reduceNe, ↓reduceIte,  h0, not_true_eq_false, decide_false]
  refine callD_of (Own_good s hs) ?_
  set_option maxRecDepth 100000 in simp (maxSteps := 10000000) only [go_sem, Nat.reduceAdd, Nat.reduceSub, Nat.reduceMul, Nat.reduceLT, Nat.reduceLeDiff, Nat.reduceEqDiff, Nat.reduceMod, Nat.reduceDiv, Int.reduceNeg, Int.reduceLE, Int.reduceLT, Int.reduceToNat, Int.reduceEq, Int.reduceNe, ↓reduceIte]
  refine callD_of (own_good r hrl) ?_
  set_option maxRecDepth 100000 in simp (maxSteps := 10000000) only [go_sem, Nat.reduceAdd, Nat.reduceSub, Nat.reduceMul, Nat.reduceLT, Nat.reduceLeDiff, Nat.reduceEqDiff, Nat.reduceMod, Nat.reduceDiv, Int.reduceNeg, Int.reduceLE, Int.reduceLT, Int.reduceToNat, Int.reduceEq, Int.reduceNe, ↓reduceIte]
  refine callD_of (hlg) ?_
  set_option maxRecDepth 100000 in simp (maxSteps := 10000000) only [go_sem, Nat.reduceAdd, Nat.reduceSub, Nat.reduceMul, Nat.reduceLT, Nat.reduceLeDiff, Nat.reduceEqDiff, Nat.reduceMod, Nat.reduceDiv, Int.reduceNeg, Int.reduceLE, Int.reduceLT, Int.reduceToNat, Int.reduceEq, Int.reduceNe, ↓reduceIte]
  refine ⟨by decide +kernel, ?_⟩
  refine callD_of (Own_good s hs) ?_
  set_option maxRecDepth 100000 in simp (maxSteps := 10000000) only [go_sem, Nat.reduceAdd, Nat.reduceSub, Nat.reduceMul, Nat.reduceLT, Nat.reduceLeDiff, Nat.reduceEqDiff, Nat.reduceMod, Nat.reduceDiv, Int.reduceNeg, Int.reduceLE, Int.reduceLT, Int.reduceToNat, Int.reduceEq, Int.reduceNe, ↓reduceIte]
  refine callD_of (own_good r hrl) ?_
  set_option maxRecDepth 100000 in simp (maxSteps := 10000000) only [go_sem, Nat.reduceAdd, Nat.reduceSub, Nat.reduceMul, Nat.reduceLT, Nat.reduceLeDiff, Nat.reduceEqDiff, Nat.reduceMod, Nat.reduceDiv, Int.reduceNeg, Int.reduceLE, Int.reduceLT, Int.reduceToNat, Int.reduceEq, Int.reduceNe, ↓reduceIte]
  refine callD_of (hac) ?_
  set_option maxRecDepth 100000 in simp (maxSteps := 10000000) only [go_sem, Nat.reduceAdd, Nat.reduceSub, Nat.reduceMul, Nat.reduceLT, Nat.reduceLeDiff, Nat.reduceEqDiff, Nat.reduceMod, Nat.reduceDiv, Int.reduceNeg, Int.reduceLE, Int.reduceLT, Int.reduceToNat, Int.reduceEq, Int.reduceNe, ↓reduceIte]
  refine ⟨by decide +kernel, ?_⟩
  have hli := least_iff hs h0
  have hin := least_inB hs h0
  have gerr : ¬ chE s b ⟨r.user, r.object, LeastP s r⟩ = 0 → Ans Try.prog 50 [.agg (encSec s), .str b, .agg [.str r.user, .int .i64 r.object, .int .i64 (LeastP s r)]] (.tup [.agg [.nils, .nils, .nils], .int .i64 (chE s b ⟨r.user, r.object, LeastP s r⟩)]) := fun hc => GrantTo_err s b ⟨r.user, r.object, LeastP s r⟩ hs hc
  have gful : chE s b ⟨r.user, r.object, LeastP s r⟩ = 0 → fullG s ⟨r.user, r.object, LeastP s r⟩ → Ans Try.prog 50 [.agg (encSec s), .str b, .agg [.str r.user, .int .i64 r.object, .int .i64 (LeastP s r)]] (.tup [.agg [.nils, .nils, .nils], .int .i64 30]) := fun hc hf => GrantTo_full s b ⟨r.user, r.object, LeastP s r⟩ hs hc hf
  have gok : chE s b ⟨r.user, r.object, LeastP s r⟩ = 0 → ¬ fullG s ⟨r.user, r.object, LeastP s r⟩ → Ans Try.prog 50 [.agg (encSec s), .str b, .agg [.str r.user, .int .i64 r.object, .int .i64 (LeastP s r)]] (.tup [.agg (encSec (addS s r.object.toNat r.user (LeastP s r))), .int .i64 0]) := fun hc hf => GrantTo_ok s b ⟨r.user, r.object, LeastP s r⟩ hs hc hf
  set_option maxRecDepth 100000 in simp (maxSteps := 10000000) only [go_sem, Nat.reduceAdd, Nat.reduceSub, Nat.reduceMul, Nat.reduceLT, Nat.reduceLeDiff, Nat.reduceEqDiff, Nat.reduceMod, Nat.reduceDiv, Int.reduceNeg, Int.reduceLE, Int.reduceLT, Int.reduceToNat, Int.reduceEq, Int.reduceNe, ↓reduceIte,  hli, bne_self_eq_false, beq_self_eq_true, Bool.not_true]
  refine call_of (IsAuthority_good _) ?_
  set_option maxRecDepth 100000 in simp (maxSteps := 10000000) only [go_sem, Nat.reduceAdd, Nat.reduceSub, Nat.reduceMul, Nat.reduceLT, Nat.reduceLeDiff, Nat.reduceEqDiff, Nat.reduceMod, Nat.reduceDiv, Int.reduceNeg, Int.reduceLE, Int.reduceLT, Int.reduceToNat, Int.reduceEq, Int.reduceNe, ↓reduceIte,  hin, Bool.not_true]
  refine callD_of (Own_good s hs) ?_
  set_option maxRecDepth 100000 in simp (maxSteps := 10000000) only [go_sem, Nat.reduceAdd, Nat.reduceSub, Nat.reduceMul, Nat.reduceLT, Nat.reduceLeDiff, Nat.reduceEqDiff, Nat.reduceMod, Nat.reduceDiv, Int.reduceNeg, Int.reduceLE, Int.reduceLT, Int.reduceToNat, Int.reduceEq, Int.reduceNe, ↓reduceIte]
  refine Classical.byCases (fun hl : LeastP s r = 0 => ?_) fun hl => ?_
  · have hlt : (LeastP s r = 0) = True := eq_true hl
    refine Classical.byCases (fun hc : chE s b ⟨r.user, r.object, LeastP s r⟩ = 0 => ?_) fun hc => ?_
    case refine_2 =>
      refine callD_of (gerr hc) ?_
      set_option maxRecDepth 100000 in simp (maxSteps := 10000000) only [go_sem, Nat.reduceAdd, Nat.reduceSub, Nat.reduceMul, Nat.reduceLT, Nat.reduceLeDiff, Nat.reduceEqDiff, Nat.reduceMod, Nat.reduceDiv, Int.reduceNeg, Int.reduceLE, Int.reduceLT, Int.reduceToNat, Int.reduceEq, Int.reduceNe, ↓reduceIte]
      refine ⟨by decide +kernel, ?_⟩
      set_option maxRecDepth 100000 in simp (maxSteps := 10000000) only [go_sem, Nat.reduceAdd, Nat.reduceSub, Nat.reduceMul, Nat.reduceLT, Nat.reduceLeDiff, Nat.reduceEqDiff, Nat.reduceMod, Nat.reduceDiv, Int.reduceNeg, Int.reduceLE, Int.reduceLT, Int.reduceToNat, Int.reduceEq, Int.reduceNe, ↓reduceIte,  hlt, decide_true]
    refine Classical.byCases (fun hf : fullG s ⟨r.user, r.object, LeastP s r⟩ => ?_) fun hf => ?_
    · refine callD_of (gful hc hf) ?_
      set_option maxRecDepth 100000 in simp (maxSteps := 10000000) only [go_sem, Nat.reduceAdd, Nat.reduceSub, Nat.reduceMul, Nat.reduceLT, Nat.reduceLeDiff, Nat.reduceEqDiff, Nat.reduceMod, Nat.reduceDiv, Int.reduceNeg, Int.reduceLE, Int.reduceLT, Int.reduceToNat, Int.reduceEq, Int.reduceNe, ↓reduceIte]
      refine ⟨by decide +kernel, ?_⟩
      set_option maxRecDepth 100000 in simp (maxSteps := 10000000) only [go_sem, Nat.reduceAdd, Nat.reduceSub, Nat.reduceMul, Nat.reduceLT, Nat.reduceLeDiff, Nat.reduceEqDiff, Nat.reduceMod, Nat.reduceDiv, Int.reduceNeg, Int.reduceLE, Int.reduceLT, Int.reduceToNat, Int.reduceEq, Int.reduceNe, ↓reduceIte,  hlt, decide_true]
    · refine callD_of (gok hc hf) ?_
      set_option maxRecDepth 100000 in simp (maxSteps := 10000000) only [go_sem, Nat.reduceAdd, Nat.reduceSub, Nat.reduceMul, Nat.reduceLT, Nat.reduceLeDiff, Nat.reduceEqDiff, Nat.reduceMod, Nat.reduceDiv, Int.reduceNeg, Int.reduceLE, Int.reduceLT, Int.reduceToNat, Int.reduceEq, Int.reduceNe, ↓reduceIte]
      refine ⟨by decide +kernel, ?_⟩
      set_option maxRecDepth 100000 in simp (maxSteps := 10000000) only [go_sem, Nat.reduceAdd, Nat.reduceSub, Nat.reduceMul, Nat.reduceLT, Nat.reduceLeDiff, Nat.reduceEqDiff, Nat.reduceMod, Nat.reduceDiv, Int.reduceNeg, Int.reduceLE, Int.reduceLT, Int.reduceToNat, Int.reduceEq, Int.reduceNe, ↓reduceIte,  hlt, decide_true]
  have hlf : (LeastP s r = 0) = False := eq_false hl
  refine Classical.byCases (fun hc : chE s b ⟨r.user, r.object, LeastP s r⟩ = 0 => ?_) fun hc => ?_
  case refine_2 =>
    refine callD_of (gerr hc) ?_
    set_option maxRecDepth 100000 in simp (maxSteps := 10000000) only [go_sem, Nat.reduceAdd, Nat.reduceSub, Nat.reduceMul, Nat.reduceLT, Nat.reduceLeDiff, Nat.reduceEqDiff, Nat.reduceMod, Nat.reduceDiv, Int.reduceNeg, Int.reduceLE, Int.reduceLT, Int.reduceToNat, Int.reduceEq, Int.reduceNe, ↓reduceIte]
    refine ⟨by decide +kernel, ?_⟩
    set_option maxRecDepth 100000 in simp (maxSteps := 10000000) only [go_sem, Nat.reduceAdd, Nat.reduceSub, Nat.reduceMul, Nat.reduceLT, Nat.reduceLeDiff, Nat.reduceEqDiff, Nat.reduceMod, Nat.reduceDiv, Int.reduceNeg, Int.reduceLE, Int.reduceLT, Int.reduceToNat, Int.reduceEq, Int.reduceNe, ↓reduceIte,  hlf, decide_false, hc, not_false_eq_true, decide_true]
  refine Classical.byCases (fun hf : fullG s ⟨r.user, r.object, LeastP s r⟩ => ?_) fun hf => ?_
  · refine callD_of (gful hc hf) ?_
    set_option maxRecDepth 100000 in simp (maxSteps := 10000000) only [go_sem, Nat.reduceAdd, Nat.reduceSub, Nat.reduceMul, Nat.reduceLT, Nat.reduceLeDiff, Nat.reduceEqDiff, Nat.reduceMod, Nat.reduceDiv, Int.reduceNeg, Int.reduceLE, Int.reduceLT, Int.reduceToNat, Int.reduceEq, Int.reduceNe, ↓reduceIte]
    refine ⟨by decide +kernel, ?_⟩
    set_option maxRecDepth 100000 in simp (maxSteps := 10000000) only [go_sem, Nat.reduceAdd, Nat.reduceSub, Nat.reduceMul, Nat.reduceLT, Nat.reduceLeDiff, Nat.reduceEqDiff, Nat.reduceMod, Nat.reduceDiv, Int.reduceNeg, Int.reduceLE, Int.reduceLT, Int.reduceToNat, Int.reduceEq, Int.reduceNe, ↓reduceIte,  hlf, decide_false, not_false_eq_true, decide_true]
  have hgk := gok hc hf
  have hso := sortedG_of (hS.pgrants _ (nth_mem i3))
  have hfx := few_add (u := r.user) (a := LeastP s r) i3 hso.2 hsm hfew
  have hgv := least_given hs h0 hl hf
  have hls := @least_less s r hs h0 hl hf
  have hpx : 0 ≤ grantIx (nth (addS s r.object.toNat r.user (LeastP s r)).objects r.object.toNat).grants r.user := (priv_some (ent_add i3).mine).1
  obtain ⟨x, hx⟩ : ∃ x, x = addS s r.object.toNat r.user (LeastP s r) := ⟨_, rfl⟩
  rw [← hx] at hgk hfx hgv hpx
  obtain ⟨lx, fx, ex, ax, px⟩ := hgv
  have hacx := Access_good x r fx hrl
  rw [access_is fx ax, ax, px] at hacx
  have k2 : r.object < (x.objects.length : Int) := by rw [lx.ol]; exact i2
  have k3 : r.object.toNat < x.objects.length := by rw [lx.ol]; exact i3
  have hset : ∀ q, ((List.map encSecured x.objects).set r.object.toNat q)[r.object.toNat]? = some q := fun q => by rw [List.getElem?_set_self (by simpa using k3)]
  have hren : ∀ m, List.map (fun y => List.map (ren1 m) y) ((List.map encSecured x.objects).set r.object.toNat (refRow (nth x.objects r.object.toNat) 0 1)) = (List.map encSecured x.objects).set r.object.toNat ((refRow (nth x.objects r.object.toNat) 0 1).map (ren1 m)) := fun m => by
    rw [List.map_set, List.map_map]
    congr 1
  have hown := OwnKM x fx r.object.toNat k3
  simp only [refRow] at hown hren
  have hgx := fx.ogrants _ (nth_mem k3)
  have hpm := PrivateM (nth x.objects r.object.toNat).grants r.user hgx
  obtain ⟨j, hj⟩ : ∃ j : Nat, grantIx (nth x.objects r.object.toNat).grants r.user = (j : Int) := ⟨_, (Int.toNat_of_nonneg hpx).symm⟩
  have hjl : j < (nth x.objects r.object.toNat).grants.length := by have := (grant_hit hpx).2; rw [hj] at this; exact this
  have hji : (j : Int) < ((nth x.objects r.object.toNat).grants.length : Int) := by omega
  have hj1 : ¬ (j : Int) = -1 := by omega
  have hgj : (List.map encGrant (nth x.objects r.object.toNat).grants)[j]? = some (encGrant (nth (nth x.objects r.object.toNat).grants j)) := at_map hjl
  rw [hj] at hpm
  refine callD_of (hgk) ?_
  set_option maxRecDepth 100000 in simp (maxSteps := 10000000) only [go_sem, Nat.reduceAdd, Nat.reduceSub, Nat.reduceMul, Nat.reduceLT, Nat.reduceLeDiff, Nat.reduceEqDiff, Nat.reduceMod, Nat.reduceDiv, Int.reduceNeg, Int.reduceLE, Int.reduceLT, Int.reduceToNat, Int.reduceEq, Int.reduceNe, ↓reduceIte]
  refine ⟨by decide +kernel, ?_⟩
  set_option maxRecDepth 100000 in simp (maxSteps := 10000000) only [go_sem, Nat.reduceAdd, Nat.reduceSub, Nat.reduceMul, Nat.reduceLT, Nat.reduceLeDiff, Nat.reduceEqDiff, Nat.reduceMod, Nat.reduceDiv, Int.reduceNeg, Int.reduceLE, Int.reduceLT, Int.reduceToNat, Int.reduceEq, Int.reduceNe, ↓reduceIte,  hlf, decide_false, not_true_eq_false]
  refine call_of (Few_good x) ?_
  set_option maxRecDepth 100000 in simp (maxSteps := 10000000) only [go_sem, Nat.reduceAdd, Nat.reduceSub, Nat.reduceMul, Nat.reduceLT, Nat.reduceLeDiff, Nat.reduceEqDiff, Nat.reduceMod, Nat.reduceDiv, Int.reduceNeg, Int.reduceLE, Int.reduceLT, Int.reduceToNat, Int.reduceEq, Int.reduceNe, ↓reduceIte,  hfx, Bool.not_true]
  refine call_of (Err_good x fx) ?_
  set_option maxRecDepth 100000 in simp (maxSteps := 10000000) only [go_sem, Nat.reduceAdd, Nat.reduceSub, Nat.reduceMul, Nat.reduceLT, Nat.reduceLeDiff, Nat.reduceEqDiff, Nat.reduceMod, Nat.reduceDiv, Int.reduceNeg, Int.reduceLE, Int.reduceLT, Int.reduceToNat, Int.reduceEq, Int.reduceNe, ↓reduceIte,  ex, not_true_eq_false, decide_false]
  refine callD_of (Own_good x fx) ?_
  set_option maxRecDepth 100000 in simp (maxSteps := 10000000) only [go_sem, Nat.reduceAdd, Nat.reduceSub, Nat.reduceMul, Nat.reduceLT, Nat.reduceLeDiff, Nat.reduceEqDiff, Nat.reduceMod, Nat.reduceDiv, Int.reduceNeg, Int.reduceLE, Int.reduceLT, Int.reduceToNat, Int.reduceEq, Int.reduceNe, ↓reduceIte]
  refine callD_of (own_good r hrl) ?_
  set_option maxRecDepth 100000 in simp (maxSteps := 10000000) only [go_sem, Nat.reduceAdd, Nat.reduceSub, Nat.reduceMul, Nat.reduceLT, Nat.reduceLeDiff, Nat.reduceEqDiff, Nat.reduceMod, Nat.reduceDiv, Int.reduceNeg, Int.reduceLE, Int.reduceLT, Int.reduceToNat, Int.reduceEq, Int.reduceNe, ↓reduceIte]
  refine callD_of (hacx) ?_
  set_option maxRecDepth 100000 in simp (maxSteps := 10000000) only [go_sem, Nat.reduceAdd, Nat.reduceSub, Nat.reduceMul, Nat.reduceLT, Nat.reduceLeDiff, Nat.reduceEqDiff, Nat.reduceMod, Nat.reduceDiv, Int.reduceNeg, Int.reduceLE, Int.reduceLT, Int.reduceToNat, Int.reduceEq, Int.reduceNe, ↓reduceIte,  Bool.not_true, not_true_eq_false, decide_false]
  refine ⟨by decide +kernel, ?_⟩
  refine loop_by ([6, 10, 11, 15, 16, 114, 115, 116, 117, 118, 119, 120, 121, 122, 123, 124, 125, 126, 127, 128, 129, 130, 131, 132, 133, 134, 135, 136, 137, 138, 139, 140, 141, 142, 143, 144, 145, 146, 147, 148, 149, 150, 151, 152, 153, 154, 155, 156, 157, 158, 159, 160, 161, 162, 163, 164, 165, 166, 167, 168, 169, 170, 171], [15, 0, 1, 2, 5]) (fun y : Nat × Nat => [(.s 14, .int .i64 (bitI y.1)), (.o 0, deadV y.2), (.o 1, deadV y.2), (.o 2, deadV y.2), (.o 5, deadV y.2), (.o 15, deadV y.2)]) (fun y => 10 - y.1) (fun y => y.1 ≤ 10) (0, 0) rfl (Nat.zero_le _) rfl ?_
  rintro c' st' hst ⟨k, d⟩ hk ih
  dsimp only at hk
  set_option maxRecDepth 100000 in simp (maxSteps := 10000000) only [go_sem, Nat.reduceAdd, Nat.reduceSub, Nat.reduceMul, Nat.reduceLT, Nat.reduceLeDiff, Nat.reduceEqDiff, Nat.reduceMod, Nat.reduceDiv, Int.reduceNeg, Int.reduceLE, Int.reduceLT, Int.reduceToNat, Int.reduceEq, Int.reduceNe, ↓reduceIte]
  refine Classical.byCases (fun hlt : k < 10 => ?_) fun hlt => ?_
  case refine_2 =>
    have hk10 : k = 10 := by omega
    have hb : (bitI 10 ≤ 1023) = False := eq_false (by decide)
    subst hst
    set_option maxRecDepth 100000 in simp (maxSteps := 10000000) only [go_sem, Nat.reduceAdd, Nat.reduceSub, Nat.reduceMul, Nat.reduceLT, Nat.reduceLeDiff, Nat.reduceEqDiff, Nat.reduceMod, Nat.reduceDiv, Int.reduceNeg, Int.reduceLE, Int.reduceLT, Int.reduceToNat, Int.reduceEq, Int.reduceNe, ↓reduceIte,  hk10, hb]
  have hbs := bit_step k hlt
  have b1 := hbs.1
  have b4 := hbs.2.2.2
  refine Classical.byCases (fun q : Go.bits .and .i64 (LeastP s r) (bitI k) = 0 => ?_) fun q => ?_
  · set_option maxRecDepth 100000 in simp (maxSteps := 10000000) only [go_sem, Nat.reduceAdd, Nat.reduceSub, Nat.reduceMul, Nat.reduceLT, Nat.reduceLeDiff, Nat.reduceEqDiff, Nat.reduceMod, Nat.reduceDiv, Int.reduceNeg, Int.reduceLE, Int.reduceLT, Int.reduceToNat, Int.reduceEq, Int.reduceNe, ↓reduceIte,  b1, q, b4]
    refine ih (k + 1, d) _ (by dsimp only; omega) (by dsimp only; omega) ?_
    set_option maxRecDepth 100000 in simp (maxSteps := 10000000) only [go_sem, Nat.reduceAdd, Nat.reduceSub, Nat.reduceMul, Nat.reduceLT, Nat.reduceLeDiff, Nat.reduceEqDiff, Nat.reduceMod, Nat.reduceDiv, Int.reduceNeg, Int.reduceLE, Int.reduceLT, Int.reduceToNat, Int.reduceEq, Int.reduceNe, ↓reduceIte,  b4]
  obtain ⟨ft, at_, pt⟩ := hls hx hj hlt q
  have hact := Access_good _ r ft hrl
  rw [access_is ft at_, at_, pt] at hact
  obtain ⟨e, he⟩ : ∃ e, e = Go.bits .andNot .i64 (nth (nth x.objects r.object.toNat).grants j).auth (bitI k) := ⟨_, rfl⟩
  rw [← he] at hact
  have hrow : (List.map encGrant (nth x.objects r.object.toNat).grants).set j [.str (nth (nth x.objects r.object.toNat).grants j).user, .int .i64 e] = List.map encGrant ((nth x.objects r.object.toNat).grants.set j ⟨(nth (nth x.objects r.object.toNat).grants j).user, e⟩) := by
    rw [List.map_set]; rfl
  have hE : (List.map encSecured x.objects).set r.object.toNat [.str (nth x.objects r.object.toNat).name.lib, .str (nth x.objects r.object.toNat).name.name, .int .i64 (nth x.objects r.object.toNat).name.type, .str (nth x.objects r.object.toNat).owner, .sl (List.map encGrant ((nth x.objects r.object.toNat).grants.set j ⟨(nth (nth x.objects r.object.toNat).grants j).user, e⟩)), .str (nth x.objects r.object.toNat).list, .int .i64 (nth x.objects r.object.toNat).pub, .bool (nth x.objects r.object.toNat).byList] = List.map encSecured (lowS x r.object.toNat j e).objects :=
    (List.map_set (f := encSecured) (l := x.objects) (i := r.object.toNat) (a := lowO (nth x.objects r.object.toNat) j e)).symm.trans rfl
  have hP := rowsP_secured (lowS x r.object.toNat j e).objects
  set_option maxRecDepth 100000 in simp (maxSteps := 10000000) only [go_sem, Nat.reduceAdd, Nat.reduceSub, Nat.reduceMul, Nat.reduceLT, Nat.reduceLeDiff, Nat.reduceEqDiff, Nat.reduceMod, Nat.reduceDiv, Int.reduceNeg, Int.reduceLE, Int.reduceLT, Int.reduceToNat, Int.reduceEq, Int.reduceNe, ↓reduceIte,  b1, q]
  refine callM_of [] [0, 1, 2, 5] (hown) ⟨rfl, rfl, rfl, by simp, by simp, by simp, by simp, rfl, rfl, rfl, onodup_of (l := [31, 53, 75, 0]) rfl (by decide)⟩ ?_
  set_option maxRecDepth 100000 in simp (maxSteps := 10000000) only [go_sem, Nat.reduceAdd, Nat.reduceSub, Nat.reduceMul, Nat.reduceLT, Nat.reduceLeDiff, Nat.reduceEqDiff, Nat.reduceMod, Nat.reduceDiv, Int.reduceNeg, Int.reduceLE, Int.reduceLT, Int.reduceToNat, Int.reduceEq, Int.reduceNe, ↓reduceIte]
  set_option maxRecDepth 100000 in simp (maxSteps := 10000000) only [go_sem, Nat.reduceAdd, Nat.reduceSub, Nat.reduceMul, Nat.reduceLT, Nat.reduceLeDiff, Nat.reduceEqDiff, Nat.reduceMod, Nat.reduceDiv, Int.reduceNeg, Int.reduceLE, Int.reduceLT, Int.reduceToNat, Int.reduceEq, Int.reduceNe, ↓reduceIte,  i1, k2, k3, hset, hren, List.map_set, List.length_set, List.length_map, Option.map_some]
  refine callMD_of [5] [5] (hpm) ⟨by simp [renA, ren1, invM, posOf, verOf, AV.cellP, Env.go], rfl, rfl, by simp, by simp [ment, ment1], by simp, by simp, rfl, rfl, rfl, onodup_of (l := [20]) rfl (by decide)⟩ ?_
  set_option maxRecDepth 100000 in simp (maxSteps := 10000000) only [go_sem, Nat.reduceAdd, Nat.reduceSub, Nat.reduceMul, Nat.reduceLT, Nat.reduceLeDiff, Nat.reduceEqDiff, Nat.reduceMod, Nat.reduceDiv, Int.reduceNeg, Int.reduceLE, Int.reduceLT, Int.reduceToNat, Int.reduceEq, Int.reduceNe, ↓reduceIte,  i1, k2, k3, hset, List.length_set, List.length_map, Option.map_some, List.set_set]
  refine ⟨by decide +kernel, ?_⟩
  set_option maxRecDepth 100000 in simp (maxSteps := 10000000) only [go_sem, Nat.reduceAdd, Nat.reduceSub, Nat.reduceMul, Nat.reduceLT, Nat.reduceLeDiff, Nat.reduceEqDiff, Nat.reduceMod, Nat.reduceDiv, Int.reduceNeg, Int.reduceLE, Int.reduceLT, Int.reduceToNat, Int.reduceEq, Int.reduceNe, ↓reduceIte,  hj1, decide_false, hjl, hji, hgj, i1, k2, k3, hset, List.length_set, List.length_map, Option.map_some, List.set_set, Int.natCast_nonneg, ← he, hrow, hE, hP]
  refine ⟨by decide +kernel, ?_⟩
  refine callD_of (own_good r hrl) ?_
  set_option maxRecDepth 100000 in simp (maxSteps := 10000000) only [go_sem, Nat.reduceAdd, Nat.reduceSub, Nat.reduceMul, Nat.reduceLT, Nat.reduceLeDiff, Nat.reduceEqDiff, Nat.reduceMod, Nat.reduceDiv, Int.reduceNeg, Int.reduceLE, Int.reduceLT, Int.reduceToNat, Int.reduceEq, Int.reduceNe, ↓reduceIte]
  refine callD_of (hact) ?_
  set_option maxRecDepth 100000 in simp (maxSteps := 10000000) only [go_sem, Nat.reduceAdd, Nat.reduceSub, Nat.reduceMul, Nat.reduceLT, Nat.reduceLeDiff, Nat.reduceEqDiff, Nat.reduceMod, Nat.reduceDiv, Int.reduceNeg, Int.reduceLE, Int.reduceLT, Int.reduceToNat, Int.reduceEq, Int.reduceNe, ↓reduceIte]
  refine ⟨by decide +kernel, ?_⟩
  set_option maxRecDepth 100000 in simp (maxSteps := 10000000) only [go_sem, Nat.reduceAdd, Nat.reduceSub, Nat.reduceMul, Nat.reduceLT, Nat.reduceLeDiff, Nat.reduceEqDiff, Nat.reduceMod, Nat.reduceDiv, Int.reduceNeg, Int.reduceLE, Int.reduceLT, Int.reduceToNat, Int.reduceEq, Int.reduceNe, ↓reduceIte,  not_true_eq_false, decide_false, b4]
  refine ih (k + 1, d + 1) _ (by dsimp only; omega) (by dsimp only; omega) ?_
  set_option maxRecDepth 100000 in simp (maxSteps := 10000000) only [go_sem, Nat.reduceAdd, Nat.reduceSub, Nat.reduceMul, Nat.reduceLT, Nat.reduceLeDiff, Nat.reduceEqDiff, Nat.reduceMod, Nat.reduceDiv, Int.reduceNeg, Int.reduceLE, Int.reduceLT, Int.reduceToNat, Int.reduceEq, Int.reduceNe, ↓reduceIte,  b4]
end Go.Proofs.Ytdmcmfdmnlckdaa.C10
