/- Chapter 10: the whole without a private authority of an object. -/
import Derived.Test.YtdmcmfdmnlckdaaF22
import Derived.Test.YtdmcmfdmnlckdaaF28
import Derived.Test.YtdmcmfdmnlckdaaP7
namespace Go.Proofs.Ytdmcmfdmnlckdaa.C10
open Go Go.Proofs Go.Proofs.Ytdmcmfdmnlckdaa.Ab
set_option linter.unusedSimpArgs false
attribute [local congr] ite_ctx

theorem Without_good (s : Sec) (k i : Nat) (hs : Fit s) (hk : k < s.objects.length) (hi : i < (nth s.objects k).grants.length) :
    Ans Try.prog 41 [.agg (encSec s), .int .i64 (k : Int), .int .i64 (i : Int)] (.agg (encSec (cutG s k i))) := by
  have hq : (List.map encSecured s.objects)[k]? = some (encSecured (nth s.objects k)) := at_map hk
  have hg := hs.ogrants _ (nth_mem hk)
  have hO := hs.objects
  have q1 : (0 : Int) ≤ (k : Int) := by omega
  have q2 : (k : Int) < (s.objects.length : Int) := by omega
  have q3 : (0 : Int) ≤ (i : Int) := by omega
  have q4 : (i : Int) ≤ ((nth s.objects k).grants.length : Int) := by omega
  have ht : (List.take i (nth s.objects k).grants).length = i := by rw [List.length_take]; omega
  have h24 : i * 24 ≤ 140737488355328 := by omega
  have hmx : i ≤ maxLen := by unfold maxLen; omega
  have q5 : ((i + 1 : Nat) : Int) ≤ ((nth s.objects k).grants.length : Int) := by omega
  have q6 : (0 : Int) ≤ ((i + 1 : Nat) : Int) := by omega
  have hdr : List.drop (i + 1) (List.take (nth s.objects k).grants.length (nth s.objects k).grants) = List.drop (i + 1) (nth s.objects k).grants := by rw [List.take_of_length_le (Nat.le_refl _)]
  have hl2 : (List.drop (i + 1) (nth s.objects k).grants).length = (nth s.objects k).grants.length - (i + 1) := List.length_drop
  have h25 : (i + ((nth s.objects k).grants.length - (i + 1))) * 24 ≤ 140737488355328 := by omega
  have hm2 : i + ((nth s.objects k).grants.length - (i + 1)) ≤ maxLen := by unfold maxLen; omega
  have hset : ∀ r, ((List.map encSecured s.objects).set k r)[k]? = some r := fun r => by rw [List.getElem?_set_self (by simpa using hk)]
  have hE : (List.map encSecured s.objects).set k [.str (nth s.objects k).name.lib, .str (nth s.objects k).name.name, .int .i64 (nth s.objects k).name.type, .str (nth s.objects k).owner, .sl (List.map encGrant (List.take i (nth s.objects k).grants ++ List.drop (i + 1) (nth s.objects k).grants)), .str (nth s.objects k).list, .int .i64 (nth s.objects k).pub, .bool (nth s.objects k).byList] = List.map encSecured (cutG s k i).objects := by
    rw [cutG, List.map_set]; rfl
  have hP := rowsP_secured (cutG s k i).objects
  refine good_run [(3000004, [], [100000000004001002])] mixed Try.func41 rfl Try.ntmps41 (rs := [.cell 6 26]) rfl (by decide +kernel) (by kernel_rfl) rfl ?_
  rw [startE_eq 32 _ _ _ rfl rfl]
  set_option maxRecDepth 100000 in simp (maxSteps := 10000000) only [go_sem, Nat.reduceAdd, Nat.reduceSub, Nat.reduceMul, Nat.reduceLT, Nat.reduceLeDiff, Nat.reduceEqDiff, Nat.reduceMod, Nat.reduceDiv, Int.reduceNeg, Int.reduceLE, Int.reduceLT, Int.reduceToNat, Int.reduceEq, Int.reduceNe, ↓reduceIte]
  refine callM_of [] [0, 1, 2] (OwnM s hs) ⟨rfl, rfl, rfl, by simp, by simp, by simp, by simp, rfl, rfl, rfl, onodup_of (l := [31, 53, 75]) rfl (by decide)⟩ ?_
  set_option maxRecDepth 100000 in simp (maxSteps := 10000000) only [go_sem, Nat.reduceAdd, Nat.reduceSub, Nat.reduceMul, Nat.reduceLT, Nat.reduceLeDiff, Nat.reduceEqDiff, Nat.reduceMod, Nat.reduceDiv, Int.reduceNeg, Int.reduceLE, Int.reduceLT, Int.reduceToNat, Int.reduceEq, Int.reduceNe, ↓reduceIte]
  set_option maxRecDepth 100000 in simp (maxSteps := 10000000) only [go_sem, Nat.reduceAdd, Nat.reduceSub, Nat.reduceMul, Nat.reduceLT, Nat.reduceLeDiff, Nat.reduceEqDiff, Nat.reduceMod, Nat.reduceDiv, Int.reduceNeg, Int.reduceLE, Int.reduceLT, Int.reduceToNat, Int.reduceEq, Int.reduceNe, ↓reduceIte,  hq, hk, q1, q2, q3, q4, Option.map_some, Int.toNat_natCast, List.length_map, wrap_succ (show i < 9223372036854775807 by omega), ht, h24, hmx, q5, q6, Int.le_refl, Nat.le_refl, hdr, hl2, h25, hm2, hset, List.length_set, List.set_set, hE, hP]
  refine ⟨by decide +kernel, ?_⟩
  simp [cutG]
end Go.Proofs.Ytdmcmfdmnlckdaa.C10
