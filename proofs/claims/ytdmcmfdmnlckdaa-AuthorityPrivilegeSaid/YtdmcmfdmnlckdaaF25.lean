/- Chapter 10: copies of slices that may be written; a copy of the whole of which one object's grants may be written. -/
import Derived.Test.YtdmcmfdmnlckdaaF2
import Derived.Test.YtdmcmfdmnlckdaaN0
namespace Go.Proofs.Ytdmcmfdmnlckdaa.C10
open Go Go.Proofs Go.Proofs.Ytdmcmfdmnlckdaa.Ab
set_option linter.unusedSimpArgs false
attribute [local congr] ite_ctx

theorem CloneO (l : List Secured) (hl : l.length ≤ 1000000) : AnsM Try.prog 103 8 [] [.sl (l.map encSecured)] (.ref 7 1) [(7, .obj 1 62 8 false true (l.map encSecured))] := by
  refine goodM_runA [1208062007] [] mixed Try.func103 rfl Try.ntmps103 (rs := [.tmp 2]) rfl (by decide +kernel) (by kernel_rfl) ?_
  rw [startM_eq 8 _ _ _ _ rfl rfl]
  set_option maxRecDepth 100000 in simp (maxSteps := 10000000) only [go_sem, Nat.reduceAdd, Nat.reduceSub, Nat.reduceMul, Nat.reduceLT, Nat.reduceLeDiff, Nat.reduceEqDiff, Nat.reduceMod, Nat.reduceDiv, Int.reduceNeg, Int.reduceLE, Int.reduceLT, Int.reduceToNat, Int.reduceEq, Int.reduceNe, ↓reduceIte]
  refine ifI (fun h0 => ?_) fun h0 => ?_
  · have hz : l = [] := List.eq_nil_of_length_eq_zero (by simpa using h0)
    set_option maxRecDepth 100000 in simp (maxSteps := 10000000) only [go_sem, Nat.reduceAdd, Nat.reduceSub, Nat.reduceMul, Nat.reduceLT, Nat.reduceLeDiff, Nat.reduceEqDiff, Nat.reduceMod, Nat.reduceDiv, Int.reduceNeg, Int.reduceLE, Int.reduceLT, Int.reduceToNat, Int.reduceEq, Int.reduceNe, ↓reduceIte,  hz]
    refine bothI ?_ ?_
    · set_option maxRecDepth 100000 in simp (maxSteps := 10000000) only [go_sem, Nat.reduceAdd, Nat.reduceSub, Nat.reduceMul, Nat.reduceLT, Nat.reduceLeDiff, Nat.reduceEqDiff, Nat.reduceMod, Nat.reduceDiv, Int.reduceNeg, Int.reduceLE, Int.reduceLT, Int.reduceToNat, Int.reduceEq, Int.reduceNe, ↓reduceIte]
      simp
    · set_option maxRecDepth 100000 in simp (maxSteps := 10000000) only [go_sem, Nat.reduceAdd, Nat.reduceSub, Nat.reduceMul, Nat.reduceLT, Nat.reduceLeDiff, Nat.reduceEqDiff, Nat.reduceMod, Nat.reduceDiv, Int.reduceNeg, Int.reduceLE, Int.reduceLT, Int.reduceToNat, Int.reduceEq, Int.reduceNe, ↓reduceIte,  show (0 : Nat) ≤ maxLen by unfold maxLen; omega]
      simp
  · set_option maxRecDepth 100000 in simp (maxSteps := 10000000) only [go_sem, Nat.reduceAdd, Nat.reduceSub, Nat.reduceMul, Nat.reduceLT, Nat.reduceLeDiff, Nat.reduceEqDiff, Nat.reduceMod, Nat.reduceDiv, Int.reduceNeg, Int.reduceLE, Int.reduceLT, Int.reduceToNat, Int.reduceEq, Int.reduceNe, ↓reduceIte,  h0, show (0 + l.length) * 112 ≤ 140737488355328 by omega, show 0 + l.length ≤ maxLen by unfold maxLen; omega]
    simp
theorem CloneG (l : List Grant) (hl : l.length ≤ 1000000) : AnsM Try.prog 104 8 [] [.sl (l.map encGrant)] (.ref 7 1) [(7, .obj 1 65 2 false true (l.map encGrant))] := by
  refine goodM_runA [1202065007] [] mixed Try.func104 rfl Try.ntmps104 (rs := [.tmp 2]) rfl (by decide +kernel) (by kernel_rfl) ?_
  rw [startM_eq 8 _ _ _ _ rfl rfl]
  set_option maxRecDepth 100000 in simp (maxSteps := 10000000) only [go_sem, Nat.reduceAdd, Nat.reduceSub, Nat.reduceMul, Nat.reduceLT, Nat.reduceLeDiff, Nat.reduceEqDiff, Nat.reduceMod, Nat.reduceDiv, Int.reduceNeg, Int.reduceLE, Int.reduceLT, Int.reduceToNat, Int.reduceEq, Int.reduceNe, ↓reduceIte]
  refine ifI (fun h0 => ?_) fun h0 => ?_
  · have hz : l = [] := List.eq_nil_of_length_eq_zero (by simpa using h0)
    set_option maxRecDepth 100000 in simp (maxSteps := 10000000) only [go_sem, Nat.reduceAdd, Nat.reduceSub, Nat.reduceMul, Nat.reduceLT, Nat.reduceLeDiff, Nat.reduceEqDiff, Nat.reduceMod, Nat.reduceDiv, Int.reduceNeg, Int.reduceLE, Int.reduceLT, Int.reduceToNat, Int.reduceEq, Int.reduceNe, ↓reduceIte,  hz]
    refine bothI ?_ ?_
    · set_option maxRecDepth 100000 in simp (maxSteps := 10000000) only [go_sem, Nat.reduceAdd, Nat.reduceSub, Nat.reduceMul, Nat.reduceLT, Nat.reduceLeDiff, Nat.reduceEqDiff, Nat.reduceMod, Nat.reduceDiv, Int.reduceNeg, Int.reduceLE, Int.reduceLT, Int.reduceToNat, Int.reduceEq, Int.reduceNe, ↓reduceIte]
      simp
    · set_option maxRecDepth 100000 in simp (maxSteps := 10000000) only [go_sem, Nat.reduceAdd, Nat.reduceSub, Nat.reduceMul, Nat.reduceLT, Nat.reduceLeDiff, Nat.reduceEqDiff, Nat.reduceMod, Nat.reduceDiv, Int.reduceNeg, Int.reduceLE, Int.reduceLT, Int.reduceToNat, Int.reduceEq, Int.reduceNe, ↓reduceIte,  show (0 : Nat) ≤ maxLen by unfold maxLen; omega]
      simp
  · set_option maxRecDepth 100000 in simp (maxSteps := 10000000) only [go_sem, Nat.reduceAdd, Nat.reduceSub, Nat.reduceMul, Nat.reduceLT, Nat.reduceLeDiff, Nat.reduceEqDiff, Nat.reduceMod, Nat.reduceDiv, Int.reduceNeg, Int.reduceLE, Int.reduceLT, Int.reduceToNat, Int.reduceEq, Int.reduceNe, ↓reduceIte,  h0, show (0 + l.length) * 24 ≤ 140737488355328 by omega, show 0 + l.length ≤ maxLen by unfold maxLen; omega]
    simp

theorem at_map {α : Type} [Inhabited α] {f : α → List AV} {l : List α} {i : Nat} (h : i < l.length) : (l.map f)[i]? = some (f (nth l i)) := by
  rw [List.getElem?_map, List.getElem?_eq_getElem h, nth_eq h]; rfl

/-- A copy of which the object's grants may be written: its cell holds the copied row. -/
theorem own81M (s : Sec) (i : Int) (h1 : s.objects.length ≤ 1000000) (h2 : (nth s.objects i.toNat).grants.length ≤ 1000000) (i1 : 0 ≤ i) (i2 : i < (s.objects.length : Int)) (i3 : i.toNat < s.objects.length) :
    AnsM Try.prog 81 22 [] [.agg (encSec s), .int .i64 i] (.agg [.sl (s.profiles.map encProf), .sl (s.lists.map encAList), .ref 0 1])
      [(0, .obj 1 62 8 false false ((s.objects.map encSecured).set i.toNat [.str (nth s.objects i.toNat).name.lib, .str (nth s.objects i.toNat).name.name, .int .i64 (nth s.objects i.toNat).name.type, .str (nth s.objects i.toNat).owner, .ref 18 1, .str (nth s.objects i.toNat).list, .int .i64 (nth s.objects i.toNat).pub, .bool (nth s.objects i.toNat).byList])),
       (18, .obj 1 65 2 false true ((nth s.objects i.toNat).grants.map encGrant))] := by
  have hq : (List.map encSecured s.objects)[i.toNat]? = some (encSecured (nth s.objects i.toNat)) := at_map i3
  refine goodM_run [] mixed Try.func81 rfl Try.ntmps81 (rs := [.cell 4 26]) rfl (by decide +kernel) (by kernel_rfl) ?_
  rw [startM_eq 22 _ _ _ _ rfl rfl]
  set_option maxRecDepth 100000 in simp (maxSteps := 10000000) only [go_sem, Nat.reduceAdd, Nat.reduceSub, Nat.reduceMul, Nat.reduceLT, Nat.reduceLeDiff, Nat.reduceEqDiff, Nat.reduceMod, Nat.reduceDiv, Int.reduceNeg, Int.reduceLE, Int.reduceLT, Int.reduceToNat, Int.reduceEq, Int.reduceNe, ↓reduceIte]
  refine callM_of [] [0] (CloneO _ h1) ⟨rfl, rfl, rfl, by simp, by simp, by simp, by simp, rfl, rfl, rfl, onodup_of (l := [7]) rfl (by decide)⟩ ?_
  set_option maxRecDepth 100000 in simp (maxSteps := 10000000) only [go_sem, Nat.reduceAdd, Nat.reduceSub, Nat.reduceMul, Nat.reduceLT, Nat.reduceLeDiff, Nat.reduceEqDiff, Nat.reduceMod, Nat.reduceDiv, Int.reduceNeg, Int.reduceLE, Int.reduceLT, Int.reduceToNat, Int.reduceEq, Int.reduceNe, ↓reduceIte]
  set_option maxRecDepth 100000 in simp (maxSteps := 10000000) only [go_sem, Nat.reduceAdd, Nat.reduceSub, Nat.reduceMul, Nat.reduceLT, Nat.reduceLeDiff, Nat.reduceEqDiff, Nat.reduceMod, Nat.reduceDiv, Int.reduceNeg, Int.reduceLE, Int.reduceLT, Int.reduceToNat, Int.reduceEq, Int.reduceNe, ↓reduceIte,  i1, i2, i3, hq, Option.map_some]
  refine callMD_of [] [18] (CloneG _ h2) ⟨rfl, rfl, rfl, by simp, by simp, by simp, by simp, rfl, rfl, rfl, onodup_of (l := [7]) rfl (by decide)⟩ ?_
  set_option maxRecDepth 100000 in simp (maxSteps := 10000000) only [go_sem, Nat.reduceAdd, Nat.reduceSub, Nat.reduceMul, Nat.reduceLT, Nat.reduceLeDiff, Nat.reduceEqDiff, Nat.reduceMod, Nat.reduceDiv, Int.reduceNeg, Int.reduceLE, Int.reduceLT, Int.reduceToNat, Int.reduceEq, Int.reduceNe, ↓reduceIte,  i1, i2, i3, hq, Option.map_some]
  refine ⟨by decide +kernel, ?_⟩
  simp
end Go.Proofs.Ytdmcmfdmnlckdaa.C10
