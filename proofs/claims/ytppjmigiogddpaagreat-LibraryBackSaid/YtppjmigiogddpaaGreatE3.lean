/- Chapter 9: what a string is as the name of an object. -/
import Derived.Test.YtppjmigiogddpaaGreatE2
namespace Go.Proofs.YtppjmigiogddpaaGreat.C08
open Go Go.Proofs Go.Proofs.YtppjmigiogddpaaGreat.Ab
set_option linter.unusedSimpArgs false
attribute [local congr] ite_ctx

def zeroQ : QName := ⟨⟨#[]⟩, ⟨#[]⟩, false⟩
attribute [go_sem] zeroQ
def pLib (s : ByteArray) : ByteArray := if cutF s = true then cutA s else ⟨#[]⟩
def pRest (s : ByteArray) : ByteArray := if cutF s = true then cutB s else s
def parseE (s : ByteArray) : QName × Int × Int :=
  if s = ⟨#[]⟩ then (zeroQ, 0, 1) else if cutF s = true ∧ isSp (cutA s) = false ∧ isNm (cutA s) = false then (zeroQ, 0, 7)
  else if isNm (starN (pRest s)) = false then (zeroQ, slash s + 1, 7) else (⟨pLib s, starN (pRest s), starB (pRest s)⟩, 0, 0)

theorem cutA_size {s : ByteArray} (h : cutF s = true) : ((cutA s).size : Int) = slash s := by
  have h1 := of_decide_eq_true h
  have h2 := slash_le s
  rw [cutA, if_pos h1, ByteArray.size_extract]
  omega
theorem cutB_size (s : ByteArray) : (cutB s).size ≤ s.size := by
  rw [cutB]; split
  · rw [ByteArray.size_extract]; omega
  · exact Nat.zero_le _
theorem isSp_size {s : ByteArray} (h : isSp s = true) : s.size ≤ 8 := by
  rw [isSp, Bool.or_eq_true, Bool.or_eq_true, decide_eq_true_eq, decide_eq_true_eq, decide_eq_true_eq] at h
  rcases h with (rfl | rfl) | rfl <;> decide
theorem isNm_size {s : ByteArray} (h : isNm s = true) : s.size ≤ 10 := by
  rw [isNm, Bool.and_eq_true, decide_eq_true_eq] at h; omega
theorem starN_size (s : ByteArray) : s.size ≤ (starN s).size + 1 ∧ (starN s).size ≤ s.size := by
  rw [starN]; split
  · rw [ByteArray.size_extract]; omega
  · omega
theorem early {s : ByteArray} (h : 30 < s.size) (h2 : Lib.indexByte (s.extract 0 30).data.toList 47 < 0) : parseE s = (zeroQ, 0, 7) := by
  have hd : (s.extract 0 30).data.toList = s.data.toList.take 30 := by
    rw [ByteArray.data_extract, Array.toList_extract, List.extract_eq_take_drop]; simp
  rw [hd, indexByte_take] at h2
  have hl := slash_le s
  have hne : ¬ s = ⟨#[]⟩ := fun e => by rw [e] at h; exact absurd h (by decide)
  rw [parseE, if_neg hne]
  by_cases hF : cutF s = true
  · have hp := of_decide_eq_true hF
    have hs := cutA_size hF
    have hge : ¬ slash s < 30 := fun q => by
      rw [if_pos (show Lib.indexByte s.data.toList 47 < ((30 : Nat) : Int) from q)] at h2
      exact absurd h2 (by have : Lib.indexByte s.data.toList 47 = slash s := rfl; omega)
    rw [if_pos ⟨hF, Bool.eq_false_iff.2 fun q => by have := isSp_size q; omega, Bool.eq_false_iff.2 fun q => by have := isNm_size q; omega⟩]
  · have hn : slash s = -1 := by
      have := of_decide_eq_false (Bool.eq_false_iff.2 hF); omega
    rw [if_neg (fun q => hF q.1), pRest, if_neg hF, if_pos (Bool.eq_false_iff.2 fun q => by have := isNm_size q; have := starN_size s; omega), hn]
    rfl
theorem empty_size {s : ByteArray} : s = ⟨#[]⟩ ↔ s.size = 0 := by
  constructor
  · intro h; rw [h]; rfl
  · intro h; exact ByteArray.ext (Array.eq_empty_of_size_eq_zero h)

theorem parseE_eq {s : ByteArray} (h : ¬ s = ⟨#[]⟩) : parseE s = if cutF s = true ∧ isSp (cutA s) = false ∧ isNm (cutA s) = false then (zeroQ, 0, 7) else if isNm (starN (pRest s)) = false then (zeroQ, slash s + 1, 7) else (⟨pLib s, starN (pRest s), starB (pRest s)⟩, 0, 0) := by rw [parseE, if_neg h]
theorem IndexByte30_good (s : ByteArray) : Ans Tryz.prog 63 [.str (s.extract 0 30), .int .u8 47] (.int .i64 (Lib.indexByte (s.extract 0 30).data.toList 47)) := IndexByte_good (s.extract 0 30) 47
abbrev PN (s : ByteArray) : Prop := Ans Tryz.prog 29 [.str s] (.tup [.agg (encQ (parseE s).1), .int .i64 (parseE s).2.1, .int .i64 (parseE s).2.2])
theorem PN_empty {s : ByteArray} (h0 : decide (s = ⟨#[]⟩) = true) : PN s := by
  unfold PN
  rw [parseE, if_pos (of_decide_eq_true h0)]
  refine good_run [] mixed Tryz.func29 rfl Tryz.ntmps29 (rs := [.cell 2 47, .tmp 3, .tmp 4]) rfl (by decide +kernel) (by kernel_rfl) rfl ?_
  rw [startE_eq 63 _ _ _ rfl rfl]
  set_option maxRecDepth 100000 in simp (maxSteps := 10000000) only [go_sem, Nat.reduceAdd, Nat.reduceSub, Nat.reduceMul, Nat.reduceLT, Nat.reduceLeDiff, Nat.reduceEqDiff, Nat.reduceMod, Nat.reduceDiv, Int.reduceNeg, Int.reduceLE, Int.reduceLT, Int.reduceToNat, Int.reduceEq, Int.reduceNe, ↓reduceIte,  h0]
set_option maxHeartbeats 8000000 in
theorem PN_early {s : ByteArray} (h0' : decide (s = ⟨#[]⟩) = false) (h1 : 30 < s.size) (h12 : Lib.indexByte (s.extract 0 30).data.toList 47 < 0) : PN s := by
  unfold PN
  rw [early h1 h12]
  have e1 : (30 : Int) < (s.size : Int) := by omega
  have e2 : (30 : Int) ≤ (s.size : Int) := by omega
  have hi := IndexByte30_good s
  generalize Lib.indexByte (s.extract 0 30).data.toList 47 = x at *
  show Ans Tryz.prog 29 [.str s] (.tup [.agg [.str ⟨#[]⟩, .str ⟨#[]⟩, .bool false], .int .i64 0, .int .i64 7])
  clear h1
  refine good_run [] mixed Tryz.func29 rfl Tryz.ntmps29 (rs := [.cell 2 47, .tmp 3, .tmp 4]) rfl (by decide +kernel) (by kernel_rfl) rfl ?_
  rw [startE_eq 63 _ _ _ rfl rfl]
  set_option maxRecDepth 100000 in simp (maxSteps := 10000000) only [go_sem, Nat.reduceAdd, Nat.reduceSub, Nat.reduceMul, Nat.reduceLT, Nat.reduceLeDiff, Nat.reduceEqDiff, Nat.reduceMod, Nat.reduceDiv, Int.reduceNeg, Int.reduceLE, Int.reduceLT, Int.reduceToNat, Int.reduceEq, Int.reduceNe, ↓reduceIte,  h0', e1, e2, decide_true]
  refine call_of hi ?_
  set_option maxRecDepth 100000 in simp (maxSteps := 10000000) only [go_sem, Nat.reduceAdd, Nat.reduceSub, Nat.reduceMul, Nat.reduceLT, Nat.reduceLeDiff, Nat.reduceEqDiff, Nat.reduceMod, Nat.reduceDiv, Int.reduceNeg, Int.reduceLE, Int.reduceLT, Int.reduceToNat, Int.reduceEq, Int.reduceNe, ↓reduceIte,  h12, decide_true]

set_option maxHeartbeats 8000000 in
theorem PN_c1 {s : ByteArray} (h : s.size ≤ 1000000) (h0' : decide (s = ⟨#[]⟩) = false) (hi2 : 30 < s.size → ¬ Lib.indexByte (s.extract 0 30).data.toList 47 < 0) (hF : cutF s = true) (k1 : isSp (cutA s) = true) (k3 : isNm (starN (cutB s)) = true) : PN s := by
  unfold PN
  have c1 := Cut_good s h
  have hi := IndexByte30_good s
  have hBs := cutB_size s
  have hsl := slash_le s
  rw [parseE_eq (of_decide_eq_false h0'), pRest, pLib]
  generalize Lib.indexByte (s.extract 0 30).data.toList 47 = x at *
  have hAs := cutA_size hF
  rw [hF] at c1
  have hAn : (cutA s).size < 9223372036854775807 := by omega
  have c2 := CutSuffix_good (cutB s) (by omega)
  have m2 := libName_good (starN (cutB s))
  have s1 := isSpecial_good (cutA s)
  have m1 := libName_good (cutA s)
  rw [if_pos hF, if_pos hF]
  generalize cutA s = A at *
  generalize cutB s = B at *
  rw [← hAs]
  rw [k1] at s1
  rw [k3] at m2
  rw [if_neg (fun q => by rw [k1] at q; cases q.2.1), if_neg (by rw [k3]; decide)]
  show Ans Tryz.prog 29 [.str s] (.tup [.agg [.str A, .str (starN B), .bool (starB B)], .int .i64 0, .int .i64 0])
  refine Classical.byCases (fun h2 : 30 < s.size => ?_) fun h2 => ?_
  · have e1 : (30 : Int) < (s.size : Int) := by omega
    have e2 : (30 : Int) ≤ (s.size : Int) := by omega
    have e3 := hi2 h2
    have _ := e1
    refine good_run [] mixed Tryz.func29 rfl Tryz.ntmps29 (rs := [.cell 2 47, .tmp 3, .tmp 4]) rfl (by decide +kernel) (by kernel_rfl) rfl ?_
    rw [startE_eq 63 _ _ _ rfl rfl]
    set_option maxRecDepth 100000 in simp (maxSteps := 10000000) only [go_sem, Nat.reduceAdd, Nat.reduceSub, Nat.reduceMul, Nat.reduceLT, Nat.reduceLeDiff, Nat.reduceEqDiff, Nat.reduceMod, Nat.reduceDiv, Int.reduceNeg, Int.reduceLE, Int.reduceLT, Int.reduceToNat, Int.reduceEq, Int.reduceNe, ↓reduceIte,  h0', e1, e2, decide_true]
    refine call_of (hi) ?_
    set_option maxRecDepth 100000 in simp (maxSteps := 10000000) only [go_sem, Nat.reduceAdd, Nat.reduceSub, Nat.reduceMul, Nat.reduceLT, Nat.reduceLeDiff, Nat.reduceEqDiff, Nat.reduceMod, Nat.reduceDiv, Int.reduceNeg, Int.reduceLE, Int.reduceLT, Int.reduceToNat, Int.reduceEq, Int.reduceNe, ↓reduceIte,  e3, decide_false]
    refine call_of (c1) ?_
    set_option maxRecDepth 100000 in simp (maxSteps := 10000000) only [go_sem, Nat.reduceAdd, Nat.reduceSub, Nat.reduceMul, Nat.reduceLT, Nat.reduceLeDiff, Nat.reduceEqDiff, Nat.reduceMod, Nat.reduceDiv, Int.reduceNeg, Int.reduceLE, Int.reduceLT, Int.reduceToNat, Int.reduceEq, Int.reduceNe, ↓reduceIte]
    refine call_of (s1) ?_
    set_option maxRecDepth 100000 in simp (maxSteps := 10000000) only [go_sem, Nat.reduceAdd, Nat.reduceSub, Nat.reduceMul, Nat.reduceLT, Nat.reduceLeDiff, Nat.reduceEqDiff, Nat.reduceMod, Nat.reduceDiv, Int.reduceNeg, Int.reduceLE, Int.reduceLT, Int.reduceToNat, Int.reduceEq, Int.reduceNe, ↓reduceIte,  Bool.not_true, wrap_succ hAn]
    refine call_of (c2) ?_
    set_option maxRecDepth 100000 in simp (maxSteps := 10000000) only [go_sem, Nat.reduceAdd, Nat.reduceSub, Nat.reduceMul, Nat.reduceLT, Nat.reduceLeDiff, Nat.reduceEqDiff, Nat.reduceMod, Nat.reduceDiv, Int.reduceNeg, Int.reduceLE, Int.reduceLT, Int.reduceToNat, Int.reduceEq, Int.reduceNe, ↓reduceIte]
    refine call_of (m2) ?_
    set_option maxRecDepth 100000 in simp (maxSteps := 10000000) only [go_sem, Nat.reduceAdd, Nat.reduceSub, Nat.reduceMul, Nat.reduceLT, Nat.reduceLeDiff, Nat.reduceEqDiff, Nat.reduceMod, Nat.reduceDiv, Int.reduceNeg, Int.reduceLE, Int.reduceLT, Int.reduceToNat, Int.reduceEq, Int.reduceNe, ↓reduceIte,  Bool.not_true]
  · have e1 : ¬ (30 : Int) < (s.size : Int) := by omega
    have _ := e1
    refine good_run [] mixed Tryz.func29 rfl Tryz.ntmps29 (rs := [.cell 2 47, .tmp 3, .tmp 4]) rfl (by decide +kernel) (by kernel_rfl) rfl ?_
    rw [startE_eq 63 _ _ _ rfl rfl]
    set_option maxRecDepth 100000 in simp (maxSteps := 10000000) only [go_sem, Nat.reduceAdd, Nat.reduceSub, Nat.reduceMul, Nat.reduceLT, Nat.reduceLeDiff, Nat.reduceEqDiff, Nat.reduceMod, Nat.reduceDiv, Int.reduceNeg, Int.reduceLE, Int.reduceLT, Int.reduceToNat, Int.reduceEq, Int.reduceNe, ↓reduceIte,  h0', e1, decide_false]
    refine call_of (c1) ?_
    set_option maxRecDepth 100000 in simp (maxSteps := 10000000) only [go_sem, Nat.reduceAdd, Nat.reduceSub, Nat.reduceMul, Nat.reduceLT, Nat.reduceLeDiff, Nat.reduceEqDiff, Nat.reduceMod, Nat.reduceDiv, Int.reduceNeg, Int.reduceLE, Int.reduceLT, Int.reduceToNat, Int.reduceEq, Int.reduceNe, ↓reduceIte]
    refine call_of (s1) ?_
    set_option maxRecDepth 100000 in simp (maxSteps := 10000000) only [go_sem, Nat.reduceAdd, Nat.reduceSub, Nat.reduceMul, Nat.reduceLT, Nat.reduceLeDiff, Nat.reduceEqDiff, Nat.reduceMod, Nat.reduceDiv, Int.reduceNeg, Int.reduceLE, Int.reduceLT, Int.reduceToNat, Int.reduceEq, Int.reduceNe, ↓reduceIte,  Bool.not_true, wrap_succ hAn]
    refine call_of (c2) ?_
    set_option maxRecDepth 100000 in simp (maxSteps := 10000000) only [go_sem, Nat.reduceAdd, Nat.reduceSub, Nat.reduceMul, Nat.reduceLT, Nat.reduceLeDiff, Nat.reduceEqDiff, Nat.reduceMod, Nat.reduceDiv, Int.reduceNeg, Int.reduceLE, Int.reduceLT, Int.reduceToNat, Int.reduceEq, Int.reduceNe, ↓reduceIte]
    refine call_of (m2) ?_
    set_option maxRecDepth 100000 in simp (maxSteps := 10000000) only [go_sem, Nat.reduceAdd, Nat.reduceSub, Nat.reduceMul, Nat.reduceLT, Nat.reduceLeDiff, Nat.reduceEqDiff, Nat.reduceMod, Nat.reduceDiv, Int.reduceNeg, Int.reduceLE, Int.reduceLT, Int.reduceToNat, Int.reduceEq, Int.reduceNe, ↓reduceIte,  Bool.not_true]

set_option maxHeartbeats 8000000 in
theorem PN_c2 {s : ByteArray} (h : s.size ≤ 1000000) (h0' : decide (s = ⟨#[]⟩) = false) (hi2 : 30 < s.size → ¬ Lib.indexByte (s.extract 0 30).data.toList 47 < 0) (hF : cutF s = true) (k1 : isSp (cutA s) = true) (k3 : isNm (starN (cutB s)) = false) : PN s := by
  unfold PN
  have c1 := Cut_good s h
  have hi := IndexByte30_good s
  have hBs := cutB_size s
  have hsl := slash_le s
  rw [parseE_eq (of_decide_eq_false h0'), pRest, pLib]
  generalize Lib.indexByte (s.extract 0 30).data.toList 47 = x at *
  have hAs := cutA_size hF
  rw [hF] at c1
  have hAn : (cutA s).size < 9223372036854775807 := by omega
  have c2 := CutSuffix_good (cutB s) (by omega)
  have m2 := libName_good (starN (cutB s))
  have s1 := isSpecial_good (cutA s)
  have m1 := libName_good (cutA s)
  rw [if_pos hF, if_pos hF]
  generalize cutA s = A at *
  generalize cutB s = B at *
  rw [← hAs]
  rw [k1] at s1
  rw [k3] at m2
  rw [if_neg (fun q => by rw [k1] at q; cases q.2.1), if_pos k3]
  show Ans Tryz.prog 29 [.str s] (.tup [.agg [.str ⟨#[]⟩, .str ⟨#[]⟩, .bool false], .int .i64 ((A.size : Int) + 1), .int .i64 7])
  refine Classical.byCases (fun h2 : 30 < s.size => ?_) fun h2 => ?_
  · have e1 : (30 : Int) < (s.size : Int) := by omega
    have e2 : (30 : Int) ≤ (s.size : Int) := by omega
    have e3 := hi2 h2
    have _ := e1
    refine good_run [] mixed Tryz.func29 rfl Tryz.ntmps29 (rs := [.cell 2 47, .tmp 3, .tmp 4]) rfl (by decide +kernel) (by kernel_rfl) rfl ?_
    rw [startE_eq 63 _ _ _ rfl rfl]
    set_option maxRecDepth 100000 in simp (maxSteps := 10000000) only [go_sem, Nat.reduceAdd, Nat.reduceSub, Nat.reduceMul, Nat.reduceLT, Nat.reduceLeDiff, Nat.reduceEqDiff, Nat.reduceMod, Nat.reduceDiv, Int.reduceNeg, Int.reduceLE, Int.reduceLT, Int.reduceToNat, Int.reduceEq, Int.reduceNe, ↓reduceIte,  h0', e1, e2, decide_true]
    refine call_of (hi) ?_
    set_option maxRecDepth 100000 in simp (maxSteps := 10000000) only [go_sem, Nat.reduceAdd, Nat.reduceSub, Nat.reduceMul, Nat.reduceLT, Nat.reduceLeDiff, Nat.reduceEqDiff, Nat.reduceMod, Nat.reduceDiv, Int.reduceNeg, Int.reduceLE, Int.reduceLT, Int.reduceToNat, Int.reduceEq, Int.reduceNe, ↓reduceIte,  e3, decide_false]
    refine call_of (c1) ?_
    set_option maxRecDepth 100000 in simp (maxSteps := 10000000) only [go_sem, Nat.reduceAdd, Nat.reduceSub, Nat.reduceMul, Nat.reduceLT, Nat.reduceLeDiff, Nat.reduceEqDiff, Nat.reduceMod, Nat.reduceDiv, Int.reduceNeg, Int.reduceLE, Int.reduceLT, Int.reduceToNat, Int.reduceEq, Int.reduceNe, ↓reduceIte]
    refine call_of (s1) ?_
    set_option maxRecDepth 100000 in simp (maxSteps := 10000000) only [go_sem, Nat.reduceAdd, Nat.reduceSub, Nat.reduceMul, Nat.reduceLT, Nat.reduceLeDiff, Nat.reduceEqDiff, Nat.reduceMod, Nat.reduceDiv, Int.reduceNeg, Int.reduceLE, Int.reduceLT, Int.reduceToNat, Int.reduceEq, Int.reduceNe, ↓reduceIte,  Bool.not_true, wrap_succ hAn]
    refine call_of (c2) ?_
    set_option maxRecDepth 100000 in simp (maxSteps := 10000000) only [go_sem, Nat.reduceAdd, Nat.reduceSub, Nat.reduceMul, Nat.reduceLT, Nat.reduceLeDiff, Nat.reduceEqDiff, Nat.reduceMod, Nat.reduceDiv, Int.reduceNeg, Int.reduceLE, Int.reduceLT, Int.reduceToNat, Int.reduceEq, Int.reduceNe, ↓reduceIte]
    refine call_of (m2) ?_
    set_option maxRecDepth 100000 in simp (maxSteps := 10000000) only [go_sem, Nat.reduceAdd, Nat.reduceSub, Nat.reduceMul, Nat.reduceLT, Nat.reduceLeDiff, Nat.reduceEqDiff, Nat.reduceMod, Nat.reduceDiv, Int.reduceNeg, Int.reduceLE, Int.reduceLT, Int.reduceToNat, Int.reduceEq, Int.reduceNe, ↓reduceIte,  Bool.not_false]
    omega
  · have e1 : ¬ (30 : Int) < (s.size : Int) := by omega
    have _ := e1
    refine good_run [] mixed Tryz.func29 rfl Tryz.ntmps29 (rs := [.cell 2 47, .tmp 3, .tmp 4]) rfl (by decide +kernel) (by kernel_rfl) rfl ?_
    rw [startE_eq 63 _ _ _ rfl rfl]
    set_option maxRecDepth 100000 in simp (maxSteps := 10000000) only [go_sem, Nat.reduceAdd, Nat.reduceSub, Nat.reduceMul, Nat.reduceLT, Nat.reduceLeDiff, Nat.reduceEqDiff, Nat.reduceMod, Nat.reduceDiv, Int.reduceNeg, Int.reduceLE, Int.reduceLT, Int.reduceToNat, Int.reduceEq, Int.reduceNe, ↓reduceIte,  h0', e1, decide_false]
    refine call_of (c1) ?_
    set_option maxRecDepth 100000 in simp (maxSteps := 10000000) only [go_sem, Nat.reduceAdd, Nat.reduceSub, Nat.reduceMul, Nat.reduceLT, Nat.reduceLeDiff, Nat.reduceEqDiff, Nat.reduceMod, Nat.reduceDiv, Int.reduceNeg, Int.reduceLE, Int.reduceLT, Int.reduceToNat, Int.reduceEq, Int.reduceNe, ↓reduceIte]
    refine call_of (s1) ?_
    set_option maxRecDepth 100000 in simp (maxSteps := 10000000) only [go_sem, Nat.reduceAdd, Nat.reduceSub, Nat.reduceMul, Nat.reduceLT, Nat.reduceLeDiff, Nat.reduceEqDiff, Nat.reduceMod, Nat.reduceDiv, Int.reduceNeg, Int.reduceLE, Int.reduceLT, Int.reduceToNat, Int.reduceEq, Int.reduceNe, ↓reduceIte,  Bool.not_true, wrap_succ hAn]
    refine call_of (c2) ?_
    set_option maxRecDepth 100000 in simp (maxSteps := 10000000) only [go_sem, Nat.reduceAdd, Nat.reduceSub, Nat.reduceMul, Nat.reduceLT, Nat.reduceLeDiff, Nat.reduceEqDiff, Nat.reduceMod, Nat.reduceDiv, Int.reduceNeg, Int.reduceLE, Int.reduceLT, Int.reduceToNat, Int.reduceEq, Int.reduceNe, ↓reduceIte]
    refine call_of (m2) ?_
    set_option maxRecDepth 100000 in simp (maxSteps := 10000000) only [go_sem, Nat.reduceAdd, Nat.reduceSub, Nat.reduceMul, Nat.reduceLT, Nat.reduceLeDiff, Nat.reduceEqDiff, Nat.reduceMod, Nat.reduceDiv, Int.reduceNeg, Int.reduceLE, Int.reduceLT, Int.reduceToNat, Int.reduceEq, Int.reduceNe, ↓reduceIte,  Bool.not_false]
    omega

set_option maxHeartbeats 8000000 in
theorem PN_c3 {s : ByteArray} (h : s.size ≤ 1000000) (h0' : decide (s = ⟨#[]⟩) = false) (hi2 : 30 < s.size → ¬ Lib.indexByte (s.extract 0 30).data.toList 47 < 0) (hF : cutF s = true) (k1 : isSp (cutA s) = false) (k2 : isNm (cutA s) = true) (k3 : isNm (starN (cutB s)) = true) : PN s := by
  unfold PN
  have c1 := Cut_good s h
  have hi := IndexByte30_good s
  have hBs := cutB_size s
  have hsl := slash_le s
  rw [parseE_eq (of_decide_eq_false h0'), pRest, pLib]
  generalize Lib.indexByte (s.extract 0 30).data.toList 47 = x at *
  have hAs := cutA_size hF
  rw [hF] at c1
  have hAn : (cutA s).size < 9223372036854775807 := by omega
  have c2 := CutSuffix_good (cutB s) (by omega)
  have m2 := libName_good (starN (cutB s))
  have s1 := isSpecial_good (cutA s)
  have m1 := libName_good (cutA s)
  rw [if_pos hF, if_pos hF]
  generalize cutA s = A at *
  generalize cutB s = B at *
  rw [← hAs]
  rw [k1] at s1
  rw [k2] at m1
  rw [k3] at m2
  rw [if_neg (fun q => by rw [k2] at q; cases q.2.2), if_neg (by rw [k3]; decide)]
  show Ans Tryz.prog 29 [.str s] (.tup [.agg [.str A, .str (starN B), .bool (starB B)], .int .i64 0, .int .i64 0])
  refine Classical.byCases (fun h2 : 30 < s.size => ?_) fun h2 => ?_
  · have e1 : (30 : Int) < (s.size : Int) := by omega
    have e2 : (30 : Int) ≤ (s.size : Int) := by omega
    have e3 := hi2 h2
    have _ := e1
    refine good_run [] mixed Tryz.func29 rfl Tryz.ntmps29 (rs := [.cell 2 47, .tmp 3, .tmp 4]) rfl (by decide +kernel) (by kernel_rfl) rfl ?_
    rw [startE_eq 63 _ _ _ rfl rfl]
    set_option maxRecDepth 100000 in simp (maxSteps := 10000000) only [go_sem, Nat.reduceAdd, Nat.reduceSub, Nat.reduceMul, Nat.reduceLT, Nat.reduceLeDiff, Nat.reduceEqDiff, Nat.reduceMod, Nat.reduceDiv, Int.reduceNeg, Int.reduceLE, Int.reduceLT, Int.reduceToNat, Int.reduceEq, Int.reduceNe, ↓reduceIte,  h0', e1, e2, decide_true]
    refine call_of (hi) ?_
    set_option maxRecDepth 100000 in simp (maxSteps := 10000000) only [go_sem, Nat.reduceAdd, Nat.reduceSub, Nat.reduceMul, Nat.reduceLT, Nat.reduceLeDiff, Nat.reduceEqDiff, Nat.reduceMod, Nat.reduceDiv, Int.reduceNeg, Int.reduceLE, Int.reduceLT, Int.reduceToNat, Int.reduceEq, Int.reduceNe, ↓reduceIte,  e3, decide_false]
    refine call_of (c1) ?_
    set_option maxRecDepth 100000 in simp (maxSteps := 10000000) only [go_sem, Nat.reduceAdd, Nat.reduceSub, Nat.reduceMul, Nat.reduceLT, Nat.reduceLeDiff, Nat.reduceEqDiff, Nat.reduceMod, Nat.reduceDiv, Int.reduceNeg, Int.reduceLE, Int.reduceLT, Int.reduceToNat, Int.reduceEq, Int.reduceNe, ↓reduceIte]
    refine call_of (s1) ?_
    set_option maxRecDepth 100000 in simp (maxSteps := 10000000) only [go_sem, Nat.reduceAdd, Nat.reduceSub, Nat.reduceMul, Nat.reduceLT, Nat.reduceLeDiff, Nat.reduceEqDiff, Nat.reduceMod, Nat.reduceDiv, Int.reduceNeg, Int.reduceLE, Int.reduceLT, Int.reduceToNat, Int.reduceEq, Int.reduceNe, ↓reduceIte,  Bool.not_false]
    refine call_of (m1) ?_
    set_option maxRecDepth 100000 in simp (maxSteps := 10000000) only [go_sem, Nat.reduceAdd, Nat.reduceSub, Nat.reduceMul, Nat.reduceLT, Nat.reduceLeDiff, Nat.reduceEqDiff, Nat.reduceMod, Nat.reduceDiv, Int.reduceNeg, Int.reduceLE, Int.reduceLT, Int.reduceToNat, Int.reduceEq, Int.reduceNe, ↓reduceIte,  Bool.not_true, wrap_succ hAn]
    refine call_of (c2) ?_
    set_option maxRecDepth 100000 in simp (maxSteps := 10000000) only [go_sem, Nat.reduceAdd, Nat.reduceSub, Nat.reduceMul, Nat.reduceLT, Nat.reduceLeDiff, Nat.reduceEqDiff, Nat.reduceMod, Nat.reduceDiv, Int.reduceNeg, Int.reduceLE, Int.reduceLT, Int.reduceToNat, Int.reduceEq, Int.reduceNe, ↓reduceIte]
    refine call_of (m2) ?_
    set_option maxRecDepth 100000 in simp (maxSteps := 10000000) only [go_sem, Nat.reduceAdd, Nat.reduceSub, Nat.reduceMul, Nat.reduceLT, Nat.reduceLeDiff, Nat.reduceEqDiff, Nat.reduceMod, Nat.reduceDiv, Int.reduceNeg, Int.reduceLE, Int.reduceLT, Int.reduceToNat, Int.reduceEq, Int.reduceNe, ↓reduceIte,  Bool.not_true]
  · have e1 : ¬ (30 : Int) < (s.size : Int) := by omega
    have _ := e1
    refine good_run [] mixed Tryz.func29 rfl Tryz.ntmps29 (rs := [.cell 2 47, .tmp 3, .tmp 4]) rfl (by decide +kernel) (by kernel_rfl) rfl ?_
    rw [startE_eq 63 _ _ _ rfl rfl]
    set_option maxRecDepth 100000 in simp (maxSteps := 10000000) only [go_sem, Nat.reduceAdd, Nat.reduceSub, Nat.reduceMul, Nat.reduceLT, Nat.reduceLeDiff, Nat.reduceEqDiff, Nat.reduceMod, Nat.reduceDiv, Int.reduceNeg, Int.reduceLE, Int.reduceLT, Int.reduceToNat, Int.reduceEq, Int.reduceNe, ↓reduceIte,  h0', e1, decide_false]
    refine call_of (c1) ?_
    set_option maxRecDepth 100000 in simp (maxSteps := 10000000) only [go_sem, Nat.reduceAdd, Nat.reduceSub, Nat.reduceMul, Nat.reduceLT, Nat.reduceLeDiff, Nat.reduceEqDiff, Nat.reduceMod, Nat.reduceDiv, Int.reduceNeg, Int.reduceLE, Int.reduceLT, Int.reduceToNat, Int.reduceEq, Int.reduceNe, ↓reduceIte]
    refine call_of (s1) ?_
    set_option maxRecDepth 100000 in simp (maxSteps := 10000000) only [go_sem, Nat.reduceAdd, Nat.reduceSub, Nat.reduceMul, Nat.reduceLT, Nat.reduceLeDiff, Nat.reduceEqDiff, Nat.reduceMod, Nat.reduceDiv, Int.reduceNeg, Int.reduceLE, Int.reduceLT, Int.reduceToNat, Int.reduceEq, Int.reduceNe, ↓reduceIte,  Bool.not_false]
    refine call_of (m1) ?_
    set_option maxRecDepth 100000 in simp (maxSteps := 10000000) only [go_sem, Nat.reduceAdd, Nat.reduceSub, Nat.reduceMul, Nat.reduceLT, Nat.reduceLeDiff, Nat.reduceEqDiff, Nat.reduceMod, Nat.reduceDiv, Int.reduceNeg, Int.reduceLE, Int.reduceLT, Int.reduceToNat, Int.reduceEq, Int.reduceNe, ↓reduceIte,  Bool.not_true, wrap_succ hAn]
    refine call_of (c2) ?_
    set_option maxRecDepth 100000 in simp (maxSteps := 10000000) only [go_sem, Nat.reduceAdd, Nat.reduceSub, Nat.reduceMul, Nat.reduceLT, Nat.reduceLeDiff, Nat.reduceEqDiff, Nat.reduceMod, Nat.reduceDiv, Int.reduceNeg, Int.reduceLE, Int.reduceLT, Int.reduceToNat, Int.reduceEq, Int.reduceNe, ↓reduceIte]
    refine call_of (m2) ?_
    set_option maxRecDepth 100000 in simp (maxSteps := 10000000) only [go_sem, Nat.reduceAdd, Nat.reduceSub, Nat.reduceMul, Nat.reduceLT, Nat.reduceLeDiff, Nat.reduceEqDiff, Nat.reduceMod, Nat.reduceDiv, Int.reduceNeg, Int.reduceLE, Int.reduceLT, Int.reduceToNat, Int.reduceEq, Int.reduceNe, ↓reduceIte,  Bool.not_true]

set_option maxHeartbeats 8000000 in
theorem PN_c4 {s : ByteArray} (h : s.size ≤ 1000000) (h0' : decide (s = ⟨#[]⟩) = false) (hi2 : 30 < s.size → ¬ Lib.indexByte (s.extract 0 30).data.toList 47 < 0) (hF : cutF s = true) (k1 : isSp (cutA s) = false) (k2 : isNm (cutA s) = true) (k3 : isNm (starN (cutB s)) = false) : PN s := by
  unfold PN
  have c1 := Cut_good s h
  have hi := IndexByte30_good s
  have hBs := cutB_size s
  have hsl := slash_le s
  rw [parseE_eq (of_decide_eq_false h0'), pRest, pLib]
  generalize Lib.indexByte (s.extract 0 30).data.toList 47 = x at *
  have hAs := cutA_size hF
  rw [hF] at c1
  have hAn : (cutA s).size < 9223372036854775807 := by omega
  have c2 := CutSuffix_good (cutB s) (by omega)
  have m2 := libName_good (starN (cutB s))
  have s1 := isSpecial_good (cutA s)
  have m1 := libName_good (cutA s)
  rw [if_pos hF, if_pos hF]
  generalize cutA s = A at *
  generalize cutB s = B at *
  rw [← hAs]
  rw [k1] at s1
  rw [k2] at m1
  rw [k3] at m2
  rw [if_neg (fun q => by rw [k2] at q; cases q.2.2), if_pos k3]
  show Ans Tryz.prog 29 [.str s] (.tup [.agg [.str ⟨#[]⟩, .str ⟨#[]⟩, .bool false], .int .i64 ((A.size : Int) + 1), .int .i64 7])
  refine Classical.byCases (fun h2 : 30 < s.size => ?_) fun h2 => ?_
  · have e1 : (30 : Int) < (s.size : Int) := by omega
    have e2 : (30 : Int) ≤ (s.size : Int) := by omega
    have e3 := hi2 h2
    have _ := e1
    refine good_run [] mixed Tryz.func29 rfl Tryz.ntmps29 (rs := [.cell 2 47, .tmp 3, .tmp 4]) rfl (by decide +kernel) (by kernel_rfl) rfl ?_
    rw [startE_eq 63 _ _ _ rfl rfl]
    set_option maxRecDepth 100000 in simp (maxSteps := 10000000) only [go_sem, Nat.reduceAdd, Nat.reduceSub, Nat.reduceMul, Nat.reduceLT, Nat.reduceLeDiff, Nat.reduceEqDiff, Nat.reduceMod, Nat.reduceDiv, Int.reduceNeg, Int.reduceLE, Int.reduceLT, Int.reduceToNat, Int.reduceEq, Int.reduceNe, ↓reduceIte,  h0', e1, e2, decide_true]
    refine call_of (hi) ?_
    set_option maxRecDepth 100000 in simp (maxSteps := 10000000) only [go_sem, Nat.reduceAdd, Nat.reduceSub, Nat.reduceMul, Nat.reduceLT, Nat.reduceLeDiff, Nat.reduceEqDiff, Nat.reduceMod, Nat.reduceDiv, Int.reduceNeg, Int.reduceLE, Int.reduceLT, Int.reduceToNat, Int.reduceEq, Int.reduceNe, ↓reduceIte,  e3, decide_false]
    refine call_of (c1) ?_
    set_option maxRecDepth 100000 in simp (maxSteps := 10000000) only [go_sem, Nat.reduceAdd, Nat.reduceSub, Nat.reduceMul, Nat.reduceLT, Nat.reduceLeDiff, Nat.reduceEqDiff, Nat.reduceMod, Nat.reduceDiv, Int.reduceNeg, Int.reduceLE, Int.reduceLT, Int.reduceToNat, Int.reduceEq, Int.reduceNe, ↓reduceIte]
    refine call_of (s1) ?_
    set_option maxRecDepth 100000 in simp (maxSteps := 10000000) only [go_sem, Nat.reduceAdd, Nat.reduceSub, Nat.reduceMul, Nat.reduceLT, Nat.reduceLeDiff, Nat.reduceEqDiff, Nat.reduceMod, Nat.reduceDiv, Int.reduceNeg, Int.reduceLE, Int.reduceLT, Int.reduceToNat, Int.reduceEq, Int.reduceNe, ↓reduceIte,  Bool.not_false]
    refine call_of (m1) ?_
    set_option maxRecDepth 100000 in simp (maxSteps := 10000000) only [go_sem, Nat.reduceAdd, Nat.reduceSub, Nat.reduceMul, Nat.reduceLT, Nat.reduceLeDiff, Nat.reduceEqDiff, Nat.reduceMod, Nat.reduceDiv, Int.reduceNeg, Int.reduceLE, Int.reduceLT, Int.reduceToNat, Int.reduceEq, Int.reduceNe, ↓reduceIte,  Bool.not_true, wrap_succ hAn]
    refine call_of (c2) ?_
    set_option maxRecDepth 100000 in simp (maxSteps := 10000000) only [go_sem, Nat.reduceAdd, Nat.reduceSub, Nat.reduceMul, Nat.reduceLT, Nat.reduceLeDiff, Nat.reduceEqDiff, Nat.reduceMod, Nat.reduceDiv, Int.reduceNeg, Int.reduceLE, Int.reduceLT, Int.reduceToNat, Int.reduceEq, Int.reduceNe, ↓reduceIte]
    refine call_of (m2) ?_
    set_option maxRecDepth 100000 in simp (maxSteps := 10000000) only [go_sem, Nat.reduceAdd, Nat.reduceSub, Nat.reduceMul, Nat.reduceLT, Nat.reduceLeDiff, Nat.reduceEqDiff, Nat.reduceMod, Nat.reduceDiv, Int.reduceNeg, Int.reduceLE, Int.reduceLT, Int.reduceToNat, Int.reduceEq, Int.reduceNe, ↓reduceIte,  Bool.not_false]
    omega
  · have e1 : ¬ (30 : Int) < (s.size : Int) := by omega
    have _ := e1
    refine good_run [] mixed Tryz.func29 rfl Tryz.ntmps29 (rs := [.cell 2 47, .tmp 3, .tmp 4]) rfl (by decide +kernel) (by kernel_rfl) rfl ?_
    rw [startE_eq 63 _ _ _ rfl rfl]
    set_option maxRecDepth 100000 in simp (maxSteps := 10000000) only [go_sem, Nat.reduceAdd, Nat.reduceSub, Nat.reduceMul, Nat.reduceLT, Nat.reduceLeDiff, Nat.reduceEqDiff, Nat.reduceMod, Nat.reduceDiv, Int.reduceNeg, Int.reduceLE, Int.reduceLT, Int.reduceToNat, Int.reduceEq, Int.reduceNe, ↓reduceIte,  h0', e1, decide_false]
    refine call_of (c1) ?_
    set_option maxRecDepth 100000 in simp (maxSteps := 10000000) only [go_sem, Nat.reduceAdd, Nat.reduceSub, Nat.reduceMul, Nat.reduceLT, Nat.reduceLeDiff, Nat.reduceEqDiff, Nat.reduceMod, Nat.reduceDiv, Int.reduceNeg, Int.reduceLE, Int.reduceLT, Int.reduceToNat, Int.reduceEq, Int.reduceNe, ↓reduceIte]
    refine call_of (s1) ?_
    set_option maxRecDepth 100000 in simp (maxSteps := 10000000) only [go_sem, Nat.reduceAdd, Nat.reduceSub, Nat.reduceMul, Nat.reduceLT, Nat.reduceLeDiff, Nat.reduceEqDiff, Nat.reduceMod, Nat.reduceDiv, Int.reduceNeg, Int.reduceLE, Int.reduceLT, Int.reduceToNat, Int.reduceEq, Int.reduceNe, ↓reduceIte,  Bool.not_false]
    refine call_of (m1) ?_
    set_option maxRecDepth 100000 in simp (maxSteps := 10000000) only [go_sem, Nat.reduceAdd, Nat.reduceSub, Nat.reduceMul, Nat.reduceLT, Nat.reduceLeDiff, Nat.reduceEqDiff, Nat.reduceMod, Nat.reduceDiv, Int.reduceNeg, Int.reduceLE, Int.reduceLT, Int.reduceToNat, Int.reduceEq, Int.reduceNe, ↓reduceIte,  Bool.not_true, wrap_succ hAn]
    refine call_of (c2) ?_
    set_option maxRecDepth 100000 in simp (maxSteps := 10000000) only [go_sem, Nat.reduceAdd, Nat.reduceSub, Nat.reduceMul, Nat.reduceLT, Nat.reduceLeDiff, Nat.reduceEqDiff, Nat.reduceMod, Nat.reduceDiv, Int.reduceNeg, Int.reduceLE, Int.reduceLT, Int.reduceToNat, Int.reduceEq, Int.reduceNe, ↓reduceIte]
    refine call_of (m2) ?_
    set_option maxRecDepth 100000 in simp (maxSteps := 10000000) only [go_sem, Nat.reduceAdd, Nat.reduceSub, Nat.reduceMul, Nat.reduceLT, Nat.reduceLeDiff, Nat.reduceEqDiff, Nat.reduceMod, Nat.reduceDiv, Int.reduceNeg, Int.reduceLE, Int.reduceLT, Int.reduceToNat, Int.reduceEq, Int.reduceNe, ↓reduceIte,  Bool.not_false]
    omega

set_option maxHeartbeats 8000000 in
theorem PN_c5 {s : ByteArray} (h : s.size ≤ 1000000) (h0' : decide (s = ⟨#[]⟩) = false) (hi2 : 30 < s.size → ¬ Lib.indexByte (s.extract 0 30).data.toList 47 < 0) (hF : cutF s = true) (k1 : isSp (cutA s) = false) (k2 : isNm (cutA s) = false) : PN s := by
  unfold PN
  have c1 := Cut_good s h
  have hi := IndexByte30_good s
  have hBs := cutB_size s
  have hsl := slash_le s
  rw [parseE_eq (of_decide_eq_false h0'), pRest, pLib]
  generalize Lib.indexByte (s.extract 0 30).data.toList 47 = x at *
  have hAs := cutA_size hF
  rw [hF] at c1
  have hAn : (cutA s).size < 9223372036854775807 := by omega
  have c2 := CutSuffix_good (cutB s) (by omega)
  have m2 := libName_good (starN (cutB s))
  have s1 := isSpecial_good (cutA s)
  have m1 := libName_good (cutA s)
  rw [if_pos hF, if_pos hF]
  generalize cutA s = A at *
  generalize cutB s = B at *
  rw [← hAs]
  rw [k1] at s1
  rw [k2] at m1
  rw [if_pos ⟨hF, k1, k2⟩]
  show Ans Tryz.prog 29 [.str s] (.tup [.agg [.str ⟨#[]⟩, .str ⟨#[]⟩, .bool false], .int .i64 0, .int .i64 7])
  refine Classical.byCases (fun h2 : 30 < s.size => ?_) fun h2 => ?_
  · have e1 : (30 : Int) < (s.size : Int) := by omega
    have e2 : (30 : Int) ≤ (s.size : Int) := by omega
    have e3 := hi2 h2
    have _ := e1
    refine good_run [] mixed Tryz.func29 rfl Tryz.ntmps29 (rs := [.cell 2 47, .tmp 3, .tmp 4]) rfl (by decide +kernel) (by kernel_rfl) rfl ?_
    rw [startE_eq 63 _ _ _ rfl rfl]
    set_option maxRecDepth 100000 in simp (maxSteps := 10000000) only [go_sem, Nat.reduceAdd, Nat.reduceSub, Nat.reduceMul, Nat.reduceLT, Nat.reduceLeDiff, Nat.reduceEqDiff, Nat.reduceMod, Nat.reduceDiv, Int.reduceNeg, Int.reduceLE, Int.reduceLT, Int.reduceToNat, Int.reduceEq, Int.reduceNe, ↓reduceIte,  h0', e1, e2, decide_true]
    refine call_of (hi) ?_
    set_option maxRecDepth 100000 in simp (maxSteps := 10000000) only [go_sem, Nat.reduceAdd, Nat.reduceSub, Nat.reduceMul, Nat.reduceLT, Nat.reduceLeDiff, Nat.reduceEqDiff, Nat.reduceMod, Nat.reduceDiv, Int.reduceNeg, Int.reduceLE, Int.reduceLT, Int.reduceToNat, Int.reduceEq, Int.reduceNe, ↓reduceIte,  e3, decide_false]
    refine call_of (c1) ?_
    set_option maxRecDepth 100000 in simp (maxSteps := 10000000) only [go_sem, Nat.reduceAdd, Nat.reduceSub, Nat.reduceMul, Nat.reduceLT, Nat.reduceLeDiff, Nat.reduceEqDiff, Nat.reduceMod, Nat.reduceDiv, Int.reduceNeg, Int.reduceLE, Int.reduceLT, Int.reduceToNat, Int.reduceEq, Int.reduceNe, ↓reduceIte]
    refine call_of (s1) ?_
    set_option maxRecDepth 100000 in simp (maxSteps := 10000000) only [go_sem, Nat.reduceAdd, Nat.reduceSub, Nat.reduceMul, Nat.reduceLT, Nat.reduceLeDiff, Nat.reduceEqDiff, Nat.reduceMod, Nat.reduceDiv, Int.reduceNeg, Int.reduceLE, Int.reduceLT, Int.reduceToNat, Int.reduceEq, Int.reduceNe, ↓reduceIte,  Bool.not_false]
    refine call_of (m1) ?_
    set_option maxRecDepth 100000 in simp (maxSteps := 10000000) only [go_sem, Nat.reduceAdd, Nat.reduceSub, Nat.reduceMul, Nat.reduceLT, Nat.reduceLeDiff, Nat.reduceEqDiff, Nat.reduceMod, Nat.reduceDiv, Int.reduceNeg, Int.reduceLE, Int.reduceLT, Int.reduceToNat, Int.reduceEq, Int.reduceNe, ↓reduceIte,  Bool.not_false]
  · have e1 : ¬ (30 : Int) < (s.size : Int) := by omega
    have _ := e1
    refine good_run [] mixed Tryz.func29 rfl Tryz.ntmps29 (rs := [.cell 2 47, .tmp 3, .tmp 4]) rfl (by decide +kernel) (by kernel_rfl) rfl ?_
    rw [startE_eq 63 _ _ _ rfl rfl]
    set_option maxRecDepth 100000 in simp (maxSteps := 10000000) only [go_sem, Nat.reduceAdd, Nat.reduceSub, Nat.reduceMul, Nat.reduceLT, Nat.reduceLeDiff, Nat.reduceEqDiff, Nat.reduceMod, Nat.reduceDiv, Int.reduceNeg, Int.reduceLE, Int.reduceLT, Int.reduceToNat, Int.reduceEq, Int.reduceNe, ↓reduceIte,  h0', e1, decide_false]
    refine call_of (c1) ?_
    set_option maxRecDepth 100000 in simp (maxSteps := 10000000) only [go_sem, Nat.reduceAdd, Nat.reduceSub, Nat.reduceMul, Nat.reduceLT, Nat.reduceLeDiff, Nat.reduceEqDiff, Nat.reduceMod, Nat.reduceDiv, Int.reduceNeg, Int.reduceLE, Int.reduceLT, Int.reduceToNat, Int.reduceEq, Int.reduceNe, ↓reduceIte]
    refine call_of (s1) ?_
    set_option maxRecDepth 100000 in simp (maxSteps := 10000000) only [go_sem, Nat.reduceAdd, Nat.reduceSub, Nat.reduceMul, Nat.reduceLT, Nat.reduceLeDiff, Nat.reduceEqDiff, Nat.reduceMod, Nat.reduceDiv, Int.reduceNeg, Int.reduceLE, Int.reduceLT, Int.reduceToNat, Int.reduceEq, Int.reduceNe, ↓reduceIte,  Bool.not_false]
    refine call_of (m1) ?_
    set_option maxRecDepth 100000 in simp (maxSteps := 10000000) only [go_sem, Nat.reduceAdd, Nat.reduceSub, Nat.reduceMul, Nat.reduceLT, Nat.reduceLeDiff, Nat.reduceEqDiff, Nat.reduceMod, Nat.reduceDiv, Int.reduceNeg, Int.reduceLE, Int.reduceLT, Int.reduceToNat, Int.reduceEq, Int.reduceNe, ↓reduceIte,  Bool.not_false]
theorem PN_cut {s : ByteArray} (h : s.size ≤ 1000000) (h0' : decide (s = ⟨#[]⟩) = false) (hi2 : 30 < s.size → ¬ Lib.indexByte (s.extract 0 30).data.toList 47 < 0) (hF : cutF s = true) : PN s := by
  by_cases k1 : isSp (cutA s) = true
  · by_cases k3 : isNm (starN (cutB s)) = true
    · exact PN_c1 h h0' hi2 hF k1 k3
    · exact PN_c2 h h0' hi2 hF k1 (Bool.eq_false_iff.2 k3)
  · by_cases k2 : isNm (cutA s) = true
    · by_cases k3 : isNm (starN (cutB s)) = true
      · exact PN_c3 h h0' hi2 hF (Bool.eq_false_iff.2 k1) k2 k3
      · exact PN_c4 h h0' hi2 hF (Bool.eq_false_iff.2 k1) k2 (Bool.eq_false_iff.2 k3)
    · exact PN_c5 h h0' hi2 hF (Bool.eq_false_iff.2 k1) (Bool.eq_false_iff.2 k2)

set_option maxHeartbeats 8000000 in
theorem PN_none {s : ByteArray} (h : s.size ≤ 1000000) (h0' : decide (s = ⟨#[]⟩) = false) (hi2 : 30 < s.size → ¬ Lib.indexByte (s.extract 0 30).data.toList 47 < 0) (hF : cutF s = false) : PN s := by
  unfold PN
  have c1 := Cut_good s h
  have hi := IndexByte30_good s
  have hBs := cutB_size s
  have hsl := slash_le s
  rw [parseE_eq (of_decide_eq_false h0'), pRest, pLib]
  generalize Lib.indexByte (s.extract 0 30).data.toList 47 = x at *
  · rw [hF] at c1
    have c2 := CutSuffix_good s h
    have m2 := libName_good (starN s)
    have hz : slash s = -1 := by have := of_decide_eq_false hF; omega
    have hFn : ¬ cutF s = true := by rw [hF]; decide
    rw [if_neg (show ¬ (cutF s = true ∧ isSp (cutA s) = false ∧ isNm (cutA s) = false) from fun q => hFn q.1), if_neg hFn, if_neg hFn, hz]
    have hcA : cutA s = s := by rw [cutA, if_neg (by omega)]
    refine Classical.byCases (fun k3 : isNm (starN s) = true => ?_) fun k3 => ?_
    · rw [k3] at m2
      rw [if_neg (by rw [k3]; decide)]
      show Ans Tryz.prog 29 [.str s] (.tup [.agg [.str ⟨#[]⟩, .str (starN s), .bool (starB s)], .int .i64 0, .int .i64 0])
      refine Classical.byCases (fun h2 : 30 < s.size => ?_) fun h2 => ?_
      · have e1 : (30 : Int) < (s.size : Int) := by omega
        have e2 : (30 : Int) ≤ (s.size : Int) := by omega
        have e3 := hi2 h2
        have _ := e1
        refine good_run [] mixed Tryz.func29 rfl Tryz.ntmps29 (rs := [.cell 2 47, .tmp 3, .tmp 4]) rfl (by decide +kernel) (by kernel_rfl) rfl ?_
        rw [startE_eq 63 _ _ _ rfl rfl]
        set_option maxRecDepth 100000 in simp (maxSteps := 10000000) only [go_sem, Nat.reduceAdd, Nat.reduceSub, Nat.reduceMul, Nat.reduceLT, Nat.reduceLeDiff, Nat.reduceEqDiff, Nat.reduceMod, Nat.reduceDiv, Int.reduceNeg, Int.reduceLE, Int.reduceLT, Int.reduceToNat, Int.reduceEq, Int.reduceNe, ↓reduceIte,  h0', e1, e2, decide_true]
        refine call_of (hi) ?_
        set_option maxRecDepth 100000 in simp (maxSteps := 10000000) only [go_sem, Nat.reduceAdd, Nat.reduceSub, Nat.reduceMul, Nat.reduceLT, Nat.reduceLeDiff, Nat.reduceEqDiff, Nat.reduceMod, Nat.reduceDiv, Int.reduceNeg, Int.reduceLE, Int.reduceLT, Int.reduceToNat, Int.reduceEq, Int.reduceNe, ↓reduceIte,  e3, decide_false]
        refine call_of (c1) ?_
        set_option maxRecDepth 100000 in simp (maxSteps := 10000000) only [go_sem, Nat.reduceAdd, Nat.reduceSub, Nat.reduceMul, Nat.reduceLT, Nat.reduceLeDiff, Nat.reduceEqDiff, Nat.reduceMod, Nat.reduceDiv, Int.reduceNeg, Int.reduceLE, Int.reduceLT, Int.reduceToNat, Int.reduceEq, Int.reduceNe, ↓reduceIte]
        refine call_of (c2) ?_
        set_option maxRecDepth 100000 in simp (maxSteps := 10000000) only [go_sem, Nat.reduceAdd, Nat.reduceSub, Nat.reduceMul, Nat.reduceLT, Nat.reduceLeDiff, Nat.reduceEqDiff, Nat.reduceMod, Nat.reduceDiv, Int.reduceNeg, Int.reduceLE, Int.reduceLT, Int.reduceToNat, Int.reduceEq, Int.reduceNe, ↓reduceIte]
        refine call_of (m2) ?_
        set_option maxRecDepth 100000 in simp (maxSteps := 10000000) only [go_sem, Nat.reduceAdd, Nat.reduceSub, Nat.reduceMul, Nat.reduceLT, Nat.reduceLeDiff, Nat.reduceEqDiff, Nat.reduceMod, Nat.reduceDiv, Int.reduceNeg, Int.reduceLE, Int.reduceLT, Int.reduceToNat, Int.reduceEq, Int.reduceNe, ↓reduceIte,  Bool.not_true]
      · have e1 : ¬ (30 : Int) < (s.size : Int) := by omega
        have _ := e1
        refine good_run [] mixed Tryz.func29 rfl Tryz.ntmps29 (rs := [.cell 2 47, .tmp 3, .tmp 4]) rfl (by decide +kernel) (by kernel_rfl) rfl ?_
        rw [startE_eq 63 _ _ _ rfl rfl]
        set_option maxRecDepth 100000 in simp (maxSteps := 10000000) only [go_sem, Nat.reduceAdd, Nat.reduceSub, Nat.reduceMul, Nat.reduceLT, Nat.reduceLeDiff, Nat.reduceEqDiff, Nat.reduceMod, Nat.reduceDiv, Int.reduceNeg, Int.reduceLE, Int.reduceLT, Int.reduceToNat, Int.reduceEq, Int.reduceNe, ↓reduceIte,  h0', e1, decide_false]
        refine call_of (c1) ?_
        set_option maxRecDepth 100000 in simp (maxSteps := 10000000) only [go_sem, Nat.reduceAdd, Nat.reduceSub, Nat.reduceMul, Nat.reduceLT, Nat.reduceLeDiff, Nat.reduceEqDiff, Nat.reduceMod, Nat.reduceDiv, Int.reduceNeg, Int.reduceLE, Int.reduceLT, Int.reduceToNat, Int.reduceEq, Int.reduceNe, ↓reduceIte]
        refine call_of (c2) ?_
        set_option maxRecDepth 100000 in simp (maxSteps := 10000000) only [go_sem, Nat.reduceAdd, Nat.reduceSub, Nat.reduceMul, Nat.reduceLT, Nat.reduceLeDiff, Nat.reduceEqDiff, Nat.reduceMod, Nat.reduceDiv, Int.reduceNeg, Int.reduceLE, Int.reduceLT, Int.reduceToNat, Int.reduceEq, Int.reduceNe, ↓reduceIte]
        refine call_of (m2) ?_
        set_option maxRecDepth 100000 in simp (maxSteps := 10000000) only [go_sem, Nat.reduceAdd, Nat.reduceSub, Nat.reduceMul, Nat.reduceLT, Nat.reduceLeDiff, Nat.reduceEqDiff, Nat.reduceMod, Nat.reduceDiv, Int.reduceNeg, Int.reduceLE, Int.reduceLT, Int.reduceToNat, Int.reduceEq, Int.reduceNe, ↓reduceIte,  Bool.not_true]
    · rw [Bool.eq_false_iff.2 k3] at m2
      rw [if_pos (Bool.eq_false_iff.2 k3)]
      show Ans Tryz.prog 29 [.str s] (.tup [.agg [.str ⟨#[]⟩, .str ⟨#[]⟩, .bool false], .int .i64 0, .int .i64 7])
      refine Classical.byCases (fun h2 : 30 < s.size => ?_) fun h2 => ?_
      · have e1 : (30 : Int) < (s.size : Int) := by omega
        have e2 : (30 : Int) ≤ (s.size : Int) := by omega
        have e3 := hi2 h2
        have _ := e1
        refine good_run [] mixed Tryz.func29 rfl Tryz.ntmps29 (rs := [.cell 2 47, .tmp 3, .tmp 4]) rfl (by decide +kernel) (by kernel_rfl) rfl ?_
        rw [startE_eq 63 _ _ _ rfl rfl]
        set_option maxRecDepth 100000 in simp (maxSteps := 10000000) only [go_sem, Nat.reduceAdd, Nat.reduceSub, Nat.reduceMul, Nat.reduceLT, Nat.reduceLeDiff, Nat.reduceEqDiff, Nat.reduceMod, Nat.reduceDiv, Int.reduceNeg, Int.reduceLE, Int.reduceLT, Int.reduceToNat, Int.reduceEq, Int.reduceNe, ↓reduceIte,  h0', e1, e2, decide_true]
        refine call_of (hi) ?_
        set_option maxRecDepth 100000 in simp (maxSteps := 10000000) only [go_sem, Nat.reduceAdd, Nat.reduceSub, Nat.reduceMul, Nat.reduceLT, Nat.reduceLeDiff, Nat.reduceEqDiff, Nat.reduceMod, Nat.reduceDiv, Int.reduceNeg, Int.reduceLE, Int.reduceLT, Int.reduceToNat, Int.reduceEq, Int.reduceNe, ↓reduceIte,  e3, decide_false]
        refine call_of (c1) ?_
        set_option maxRecDepth 100000 in simp (maxSteps := 10000000) only [go_sem, Nat.reduceAdd, Nat.reduceSub, Nat.reduceMul, Nat.reduceLT, Nat.reduceLeDiff, Nat.reduceEqDiff, Nat.reduceMod, Nat.reduceDiv, Int.reduceNeg, Int.reduceLE, Int.reduceLT, Int.reduceToNat, Int.reduceEq, Int.reduceNe, ↓reduceIte]
        refine call_of (c2) ?_
        set_option maxRecDepth 100000 in simp (maxSteps := 10000000) only [go_sem, Nat.reduceAdd, Nat.reduceSub, Nat.reduceMul, Nat.reduceLT, Nat.reduceLeDiff, Nat.reduceEqDiff, Nat.reduceMod, Nat.reduceDiv, Int.reduceNeg, Int.reduceLE, Int.reduceLT, Int.reduceToNat, Int.reduceEq, Int.reduceNe, ↓reduceIte]
        refine call_of (m2) ?_
        set_option maxRecDepth 100000 in simp (maxSteps := 10000000) only [go_sem, Nat.reduceAdd, Nat.reduceSub, Nat.reduceMul, Nat.reduceLT, Nat.reduceLeDiff, Nat.reduceEqDiff, Nat.reduceMod, Nat.reduceDiv, Int.reduceNeg, Int.reduceLE, Int.reduceLT, Int.reduceToNat, Int.reduceEq, Int.reduceNe, ↓reduceIte,  Bool.not_false]
      · have e1 : ¬ (30 : Int) < (s.size : Int) := by omega
        have _ := e1
        refine good_run [] mixed Tryz.func29 rfl Tryz.ntmps29 (rs := [.cell 2 47, .tmp 3, .tmp 4]) rfl (by decide +kernel) (by kernel_rfl) rfl ?_
        rw [startE_eq 63 _ _ _ rfl rfl]
        set_option maxRecDepth 100000 in simp (maxSteps := 10000000) only [go_sem, Nat.reduceAdd, Nat.reduceSub, Nat.reduceMul, Nat.reduceLT, Nat.reduceLeDiff, Nat.reduceEqDiff, Nat.reduceMod, Nat.reduceDiv, Int.reduceNeg, Int.reduceLE, Int.reduceLT, Int.reduceToNat, Int.reduceEq, Int.reduceNe, ↓reduceIte,  h0', e1, decide_false]
        refine call_of (c1) ?_
        set_option maxRecDepth 100000 in simp (maxSteps := 10000000) only [go_sem, Nat.reduceAdd, Nat.reduceSub, Nat.reduceMul, Nat.reduceLT, Nat.reduceLeDiff, Nat.reduceEqDiff, Nat.reduceMod, Nat.reduceDiv, Int.reduceNeg, Int.reduceLE, Int.reduceLT, Int.reduceToNat, Int.reduceEq, Int.reduceNe, ↓reduceIte]
        refine call_of (c2) ?_
        set_option maxRecDepth 100000 in simp (maxSteps := 10000000) only [go_sem, Nat.reduceAdd, Nat.reduceSub, Nat.reduceMul, Nat.reduceLT, Nat.reduceLeDiff, Nat.reduceEqDiff, Nat.reduceMod, Nat.reduceDiv, Int.reduceNeg, Int.reduceLE, Int.reduceLT, Int.reduceToNat, Int.reduceEq, Int.reduceNe, ↓reduceIte]
        refine call_of (m2) ?_
        set_option maxRecDepth 100000 in simp (maxSteps := 10000000) only [go_sem, Nat.reduceAdd, Nat.reduceSub, Nat.reduceMul, Nat.reduceLT, Nat.reduceLeDiff, Nat.reduceEqDiff, Nat.reduceMod, Nat.reduceDiv, Int.reduceNeg, Int.reduceLE, Int.reduceLT, Int.reduceToNat, Int.reduceEq, Int.reduceNe, ↓reduceIte,  Bool.not_false]

theorem ParseName_good (s : ByteArray) (h : s.size ≤ 1000000) : Ans Tryz.prog 29 [.str s] (.tup [.agg (encQ (parseE s).1), .int .i64 (parseE s).2.1, .int .i64 (parseE s).2.2]) := by
  by_cases h0 : decide (s = ⟨#[]⟩) = true
  · exact PN_empty h0
  have h0' := Bool.eq_false_iff.2 h0
  by_cases h1 : 30 < s.size ∧ Lib.indexByte (s.extract 0 30).data.toList 47 < 0
  · exact PN_early h0' h1.1 h1.2
  by_cases hF : cutF s = true
  · exact PN_cut h h0' (fun q q2 => h1 ⟨q, q2⟩) hF
  · exact PN_none h h0' (fun q q2 => h1 ⟨q, q2⟩) (Bool.eq_false_iff.2 hF)
end Go.Proofs.YtppjmigiogddpaaGreat.C08
