/- Chapter 9: names of libraries and objects: their forms. -/
import Derived.Test.YtppjmigiogddpaaE1
namespace Go.Proofs.Ytppjmigiogddpaa.C08
open Go Go.Proofs Go.Proofs.Ytppjmigiogddpaa.Ab
set_option linter.unusedSimpArgs false
attribute [local congr] ite_ctx

/-- The error of a qualified name; its form. -/
def badQ (q : QName) : Bool := (decide (¬ q.lib = ⟨#[]⟩) && (!isSp q.lib && !isNm q.lib)) || !isNm q.name
def nameE (q : QName) : Int := if badQ q = true then 7 else 0
def fmtL (q : QName) : ByteArray := if q.lib = ⟨#[]⟩ then q.name else q.lib ++ ⟨#[47]⟩ ++ q.name
def fmt (q : QName) : ByteArray := if q.generic = true then fmtL q ++ ⟨#[42]⟩ else fmtL q
def fmtP (q : QName) : ByteArray := if badQ q = true then ⟨#[]⟩ else fmt q
theorem fmt_size (q : QName) (h1 : q.lib.size ≤ 1000) (h2 : q.name.size ≤ 1000) : (fmtL q).size ≤ 2001 := by
  rw [fmtL]; split
  · omega
  · rw [ByteArray.size_append, ByteArray.size_append]; show q.lib.size + 1 + q.name.size ≤ 2001; omega

set_option maxHeartbeats 4000000 in
theorem FormatTail_good (q : QName) (h1 : q.lib.size ≤ 1000) (h2 : q.name.size ≤ 1000) : Ans Try.prog 14 [.agg (encQ q)] (.str (fmt q)) := by
  have e0 : (⟨#[47]⟩ : ByteArray).size = 1 := rfl
  have e9 : (⟨#[42]⟩ : ByteArray).size = 1 := rfl
  refine Classical.byCases (fun e1 : q.lib = ⟨#[]⟩ => ?_) fun e1 => ?_
  · have hl : fmtL q = q.name := by rw [fmtL, if_pos e1]
    rw [fmt, hl]
    refine Classical.byCases (fun e2 : q.generic = true => ?_) fun e2 => ?_
    · rw [if_pos e2]
      refine good_run [] mixed Try.func14 rfl Try.ntmps14 (rs := [.tmp 2]) rfl (by decide +kernel) (by kernel_rfl) rfl ?_
      rw [startE_eq 20 _ _ _ rfl rfl]
      set_option maxRecDepth 100000 in simp (maxSteps := 10000000) only [go_sem, Nat.reduceAdd, Nat.reduceSub, Nat.reduceMul, Nat.reduceLT, Nat.reduceLeDiff, Nat.reduceEqDiff, Nat.reduceMod, Nat.reduceDiv, Int.reduceNeg, Int.reduceLE, Int.reduceLT, Int.reduceToNat, Int.reduceEq, Int.reduceNe, ↓reduceIte,  e1, e2, not_true_eq_false, decide_false, e9, show ((q.name.size + 1 : Nat) : Int) ≤ 9223372036854775807 by omega]
    · rw [if_neg e2]
      refine good_run [] mixed Try.func14 rfl Try.ntmps14 (rs := [.tmp 2]) rfl (by decide +kernel) (by kernel_rfl) rfl ?_
      rw [startE_eq 20 _ _ _ rfl rfl]
      set_option maxRecDepth 100000 in simp (maxSteps := 10000000) only [go_sem, Nat.reduceAdd, Nat.reduceSub, Nat.reduceMul, Nat.reduceLT, Nat.reduceLeDiff, Nat.reduceEqDiff, Nat.reduceMod, Nat.reduceDiv, Int.reduceNeg, Int.reduceLE, Int.reduceLT, Int.reduceToNat, Int.reduceEq, Int.reduceNe, ↓reduceIte,  e1, e2, not_true_eq_false, decide_false]
  · have hl : fmtL q = q.lib ++ ⟨#[47]⟩ ++ q.name := by rw [fmtL, if_neg e1]
    have hs : (q.lib ++ ⟨#[47]⟩ ++ q.name).size = q.lib.size + 1 + q.name.size := by rw [ByteArray.size_append, ByteArray.size_append]; rfl
    have hs2 : (q.lib ++ ⟨#[47]⟩).size = q.lib.size + 1 := by rw [ByteArray.size_append]; rfl
    rw [fmt, hl]
    refine Classical.byCases (fun e2 : q.generic = true => ?_) fun e2 => ?_
    · rw [if_pos e2]
      refine good_run [] mixed Try.func14 rfl Try.ntmps14 (rs := [.tmp 2]) rfl (by decide +kernel) (by kernel_rfl) rfl ?_
      rw [startE_eq 20 _ _ _ rfl rfl]
      set_option maxRecDepth 100000 in simp (maxSteps := 10000000) only [go_sem, Nat.reduceAdd, Nat.reduceSub, Nat.reduceMul, Nat.reduceLT, Nat.reduceLeDiff, Nat.reduceEqDiff, Nat.reduceMod, Nat.reduceDiv, Int.reduceNeg, Int.reduceLE, Int.reduceLT, Int.reduceToNat, Int.reduceEq, Int.reduceNe, ↓reduceIte,  e1, e2, not_false_eq_true, decide_true, e0, e9, hs, hs2, show ((q.lib.size + 1 : Nat) : Int) ≤ 9223372036854775807 by omega, show ((q.lib.size + 1 + q.name.size : Nat) : Int) ≤ 9223372036854775807 by omega, show ((q.lib.size + 1 + q.name.size + 1 : Nat) : Int) ≤ 9223372036854775807 by omega]
    · rw [if_neg e2]
      refine good_run [] mixed Try.func14 rfl Try.ntmps14 (rs := [.tmp 2]) rfl (by decide +kernel) (by kernel_rfl) rfl ?_
      rw [startE_eq 20 _ _ _ rfl rfl]
      set_option maxRecDepth 100000 in simp (maxSteps := 10000000) only [go_sem, Nat.reduceAdd, Nat.reduceSub, Nat.reduceMul, Nat.reduceLT, Nat.reduceLeDiff, Nat.reduceEqDiff, Nat.reduceMod, Nat.reduceDiv, Int.reduceNeg, Int.reduceLE, Int.reduceLT, Int.reduceToNat, Int.reduceEq, Int.reduceNe, ↓reduceIte,  e1, e2, not_false_eq_true, decide_true, e0, e9, hs, hs2, show ((q.lib.size + 1 : Nat) : Int) ≤ 9223372036854775807 by omega, show ((q.lib.size + 1 + q.name.size : Nat) : Int) ≤ 9223372036854775807 by omega]

set_option maxHeartbeats 8000000 in
theorem NameErrQ_good (q : QName) : Ans Try.prog 13 [.agg (encQ q)] (.int .i64 (nameE q)) := by
  have hN := IsName_good
  have hS := RefSpecial_good
  refine Classical.byCases (fun hq : isNm q.name = true => ?_) fun hq => ?_
  · have m2 := hN q.name
    rw [hq] at m2
    refine Classical.byCases (fun e1 : q.lib = ⟨#[]⟩ => ?_) fun e1 => ?_
    · have hb : badQ q = false := by rw [badQ, hq, decide_eq_false (not_not_intro e1)]; rfl
      have _ := hq
      refine good_run [] mixed Try.func13 rfl Try.ntmps13 (rs := [.tmp 2]) rfl (by decide +kernel) (by kernel_rfl) rfl ?_
      rw [startE_eq 24 _ _ _ rfl rfl]
      set_option maxRecDepth 100000 in simp (maxSteps := 10000000) only [go_sem, Nat.reduceAdd, Nat.reduceSub, Nat.reduceMul, Nat.reduceLT, Nat.reduceLeDiff, Nat.reduceEqDiff, Nat.reduceMod, Nat.reduceDiv, Int.reduceNeg, Int.reduceLE, Int.reduceLT, Int.reduceToNat, Int.reduceEq, Int.reduceNe, ↓reduceIte,  e1, not_true_eq_false, decide_false]
      refine call_of (m2) ?_
      set_option maxRecDepth 100000 in simp (maxSteps := 10000000) only [go_sem, Nat.reduceAdd, Nat.reduceSub, Nat.reduceMul, Nat.reduceLT, Nat.reduceLeDiff, Nat.reduceEqDiff, Nat.reduceMod, Nat.reduceDiv, Int.reduceNeg, Int.reduceLE, Int.reduceLT, Int.reduceToNat, Int.reduceEq, Int.reduceNe, ↓reduceIte,  Bool.not_true]
      rw [nameE, if_neg (by rw [hb]; decide)]
    · have s1 := hS q.lib
      refine Classical.byCases (fun e2 : isSp q.lib = true => ?_) fun e2 => ?_
      · rw [e2] at s1
        have hb : badQ q = false := by rw [badQ, hq, e2]; simp
        have _ := hq
        refine good_run [] mixed Try.func13 rfl Try.ntmps13 (rs := [.tmp 2]) rfl (by decide +kernel) (by kernel_rfl) rfl ?_
        rw [startE_eq 24 _ _ _ rfl rfl]
        set_option maxRecDepth 100000 in simp (maxSteps := 10000000) only [go_sem, Nat.reduceAdd, Nat.reduceSub, Nat.reduceMul, Nat.reduceLT, Nat.reduceLeDiff, Nat.reduceEqDiff, Nat.reduceMod, Nat.reduceDiv, Int.reduceNeg, Int.reduceLE, Int.reduceLT, Int.reduceToNat, Int.reduceEq, Int.reduceNe, ↓reduceIte,  e1, not_false_eq_true, decide_true]
        refine call_of (s1) ?_
        set_option maxRecDepth 100000 in simp (maxSteps := 10000000) only [go_sem, Nat.reduceAdd, Nat.reduceSub, Nat.reduceMul, Nat.reduceLT, Nat.reduceLeDiff, Nat.reduceEqDiff, Nat.reduceMod, Nat.reduceDiv, Int.reduceNeg, Int.reduceLE, Int.reduceLT, Int.reduceToNat, Int.reduceEq, Int.reduceNe, ↓reduceIte,  Bool.not_true]
        refine call_of (m2) ?_
        set_option maxRecDepth 100000 in simp (maxSteps := 10000000) only [go_sem, Nat.reduceAdd, Nat.reduceSub, Nat.reduceMul, Nat.reduceLT, Nat.reduceLeDiff, Nat.reduceEqDiff, Nat.reduceMod, Nat.reduceDiv, Int.reduceNeg, Int.reduceLE, Int.reduceLT, Int.reduceToNat, Int.reduceEq, Int.reduceNe, ↓reduceIte,  Bool.not_true]
        rw [nameE, if_neg (by rw [hb]; decide)]
      · rw [Bool.eq_false_iff.2 e2] at s1
        have m1 := hN q.lib
        refine Classical.byCases (fun e3 : isNm q.lib = true => ?_) fun e3 => ?_
        · rw [e3] at m1
          have hb : badQ q = false := by rw [badQ, hq, e3]; simp
          have _ := hq
          refine good_run [] mixed Try.func13 rfl Try.ntmps13 (rs := [.tmp 2]) rfl (by decide +kernel) (by kernel_rfl) rfl ?_
          rw [startE_eq 24 _ _ _ rfl rfl]
          set_option maxRecDepth 100000 in simp (maxSteps := 10000000) only [go_sem, Nat.reduceAdd, Nat.reduceSub, Nat.reduceMul, Nat.reduceLT, Nat.reduceLeDiff, Nat.reduceEqDiff, Nat.reduceMod, Nat.reduceDiv, Int.reduceNeg, Int.reduceLE, Int.reduceLT, Int.reduceToNat, Int.reduceEq, Int.reduceNe, ↓reduceIte,  e1, not_false_eq_true, decide_true]
          refine call_of (s1) ?_
          set_option maxRecDepth 100000 in simp (maxSteps := 10000000) only [go_sem, Nat.reduceAdd, Nat.reduceSub, Nat.reduceMul, Nat.reduceLT, Nat.reduceLeDiff, Nat.reduceEqDiff, Nat.reduceMod, Nat.reduceDiv, Int.reduceNeg, Int.reduceLE, Int.reduceLT, Int.reduceToNat, Int.reduceEq, Int.reduceNe, ↓reduceIte,  Bool.not_false]
          refine call_of (m1) ?_
          set_option maxRecDepth 100000 in simp (maxSteps := 10000000) only [go_sem, Nat.reduceAdd, Nat.reduceSub, Nat.reduceMul, Nat.reduceLT, Nat.reduceLeDiff, Nat.reduceEqDiff, Nat.reduceMod, Nat.reduceDiv, Int.reduceNeg, Int.reduceLE, Int.reduceLT, Int.reduceToNat, Int.reduceEq, Int.reduceNe, ↓reduceIte,  Bool.not_true]
          refine call_of (m2) ?_
          set_option maxRecDepth 100000 in simp (maxSteps := 10000000) only [go_sem, Nat.reduceAdd, Nat.reduceSub, Nat.reduceMul, Nat.reduceLT, Nat.reduceLeDiff, Nat.reduceEqDiff, Nat.reduceMod, Nat.reduceDiv, Int.reduceNeg, Int.reduceLE, Int.reduceLT, Int.reduceToNat, Int.reduceEq, Int.reduceNe, ↓reduceIte,  Bool.not_true]
          rw [nameE, if_neg (by rw [hb]; decide)]
        · rw [Bool.eq_false_iff.2 e3] at m1
          have hb : badQ q = true := by rw [badQ, Bool.eq_false_iff.2 e2, Bool.eq_false_iff.2 e3, decide_eq_true e1]; rfl
          have _ := hq
          refine good_run [] mixed Try.func13 rfl Try.ntmps13 (rs := [.tmp 2]) rfl (by decide +kernel) (by kernel_rfl) rfl ?_
          rw [startE_eq 24 _ _ _ rfl rfl]
          set_option maxRecDepth 100000 in simp (maxSteps := 10000000) only [go_sem, Nat.reduceAdd, Nat.reduceSub, Nat.reduceMul, Nat.reduceLT, Nat.reduceLeDiff, Nat.reduceEqDiff, Nat.reduceMod, Nat.reduceDiv, Int.reduceNeg, Int.reduceLE, Int.reduceLT, Int.reduceToNat, Int.reduceEq, Int.reduceNe, ↓reduceIte,  e1, not_false_eq_true, decide_true]
          refine call_of (s1) ?_
          set_option maxRecDepth 100000 in simp (maxSteps := 10000000) only [go_sem, Nat.reduceAdd, Nat.reduceSub, Nat.reduceMul, Nat.reduceLT, Nat.reduceLeDiff, Nat.reduceEqDiff, Nat.reduceMod, Nat.reduceDiv, Int.reduceNeg, Int.reduceLE, Int.reduceLT, Int.reduceToNat, Int.reduceEq, Int.reduceNe, ↓reduceIte,  Bool.not_false]
          refine call_of (m1) ?_
          set_option maxRecDepth 100000 in simp (maxSteps := 10000000) only [go_sem, Nat.reduceAdd, Nat.reduceSub, Nat.reduceMul, Nat.reduceLT, Nat.reduceLeDiff, Nat.reduceEqDiff, Nat.reduceMod, Nat.reduceDiv, Int.reduceNeg, Int.reduceLE, Int.reduceLT, Int.reduceToNat, Int.reduceEq, Int.reduceNe, ↓reduceIte,  Bool.not_false]
          rw [nameE, if_pos hb]
  · have m2 := hN q.name
    have hb : badQ q = true := by rw [badQ, Bool.eq_false_iff.2 hq]; simp
    rw [Bool.eq_false_iff.2 hq] at m2
    refine Classical.byCases (fun e1 : q.lib = ⟨#[]⟩ => ?_) fun e1 => ?_
    · have _ := e1
      have _ := hq
      refine good_run [] mixed Try.func13 rfl Try.ntmps13 (rs := [.tmp 2]) rfl (by decide +kernel) (by kernel_rfl) rfl ?_
      rw [startE_eq 24 _ _ _ rfl rfl]
      set_option maxRecDepth 100000 in simp (maxSteps := 10000000) only [go_sem, Nat.reduceAdd, Nat.reduceSub, Nat.reduceMul, Nat.reduceLT, Nat.reduceLeDiff, Nat.reduceEqDiff, Nat.reduceMod, Nat.reduceDiv, Int.reduceNeg, Int.reduceLE, Int.reduceLT, Int.reduceToNat, Int.reduceEq, Int.reduceNe, ↓reduceIte,  e1, not_true_eq_false, decide_false]
      refine call_of (m2) ?_
      set_option maxRecDepth 100000 in simp (maxSteps := 10000000) only [go_sem, Nat.reduceAdd, Nat.reduceSub, Nat.reduceMul, Nat.reduceLT, Nat.reduceLeDiff, Nat.reduceEqDiff, Nat.reduceMod, Nat.reduceDiv, Int.reduceNeg, Int.reduceLE, Int.reduceLT, Int.reduceToNat, Int.reduceEq, Int.reduceNe, ↓reduceIte,  Bool.not_false]
      rw [nameE, if_pos hb]
    · have s1 := hS q.lib
      refine Classical.byCases (fun e2 : isSp q.lib = true => ?_) fun e2 => ?_
      · rw [e2] at s1
        have _ := hq
        refine good_run [] mixed Try.func13 rfl Try.ntmps13 (rs := [.tmp 2]) rfl (by decide +kernel) (by kernel_rfl) rfl ?_
        rw [startE_eq 24 _ _ _ rfl rfl]
        set_option maxRecDepth 100000 in simp (maxSteps := 10000000) only [go_sem, Nat.reduceAdd, Nat.reduceSub, Nat.reduceMul, Nat.reduceLT, Nat.reduceLeDiff, Nat.reduceEqDiff, Nat.reduceMod, Nat.reduceDiv, Int.reduceNeg, Int.reduceLE, Int.reduceLT, Int.reduceToNat, Int.reduceEq, Int.reduceNe, ↓reduceIte,  e1, not_false_eq_true, decide_true]
        refine call_of (s1) ?_
        set_option maxRecDepth 100000 in simp (maxSteps := 10000000) only [go_sem, Nat.reduceAdd, Nat.reduceSub, Nat.reduceMul, Nat.reduceLT, Nat.reduceLeDiff, Nat.reduceEqDiff, Nat.reduceMod, Nat.reduceDiv, Int.reduceNeg, Int.reduceLE, Int.reduceLT, Int.reduceToNat, Int.reduceEq, Int.reduceNe, ↓reduceIte,  Bool.not_true]
        refine call_of (m2) ?_
        set_option maxRecDepth 100000 in simp (maxSteps := 10000000) only [go_sem, Nat.reduceAdd, Nat.reduceSub, Nat.reduceMul, Nat.reduceLT, Nat.reduceLeDiff, Nat.reduceEqDiff, Nat.reduceMod, Nat.reduceDiv, Int.reduceNeg, Int.reduceLE, Int.reduceLT, Int.reduceToNat, Int.reduceEq, Int.reduceNe, ↓reduceIte,  Bool.not_false]
        rw [nameE, if_pos hb]
      · rw [Bool.eq_false_iff.2 e2] at s1
        have m1 := hN q.lib
        refine Classical.byCases (fun e3 : isNm q.lib = true => ?_) fun e3 => ?_
        · rw [e3] at m1
          have _ := hq
          refine good_run [] mixed Try.func13 rfl Try.ntmps13 (rs := [.tmp 2]) rfl (by decide +kernel) (by kernel_rfl) rfl ?_
          rw [startE_eq 24 _ _ _ rfl rfl]
          set_option maxRecDepth 100000 in simp (maxSteps := 10000000) only [go_sem, Nat.reduceAdd, Nat.reduceSub, Nat.reduceMul, Nat.reduceLT, Nat.reduceLeDiff, Nat.reduceEqDiff, Nat.reduceMod, Nat.reduceDiv, Int.reduceNeg, Int.reduceLE, Int.reduceLT, Int.reduceToNat, Int.reduceEq, Int.reduceNe, ↓reduceIte,  e1, not_false_eq_true, decide_true]
          refine call_of (s1) ?_
          set_option maxRecDepth 100000 in simp (maxSteps := 10000000) only [go_sem, Nat.reduceAdd, Nat.reduceSub, Nat.reduceMul, Nat.reduceLT, Nat.reduceLeDiff, Nat.reduceEqDiff, Nat.reduceMod, Nat.reduceDiv, Int.reduceNeg, Int.reduceLE, Int.reduceLT, Int.reduceToNat, Int.reduceEq, Int.reduceNe, ↓reduceIte,  Bool.not_false]
          refine call_of (m1) ?_
          set_option maxRecDepth 100000 in simp (maxSteps := 10000000) only [go_sem, Nat.reduceAdd, Nat.reduceSub, Nat.reduceMul, Nat.reduceLT, Nat.reduceLeDiff, Nat.reduceEqDiff, Nat.reduceMod, Nat.reduceDiv, Int.reduceNeg, Int.reduceLE, Int.reduceLT, Int.reduceToNat, Int.reduceEq, Int.reduceNe, ↓reduceIte,  Bool.not_true]
          refine call_of (m2) ?_
          set_option maxRecDepth 100000 in simp (maxSteps := 10000000) only [go_sem, Nat.reduceAdd, Nat.reduceSub, Nat.reduceMul, Nat.reduceLT, Nat.reduceLeDiff, Nat.reduceEqDiff, Nat.reduceMod, Nat.reduceDiv, Int.reduceNeg, Int.reduceLE, Int.reduceLT, Int.reduceToNat, Int.reduceEq, Int.reduceNe, ↓reduceIte,  Bool.not_false]
          rw [nameE, if_pos hb]
        · rw [Bool.eq_false_iff.2 e3] at m1
          have _ := hq
          refine good_run [] mixed Try.func13 rfl Try.ntmps13 (rs := [.tmp 2]) rfl (by decide +kernel) (by kernel_rfl) rfl ?_
          rw [startE_eq 24 _ _ _ rfl rfl]
          set_option maxRecDepth 100000 in simp (maxSteps := 10000000) only [go_sem, Nat.reduceAdd, Nat.reduceSub, Nat.reduceMul, Nat.reduceLT, Nat.reduceLeDiff, Nat.reduceEqDiff, Nat.reduceMod, Nat.reduceDiv, Int.reduceNeg, Int.reduceLE, Int.reduceLT, Int.reduceToNat, Int.reduceEq, Int.reduceNe, ↓reduceIte,  e1, not_false_eq_true, decide_true]
          refine call_of (s1) ?_
          set_option maxRecDepth 100000 in simp (maxSteps := 10000000) only [go_sem, Nat.reduceAdd, Nat.reduceSub, Nat.reduceMul, Nat.reduceLT, Nat.reduceLeDiff, Nat.reduceEqDiff, Nat.reduceMod, Nat.reduceDiv, Int.reduceNeg, Int.reduceLE, Int.reduceLT, Int.reduceToNat, Int.reduceEq, Int.reduceNe, ↓reduceIte,  Bool.not_false]
          refine call_of (m1) ?_
          set_option maxRecDepth 100000 in simp (maxSteps := 10000000) only [go_sem, Nat.reduceAdd, Nat.reduceSub, Nat.reduceMul, Nat.reduceLT, Nat.reduceLeDiff, Nat.reduceEqDiff, Nat.reduceMod, Nat.reduceDiv, Int.reduceNeg, Int.reduceLE, Int.reduceLT, Int.reduceToNat, Int.reduceEq, Int.reduceNe, ↓reduceIte,  Bool.not_false]
          rw [nameE, if_pos hb]

set_option maxHeartbeats 8000000 in
theorem FormatName_good (q : QName) (h1 : q.lib.size ≤ 1000) (h2 : q.name.size ≤ 1000) : Ans Try.prog 12 [.agg (encQ q)] (.tup [.str (fmtP q), .int .i64 (nameE q)]) := by
  have hN := libName_good
  have hS := isSpecial_good
  have e0 : (⟨#[47]⟩ : ByteArray).size = 1 := rfl
  have e9 : (⟨#[42]⟩ : ByteArray).size = 1 := rfl
  have hs : (q.lib ++ ⟨#[47]⟩ ++ q.name).size = q.lib.size + 1 + q.name.size := by rw [ByteArray.size_append, ByteArray.size_append]; rfl
  have hs2 : (q.lib ++ ⟨#[47]⟩).size = q.lib.size + 1 := by rw [ByteArray.size_append]; rfl
  have b1 : ((q.lib.size + 1 : Nat) : Int) ≤ 9223372036854775807 := by omega
  have b2 : ((q.lib.size + 1 + q.name.size : Nat) : Int) ≤ 9223372036854775807 := by omega
  have b3 : ((q.lib.size + 1 + q.name.size + 1 : Nat) : Int) ≤ 9223372036854775807 := by omega
  have b4 : ((q.name.size + 1 : Nat) : Int) ≤ 9223372036854775807 := by omega
  refine Classical.byCases (fun hq : isNm q.name = true => ?_) fun hq => ?_
  · have m2 := hN q.name
    rw [hq] at m2
    refine Classical.byCases (fun e1 : q.lib = ⟨#[]⟩ => ?_) fun e1 => ?_
    · have hb : badQ q = false := by rw [badQ, hq, decide_eq_false (not_not_intro e1)]; rfl
      refine Classical.byCases (fun hg : q.generic = true => ?_) fun hg => ?_
      · have _ := hg
        have hp : fmtP q = q.name ++ ⟨#[42]⟩ := by rw [fmtP, if_neg (by rw [hb]; decide), fmt, if_pos hg, fmtL, if_pos e1]
        have hn : nameE q = 0 := by rw [nameE, if_neg (by rw [hb]; decide)]
        rw [hp, hn]
        refine good_run [] mixed Try.func12 rfl Try.ntmps12 (rs := [.tmp 2, .tmp 3]) rfl (by decide +kernel) (by kernel_rfl) rfl ?_
        rw [startE_eq 41 _ _ _ rfl rfl]
        set_option maxRecDepth 100000 in simp (maxSteps := 10000000) only [go_sem, Nat.reduceAdd, Nat.reduceSub, Nat.reduceMul, Nat.reduceLT, Nat.reduceLeDiff, Nat.reduceEqDiff, Nat.reduceMod, Nat.reduceDiv, Int.reduceNeg, Int.reduceLE, Int.reduceLT, Int.reduceToNat, Int.reduceEq, Int.reduceNe, ↓reduceIte,  e1, not_true_eq_false, decide_false]
        refine call_of (m2) ?_
        set_option maxRecDepth 100000 in simp (maxSteps := 10000000) only [go_sem, Nat.reduceAdd, Nat.reduceSub, Nat.reduceMul, Nat.reduceLT, Nat.reduceLeDiff, Nat.reduceEqDiff, Nat.reduceMod, Nat.reduceDiv, Int.reduceNeg, Int.reduceLE, Int.reduceLT, Int.reduceToNat, Int.reduceEq, Int.reduceNe, ↓reduceIte,  Bool.not_true, e1, hg, e0, e9, decide_true, decide_false, not_false_eq_true, not_true_eq_false, b1, b2, b3, b4, hs, hs2]
      · have _ := hg
        have hp : fmtP q = q.name := by rw [fmtP, if_neg (by rw [hb]; decide), fmt, if_neg hg, fmtL, if_pos e1]
        have hn : nameE q = 0 := by rw [nameE, if_neg (by rw [hb]; decide)]
        rw [hp, hn]
        refine good_run [] mixed Try.func12 rfl Try.ntmps12 (rs := [.tmp 2, .tmp 3]) rfl (by decide +kernel) (by kernel_rfl) rfl ?_
        rw [startE_eq 41 _ _ _ rfl rfl]
        set_option maxRecDepth 100000 in simp (maxSteps := 10000000) only [go_sem, Nat.reduceAdd, Nat.reduceSub, Nat.reduceMul, Nat.reduceLT, Nat.reduceLeDiff, Nat.reduceEqDiff, Nat.reduceMod, Nat.reduceDiv, Int.reduceNeg, Int.reduceLE, Int.reduceLT, Int.reduceToNat, Int.reduceEq, Int.reduceNe, ↓reduceIte,  e1, not_true_eq_false, decide_false]
        refine call_of (m2) ?_
        set_option maxRecDepth 100000 in simp (maxSteps := 10000000) only [go_sem, Nat.reduceAdd, Nat.reduceSub, Nat.reduceMul, Nat.reduceLT, Nat.reduceLeDiff, Nat.reduceEqDiff, Nat.reduceMod, Nat.reduceDiv, Int.reduceNeg, Int.reduceLE, Int.reduceLT, Int.reduceToNat, Int.reduceEq, Int.reduceNe, ↓reduceIte,  Bool.not_true, e1, hg, e0, e9, decide_true, decide_false, not_false_eq_true, not_true_eq_false, b1, b2, b3, b4, hs, hs2]
    · have s1 := hS q.lib
      refine Classical.byCases (fun e2 : isSp q.lib = true => ?_) fun e2 => ?_
      · rw [e2] at s1
        have hb : badQ q = false := by rw [badQ, hq, e2]; simp
        refine Classical.byCases (fun hg : q.generic = true => ?_) fun hg => ?_
        · have _ := hg
          have hp : fmtP q = (q.lib ++ ⟨#[47]⟩ ++ q.name) ++ ⟨#[42]⟩ := by rw [fmtP, if_neg (by rw [hb]; decide), fmt, if_pos hg, fmtL, if_neg e1]
          have hn : nameE q = 0 := by rw [nameE, if_neg (by rw [hb]; decide)]
          rw [hp, hn]
          refine good_run [] mixed Try.func12 rfl Try.ntmps12 (rs := [.tmp 2, .tmp 3]) rfl (by decide +kernel) (by kernel_rfl) rfl ?_
          rw [startE_eq 41 _ _ _ rfl rfl]
          set_option maxRecDepth 100000 in simp (maxSteps := 10000000) only [go_sem, Nat.reduceAdd, Nat.reduceSub, Nat.reduceMul, Nat.reduceLT, Nat.reduceLeDiff, Nat.reduceEqDiff, Nat.reduceMod, Nat.reduceDiv, Int.reduceNeg, Int.reduceLE, Int.reduceLT, Int.reduceToNat, Int.reduceEq, Int.reduceNe, ↓reduceIte,  e1, not_false_eq_true, decide_true]
          refine call_of (s1) ?_
          set_option maxRecDepth 100000 in simp (maxSteps := 10000000) only [go_sem, Nat.reduceAdd, Nat.reduceSub, Nat.reduceMul, Nat.reduceLT, Nat.reduceLeDiff, Nat.reduceEqDiff, Nat.reduceMod, Nat.reduceDiv, Int.reduceNeg, Int.reduceLE, Int.reduceLT, Int.reduceToNat, Int.reduceEq, Int.reduceNe, ↓reduceIte,  Bool.not_true]
          refine call_of (m2) ?_
          set_option maxRecDepth 100000 in simp (maxSteps := 10000000) only [go_sem, Nat.reduceAdd, Nat.reduceSub, Nat.reduceMul, Nat.reduceLT, Nat.reduceLeDiff, Nat.reduceEqDiff, Nat.reduceMod, Nat.reduceDiv, Int.reduceNeg, Int.reduceLE, Int.reduceLT, Int.reduceToNat, Int.reduceEq, Int.reduceNe, ↓reduceIte,  Bool.not_true, e1, hg, e0, e9, decide_true, decide_false, not_false_eq_true, not_true_eq_false, b1, b2, b3, b4, hs, hs2]
        · have _ := hg
          have hp : fmtP q = (q.lib ++ ⟨#[47]⟩ ++ q.name) := by rw [fmtP, if_neg (by rw [hb]; decide), fmt, if_neg hg, fmtL, if_neg e1]
          have hn : nameE q = 0 := by rw [nameE, if_neg (by rw [hb]; decide)]
          rw [hp, hn]
          refine good_run [] mixed Try.func12 rfl Try.ntmps12 (rs := [.tmp 2, .tmp 3]) rfl (by decide +kernel) (by kernel_rfl) rfl ?_
          rw [startE_eq 41 _ _ _ rfl rfl]
          set_option maxRecDepth 100000 in simp (maxSteps := 10000000) only [go_sem, Nat.reduceAdd, Nat.reduceSub, Nat.reduceMul, Nat.reduceLT, Nat.reduceLeDiff, Nat.reduceEqDiff, Nat.reduceMod, Nat.reduceDiv, Int.reduceNeg, Int.reduceLE, Int.reduceLT, Int.reduceToNat, Int.reduceEq, Int.reduceNe, ↓reduceIte,  e1, not_false_eq_true, decide_true]
          refine call_of (s1) ?_
          set_option maxRecDepth 100000 in simp (maxSteps := 10000000) only [go_sem, Nat.reduceAdd, Nat.reduceSub, Nat.reduceMul, Nat.reduceLT, Nat.reduceLeDiff, Nat.reduceEqDiff, Nat.reduceMod, Nat.reduceDiv, Int.reduceNeg, Int.reduceLE, Int.reduceLT, Int.reduceToNat, Int.reduceEq, Int.reduceNe, ↓reduceIte,  Bool.not_true]
          refine call_of (m2) ?_
          set_option maxRecDepth 100000 in simp (maxSteps := 10000000) only [go_sem, Nat.reduceAdd, Nat.reduceSub, Nat.reduceMul, Nat.reduceLT, Nat.reduceLeDiff, Nat.reduceEqDiff, Nat.reduceMod, Nat.reduceDiv, Int.reduceNeg, Int.reduceLE, Int.reduceLT, Int.reduceToNat, Int.reduceEq, Int.reduceNe, ↓reduceIte,  Bool.not_true, e1, hg, e0, e9, decide_true, decide_false, not_false_eq_true, not_true_eq_false, b1, b2, b3, b4, hs, hs2]
      · rw [Bool.eq_false_iff.2 e2] at s1
        have m1 := hN q.lib
        refine Classical.byCases (fun e3 : isNm q.lib = true => ?_) fun e3 => ?_
        · rw [e3] at m1
          have hb : badQ q = false := by rw [badQ, hq, e3]; simp
          refine Classical.byCases (fun hg : q.generic = true => ?_) fun hg => ?_
          · have _ := hg
            have hp : fmtP q = (q.lib ++ ⟨#[47]⟩ ++ q.name) ++ ⟨#[42]⟩ := by rw [fmtP, if_neg (by rw [hb]; decide), fmt, if_pos hg, fmtL, if_neg e1]
            have hn : nameE q = 0 := by rw [nameE, if_neg (by rw [hb]; decide)]
            rw [hp, hn]
            refine good_run [] mixed Try.func12 rfl Try.ntmps12 (rs := [.tmp 2, .tmp 3]) rfl (by decide +kernel) (by kernel_rfl) rfl ?_
            rw [startE_eq 41 _ _ _ rfl rfl]
            set_option maxRecDepth 100000 in simp (maxSteps := 10000000) only [go_sem, Nat.reduceAdd, Nat.reduceSub, Nat.reduceMul, Nat.reduceLT, Nat.reduceLeDiff, Nat.reduceEqDiff, Nat.reduceMod, Nat.reduceDiv, Int.reduceNeg, Int.reduceLE, Int.reduceLT, Int.reduceToNat, Int.reduceEq, Int.reduceNe, ↓reduceIte,  e1, not_false_eq_true, decide_true]
            refine call_of (s1) ?_
            set_option maxRecDepth 100000 in simp (maxSteps := 10000000) only [go_sem, Nat.reduceAdd, Nat.reduceSub, Nat.reduceMul, Nat.reduceLT, Nat.reduceLeDiff, Nat.reduceEqDiff, Nat.reduceMod, Nat.reduceDiv, Int.reduceNeg, Int.reduceLE, Int.reduceLT, Int.reduceToNat, Int.reduceEq, Int.reduceNe, ↓reduceIte,  Bool.not_false]
            refine call_of (m1) ?_
            set_option maxRecDepth 100000 in simp (maxSteps := 10000000) only [go_sem, Nat.reduceAdd, Nat.reduceSub, Nat.reduceMul, Nat.reduceLT, Nat.reduceLeDiff, Nat.reduceEqDiff, Nat.reduceMod, Nat.reduceDiv, Int.reduceNeg, Int.reduceLE, Int.reduceLT, Int.reduceToNat, Int.reduceEq, Int.reduceNe, ↓reduceIte,  Bool.not_true]
            refine call_of (m2) ?_
            set_option maxRecDepth 100000 in simp (maxSteps := 10000000) only [go_sem, Nat.reduceAdd, Nat.reduceSub, Nat.reduceMul, Nat.reduceLT, Nat.reduceLeDiff, Nat.reduceEqDiff, Nat.reduceMod, Nat.reduceDiv, Int.reduceNeg, Int.reduceLE, Int.reduceLT, Int.reduceToNat, Int.reduceEq, Int.reduceNe, ↓reduceIte,  Bool.not_true, e1, hg, e0, e9, decide_true, decide_false, not_false_eq_true, not_true_eq_false, b1, b2, b3, b4, hs, hs2]
          · have _ := hg
            have hp : fmtP q = (q.lib ++ ⟨#[47]⟩ ++ q.name) := by rw [fmtP, if_neg (by rw [hb]; decide), fmt, if_neg hg, fmtL, if_neg e1]
            have hn : nameE q = 0 := by rw [nameE, if_neg (by rw [hb]; decide)]
            rw [hp, hn]
            refine good_run [] mixed Try.func12 rfl Try.ntmps12 (rs := [.tmp 2, .tmp 3]) rfl (by decide +kernel) (by kernel_rfl) rfl ?_
            rw [startE_eq 41 _ _ _ rfl rfl]
            set_option maxRecDepth 100000 in simp (maxSteps := 10000000) only [go_sem, Nat.reduceAdd, Nat.reduceSub, Nat.reduceMul, Nat.reduceLT, Nat.reduceLeDiff, Nat.reduceEqDiff, Nat.reduceMod, Nat.reduceDiv, Int.reduceNeg, Int.reduceLE, Int.reduceLT, Int.reduceToNat, Int.reduceEq, Int.reduceNe, ↓reduceIte,  e1, not_false_eq_true, decide_true]
            refine call_of (s1) ?_
            set_option maxRecDepth 100000 in simp (maxSteps := 10000000) only [go_sem, Nat.reduceAdd, Nat.reduceSub, Nat.reduceMul, Nat.reduceLT, Nat.reduceLeDiff, Nat.reduceEqDiff, Nat.reduceMod, Nat.reduceDiv, Int.reduceNeg, Int.reduceLE, Int.reduceLT, Int.reduceToNat, Int.reduceEq, Int.reduceNe, ↓reduceIte,  Bool.not_false]
            refine call_of (m1) ?_
            set_option maxRecDepth 100000 in simp (maxSteps := 10000000) only [go_sem, Nat.reduceAdd, Nat.reduceSub, Nat.reduceMul, Nat.reduceLT, Nat.reduceLeDiff, Nat.reduceEqDiff, Nat.reduceMod, Nat.reduceDiv, Int.reduceNeg, Int.reduceLE, Int.reduceLT, Int.reduceToNat, Int.reduceEq, Int.reduceNe, ↓reduceIte,  Bool.not_true]
            refine call_of (m2) ?_
            set_option maxRecDepth 100000 in simp (maxSteps := 10000000) only [go_sem, Nat.reduceAdd, Nat.reduceSub, Nat.reduceMul, Nat.reduceLT, Nat.reduceLeDiff, Nat.reduceEqDiff, Nat.reduceMod, Nat.reduceDiv, Int.reduceNeg, Int.reduceLE, Int.reduceLT, Int.reduceToNat, Int.reduceEq, Int.reduceNe, ↓reduceIte,  Bool.not_true, e1, hg, e0, e9, decide_true, decide_false, not_false_eq_true, not_true_eq_false, b1, b2, b3, b4, hs, hs2]
        · rw [Bool.eq_false_iff.2 e3] at m1
          have hb : badQ q = true := by rw [badQ, Bool.eq_false_iff.2 e2, Bool.eq_false_iff.2 e3, decide_eq_true e1]; rfl
          have hp : fmtP q = ⟨#[]⟩ := by rw [fmtP, if_pos hb]
          have hn : nameE q = 7 := by rw [nameE, if_pos hb]
          rw [hp, hn]
          refine good_run [] mixed Try.func12 rfl Try.ntmps12 (rs := [.tmp 2, .tmp 3]) rfl (by decide +kernel) (by kernel_rfl) rfl ?_
          rw [startE_eq 41 _ _ _ rfl rfl]
          set_option maxRecDepth 100000 in simp (maxSteps := 10000000) only [go_sem, Nat.reduceAdd, Nat.reduceSub, Nat.reduceMul, Nat.reduceLT, Nat.reduceLeDiff, Nat.reduceEqDiff, Nat.reduceMod, Nat.reduceDiv, Int.reduceNeg, Int.reduceLE, Int.reduceLT, Int.reduceToNat, Int.reduceEq, Int.reduceNe, ↓reduceIte,  e1, not_false_eq_true, decide_true]
          refine call_of (s1) ?_
          set_option maxRecDepth 100000 in simp (maxSteps := 10000000) only [go_sem, Nat.reduceAdd, Nat.reduceSub, Nat.reduceMul, Nat.reduceLT, Nat.reduceLeDiff, Nat.reduceEqDiff, Nat.reduceMod, Nat.reduceDiv, Int.reduceNeg, Int.reduceLE, Int.reduceLT, Int.reduceToNat, Int.reduceEq, Int.reduceNe, ↓reduceIte,  Bool.not_false]
          refine call_of (m1) ?_
          set_option maxRecDepth 100000 in simp (maxSteps := 10000000) only [go_sem, Nat.reduceAdd, Nat.reduceSub, Nat.reduceMul, Nat.reduceLT, Nat.reduceLeDiff, Nat.reduceEqDiff, Nat.reduceMod, Nat.reduceDiv, Int.reduceNeg, Int.reduceLE, Int.reduceLT, Int.reduceToNat, Int.reduceEq, Int.reduceNe, ↓reduceIte,  Bool.not_false]
  · have m2 := hN q.name
    have hb : badQ q = true := by rw [badQ, Bool.eq_false_iff.2 hq]; simp
    rw [Bool.eq_false_iff.2 hq] at m2
    refine Classical.byCases (fun e1 : q.lib = ⟨#[]⟩ => ?_) fun e1 => ?_
    · have _ := e1
      have hp : fmtP q = ⟨#[]⟩ := by rw [fmtP, if_pos hb]
      have hn : nameE q = 7 := by rw [nameE, if_pos hb]
      rw [hp, hn]
      refine good_run [] mixed Try.func12 rfl Try.ntmps12 (rs := [.tmp 2, .tmp 3]) rfl (by decide +kernel) (by kernel_rfl) rfl ?_
      rw [startE_eq 41 _ _ _ rfl rfl]
      set_option maxRecDepth 100000 in simp (maxSteps := 10000000) only [go_sem, Nat.reduceAdd, Nat.reduceSub, Nat.reduceMul, Nat.reduceLT, Nat.reduceLeDiff, Nat.reduceEqDiff, Nat.reduceMod, Nat.reduceDiv, Int.reduceNeg, Int.reduceLE, Int.reduceLT, Int.reduceToNat, Int.reduceEq, Int.reduceNe, ↓reduceIte,  e1, not_true_eq_false, decide_false]
      refine call_of (m2) ?_
      set_option maxRecDepth 100000 in simp (maxSteps := 10000000) only [go_sem, Nat.reduceAdd, Nat.reduceSub, Nat.reduceMul, Nat.reduceLT, Nat.reduceLeDiff, Nat.reduceEqDiff, Nat.reduceMod, Nat.reduceDiv, Int.reduceNeg, Int.reduceLE, Int.reduceLT, Int.reduceToNat, Int.reduceEq, Int.reduceNe, ↓reduceIte,  Bool.not_false]
    · have s1 := hS q.lib
      refine Classical.byCases (fun e2 : isSp q.lib = true => ?_) fun e2 => ?_
      · rw [e2] at s1
        have hp : fmtP q = ⟨#[]⟩ := by rw [fmtP, if_pos hb]
        have hn : nameE q = 7 := by rw [nameE, if_pos hb]
        rw [hp, hn]
        refine good_run [] mixed Try.func12 rfl Try.ntmps12 (rs := [.tmp 2, .tmp 3]) rfl (by decide +kernel) (by kernel_rfl) rfl ?_
        rw [startE_eq 41 _ _ _ rfl rfl]
        set_option maxRecDepth 100000 in simp (maxSteps := 10000000) only [go_sem, Nat.reduceAdd, Nat.reduceSub, Nat.reduceMul, Nat.reduceLT, Nat.reduceLeDiff, Nat.reduceEqDiff, Nat.reduceMod, Nat.reduceDiv, Int.reduceNeg, Int.reduceLE, Int.reduceLT, Int.reduceToNat, Int.reduceEq, Int.reduceNe, ↓reduceIte,  e1, not_false_eq_true, decide_true]
        refine call_of (s1) ?_
        set_option maxRecDepth 100000 in simp (maxSteps := 10000000) only [go_sem, Nat.reduceAdd, Nat.reduceSub, Nat.reduceMul, Nat.reduceLT, Nat.reduceLeDiff, Nat.reduceEqDiff, Nat.reduceMod, Nat.reduceDiv, Int.reduceNeg, Int.reduceLE, Int.reduceLT, Int.reduceToNat, Int.reduceEq, Int.reduceNe, ↓reduceIte,  Bool.not_true]
        refine call_of (m2) ?_
        set_option maxRecDepth 100000 in simp (maxSteps := 10000000) only [go_sem, Nat.reduceAdd, Nat.reduceSub, Nat.reduceMul, Nat.reduceLT, Nat.reduceLeDiff, Nat.reduceEqDiff, Nat.reduceMod, Nat.reduceDiv, Int.reduceNeg, Int.reduceLE, Int.reduceLT, Int.reduceToNat, Int.reduceEq, Int.reduceNe, ↓reduceIte,  Bool.not_false]
      · rw [Bool.eq_false_iff.2 e2] at s1
        have m1 := hN q.lib
        refine Classical.byCases (fun e3 : isNm q.lib = true => ?_) fun e3 => ?_
        · rw [e3] at m1
          have hp : fmtP q = ⟨#[]⟩ := by rw [fmtP, if_pos hb]
          have hn : nameE q = 7 := by rw [nameE, if_pos hb]
          rw [hp, hn]
          refine good_run [] mixed Try.func12 rfl Try.ntmps12 (rs := [.tmp 2, .tmp 3]) rfl (by decide +kernel) (by kernel_rfl) rfl ?_
          rw [startE_eq 41 _ _ _ rfl rfl]
          set_option maxRecDepth 100000 in simp (maxSteps := 10000000) only [go_sem, Nat.reduceAdd, Nat.reduceSub, Nat.reduceMul, Nat.reduceLT, Nat.reduceLeDiff, Nat.reduceEqDiff, Nat.reduceMod, Nat.reduceDiv, Int.reduceNeg, Int.reduceLE, Int.reduceLT, Int.reduceToNat, Int.reduceEq, Int.reduceNe, ↓reduceIte,  e1, not_false_eq_true, decide_true]
          refine call_of (s1) ?_
          set_option maxRecDepth 100000 in simp (maxSteps := 10000000) only [go_sem, Nat.reduceAdd, Nat.reduceSub, Nat.reduceMul, Nat.reduceLT, Nat.reduceLeDiff, Nat.reduceEqDiff, Nat.reduceMod, Nat.reduceDiv, Int.reduceNeg, Int.reduceLE, Int.reduceLT, Int.reduceToNat, Int.reduceEq, Int.reduceNe, ↓reduceIte,  Bool.not_false]
          refine call_of (m1) ?_
          set_option maxRecDepth 100000 in simp (maxSteps := 10000000) only [go_sem, Nat.reduceAdd, Nat.reduceSub, Nat.reduceMul, Nat.reduceLT, Nat.reduceLeDiff, Nat.reduceEqDiff, Nat.reduceMod, Nat.reduceDiv, Int.reduceNeg, Int.reduceLE, Int.reduceLT, Int.reduceToNat, Int.reduceEq, Int.reduceNe, ↓reduceIte,  Bool.not_true]
          refine call_of (m2) ?_
          set_option maxRecDepth 100000 in simp (maxSteps := 10000000) only [go_sem, Nat.reduceAdd, Nat.reduceSub, Nat.reduceMul, Nat.reduceLT, Nat.reduceLeDiff, Nat.reduceEqDiff, Nat.reduceMod, Nat.reduceDiv, Int.reduceNeg, Int.reduceLE, Int.reduceLT, Int.reduceToNat, Int.reduceEq, Int.reduceNe, ↓reduceIte,  Bool.not_false]
        · rw [Bool.eq_false_iff.2 e3] at m1
          have hp : fmtP q = ⟨#[]⟩ := by rw [fmtP, if_pos hb]
          have hn : nameE q = 7 := by rw [nameE, if_pos hb]
          rw [hp, hn]
          refine good_run [] mixed Try.func12 rfl Try.ntmps12 (rs := [.tmp 2, .tmp 3]) rfl (by decide +kernel) (by kernel_rfl) rfl ?_
          rw [startE_eq 41 _ _ _ rfl rfl]
          set_option maxRecDepth 100000 in simp (maxSteps := 10000000) only [go_sem, Nat.reduceAdd, Nat.reduceSub, Nat.reduceMul, Nat.reduceLT, Nat.reduceLeDiff, Nat.reduceEqDiff, Nat.reduceMod, Nat.reduceDiv, Int.reduceNeg, Int.reduceLE, Int.reduceLT, Int.reduceToNat, Int.reduceEq, Int.reduceNe, ↓reduceIte,  e1, not_false_eq_true, decide_true]
          refine call_of (s1) ?_
          set_option maxRecDepth 100000 in simp (maxSteps := 10000000) only [go_sem, Nat.reduceAdd, Nat.reduceSub, Nat.reduceMul, Nat.reduceLT, Nat.reduceLeDiff, Nat.reduceEqDiff, Nat.reduceMod, Nat.reduceDiv, Int.reduceNeg, Int.reduceLE, Int.reduceLT, Int.reduceToNat, Int.reduceEq, Int.reduceNe, ↓reduceIte,  Bool.not_false]
          refine call_of (m1) ?_
          set_option maxRecDepth 100000 in simp (maxSteps := 10000000) only [go_sem, Nat.reduceAdd, Nat.reduceSub, Nat.reduceMul, Nat.reduceLT, Nat.reduceLeDiff, Nat.reduceEqDiff, Nat.reduceMod, Nat.reduceDiv, Int.reduceNeg, Int.reduceLE, Int.reduceLT, Int.reduceToNat, Int.reduceEq, Int.reduceNe, ↓reduceIte,  Bool.not_false]
end Go.Proofs.Ytppjmigiogddpaa.C08
