/- Chapter 8: the law of kinds. -/
import Derived.Test.YtcmnbfpcomcejaaC26
namespace Go.Proofs.Ytcmnbfpcomcejaa.C08
open Go Go.Proofs Go.Proofs.Ytcmnbfpcomcejaa.Ab
set_option linter.unusedSimpArgs false
set_option linter.unusedVariables false
attribute [local congr] ite_ctx

theorem ints_ne {a b : List Int} {i : Nat} (h2 : ¬ nth a i = nth b i) : ¬ a = b := fun e => h2 (by rw [e])
theorem ints_eq {a b : List Int} (hl : a.length = b.length) (h : ∀ i, i < a.length → nth a i = nth b i) : a = b := by
  refine List.ext_getElem hl fun i h1 h2 => ?_
  have := h i h1
  rwa [nth_eq h1, nth_eq h2] at this

theorem Ints_good (a b : List Int) (ha : a.length ≤ 1000000) : Ans Try.prog 39 [.sl (a.map encInt), .sl (b.map encInt)] (.bool (decide (a = b))) := by
  refine Classical.byCases (fun hl : (a.length : Int) = (b.length : Int) => ?_) fun hl => ?_
  case refine_2 =>
    have hF : decide (a = b) = false := decide_eq_false fun e => hl (by rw [e])
    refine good_run [(4, [4, 11, 12, 13, 14, 15, 16, 17, 18, 19, 20, 21, 22, 23, 24, 25], [])] mixed Try.func39 rfl Try.ntmps39 (rs := [.tmp 4]) rfl (by decide +kernel) (by kernel_rfl) rfl ?_
    rw [startE_eq 26 _ _ _ rfl rfl]
    set_option maxRecDepth 100000 in simp (maxSteps := 10000000) only [go_sem, Nat.reduceAdd, Nat.reduceSub, Nat.reduceMul, Nat.reduceLT, Nat.reduceLeDiff, Nat.reduceEqDiff, Nat.reduceMod, Nat.reduceDiv, Int.reduceNeg, Int.reduceLE, Int.reduceLT, Int.reduceToNat, Int.reduceEq, Int.reduceNe, ↓reduceIte,  hl, not_false_eq_true, decide_true, hF]
  have hll : a.length = b.length := by omega
  refine good_run [(4, [4, 11, 12, 13, 14, 15, 16, 17, 18, 19, 20, 21, 22, 23, 24, 25], [])] mixed Try.func39 rfl Try.ntmps39 (rs := [.tmp 4]) rfl (by decide +kernel) (by kernel_rfl) rfl ?_
  rw [startE_eq 26 _ _ _ rfl rfl]
  set_option maxRecDepth 100000 in simp (maxSteps := 10000000) only [go_sem, Nat.reduceAdd, Nat.reduceSub, Nat.reduceMul, Nat.reduceLT, Nat.reduceLeDiff, Nat.reduceEqDiff, Nat.reduceMod, Nat.reduceDiv, Int.reduceNeg, Int.reduceLE, Int.reduceLT, Int.reduceToNat, Int.reduceEq, Int.reduceNe, ↓reduceIte,  hl, eq_self, not_true_eq_false, decide_false]
  refine loop_by ([4, 11, 12, 13, 14, 15, 16, 17, 18, 19, 20, 21, 22, 23, 24, 25], []) (fun i : Nat => [(.s 5, .int .i64 (i : Int))]) (fun i => a.length - i) (fun i => i ≤ a.length ∧ ∀ j, j < i → nth a j = nth b j) 0 rfl ⟨Nat.zero_le _, fun j hj => absurd hj (Nat.not_lt_zero _)⟩ ?_ ?_
  · set_option maxRecDepth 100000 in simp (maxSteps := 10000000) only [go_sem, Nat.reduceAdd, Nat.reduceSub, Nat.reduceMul, Nat.reduceLT, Nat.reduceLeDiff, Nat.reduceEqDiff, Nat.reduceMod, Nat.reduceDiv, Int.reduceNeg, Int.reduceLE, Int.reduceLT, Int.reduceToNat, Int.reduceEq, Int.reduceNe, ↓reduceIte,  hl]
  rintro c' st' hst i ⟨hi, hf⟩ ih
  set_option maxRecDepth 100000 in simp (maxSteps := 10000000) only [go_sem, Nat.reduceAdd, Nat.reduceSub, Nat.reduceMul, Nat.reduceLT, Nat.reduceLeDiff, Nat.reduceEqDiff, Nat.reduceMod, Nat.reduceDiv, Int.reduceNeg, Int.reduceLE, Int.reduceLT, Int.reduceToNat, Int.reduceEq, Int.reduceNe, ↓reduceIte]
  refine ifI (fun hlt => ?_) fun hlt => ?_
  · have h2 : i < b.length := by omega
    set_option maxRecDepth 100000 in simp (maxSteps := 10000000) only [go_sem, Nat.reduceAdd, Nat.reduceSub, Nat.reduceMul, Nat.reduceLT, Nat.reduceLeDiff, Nat.reduceEqDiff, Nat.reduceMod, Nat.reduceDiv, Int.reduceNeg, Int.reduceLE, Int.reduceLT, Int.reduceToNat, Int.reduceEq, Int.reduceNe, ↓reduceIte,  hlt, h2, show (i : Int) < (b.length : Int) by omega]
    refine ⟨by decide +kernel, ifI (fun h3 => ?_) fun h3 => ?_⟩
    · have hF : decide (a = b) = false := decide_eq_false (ints_ne (by simpa using h3))
      set_option maxRecDepth 100000 in simp (maxSteps := 10000000) only [go_sem, Nat.reduceAdd, Nat.reduceSub, Nat.reduceMul, Nat.reduceLT, Nat.reduceLeDiff, Nat.reduceEqDiff, Nat.reduceMod, Nat.reduceDiv, Int.reduceNeg, Int.reduceLE, Int.reduceLT, Int.reduceToNat, Int.reduceEq, Int.reduceNe, ↓reduceIte,  hF]
    · set_option maxRecDepth 100000 in simp (maxSteps := 10000000) only [go_sem, Nat.reduceAdd, Nat.reduceSub, Nat.reduceMul, Nat.reduceLT, Nat.reduceLeDiff, Nat.reduceEqDiff, Nat.reduceMod, Nat.reduceDiv, Int.reduceNeg, Int.reduceLE, Int.reduceLT, Int.reduceToNat, Int.reduceEq, Int.reduceNe, ↓reduceIte]
      refine ih (i + 1) _ ⟨by omega, fun j hj => ?_⟩ (by omega) ?_
      · rcases Nat.lt_succ_iff_lt_or_eq.1 hj with h6 | h6
        · exact hf j h6
        · rw [h6]; simpa using h3
      set_option maxRecDepth 100000 in simp (maxSteps := 10000000) only [go_sem, Nat.reduceAdd, Nat.reduceSub, Nat.reduceMul, Nat.reduceLT, Nat.reduceLeDiff, Nat.reduceEqDiff, Nat.reduceMod, Nat.reduceDiv, Int.reduceNeg, Int.reduceLE, Int.reduceLT, Int.reduceToNat, Int.reduceEq, Int.reduceNe, ↓reduceIte,  wrap_succ (show i < 9223372036854775807 by omega)]
  · have hF : decide (a = b) = true := decide_eq_true (ints_eq hll fun j hj => hf j (by omega))
    subst hst
    set_option maxRecDepth 100000 in simp (maxSteps := 10000000) only [go_sem, Nat.reduceAdd, Nat.reduceSub, Nat.reduceMul, Nat.reduceLT, Nat.reduceLeDiff, Nat.reduceEqDiff, Nat.reduceMod, Nat.reduceDiv, Int.reduceNeg, Int.reduceLE, Int.reduceLT, Int.reduceToNat, Int.reduceEq, Int.reduceNe, ↓reduceIte,  hF]


set_option maxHeartbeats 8000000 in
theorem ObjectKinds_good (t : Int) (s : ByteArray) : Ans Try.prog 7 [.int .i64 t, .str s] (.bool true) := by
  refine Classical.byCases (fun hs : (100 : Int) < (s.size : Int) => ?_) fun hs => ?_
  · have _ := hs
    refine good_run [] mixed Try.func7 rfl Try.ntmps7 (rs := [.tmp 4]) rfl (by decide +kernel) (by kernel_rfl) rfl ?_
    rw [startE_eq 86 _ _ _ rfl rfl]
    set_option maxRecDepth 100000 in simp (maxSteps := 10000000) only [go_sem, Nat.reduceAdd, Nat.reduceSub, Nat.reduceMul, Nat.reduceLT, Nat.reduceLeDiff, Nat.reduceEqDiff, Nat.reduceMod, Nat.reduceDiv, Int.reduceNeg, Int.reduceLE, Int.reduceLT, Int.reduceToNat, Int.reduceEq, Int.reduceNe, ↓reduceIte]
    refine call_of (awake_good) ?_
    set_option maxRecDepth 100000 in simp (maxSteps := 10000000) only [go_sem, Nat.reduceAdd, Nat.reduceSub, Nat.reduceMul, Nat.reduceLT, Nat.reduceLeDiff, Nat.reduceEqDiff, Nat.reduceMod, Nat.reduceDiv, Int.reduceNeg, Int.reduceLE, Int.reduceLT, Int.reduceToNat, Int.reduceEq, Int.reduceNe, ↓reduceIte,  Bool.not_true, hs, decide_true]
  have c1 := TypeName_good t
  have c2 := OperationsOf_good t
  have c3 := IsType_good t
  have c4 := TypeOf_good s
  have c5 := RefTypeOf_good s
  have hk := findIx_ge (fun o : ByteArray × ByteArray => decide (o.1 = s)) kinds 0
  have hk : kindIx s = -1 ∨ 0 ≤ kindIx s := by
    have e : findIx (fun o : ByteArray × ByteArray => decide (o.1 = s)) kinds 0 = kindIx s := rfl
    rw [e] at hk; omega
  cases h : inB t 0 29 with
  | false =>
    rw [tyNm, tyE, if_neg (by rw [h]; decide), if_neg (by rw [h]; decide)] at c1
    rw [opsL, tyE, if_neg (by rw [h]; decide), if_neg (by rw [h]; decide)] at c2
    rw [h] at c3
    generalize kindIx s = F at *
    refine good_run [] mixed Try.func7 rfl Try.ntmps7 (rs := [.tmp 4]) rfl (by decide +kernel) (by kernel_rfl) rfl ?_
    rw [startE_eq 86 _ _ _ rfl rfl]
    set_option maxRecDepth 100000 in simp (maxSteps := 10000000) only [go_sem, Nat.reduceAdd, Nat.reduceSub, Nat.reduceMul, Nat.reduceLT, Nat.reduceLeDiff, Nat.reduceEqDiff, Nat.reduceMod, Nat.reduceDiv, Int.reduceNeg, Int.reduceLE, Int.reduceLT, Int.reduceToNat, Int.reduceEq, Int.reduceNe, ↓reduceIte]
    refine call_of (awake_good) ?_
    set_option maxRecDepth 100000 in simp (maxSteps := 10000000) only [go_sem, Nat.reduceAdd, Nat.reduceSub, Nat.reduceMul, Nat.reduceLT, Nat.reduceLeDiff, Nat.reduceEqDiff, Nat.reduceMod, Nat.reduceDiv, Int.reduceNeg, Int.reduceLE, Int.reduceLT, Int.reduceToNat, Int.reduceEq, Int.reduceNe, ↓reduceIte,  Bool.not_true, hs, decide_false]
    refine call_of (c1) ?_
    set_option maxRecDepth 100000 in simp (maxSteps := 10000000) only [go_sem, Nat.reduceAdd, Nat.reduceSub, Nat.reduceMul, Nat.reduceLT, Nat.reduceLeDiff, Nat.reduceEqDiff, Nat.reduceMod, Nat.reduceDiv, Int.reduceNeg, Int.reduceLE, Int.reduceLT, Int.reduceToNat, Int.reduceEq, Int.reduceNe, ↓reduceIte]
    refine call_of (c2) ?_
    set_option maxRecDepth 100000 in simp (maxSteps := 10000000) only [go_sem, Nat.reduceAdd, Nat.reduceSub, Nat.reduceMul, Nat.reduceLT, Nat.reduceLeDiff, Nat.reduceEqDiff, Nat.reduceMod, Nat.reduceDiv, Int.reduceNeg, Int.reduceLE, Int.reduceLT, Int.reduceToNat, Int.reduceEq, Int.reduceNe, ↓reduceIte]
    refine call_of (c3) ?_
    set_option maxRecDepth 100000 in simp (maxSteps := 10000000) only [go_sem, Nat.reduceAdd, Nat.reduceSub, Nat.reduceMul, Nat.reduceLT, Nat.reduceLeDiff, Nat.reduceEqDiff, Nat.reduceMod, Nat.reduceDiv, Int.reduceNeg, Int.reduceLE, Int.reduceLT, Int.reduceToNat, Int.reduceEq, Int.reduceNe, ↓reduceIte,  Bool.not_false, decide_true, decide_false, not_true_eq_false, eq_self, List.map_nil, List.length_nil]
    refine Classical.byCases (fun hF : 0 ≤ F => ?_) fun hF => ?_
    · rw [if_pos hF, if_pos hF] at c4
      have h1 : ¬ F = -1 := by omega
      refine call_of (c4) ?_
      set_option maxRecDepth 100000 in simp (maxSteps := 10000000) only [go_sem, Nat.reduceAdd, Nat.reduceSub, Nat.reduceMul, Nat.reduceLT, Nat.reduceLeDiff, Nat.reduceEqDiff, Nat.reduceMod, Nat.reduceDiv, Int.reduceNeg, Int.reduceLE, Int.reduceLT, Int.reduceToNat, Int.reduceEq, Int.reduceNe, ↓reduceIte]
      refine call_of (c5) ?_
      set_option maxRecDepth 100000 in simp (maxSteps := 10000000) only [go_sem, Nat.reduceAdd, Nat.reduceSub, Nat.reduceMul, Nat.reduceLT, Nat.reduceLeDiff, Nat.reduceEqDiff, Nat.reduceMod, Nat.reduceDiv, Int.reduceNeg, Int.reduceLE, Int.reduceLT, Int.reduceToNat, Int.reduceEq, Int.reduceNe, ↓reduceIte,  h1, not_false_eq_true, decide_true, eq_self]
    · have h1 : F = -1 := by omega
      rw [if_neg hF, if_neg hF] at c4
      subst h1
      refine call_of (c4) ?_
      set_option maxRecDepth 100000 in simp (maxSteps := 10000000) only [go_sem, Nat.reduceAdd, Nat.reduceSub, Nat.reduceMul, Nat.reduceLT, Nat.reduceLeDiff, Nat.reduceEqDiff, Nat.reduceMod, Nat.reduceDiv, Int.reduceNeg, Int.reduceLE, Int.reduceLT, Int.reduceToNat, Int.reduceEq, Int.reduceNe, ↓reduceIte]
      refine call_of (c5) ?_
      set_option maxRecDepth 100000 in simp (maxSteps := 10000000) only [go_sem, Nat.reduceAdd, Nat.reduceSub, Nat.reduceMul, Nat.reduceLT, Nat.reduceLeDiff, Nat.reduceEqDiff, Nat.reduceMod, Nat.reduceDiv, Int.reduceNeg, Int.reduceLE, Int.reduceLT, Int.reduceToNat, Int.reduceEq, Int.reduceNe, ↓reduceIte,  not_true_eq_false, decide_false, decide_true, eq_self]
  | true =>
    obtain ⟨h1, h2⟩ := (inB_iff t).1 h
    obtain ⟨k, rfl⟩ : ∃ k : Nat, t = (k : Int) := ⟨t.toNat, by omega⟩
    have hk3 : k < 30 := by omega
    have c6 := NameOfType_good k hk3
    have c7 := Operations_good k hk3
    have c8 := Ints_good (opsN k 9) (opsN k 9) (by have := opsN_len k 9; omega)
    rw [decide_eq_true rfl] at c8
    rw [tyNm, tyE, if_pos h, if_pos h, Int.toNat_natCast] at c1
    rw [opsL, tyE, if_pos h, if_pos h, Int.toNat_natCast] at c2
    rw [h] at c3
    generalize kindIx s = F at *
    generalize (nth kinds k).1 = M at *
    generalize opsN k 9 = L at *
    refine good_run [] mixed Try.func7 rfl Try.ntmps7 (rs := [.tmp 4]) rfl (by decide +kernel) (by kernel_rfl) rfl ?_
    rw [startE_eq 86 _ _ _ rfl rfl]
    set_option maxRecDepth 100000 in simp (maxSteps := 10000000) only [go_sem, Nat.reduceAdd, Nat.reduceSub, Nat.reduceMul, Nat.reduceLT, Nat.reduceLeDiff, Nat.reduceEqDiff, Nat.reduceMod, Nat.reduceDiv, Int.reduceNeg, Int.reduceLE, Int.reduceLT, Int.reduceToNat, Int.reduceEq, Int.reduceNe, ↓reduceIte]
    refine call_of (awake_good) ?_
    set_option maxRecDepth 100000 in simp (maxSteps := 10000000) only [go_sem, Nat.reduceAdd, Nat.reduceSub, Nat.reduceMul, Nat.reduceLT, Nat.reduceLeDiff, Nat.reduceEqDiff, Nat.reduceMod, Nat.reduceDiv, Int.reduceNeg, Int.reduceLE, Int.reduceLT, Int.reduceToNat, Int.reduceEq, Int.reduceNe, ↓reduceIte,  Bool.not_true, hs, decide_false]
    refine call_of (c1) ?_
    set_option maxRecDepth 100000 in simp (maxSteps := 10000000) only [go_sem, Nat.reduceAdd, Nat.reduceSub, Nat.reduceMul, Nat.reduceLT, Nat.reduceLeDiff, Nat.reduceEqDiff, Nat.reduceMod, Nat.reduceDiv, Int.reduceNeg, Int.reduceLE, Int.reduceLT, Int.reduceToNat, Int.reduceEq, Int.reduceNe, ↓reduceIte]
    refine call_of (c2) ?_
    set_option maxRecDepth 100000 in simp (maxSteps := 10000000) only [go_sem, Nat.reduceAdd, Nat.reduceSub, Nat.reduceMul, Nat.reduceLT, Nat.reduceLeDiff, Nat.reduceEqDiff, Nat.reduceMod, Nat.reduceDiv, Int.reduceNeg, Int.reduceLE, Int.reduceLT, Int.reduceToNat, Int.reduceEq, Int.reduceNe, ↓reduceIte]
    refine call_of (c3) ?_
    set_option maxRecDepth 100000 in simp (maxSteps := 10000000) only [go_sem, Nat.reduceAdd, Nat.reduceSub, Nat.reduceMul, Nat.reduceLT, Nat.reduceLeDiff, Nat.reduceEqDiff, Nat.reduceMod, Nat.reduceDiv, Int.reduceNeg, Int.reduceLE, Int.reduceLT, Int.reduceToNat, Int.reduceEq, Int.reduceNe, ↓reduceIte,  Bool.not_true, decide_true, decide_false, not_true_eq_false, eq_self]
    refine call_of (c6) ?_
    set_option maxRecDepth 100000 in simp (maxSteps := 10000000) only [go_sem, Nat.reduceAdd, Nat.reduceSub, Nat.reduceMul, Nat.reduceLT, Nat.reduceLeDiff, Nat.reduceEqDiff, Nat.reduceMod, Nat.reduceDiv, Int.reduceNeg, Int.reduceLE, Int.reduceLT, Int.reduceToNat, Int.reduceEq, Int.reduceNe, ↓reduceIte,  not_true_eq_false, decide_true, decide_false, eq_self]
    refine call_of (c7) ?_
    set_option maxRecDepth 100000 in simp (maxSteps := 10000000) only [go_sem, Nat.reduceAdd, Nat.reduceSub, Nat.reduceMul, Nat.reduceLT, Nat.reduceLeDiff, Nat.reduceEqDiff, Nat.reduceMod, Nat.reduceDiv, Int.reduceNeg, Int.reduceLE, Int.reduceLT, Int.reduceToNat, Int.reduceEq, Int.reduceNe, ↓reduceIte]
    refine call_of (c8) ?_
    set_option maxRecDepth 100000 in simp (maxSteps := 10000000) only [go_sem, Nat.reduceAdd, Nat.reduceSub, Nat.reduceMul, Nat.reduceLT, Nat.reduceLeDiff, Nat.reduceEqDiff, Nat.reduceMod, Nat.reduceDiv, Int.reduceNeg, Int.reduceLE, Int.reduceLT, Int.reduceToNat, Int.reduceEq, Int.reduceNe, ↓reduceIte,  Bool.not_true]
    refine Classical.byCases (fun hF : 0 ≤ F => ?_) fun hF => ?_
    · rw [if_pos hF, if_pos hF] at c4
      have h1 : ¬ F = -1 := by omega
      refine call_of (c4) ?_
      set_option maxRecDepth 100000 in simp (maxSteps := 10000000) only [go_sem, Nat.reduceAdd, Nat.reduceSub, Nat.reduceMul, Nat.reduceLT, Nat.reduceLeDiff, Nat.reduceEqDiff, Nat.reduceMod, Nat.reduceDiv, Int.reduceNeg, Int.reduceLE, Int.reduceLT, Int.reduceToNat, Int.reduceEq, Int.reduceNe, ↓reduceIte]
      refine call_of (c5) ?_
      set_option maxRecDepth 100000 in simp (maxSteps := 10000000) only [go_sem, Nat.reduceAdd, Nat.reduceSub, Nat.reduceMul, Nat.reduceLT, Nat.reduceLeDiff, Nat.reduceEqDiff, Nat.reduceMod, Nat.reduceDiv, Int.reduceNeg, Int.reduceLE, Int.reduceLT, Int.reduceToNat, Int.reduceEq, Int.reduceNe, ↓reduceIte,  h1, not_false_eq_true, decide_true, eq_self]
    · have h1 : F = -1 := by omega
      rw [if_neg hF, if_neg hF] at c4
      subst h1
      refine call_of (c4) ?_
      set_option maxRecDepth 100000 in simp (maxSteps := 10000000) only [go_sem, Nat.reduceAdd, Nat.reduceSub, Nat.reduceMul, Nat.reduceLT, Nat.reduceLeDiff, Nat.reduceEqDiff, Nat.reduceMod, Nat.reduceDiv, Int.reduceNeg, Int.reduceLE, Int.reduceLT, Int.reduceToNat, Int.reduceEq, Int.reduceNe, ↓reduceIte]
      refine call_of (c5) ?_
      set_option maxRecDepth 100000 in simp (maxSteps := 10000000) only [go_sem, Nat.reduceAdd, Nat.reduceSub, Nat.reduceMul, Nat.reduceLT, Nat.reduceLeDiff, Nat.reduceEqDiff, Nat.reduceMod, Nat.reduceDiv, Int.reduceNeg, Int.reduceLE, Int.reduceLT, Int.reduceToNat, Int.reduceEq, Int.reduceNe, ↓reduceIte,  not_true_eq_false, decide_false, decide_true, eq_self]
end Go.Proofs.Ytcmnbfpcomcejaa.C08
